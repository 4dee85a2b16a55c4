import PyProof.Rows.All
import Wide.All
import OpenK.AllK
import Wide.FinOn
import HandS.ForMost
import HandS.ForExc
import HandS.Defaults
import HandS.Wide
import HandS.IsInst
import HandS.TupLe
import HandS.TupAny
import HandS.TupMul
import HandS.Flow
import HandS.TryMany
import HandS.ExcIs
import HandS.Head0
import HandS.Head1
import HandS.Head2
import HandS.HeadEnd
import HandS.HeadHook1
import HandS.HeadHook2
import HandS.Ends
import HandS.Conv
import HandS.Deep
import HandS.Iter
import HandS.More
import KE.SortData
import HandS.Dict
import HandS.CallSlots
import HandS.SetFor
import HandS.FStr
import HandS.TryOnly
import HandS.HeadHook3
import HandS.Style
import HandS.ExcInitHot
import HandS.ExcField
import HandS.ExcCtx
import HandS.HotCalls
import HandS.Text
import HandS.RaiseMore
import PyProof.DictUpdate
import PyProof.Draws
import PyProof.EnumMake
import PySem.Challenge.RW_tithebarn_k52_refusals_apart
set_option Elab.async false
set_option linter.all false
set_option maxRecDepth 100000
set_option maxHeartbeats 4000000
namespace VL
open PySem L2
mutual
/-- the value is that data, made of the written part alone -/
def kdat (K : PySem.W.Frag) : PyData → Value → Bool
  | .none, u => (match u with
    | .none => true
    | _ => false)
  | .bool b, u => (match u with
    | .bool a => a == b
    | _ => false)
  | .int j, u => (match u with
    | .int i _ => decide (i = j)
    | _ => false)
  | .str y, u => (match u with
    | .str x _ => decide (x = y)
    | _ => false)
  | .tuple ds, u => (match u with
    | .ref a => (match K.lookup a with
      | some ⟨.type c, _, .seq its _, _⟩ => decide (c = "tuple") && (decide (its.size ≤ sizeLine) && kdats K ds its.toList)
      | _ => false)
    | _ => false)
  | .list _, _ => false
  | .dict _, _ => false
def kdats (K : PySem.W.Frag) : List PyData → List Value → Bool
  | [], us => us.isEmpty
  | d :: ds, us => (match us with
    | u :: r => kdat K d u && kdats K ds r
    | [] => false)
end
def kcon (K : PySem.W.Frag) (x : Str) (d : PyData) : Bool := match PySem.W.nsIn K mainGlobals x with
  | some (some u) => kdat K d u
  | _ => false
def excB (K : PySem.W.Frag) (D : Addr) : Bool := decide (PySem.W.findIn K (.ref D) "__getattribute__" = some (some (.builtin "BaseException.__getattribute__"))) && (decide (PySem.W.findIn K (.ref D) "__getattr__" = some none) && (decide (PySem.W.subIn K (.ref D) (.type "BaseException") = some true) && (PySem.W.hasDictIn K D &&
  (decide (PySem.W.findIn K (.ref D) "__class__" = some (some (.builtin "object.__class__"))) && (decide (PySem.W.specialIn K (.builtin "object.__class__") "__get__" = some (some (.builtin "getset_descriptor.__get__"))) && (decide (PySem.W.takesIn K (.builtin "object.__class__") = some true) && decide (PySem.W.mroIn K D (.type "object") = some true)))))))
def ikB (K : PySem.W.Frag) (cv : Value) (l : List (Str × Bool)) : Bool := l.all fun p => match PySem.W.nsIn K mainGlobals p.1 with
  | some (some (.ref D)) => excB K D && decide (PySem.W.kitOne K (.ref D) cv = some p.2)
  | _ => false
def ioB (K : PySem.W.Frag) (x : Str) (l : List (Str × Bool)) : Bool := match PySem.W.nsIn K mainGlobals x with
  | some (some (.ref C)) => ikB K (.ref C) l
  | _ => false
/-- a statement in a class -/
def inCls (st : Stmt) (j : Nat) : Stmt := match st with
  | .ClassDef _ _ _ b _ _ _ _ _ _ _ => b.getD j (.Pass ⟨0, 0, 0, 0⟩)
  | s => s
end VL
namespace VL
open PySem PySem.Spec PyProof.Rows L2
def fT (w : World) (b : Bool) : World := ⟨w.draws, { w.params with followText := fun s => bif s == "special-get-raises" then b else w.params.followText s }⟩
theorem fT_eq (w : World) : fT w (w.params.followText "special-get-raises") = w := by
  obtain ⟨d, p⟩ := w
  obtain ⟨a1, a2, a3, a4, a5, ft, a7⟩ := p
  unfold fT
  simp only [World.mk.injEq, true_and]
  congr 1
  funext s
  cases h : s == "special-get-raises" with
  | true =>
    rw [beq_iff_eq.mp h]
    rfl
  | false => rfl
theorem fT_all {P : World → Prop} (h1 : ∀ w, P (fT w true)) (h2 : ∀ w, P (fT w false)) (w : World) : P w := by
  rw [← fT_eq w]
  cases w.params.followText "special-get-raises"
  · exact h2 w
  · exact h1 w
abbrev TabD := Str × List Str
abbrev TabO := List (Option (List (Option (Str × Int))))
def tabsO (ts : List TabD) (K : PySem.W.Frag) : TabO := ts.map fun t => He.dicW K (He.ga K t.1)
def tabsV (ts : List TabD) (w : World) : TabO := ts.map fun t => some (He.keysIn w.params t.2)
end VL
namespace VL
open PySem PySem.W PySem.Calls PyProof.Rows
/-- the end of the top -/
noncomputable abbrev topEnd (r : OpenRow) (M : Nat) (w : World) (os : OsState) : Option SharedT := HandSHeadRun.endF (HandSHeadRun.stepQ (HandSHeadRun.denQ HandSHeadRun.tabQ) r.prog w) M r.prog w os
/-- what an object names; of a class nothing -/
def refsC (o : Obj) : List Addr := match o.data with
  | .cls _ => []
  | _ => He.refsD o
def rfA (f : Obj → List Addr) (g : Addr → Option Obj) (as : List Addr) : List Addr := as.flatMap fun a => match g a with
  | some o => f o
  | none => []
/-- what the module's names reach, level by level -/
def lvs (g : Addr → Option Obj) : Nat → List Addr → List Addr
  | 0, as => as
  | n + 1, as => as ++ lvs g n (rfA refsC g as)
def asP (g : Addr → Option Obj) : List Addr := mainGlobals :: (rfA He.refsD g [mainGlobals] ++ (lvs g 2 (rfA He.refsD g (rfA He.refsD g [mainGlobals])) ++ [cStatics]))
abbrev fragP (g : Addr → Option Obj) : Frag := He.frG g (asP g)
def obsP (fa : List He.Fa) (fn : List He.DefD) (ex : Frag → Bool) (g : Addr → Option Obj) : He.AlD × Bool := (He.obsD fa fn (fragP g), ex (fragP g))
def tabsP (ts : List TabD) (g : Addr → Option Obj) : TabO := tabsO ts (fragP g)
def RunL (r : OpenRow) (M : Nat) (w : World) : Prop := ∀ os : OsState, (topEnd r M w os).map (fun s => HandSHeadRun.looksF r.prog (boot_heap w.params) s.abs) = some true
def RunS (r : OpenRow) (q : Program) (M : Nat) (loose : List PySem.Str) (w : World) : Prop := ∀ os : OsState, (topEnd r M w os).map (fun s => HandSHeadRun.seenQ q loose (importedModules r.prog.main.body) (fun s => xlAt q [] s && recOk r.toRowW.records s) s.abs) = some (openGood q loose)
def RunP (r : OpenRow) (M : Nat) (fa : List He.Fa) (fn : List He.DefD) (ex : Frag → Bool) (w : World) : Prop := ∀ os : OsState, (topEnd r M w os).map (fun s => obsP fa fn ex (HandSHeadRun.getT s)) = some (He.valD fn, true)
def RunQ (r : OpenRow) (M : Nat) (ts : List TabD) (w : World) : Prop := ∀ os : OsState, (topEnd r M w os).map (fun s => tabsP ts (HandSHeadRun.getT s)) = some (tabsV ts w)
/-- L, S and Q at once -/
def RunA (r : OpenRow) (q : Program) (M : Nat) (loose : List PySem.Str) (ts : List TabD) (w : World) : Prop := ∀ os : OsState, (topEnd r M w os).map (fun s => ((HandSHeadRun.looksF r.prog (boot_heap w.params) s.abs, HandSHeadRun.seenQ q loose (importedModules r.prog.main.body) (fun s => xlAt q [] s && recOk r.toRowW.records s) s.abs), tabsP ts (HandSHeadRun.getT s))) = some ((true, openGood q loose), tabsV ts w)
/-- S and Q at once -/
def RunU (r : OpenRow) (q : Program) (M : Nat) (loose : List PySem.Str) (ts : List TabD) (w : World) : Prop := ∀ os : OsState, (topEnd r M w os).map (fun s => (HandSHeadRun.seenQ q loose (importedModules r.prog.main.body) (fun s => xlAt q [] s && recOk r.toRowW.records s) s.abs, tabsP ts (HandSHeadRun.getT s))) = some (openGood q loose, tabsV ts w)
/-- a table of numbers -/
def tabI (t : List (PySem.Str × Int)) : List (PySem.Str × He.Dv) := t.map fun p => (p.1, .int p.2)
end VL
namespace VL
open PySem PySem.Spec PyProof.Rows L2 L2H
/-- the class object, as a check -/
def oexO (C : Addr) : Obj → Bool
  | ⟨.type "type", _, .cls cd, sl⟩ => (match cd.mro, sl.toList with
    | .ref C' :: bm, [_, _, _, _, some (.builtin n), _] => C' == C && n == "ValueError.__new__" && !cd.hasDel && cd.hasDict && PySem.HandSPX.refsVE bm
    | _, _ => false)
  | _ => false
def oexB (K : PySem.W.Frag) (C : Addr) : Bool := (K.lookup C).any (oexO C) && (decide (PySem.W.findIn K (.ref C) "__setattr__" = some (some (.builtin "object.__setattr__"))) && (decide (PySem.W.subIn K (.ref C) (.type "BaseException") = some true) && (decide (PySem.W.typeIn K (.ref C) = some (.type "type")) && PySem.W.keepIn K (.ref C))))
def isIni (r : Option PySem.W.CFound) : Bool := match r with
  | some (.val (.builtin n)) => n == "ValueError.__init__"
  | _ => false
/-- class x over class sup; its own __init__ keeps the field fld -/
def ikcB (K : PySem.W.Frag) (x sup fld : Str) : Bool := match PySem.W.nsIn K mainGlobals x, PySem.W.nsIn K mainGlobals sup with
  | some (some (.ref C)), some (some (.ref CT)) => oexB K C && (decide (PySem.W.findIn K (.ref C) "__init__" = some (some (.ref (He.fAd K (x, some "__init__"))))) && (decide (PySem.W.typeIn K (.ref (He.fAd K (x, some "__init__"))) = some (.type "function")) && (decide (PySem.W.findIn K (.ref C) fld = some none) &&
      (decide (PySem.W.specialIn K (.ref CT) "__getattribute__" = some (some (.builtin "type.__getattribute__"))) && (PySem.W.readsIn K CT (.type "type") && (isIni (PySem.W.findCls K (.ref CT) (.type "type") "__init__") && xfB K C))))))
  | _, _ => false
end VL
namespace VL
open PySem L2
def c_LAST_DAY : PyData := .int 3999
def c_FIELDS : PyData := .int 12
def c_PARISHES : PyData := .int 8
def c_HOLDERS : PyData := .int 8
def c_LAST_YEAR : PyData := .int 39
def c_KINDS : PyData := .int 6
def c_MOST_PENCE : PyData := .int 1000
def c_MOST_ASIDE : PyData := .int 9
def c_TAKERS : PyData := .int 6
def c_ALL : PyData := .tuple [.int 1, .int 1]
def c_MOST_COUNT : PyData := .int 10000
def c_MOST_SPAN : PyData := .int 60
def c_MOST_WORTH : PyData := .int 1000
def c_MOST_FACTS : PyData := .int 150
def c_MOST_BIRTHS : PyData := .int 40
def c_MOST_CLAIMS : PyData := .int 6
def c_MOST_FIGURES : PyData := .int 6
def c_FIGURES : PyData := .str "0123456789"
def xl_BadWord : List (Str × Bool) := [("TitheError", false), ("BadPart", false), ("BadWord", true), ("BadField", false), ("BadParish", false), ("BadHolder", false), ("BadKind", false), ("BadTaker", false), ("BadDay", false), ("BadYear", false), ("BadCount", false), ("BadSpan", false), ("BadWorth", false), ("BadCustom", false), ("BadAside", false), ("BadPence", false), ("Backward", false), ("Same", false), ("NoBeast", false), ("NoFact", false), ("Struck", false), ("Kept", false), ("Full", false), ("NoBack", false), ("NoForth", false), ("BadText", false)]
def xl_BadField : List (Str × Bool) := [("TitheError", false), ("BadPart", false), ("BadWord", false), ("BadField", true), ("BadParish", false), ("BadHolder", false), ("BadKind", false), ("BadTaker", false), ("BadDay", false), ("BadYear", false), ("BadCount", false), ("BadSpan", false), ("BadWorth", false), ("BadCustom", false), ("BadAside", false), ("BadPence", false), ("Backward", false), ("Same", false), ("NoBeast", false), ("NoFact", false), ("Struck", false), ("Kept", false), ("Full", false), ("NoBack", false), ("NoForth", false), ("BadText", false)]
def xl_BadParish : List (Str × Bool) := [("TitheError", false), ("BadPart", false), ("BadWord", false), ("BadField", false), ("BadParish", true), ("BadHolder", false), ("BadKind", false), ("BadTaker", false), ("BadDay", false), ("BadYear", false), ("BadCount", false), ("BadSpan", false), ("BadWorth", false), ("BadCustom", false), ("BadAside", false), ("BadPence", false), ("Backward", false), ("Same", false), ("NoBeast", false), ("NoFact", false), ("Struck", false), ("Kept", false), ("Full", false), ("NoBack", false), ("NoForth", false), ("BadText", false)]
def xl_BadHolder : List (Str × Bool) := [("TitheError", false), ("BadPart", false), ("BadWord", false), ("BadField", false), ("BadParish", false), ("BadHolder", true), ("BadKind", false), ("BadTaker", false), ("BadDay", false), ("BadYear", false), ("BadCount", false), ("BadSpan", false), ("BadWorth", false), ("BadCustom", false), ("BadAside", false), ("BadPence", false), ("Backward", false), ("Same", false), ("NoBeast", false), ("NoFact", false), ("Struck", false), ("Kept", false), ("Full", false), ("NoBack", false), ("NoForth", false), ("BadText", false)]
def xl_BadKind : List (Str × Bool) := [("TitheError", false), ("BadPart", false), ("BadWord", false), ("BadField", false), ("BadParish", false), ("BadHolder", false), ("BadKind", true), ("BadTaker", false), ("BadDay", false), ("BadYear", false), ("BadCount", false), ("BadSpan", false), ("BadWorth", false), ("BadCustom", false), ("BadAside", false), ("BadPence", false), ("Backward", false), ("Same", false), ("NoBeast", false), ("NoFact", false), ("Struck", false), ("Kept", false), ("Full", false), ("NoBack", false), ("NoForth", false), ("BadText", false)]
def xl_BadTaker : List (Str × Bool) := [("TitheError", false), ("BadPart", false), ("BadWord", false), ("BadField", false), ("BadParish", false), ("BadHolder", false), ("BadKind", false), ("BadTaker", true), ("BadDay", false), ("BadYear", false), ("BadCount", false), ("BadSpan", false), ("BadWorth", false), ("BadCustom", false), ("BadAside", false), ("BadPence", false), ("Backward", false), ("Same", false), ("NoBeast", false), ("NoFact", false), ("Struck", false), ("Kept", false), ("Full", false), ("NoBack", false), ("NoForth", false), ("BadText", false)]
def xl_BadDay : List (Str × Bool) := [("TitheError", false), ("BadPart", false), ("BadWord", false), ("BadField", false), ("BadParish", false), ("BadHolder", false), ("BadKind", false), ("BadTaker", false), ("BadDay", true), ("BadYear", false), ("BadCount", false), ("BadSpan", false), ("BadWorth", false), ("BadCustom", false), ("BadAside", false), ("BadPence", false), ("Backward", false), ("Same", false), ("NoBeast", false), ("NoFact", false), ("Struck", false), ("Kept", false), ("Full", false), ("NoBack", false), ("NoForth", false), ("BadText", false)]
def xl_BadYear : List (Str × Bool) := [("TitheError", false), ("BadPart", false), ("BadWord", false), ("BadField", false), ("BadParish", false), ("BadHolder", false), ("BadKind", false), ("BadTaker", false), ("BadDay", false), ("BadYear", true), ("BadCount", false), ("BadSpan", false), ("BadWorth", false), ("BadCustom", false), ("BadAside", false), ("BadPence", false), ("Backward", false), ("Same", false), ("NoBeast", false), ("NoFact", false), ("Struck", false), ("Kept", false), ("Full", false), ("NoBack", false), ("NoForth", false), ("BadText", false)]
def xl_BadCount : List (Str × Bool) := [("TitheError", false), ("BadPart", false), ("BadWord", false), ("BadField", false), ("BadParish", false), ("BadHolder", false), ("BadKind", false), ("BadTaker", false), ("BadDay", false), ("BadYear", false), ("BadCount", true), ("BadSpan", false), ("BadWorth", false), ("BadCustom", false), ("BadAside", false), ("BadPence", false), ("Backward", false), ("Same", false), ("NoBeast", false), ("NoFact", false), ("Struck", false), ("Kept", false), ("Full", false), ("NoBack", false), ("NoForth", false), ("BadText", false)]
def xl_BadSpan : List (Str × Bool) := [("TitheError", false), ("BadPart", false), ("BadWord", false), ("BadField", false), ("BadParish", false), ("BadHolder", false), ("BadKind", false), ("BadTaker", false), ("BadDay", false), ("BadYear", false), ("BadCount", false), ("BadSpan", true), ("BadWorth", false), ("BadCustom", false), ("BadAside", false), ("BadPence", false), ("Backward", false), ("Same", false), ("NoBeast", false), ("NoFact", false), ("Struck", false), ("Kept", false), ("Full", false), ("NoBack", false), ("NoForth", false), ("BadText", false)]
def xl_BadWorth : List (Str × Bool) := [("TitheError", false), ("BadPart", false), ("BadWord", false), ("BadField", false), ("BadParish", false), ("BadHolder", false), ("BadKind", false), ("BadTaker", false), ("BadDay", false), ("BadYear", false), ("BadCount", false), ("BadSpan", false), ("BadWorth", true), ("BadCustom", false), ("BadAside", false), ("BadPence", false), ("Backward", false), ("Same", false), ("NoBeast", false), ("NoFact", false), ("Struck", false), ("Kept", false), ("Full", false), ("NoBack", false), ("NoForth", false), ("BadText", false)]
def xl_BadCustom : List (Str × Bool) := [("TitheError", false), ("BadPart", false), ("BadWord", false), ("BadField", false), ("BadParish", false), ("BadHolder", false), ("BadKind", false), ("BadTaker", false), ("BadDay", false), ("BadYear", false), ("BadCount", false), ("BadSpan", false), ("BadWorth", false), ("BadCustom", true), ("BadAside", false), ("BadPence", false), ("Backward", false), ("Same", false), ("NoBeast", false), ("NoFact", false), ("Struck", false), ("Kept", false), ("Full", false), ("NoBack", false), ("NoForth", false), ("BadText", false)]
def xl_BadAside : List (Str × Bool) := [("TitheError", false), ("BadPart", false), ("BadWord", false), ("BadField", false), ("BadParish", false), ("BadHolder", false), ("BadKind", false), ("BadTaker", false), ("BadDay", false), ("BadYear", false), ("BadCount", false), ("BadSpan", false), ("BadWorth", false), ("BadCustom", false), ("BadAside", true), ("BadPence", false), ("Backward", false), ("Same", false), ("NoBeast", false), ("NoFact", false), ("Struck", false), ("Kept", false), ("Full", false), ("NoBack", false), ("NoForth", false), ("BadText", false)]
def xl_BadPence : List (Str × Bool) := [("TitheError", false), ("BadPart", false), ("BadWord", false), ("BadField", false), ("BadParish", false), ("BadHolder", false), ("BadKind", false), ("BadTaker", false), ("BadDay", false), ("BadYear", false), ("BadCount", false), ("BadSpan", false), ("BadWorth", false), ("BadCustom", false), ("BadAside", false), ("BadPence", true), ("Backward", false), ("Same", false), ("NoBeast", false), ("NoFact", false), ("Struck", false), ("Kept", false), ("Full", false), ("NoBack", false), ("NoForth", false), ("BadText", false)]
def xl_BadPart : List (Str × Bool) := [("TitheError", false), ("BadPart", true), ("BadWord", false), ("BadField", false), ("BadParish", false), ("BadHolder", false), ("BadKind", false), ("BadTaker", false), ("BadDay", false), ("BadYear", false), ("BadCount", false), ("BadSpan", false), ("BadWorth", false), ("BadCustom", false), ("BadAside", false), ("BadPence", false), ("Backward", false), ("Same", false), ("NoBeast", false), ("NoFact", false), ("Struck", false), ("Kept", false), ("Full", false), ("NoBack", false), ("NoForth", false), ("BadText", false)]
def xl_Backward : List (Str × Bool) := [("TitheError", false), ("BadPart", false), ("BadWord", false), ("BadField", false), ("BadParish", false), ("BadHolder", false), ("BadKind", false), ("BadTaker", false), ("BadDay", false), ("BadYear", false), ("BadCount", false), ("BadSpan", false), ("BadWorth", false), ("BadCustom", false), ("BadAside", false), ("BadPence", false), ("Backward", true), ("Same", false), ("NoBeast", false), ("NoFact", false), ("Struck", false), ("Kept", false), ("Full", false), ("NoBack", false), ("NoForth", false), ("BadText", false)]
def xl_Same : List (Str × Bool) := [("TitheError", false), ("BadPart", false), ("BadWord", false), ("BadField", false), ("BadParish", false), ("BadHolder", false), ("BadKind", false), ("BadTaker", false), ("BadDay", false), ("BadYear", false), ("BadCount", false), ("BadSpan", false), ("BadWorth", false), ("BadCustom", false), ("BadAside", false), ("BadPence", false), ("Backward", false), ("Same", true), ("NoBeast", false), ("NoFact", false), ("Struck", false), ("Kept", false), ("Full", false), ("NoBack", false), ("NoForth", false), ("BadText", false)]
def xl_NoBeast : List (Str × Bool) := [("TitheError", false), ("BadPart", false), ("BadWord", false), ("BadField", false), ("BadParish", false), ("BadHolder", false), ("BadKind", false), ("BadTaker", false), ("BadDay", false), ("BadYear", false), ("BadCount", false), ("BadSpan", false), ("BadWorth", false), ("BadCustom", false), ("BadAside", false), ("BadPence", false), ("Backward", false), ("Same", false), ("NoBeast", true), ("NoFact", false), ("Struck", false), ("Kept", false), ("Full", false), ("NoBack", false), ("NoForth", false), ("BadText", false)]
def xl_NoFact : List (Str × Bool) := [("TitheError", false), ("BadPart", false), ("BadWord", false), ("BadField", false), ("BadParish", false), ("BadHolder", false), ("BadKind", false), ("BadTaker", false), ("BadDay", false), ("BadYear", false), ("BadCount", false), ("BadSpan", false), ("BadWorth", false), ("BadCustom", false), ("BadAside", false), ("BadPence", false), ("Backward", false), ("Same", false), ("NoBeast", false), ("NoFact", true), ("Struck", false), ("Kept", false), ("Full", false), ("NoBack", false), ("NoForth", false), ("BadText", false)]
def xl_Struck : List (Str × Bool) := [("TitheError", false), ("BadPart", false), ("BadWord", false), ("BadField", false), ("BadParish", false), ("BadHolder", false), ("BadKind", false), ("BadTaker", false), ("BadDay", false), ("BadYear", false), ("BadCount", false), ("BadSpan", false), ("BadWorth", false), ("BadCustom", false), ("BadAside", false), ("BadPence", false), ("Backward", false), ("Same", false), ("NoBeast", false), ("NoFact", false), ("Struck", true), ("Kept", false), ("Full", false), ("NoBack", false), ("NoForth", false), ("BadText", false)]
def xl_Kept : List (Str × Bool) := [("TitheError", false), ("BadPart", false), ("BadWord", false), ("BadField", false), ("BadParish", false), ("BadHolder", false), ("BadKind", false), ("BadTaker", false), ("BadDay", false), ("BadYear", false), ("BadCount", false), ("BadSpan", false), ("BadWorth", false), ("BadCustom", false), ("BadAside", false), ("BadPence", false), ("Backward", false), ("Same", false), ("NoBeast", false), ("NoFact", false), ("Struck", false), ("Kept", true), ("Full", false), ("NoBack", false), ("NoForth", false), ("BadText", false)]
def xl_Full : List (Str × Bool) := [("TitheError", false), ("BadPart", false), ("BadWord", false), ("BadField", false), ("BadParish", false), ("BadHolder", false), ("BadKind", false), ("BadTaker", false), ("BadDay", false), ("BadYear", false), ("BadCount", false), ("BadSpan", false), ("BadWorth", false), ("BadCustom", false), ("BadAside", false), ("BadPence", false), ("Backward", false), ("Same", false), ("NoBeast", false), ("NoFact", false), ("Struck", false), ("Kept", false), ("Full", true), ("NoBack", false), ("NoForth", false), ("BadText", false)]
def xl_NoBack : List (Str × Bool) := [("TitheError", false), ("BadPart", false), ("BadWord", false), ("BadField", false), ("BadParish", false), ("BadHolder", false), ("BadKind", false), ("BadTaker", false), ("BadDay", false), ("BadYear", false), ("BadCount", false), ("BadSpan", false), ("BadWorth", false), ("BadCustom", false), ("BadAside", false), ("BadPence", false), ("Backward", false), ("Same", false), ("NoBeast", false), ("NoFact", false), ("Struck", false), ("Kept", false), ("Full", false), ("NoBack", true), ("NoForth", false), ("BadText", false)]
def xl_NoForth : List (Str × Bool) := [("TitheError", false), ("BadPart", false), ("BadWord", false), ("BadField", false), ("BadParish", false), ("BadHolder", false), ("BadKind", false), ("BadTaker", false), ("BadDay", false), ("BadYear", false), ("BadCount", false), ("BadSpan", false), ("BadWorth", false), ("BadCustom", false), ("BadAside", false), ("BadPence", false), ("Backward", false), ("Same", false), ("NoBeast", false), ("NoFact", false), ("Struck", false), ("Kept", false), ("Full", false), ("NoBack", false), ("NoForth", true), ("BadText", false)]
def xl_BadText : List (Str × Bool) := [("TitheError", false), ("BadPart", false), ("BadWord", false), ("BadField", false), ("BadParish", false), ("BadHolder", false), ("BadKind", false), ("BadTaker", false), ("BadDay", false), ("BadYear", false), ("BadCount", false), ("BadSpan", false), ("BadWorth", false), ("BadCustom", false), ("BadAside", false), ("BadPence", false), ("Backward", false), ("Same", false), ("NoBeast", false), ("NoFact", false), ("Struck", false), ("Kept", false), ("Full", false), ("NoBack", false), ("NoForth", false), ("BadText", true)]
def xl_ValueError : List (Str × Bool) := [("TitheError", true), ("BadPart", true), ("BadWord", true), ("BadField", true), ("BadParish", true), ("BadHolder", true), ("BadKind", true), ("BadTaker", true), ("BadDay", true), ("BadYear", true), ("BadCount", true), ("BadSpan", true), ("BadWorth", true), ("BadCustom", true), ("BadAside", true), ("BadPence", true), ("Backward", true), ("Same", true), ("NoBeast", true), ("NoFact", true), ("Struck", true), ("Kept", true), ("Full", true), ("NoBack", true), ("NoForth", true), ("BadText", true)]
def xl_TitheError : List (Str × Bool) := [("TitheError", true), ("BadPart", true), ("BadWord", true), ("BadField", true), ("BadParish", true), ("BadHolder", true), ("BadKind", true), ("BadTaker", true), ("BadDay", true), ("BadYear", true), ("BadCount", true), ("BadSpan", true), ("BadWorth", true), ("BadCustom", true), ("BadAside", true), ("BadPence", true), ("Backward", true), ("Same", true), ("NoBeast", true), ("NoFact", true), ("Struck", true), ("Kept", true), ("Full", true), ("NoBack", true), ("NoForth", true), ("BadText", true)]
def dv_LOOKS : List (Str × He.Dv) := [("lies", .glo "need_lies"), ("held", .glo "need_held"), ("free", .glo "need_free"), ("custom", .glo "need_custom_fact"), ("takers", .glo "need_takers_fact"), ("cut", .glo "need_cut"), ("born", .glo "need_born"), ("driven", .glo "need_driven"), ("pass", .glo "need_pass"), ("render", .glo "need_laid"), ("paid", .glo "need_laid"), ("claim", .glo "need_claim")]
def t_CUSTOMS : List (Str × Int) := [("kind", 1), ("odd", 2), ("fixed", 1), ("none", 0)]
abbrev dv_CUSTOMS : List (Str × He.Dv) := tabI t_CUSTOMS
def t_FORMS : List (Str × Int) := [("lies", 3), ("held", 3), ("free", 3), ("takers", 7), ("cut", 4), ("born", 5), ("driven", 3), ("pass", 3), ("render", 5), ("paid", 5), ("claim", 2)]
abbrev dv_FORMS : List (Str × He.Dv) := tabI t_FORMS
end VL
namespace VLD
open PySem PySem.Spec PyProof.Rows L2 VL
def top (i : Nat) : Stmt := PySem.Challenge.pw_tithebarn_k52_refusals_apart.main.body.getD i (.Pass ⟨0, 0, 0, 0⟩)
def d__law_bag : He.DefD := ⟨("_law_bag", none), "_law_bag", "_law_bag", defArgs (top 144), defBody (top 144), defScope (top 144), [], []⟩
def d__law_pull : He.DefD := ⟨("_law_pull", none), "_law_pull", "_law_pull", defArgs (top 145), defBody (top 145), defScope (top 145), [], []⟩
def d_need_day : He.DefD := ⟨("need_day", none), "need_day", "need_day", defArgs (top 32), defBody (top 32), defScope (top 32), [], []⟩
def d_need_field : He.DefD := ⟨("need_field", none), "need_field", "need_field", defArgs (top 40), defBody (top 40), defScope (top 40), [], []⟩
def d_need_parish : He.DefD := ⟨("need_parish", none), "need_parish", "need_parish", defArgs (top 68), defBody (top 68), defScope (top 68), [], []⟩
def d_need_lies : He.DefD := ⟨("need_lies", none), "need_lies", "need_lies", defArgs (top 115), defBody (top 115), defScope (top 115), [], []⟩
def d_need_held : He.DefD := ⟨("need_held", none), "need_held", "need_held", defArgs (top 116), defBody (top 116), defScope (top 116), [], []⟩
def d_need_free : He.DefD := ⟨("need_free", none), "need_free", "need_free", defArgs (top 117), defBody (top 117), defScope (top 117), [], []⟩
def d_need_year : He.DefD := ⟨("need_year", none), "need_year", "need_year", defArgs (top 33), defBody (top 33), defScope (top 33), [], []⟩
def d_need_kind : He.DefD := ⟨("need_kind", none), "need_kind", "need_kind", defArgs (top 69), defBody (top 69), defScope (top 69), [], []⟩
def d_need_pence : He.DefD := ⟨("need_pence", none), "need_pence", "need_pence", defArgs (top 70), defBody (top 70), defScope (top 70), [], []⟩
def d_need_custom : He.DefD := ⟨("need_custom", none), "need_custom", "need_custom", defArgs (top 71), defBody (top 71), defScope (top 71), [], []⟩
def d_need_custom_fact : He.DefD := ⟨("need_custom_fact", none), "need_custom_fact", "need_custom_fact", defArgs (top 118), defBody (top 118), defScope (top 118), [], []⟩
def d_divisor : He.DefD := ⟨("divisor", none), "divisor", "divisor", defArgs (top 49), defBody (top 49), defScope (top 49), [], []⟩
def d_is_part : He.DefD := ⟨("is_part", none), "is_part", "is_part", defArgs (top 51), defBody (top 51), defScope (top 51), [], []⟩
def d_below : He.DefD := ⟨("below", none), "below", "below", defArgs (top 55), defBody (top 55), defScope (top 55), [], []⟩
def d_need_taker : He.DefD := ⟨("need_taker", none), "need_taker", "need_taker", defArgs (top 105), defBody (top 105), defScope (top 105), [], []⟩
def d_need_two : He.DefD := ⟨("need_two", none), "need_two", "need_two", defArgs (top 106), defBody (top 106), defScope (top 106), [], []⟩
def d_need_takers_fact : He.DefD := ⟨("need_takers_fact", none), "need_takers_fact", "need_takers_fact", defArgs (top 119), defBody (top 119), defScope (top 119), [], []⟩
def d_need_count : He.DefD := ⟨("need_count", none), "need_count", "need_count", defArgs (top 114), defBody (top 114), defScope (top 114), [], []⟩
def d_need_cut : He.DefD := ⟨("need_cut", none), "need_cut", "need_cut", defArgs (top 120), defBody (top 120), defScope (top 120), [], []⟩
def d_need_born : He.DefD := ⟨("need_born", none), "need_born", "need_born", defArgs (top 121), defBody (top 121), defScope (top 121), [], []⟩
def d_need_driven : He.DefD := ⟨("need_driven", none), "need_driven", "need_driven", defArgs (top 122), defBody (top 122), defScope (top 122), [], []⟩
def d_need_holder : He.DefD := ⟨("need_holder", none), "need_holder", "need_holder", defArgs (top 41), defBody (top 41), defScope (top 41), [], []⟩
def d_need_pass : He.DefD := ⟨("need_pass", none), "need_pass", "need_pass", defArgs (top 123), defBody (top 123), defScope (top 123), [], []⟩
def d_need_laid : He.DefD := ⟨("need_laid", none), "need_laid", "need_laid", defArgs (top 124), defBody (top 124), defScope (top 124), [], []⟩
def d_need_claim : He.DefD := ⟨("need_claim", none), "need_claim", "need_claim", defArgs (top 125), defBody (top 125), defScope (top 125), [], []⟩
def d_need_fact : He.DefD := ⟨("need_fact", none), "need_fact", "need_fact", defArgs (top 127), defBody (top 127), defScope (top 127), [], []⟩
def d_Book___init__ : He.DefD := ⟨("Book", some "__init__"), "__init__", "Book.__init__", defArgs (inCls (top 132) 0), defBody (inCls (top 132) 0), defScope (inCls (top 132) 0), [], []⟩
def d_Book_remember : He.DefD := ⟨("Book", some "remember"), "remember", "Book.remember", defArgs (inCls (top 132) 1), defBody (inCls (top 132) 1), defScope (inCls (top 132) 1), [], []⟩
def d_Book_many_of : He.DefD := ⟨("Book", some "many_of"), "many_of", "Book.many_of", defArgs (inCls (top 132) 2), defBody (inCls (top 132) 2), defScope (inCls (top 132) 2), [], []⟩
def d_Book_need_room : He.DefD := ⟨("Book", some "need_room"), "need_room", "Book.need_room", defArgs (inCls (top 132) 3), defBody (inCls (top 132) 3), defScope (inCls (top 132) 3), [], []⟩
def d_Book_need_beast : He.DefD := ⟨("Book", some "need_beast"), "need_beast", "Book.need_beast", defArgs (inCls (top 132) 4), defBody (inCls (top 132) 4), defScope (inCls (top 132) 4), [], []⟩
def d_Book_tell : He.DefD := ⟨("Book", some "tell"), "tell", "Book.tell", defArgs (inCls (top 132) 6), defBody (inCls (top 132) 6), defScope (inCls (top 132) 6), [], []⟩
def d_Book_need_number : He.DefD := ⟨("Book", some "need_number"), "need_number", "Book.need_number", defArgs (inCls (top 132) 5), defBody (inCls (top 132) 5), defScope (inCls (top 132) 5), [], []⟩
def d_Book_strike : He.DefD := ⟨("Book", some "strike"), "strike", "Book.strike", defArgs (inCls (top 132) 7), defBody (inCls (top 132) 7), defScope (inCls (top 132) 7), [], []⟩
def d_Book_keep : He.DefD := ⟨("Book", some "keep"), "keep", "Book.keep", defArgs (inCls (top 132) 8), defBody (inCls (top 132) 8), defScope (inCls (top 132) 8), [], []⟩
def d_Book_undo : He.DefD := ⟨("Book", some "undo"), "undo", "Book.undo", defArgs (inCls (top 132) 9), defBody (inCls (top 132) 9), defScope (inCls (top 132) 9), [], []⟩
def d_Book_redo : He.DefD := ⟨("Book", some "redo"), "redo", "Book.redo", defArgs (inCls (top 132) 10), defBody (inCls (top 132) 10), defScope (inCls (top 132) 10), [], []⟩
def d_read_number : He.DefD := ⟨("read_number", none), "read_number", "read_number", defArgs (top 138), defBody (top 138), defScope (top 138), [], []⟩
def d_read_numbers : He.DefD := ⟨("read_numbers", none), "read_numbers", "read_numbers", defArgs (top 139), defBody (top 139), defScope (top 139), [], []⟩
def d_read_custom : He.DefD := ⟨("read_custom", none), "read_custom", "read_custom", defArgs (top 140), defBody (top 140), defScope (top 140), [], []⟩
def d_read_fact : He.DefD := ⟨("read_fact", none), "read_fact", "read_fact", defArgs (top 141), defBody (top 141), defScope (top 141), [], []⟩
def d_read_deed : He.DefD := ⟨("read_deed", none), "read_deed", "read_deed", defArgs (top 142), defBody (top 142), defScope (top 142), [], []⟩
def d__law_facts_wrong : He.DefD := ⟨("_law_facts_wrong", none), "_law_facts_wrong", "_law_facts_wrong", defArgs (top 146), defBody (top 146), defScope (top 146), [], []⟩
def d__law_raise : He.DefD := ⟨("_law_raise", none), "_law_raise", "_law_raise", defArgs (top 147), defBody (top 147), defScope (top 147), [], []⟩
def d__law_row : He.DefD := ⟨("_law_row", none), "_law_row", "_law_row", defArgs (top 148), defBody (top 148), defScope (top 148), [], []⟩
def d_law : He.DefD := ⟨("law", none), "law", "law", defArgs (top 149), defBody (top 149), defScope (top 149), [], []⟩
def d_BadText___init__ : He.DefD := ⟨("BadText", some "__init__"), "__init__", "BadText.__init__", defArgs (inCls (top 27) 0), defBody (inCls (top 27) 0), defScope (inCls (top 27) 0), [], []⟩
def fa0 : List He.Fa := [.glo "_law_bag", .glo "_law_pull", .glo "need_day", .glo "need_field", .glo "need_parish", .glo "need_lies", .glo "need_held", .glo "need_free", .glo "need_year", .glo "need_kind", .glo "need_pence", .glo "need_custom", .glo "need_custom_fact", .glo "divisor", .glo "is_part", .glo "below", .glo "need_taker", .glo "need_two", .glo "need_takers_fact", .glo "need_count", .glo "need_cut", .glo "need_born", .glo "need_driven"]
def fn0 : List He.DefD := [d__law_bag, d__law_pull, d_need_day, d_need_field, d_need_parish, d_need_lies, d_need_held, d_need_free]
def ex0 (K : PySem.W.Frag) : Bool := (kcon K "LAST_DAY" c_LAST_DAY && (kcon K "FIELDS" c_FIELDS && (kcon K "PARISHES" c_PARISHES && (kcon K "HOLDERS" c_HOLDERS && (kcon K "LAST_YEAR" c_LAST_YEAR && (kcon K "KINDS" c_KINDS && (kcon K "MOST_PENCE" c_MOST_PENCE && (kcon K "MOST_ASIDE" c_MOST_ASIDE && true))))))))
def fa1 : List He.Fa := [.glo "need_holder", .glo "need_pass", .glo "need_laid", .glo "need_claim", .glo "need_fact", .glo "Book", .cls "Book", .mkr "Book", .meth "Book" "remember", .meth "Book" "many_of", .meth "Book" "need_room", .meth "Book" "need_beast", .meth "Book" "tell", .meth "Book" "need_number", .meth "Book" "strike", .meth "Book" "keep", .meth "Book" "undo", .meth "Book" "redo", .glo "read_number", .glo "read_numbers", .glo "read_custom", .glo "read_fact", .glo "read_deed"]
def fn1 : List He.DefD := [d_need_year, d_need_kind, d_need_pence, d_need_custom, d_need_custom_fact, d_divisor, d_is_part, d_below]
def ex1 (K : PySem.W.Frag) : Bool := (kcon K "TAKERS" c_TAKERS && (kcon K "ALL" c_ALL && (kcon K "MOST_COUNT" c_MOST_COUNT && (kcon K "MOST_SPAN" c_MOST_SPAN && (kcon K "MOST_WORTH" c_MOST_WORTH && (kcon K "MOST_FACTS" c_MOST_FACTS && (kcon K "MOST_BIRTHS" c_MOST_BIRTHS && (kcon K "MOST_CLAIMS" c_MOST_CLAIMS && true))))))))
def fa2 : List He.Fa := [.glo "_law_facts_wrong", .glo "_law_raise", .glo "_law_row", .glo "law", .free "list", .free "len", .glo "BadDay", .exc "BadDay", .glo "BadField", .exc "BadField", .glo "BadParish", .exc "BadParish", .glo "BadHolder", .exc "BadHolder", .glo "Backward", .exc "Backward", .glo "BadYear", .exc "BadYear", .glo "BadKind", .exc "BadKind", .glo "BadPence", .exc "BadPence", .glo "BadCustom"]
def fn2 : List He.DefD := [d_need_taker, d_need_two, d_need_takers_fact, d_need_count, d_need_cut, d_need_born, d_need_driven, d_need_holder]
def ex2 (K : PySem.W.Frag) : Bool := (kcon K "MOST_FIGURES" c_MOST_FIGURES && (kcon K "FIGURES" c_FIGURES && (ikcB K "BadText" "TitheError" "at" && (ioB K "BadWord" xl_BadWord && (ioB K "BadField" xl_BadField && (ioB K "BadParish" xl_BadParish && (ioB K "BadHolder" xl_BadHolder && (ioB K "BadKind" xl_BadKind && true))))))))
def fa3 : List He.Fa := [.exc "BadCustom", .glo "BadAside", .exc "BadAside", .glo "BadTaker", .exc "BadTaker", .glo "BadPart", .exc "BadPart", .glo "Same", .exc "Same", .glo "BadCount", .exc "BadCount", .glo "BadSpan", .exc "BadSpan", .glo "BadWorth", .exc "BadWorth", .glo "LOOKS", .glo "BadWord", .exc "BadWord", .noat "Book" "kept", .noat "Book" "past_rows", .noat "Book" "future_rows", .glo "Full", .exc "Full"]
def fn3 : List He.DefD := [d_need_pass, d_need_laid, d_need_claim, d_need_fact, d_Book___init__, d_Book_remember, d_Book_many_of, d_Book_need_room]
def ex3 (K : PySem.W.Frag) : Bool := (ioB K "BadTaker" xl_BadTaker && (ioB K "BadDay" xl_BadDay && (ioB K "BadYear" xl_BadYear && (ioB K "BadCount" xl_BadCount && (ioB K "BadSpan" xl_BadSpan && (ioB K "BadWorth" xl_BadWorth && (ioB K "BadCustom" xl_BadCustom && (ioB K "BadAside" xl_BadAside && true))))))))
def fa4 : List He.Fa := [.glo "NoBeast", .exc "NoBeast", .glo "NoFact", .exc "NoFact", .glo "Struck", .exc "Struck", .glo "Kept", .exc "Kept", .glo "NoBack", .exc "NoBack", .glo "NoForth", .exc "NoForth", .free "int", .free "tuple", .glo "CUSTOMS", .glo "FORMS", .free "range", .free "isinstance", .free "ValueError", .glo "TitheError", .exm "TitheError" "TitheError" true, .exm "BadPart" "TitheError" true, .exm "BadWord" "TitheError" true]
def fn4 : List He.DefD := [d_Book_need_beast, d_Book_tell, d_Book_need_number, d_Book_strike, d_Book_keep, d_Book_undo, d_Book_redo, d_read_number]
def ex4 (K : PySem.W.Frag) : Bool := (ioB K "BadPence" xl_BadPence && (ioB K "BadPart" xl_BadPart && (ioB K "Backward" xl_Backward && (ioB K "Same" xl_Same && (ioB K "NoBeast" xl_NoBeast && (ioB K "NoFact" xl_NoFact && (ioB K "Struck" xl_Struck && (ioB K "Kept" xl_Kept && true))))))))
def fa5 : List He.Fa := [.exm "BadField" "TitheError" true, .exm "BadParish" "TitheError" true, .exm "BadHolder" "TitheError" true, .exm "BadKind" "TitheError" true, .exm "BadTaker" "TitheError" true, .exm "BadDay" "TitheError" true, .exm "BadYear" "TitheError" true, .exm "BadCount" "TitheError" true, .exm "BadSpan" "TitheError" true, .exm "BadWorth" "TitheError" true, .exm "BadCustom" "TitheError" true, .exm "BadAside" "TitheError" true, .exm "BadPence" "TitheError" true, .exm "Backward" "TitheError" true, .exm "Same" "TitheError" true, .exm "NoBeast" "TitheError" true, .exm "NoFact" "TitheError" true, .exm "Struck" "TitheError" true, .exm "Kept" "TitheError" true, .exm "Full" "TitheError" true, .exm "NoBack" "TitheError" true, .exm "NoForth" "TitheError" true, .glo "BadText", .exm "BadText" "TitheError" true]
def fn5 : List He.DefD := [d_read_numbers, d_read_custom, d_read_fact, d_read_deed, d__law_facts_wrong, d__law_raise, d__law_row, d_law, d_BadText___init__]
def ex5 (K : PySem.W.Frag) : Bool := (ioB K "Full" xl_Full && (ioB K "NoBack" xl_NoBack && (ioB K "NoForth" xl_NoForth && (ioB K "BadText" xl_BadText && (ikB K (.type "ValueError") xl_ValueError && (He.valsB K (He.ga K "LOOKS") dv_LOOKS && (He.valsB K (He.ga K "CUSTOMS") dv_CUSTOMS && (He.valsB K (He.ga K "FORMS") dv_FORMS && true))))))))
def fa : List He.Fa := fa0 ++ fa1 ++ fa2 ++ fa3 ++ fa4 ++ fa5
def fn : List He.DefD := fn0 ++ fn1 ++ fn2 ++ fn3 ++ fn4 ++ fn5
def ex (K : PySem.W.Frag) : Bool := (((((ex0 K && ex1 K) && ex2 K) && ex3 K) && ex4 K) && ex5 K)
abbrev R : PySem.W.OpenRow := PySem.W.OpenLaw.row PySem.Challenge.rw_tithebarn_k52_refusals_apart
def ts : List TabD := [("LOOKS", ["lies", "held", "free", "custom", "takers", "cut", "born", "driven", "pass", "render", "paid", "claim"]), ("CUSTOMS", ["kind", "odd", "fixed", "none"]), ("FORMS", ["lies", "held", "free", "takers", "cut", "born", "driven", "pass", "render", "paid", "claim"])]
def loose : List Str := (["_wall", "TitheError", "BadPart", "BadWord", "BadField", "BadParish", "BadHolder", "BadKind", "BadTaker", "BadDay", "BadYear", "BadCount", "BadSpan", "BadWorth", "BadCustom", "BadAside"] : List Str) ++ (["BadPence", "Backward", "Same", "NoBeast", "NoFact", "Struck", "Kept", "Full", "NoBack", "NoForth", "BadText", "LAST_DAY", "YEAR_DAYS", "LAST_YEAR", "need_day", "need_year"] : List Str) ++ (["year_of", "last_day", "in_force", "FIELDS", "HOLDERS", "need_field", "need_holder", "rows_of", "parish_on", "holder_on", "free_on", "line_on", "NOUGHT", "divisor", "lowest", "is_part"] : List Str) ++ (["plus", "less", "often", "below", "wholes", "birth_of", "field_on", "falls_on", "shares", "PARISHES", "KINDS", "MOST_ASIDE", "MOST_PENCE", "PLAIN", "need_parish", "need_kind"] : List Str) ++ (["need_pence", "need_custom", "custom_of", "of_cut", "of_birth", "arisings", "in_parish", "passes", "TEN", "tens", "closed", "split", "Course", "marked_days", "one_day", "ran"] : List Str) ++ (["line", "line_lines", "falls", "things_of", "claims", "claims_claims", "if_so", "ways", "due_ways", "bounds", "bounds_claims", "TAKERS", "ALL", "NOBODY", "need_taker", "need_two"] : List Str) ++ (["takers_of", "taken", "taken_takers", "MOST_COUNT", "MOST_SPAN", "MOST_WORTH", "need_count", "need_lies", "need_held", "need_free", "need_custom_fact", "need_takers_fact", "need_cut", "need_born", "need_driven", "need_pass"] : List Str) ++ (["need_laid", "need_claim", "LOOKS", "need_fact", "MOST_FACTS", "MOST_BIRTHS", "MOST_CLAIMS", "Book", "FIGURES", "MOST_FIGURES", "FORMS", "CUSTOMS", "read_number", "read_numbers", "read_custom", "read_fact"] : List Str) ++ (["read_deed", "_law_bag", "_law_pull", "_law_facts_wrong", "_law_raise", "_law_row"] : List Str)
theorem runL_0 (w : World) : RunL R 20000 (fT w true) := by
  intro os
  kernel_rfl
theorem runT_0 (w : World) : RunU R (PySem.W.view R.prog [149]) 20000 loose ts (fT w true) := by
  intro os
  kernel_rfl
theorem runP0_0 (w : World) : RunP R 20000 fa0 fn0 ex0 (fT w true) := by
  intro os
  kernel_rfl
theorem runP1_0 (w : World) : RunP R 20000 fa1 fn1 ex1 (fT w true) := by
  intro os
  kernel_rfl
theorem runP2_0 (w : World) : RunP R 20000 fa2 fn2 ex2 (fT w true) := by
  intro os
  kernel_rfl
theorem runP3_0 (w : World) : RunP R 20000 fa3 fn3 ex3 (fT w true) := by
  intro os
  kernel_rfl
theorem runP4_0 (w : World) : RunP R 20000 fa4 fn4 ex4 (fT w true) := by
  intro os
  kernel_rfl
theorem runP5_0 (w : World) : RunP R 20000 fa5 fn5 ex5 (fT w true) := by
  intro os
  kernel_rfl
theorem runL_1 (w : World) : RunL R 20000 (fT w false) := by
  intro os
  kernel_rfl
theorem runT_1 (w : World) : RunU R (PySem.W.view R.prog [149]) 20000 loose ts (fT w false) := by
  intro os
  kernel_rfl
theorem runP0_1 (w : World) : RunP R 20000 fa0 fn0 ex0 (fT w false) := by
  intro os
  kernel_rfl
theorem runP1_1 (w : World) : RunP R 20000 fa1 fn1 ex1 (fT w false) := by
  intro os
  kernel_rfl
theorem runP2_1 (w : World) : RunP R 20000 fa2 fn2 ex2 (fT w false) := by
  intro os
  kernel_rfl
theorem runP3_1 (w : World) : RunP R 20000 fa3 fn3 ex3 (fT w false) := by
  intro os
  kernel_rfl
theorem runP4_1 (w : World) : RunP R 20000 fa4 fn4 ex4 (fT w false) := by
  intro os
  kernel_rfl
theorem runP5_1 (w : World) : RunP R 20000 fa5 fn5 ex5 (fT w false) := by
  intro os
  kernel_rfl
end VLD
namespace VL
open PySem L2

noncomputable section
/-- an if that no evaluation looks into -/
def cIf {α : Type} (p : Prop) (a b : α) : α := @ite α p (Classical.propDecidable p) a b
theorem cIf_pos {α : Type} {p : Prop} {a b : α} (h : p) : cIf p a b = a := if_pos h
theorem cIf_neg {α : Type} {p : Prop} {a b : α} (h : ¬ p) : cIf p a b = b := if_neg h
theorem cIf_true {α : Type} {a b : α} : cIf True a b = a := cIf_pos trivial
theorem cIf_false {α : Type} {a b : α} : cIf False a b = b := cIf_neg id
end
/-- fixed values of slots; what the mirror leans on: the module's names, what is known of the fixed values -/
structure Pv where
  p : Nat → Option V
  x : Nat → Option V
instance : CoeFun Pv (fun _ => Nat → Option V) := ⟨Pv.p⟩
structure Cg where
  f : Str → Option Value
  Z : Pv → Prop
instance : Coe Cg (Str → Option Value) := ⟨Cg.f⟩
instance : CoeFun Cg (fun _ => Str → Option Value) := ⟨Cg.f⟩
/-- the kinds of an owned node with owned parts -/
inductive Kd where
  | ins (c : Str) (names : List Str)
  | dk (keys : List Key)
  | ls
  | tp
/-- plain data that is owned: it may be changed in place -/
inductive OD where
  | dat (d : PyData)
  | lst (ds : List PyData)
  | dk (kvs : List (Key × PyData))
  | dt (kvs : List (List Key × PyData))
  | nd (k : Kd) (os : List OD)
  | scr (ns : List Int)
  | exc
  | tk (ks : List Key)
  | fz (k : Kd) (os : List OD)
inductive Sl where
  | no | v (o : OD) | pin (o : OD) | al (i j : Nat) | xc
abbrev Gm := List Sl
/-- an exception: its class, the fields of its own -/
structure Er where
  c : Str
  xs : List (Str × PyData)
inductive Out (α : Type) where
  | ok (a : α) (g : Gm) | err (e : Er) (g : Gm) | stk
inductive SOut where
  | nx (g : Gm) | rt (o : OD) (g : Gm) | br (g : Gm) | ct (g : Gm) | err (e : Er) (g : Gm) | stk
/-- a result without a change of the slots -/
inductive Res (α : Type) where
  | ok (a : α) | err (e : Er) | stk

def gt : Gm → Nat → Sl
  | [], _ => .no
  | s :: _, 0 => s
  | _ :: r, n + 1 => gt r n
def st : Gm → Nat → Sl → Gm
  | [], _, _ => []
  | _ :: r, 0, s => s :: r
  | a :: r, n + 1, s => a :: st r n s
theorem st_len : ∀ (g : Gm) (i : Nat) (s : Sl), (st g i s).length = g.length
  | [], _, _ => rfl
  | _ :: _, 0, _ => rfl
  | _ :: r, n + 1, s => congrArg Nat.succ (st_len r n s)
theorem gt_st : ∀ {g : Gm} {i : Nat} {s : Sl}, i < g.length → gt (st g i s) i = s
  | [], _, _, h => absurd h (Nat.not_lt_zero _)
  | _ :: _, 0, _, _ => rfl
  | _ :: r, n + 1, s, h => gt_st (g := r) (i := n) (s := s) (Nat.lt_of_succ_lt_succ h)
theorem gt_st_ne : ∀ {g : Gm} {i j : Nat} {s : Sl}, j ≠ i → gt (st g i s) j = gt g j
  | [], _, _, _, _ => rfl
  | _ :: _, 0, 0, _, h => absurd rfl h
  | _ :: _, 0, _ + 1, _, _ => rfl
  | _ :: _, _ + 1, 0, _, _ => rfl
  | _ :: r, n + 1, m + 1, s, h => gt_st_ne (g := r) (i := n) (j := m) (s := s) (fun e => h (congrArg Nat.succ e))
theorem gt_lt : ∀ {g : Gm} {i : Nat}, gt g i ≠ .no → i < g.length
  | [], _, h => absurd rfl h
  | _ :: _, 0, _ => Nat.succ_pos _
  | _ :: r, n + 1, h => Nat.succ_lt_succ (gt_lt (g := r) (i := n) h)

/-! ### data under a growing heap -/
theorem rd_mono {F F' : Hp} (e : Same F F') {a : Addr} {u : HO} (h : Rd F a u) : Rd F' a u := by
  rcases h with h | ⟨o, h⟩
  · exact .inl (e _ _ h)
  · exact .inr ⟨o, e _ _ h⟩
theorem sql_mono {K : PySem.W.Frag} {F F' : Hp} (e : Same F F') {a : Addr} {xs : List V} (h : SqL K F a xs) : SqL K F' a xs := by
  rcases h with h | h
  · exact .inl (rd_mono e h)
  · exact .inr h
theorem sqt_mono {K : PySem.W.Frag} {F F' : Hp} (e : Same F F') {a : Addr} {xs : List V} (h : SqT K F a xs) : SqT K F' a xs := by
  rcases h with h | h
  · exact .inl (rd_mono e h)
  · exact .inr h
mutual
/-- a value over the frozen heap is that data -/
inductive Dq (K : PySem.W.Frag) (F : Hp) : V → PyData → Prop
  | non : Dq K F .non .none
  | bl (b : Bool) : Dq K F (.bl b) (.bool b)
  | int (i : Int) : Dq K F (.int i) (.int i)
  | str (x : Str) : Dq K F (.str x) (.str x)
  | lst {a : Addr} {xs : List V} {ds : List PyData} : F a = some (.lst xs) → DqA K F xs ds → Dq K F (.ref a) (.list ds)
  | tup {a : Addr} {xs : List V} {ds : List PyData} : SqT K F a xs → DqA K F xs ds → Dq K F (.ref a) (.tuple ds)
inductive DqA (K : PySem.W.Frag) (F : Hp) : List V → List PyData → Prop
  | nil : DqA K F [] []
  | cons {v : V} {vs : List V} {d : PyData} {ds : List PyData} : Dq K F v d → DqA K F vs ds → DqA K F (v :: vs) (d :: ds)
end
mutual
theorem Dq.mo {K : PySem.W.Frag} {F F' : Hp} (e : Same F F') : ∀ (d : PyData) {v : V}, Dq K F v d → Dq K F' v d
  | .none, _, h => by
    cases h
    exact .non
  | .bool b, _, h => by
    cases h
    exact .bl b
  | .int i, _, h => by
    cases h
    exact .int i
  | .str x, _, h => by
    cases h
    exact .str x
  | .list ds, _, h => by
    cases h with
    | lst h1 h2 => exact .lst (e _ _ h1) (DqA.mo e ds h2)
  | .tuple ds, _, h => by
    cases h with
    | tup h1 h2 => exact .tup (sqt_mono e h1) (DqA.mo e ds h2)
  | .dict _, _, h => by cases h
theorem DqA.mo {K : PySem.W.Frag} {F F' : Hp} (e : Same F F') : ∀ (ds : List PyData) {vs : List V}, DqA K F vs ds → DqA K F' vs ds
  | [], _, h => by
    cases h
    exact .nil
  | d :: ds, _, h => by
    cases h with
    | cons h1 h2 => exact .cons (Dq.mo e d h1) (DqA.mo e ds h2)
end
theorem dp_mo {K : PySem.W.Frag} {F F' : Hp} {v : V} {d : PyData} (h : Dq K F v d) (e : Same F F') : Dq K F' v d := Dq.mo e d h
theorem dpa_mo {K : PySem.W.Frag} {F F' : Hp} {vs : List V} {ds : List PyData} (h : DqA K F vs ds) (e : Same F F') : DqA K F' vs ds := DqA.mo e ds h
theorem dpa_len {K : PySem.W.Frag} {F : Hp} : ∀ {vs : List V} {ds : List PyData}, DqA K F vs ds → vs.length = ds.length
  | _, [], h => by
    cases h
    rfl
  | _, d :: ds, h => by
    cases h with
    | cons h1 h2 => exact congrArg Nat.succ (dpa_len h2)
theorem dpa_get {K : PySem.W.Frag} {F : Hp} : ∀ {vs : List V} {ds : List PyData} {i : Nat} {v : V}, DqA K F vs ds → vs[i]? = some v → ∃ d, ds[i]? = some d ∧ Dq K F v d
  | _, [], i, v, h, e => by
    cases h
    simp at e
  | _, d :: ds, 0, v, h, e => by
    cases h with
    | cons h1 h2 =>
      simp at e
      subst e
      exact ⟨d, rfl, h1⟩
  | _, d :: ds, i + 1, v, h, e => by
    cases h with
    | cons h1 h2 => exact dpa_get (i := i) h2 (by simpa using e)
theorem dpa_get' {K : PySem.W.Frag} {F : Hp} {vs : List V} {ds : List PyData} {i : Nat} {d : PyData} (h : DqA K F vs ds) (e : ds[i]? = some d) : ∃ v, vs[i]? = some v ∧ Dq K F v d := by
  have hl := dpa_len h
  obtain ⟨hi, _⟩ := List.getElem?_eq_some_iff.mp e
  have hv : vs[i]? = some (vs[i]'(by omega)) := List.getElem?_eq_getElem (by omega)
  obtain ⟨d', e', hd⟩ := dpa_get h hv
  rw [e] at e'
  cases e'
  exact ⟨_, hv, hd⟩
theorem dpa_app {K : PySem.W.Frag} {F : Hp} : ∀ {vs : List V} {ds : List PyData} {vs' : List V} {ds' : List PyData}, DqA K F vs ds → DqA K F vs' ds' → DqA K F (vs ++ vs') (ds ++ ds')
  | _, [], _, _, h, h' => by
    cases h
    exact h'
  | _, d :: ds, _, _, h, h' => by
    cases h with
    | cons h1 h2 => exact .cons h1 (dpa_app h2 h')
theorem dpa_drop {K : PySem.W.Frag} {F : Hp} : ∀ (n : Nat) {vs : List V} {ds : List PyData}, DqA K F vs ds → DqA K F (vs.drop n) (ds.drop n)
  | 0, _, _, h => by simpa using h
  | n + 1, _, [], h => by
    cases h
    exact .nil
  | n + 1, _, d :: ds, h => by
    cases h with
    | cons h1 h2 => exact dpa_drop n h2
theorem dpa_take {K : PySem.W.Frag} {F : Hp} : ∀ (n : Nat) {vs : List V} {ds : List PyData}, DqA K F vs ds → DqA K F (vs.take n) (ds.take n)
  | 0, _, _, h => by
    simp
    exact .nil
  | n + 1, _, [], h => by
    cases h
    exact .nil
  | n + 1, _, d :: ds, h => by
    cases h with
    | cons h1 h2 => exact .cons h1 (dpa_take n h2)
theorem dpa_set {K : PySem.W.Frag} {F : Hp} {v : V} {d : PyData} (hv : Dq K F v d) : ∀ (n : Nat) {vs : List V} {ds : List PyData}, DqA K F vs ds → DqA K F (vs.set n v) (ds.set n d)
  | _, _, [], h => by
    cases h
    exact .nil
  | 0, _, d :: ds, h => by
    cases h with
    | cons h1 h2 => exact .cons hv h2
  | n + 1, _, d :: ds, h => by
    cases h with
    | cons h1 h2 => exact .cons h1 (dpa_set hv n h2)
theorem dpa_ints {K : PySem.W.Frag} {F : Hp} : ∀ (ns : List Int), DqA K F (ns.map V.int) (ns.map PyData.int)
  | [] => .nil
  | n :: ns => .cons (.int n) (dpa_ints ns)
theorem dpa_ints_of {K : PySem.W.Frag} {F : Hp} : ∀ (ns : List Int) {vs : List V}, DqA K F vs (ns.map PyData.int) → vs = ns.map V.int
  | [], _, h => by
    cases h
    rfl
  | n :: ns, _, h => by
    cases h with
    | cons h1 h2 =>
      cases h1
      rw [dpa_ints_of ns h2]
      rfl

/-! ### the relation of owned things -/
def Shp (cg : Str → Option Value) (H : Hp) (p : Addr) (k : Kd) (vs : List V) : Prop :=
  match k with
  | .ins c names => ∃ C dx, cg c = some (.ref C) ∧ H p = some (.ins C dx (names.zip vs)) ∧ names.length = vs.length
  | .dk keys => H p = some (.dK (keys.zip vs)) ∧ keys.length = vs.length
  | .ls => H p = some (.lst vs)
  | .tp => False
/-- a node that is frozen, its parts may be owned -/
def ShpF (cg : Str → Option Value) (F : Hp) (p : Addr) (k : Kd) (vs : List V) : Prop :=
  match k with
  | .tp => F p = some (.tup vs)
  | k => Shp cg F p k vs
theorem ShpF.mo {cg : Str → Option Value} {F F' : Hp} {p : Addr} {k : Kd} {vs : List V} (h : ShpF cg F p k vs) (e : Same F F') : ShpF cg F' p k vs := by
  cases k with
  | ins c names =>
    obtain ⟨C, dx, z, h1, l⟩ := h
    exact ⟨C, dx, z, e _ _ h1, l⟩
  | dk keys => exact ⟨e _ _ h.1, h.2⟩
  | ls => exact e _ _ h
  | tp => exact e _ _ h
inductive Ow (K : PySem.W.Frag) (cg : Str → Option Value) (F H : Hp) : V → OD → (Addr → Prop) → Prop
  | dat {v : V} {d : PyData} {A : Addr → Prop} : Dq K F v d → (∀ q, ¬ A q) → Ow K cg F H v (.dat d) A
  | lst {p : Addr} {vs : List V} {ds : List PyData} {A : Addr → Prop} : H p = some (.lst vs) → F p = none → DqA K F vs ds → (∀ q, A q ↔ q = p) → Ow K cg F H (.ref p) (.lst ds) A
  | dk {p : Addr} {ks : List Key} {vs : List V} {ds : List PyData} {A : Addr → Prop} : H p = some (.dK (ks.zip vs)) → F p = none → ks.length = ds.length → DqA K F vs ds → (∀ q, A q ↔ q = p) → Ow K cg F H (.ref p) (.dk (ks.zip ds)) A
  | dt {p : Addr} {ks : List (List Key)} {vs : List V} {ds : List PyData} {A : Addr → Prop} : H p = some (.dT (ks.zip vs)) → F p = none → ks.length = ds.length → DqA K F vs ds → (∀ q, A q ↔ q = p) → Ow K cg F H (.ref p) (.dt (ks.zip ds)) A
  | nd {p : Addr} {k : Kd} {vs : List V} {os : List OD} {L : Nat → Addr → Prop} {A : Addr → Prop} : Shp cg H p k vs → F p = none → vs.length = os.length →
      (∀ (i : Nat) (v : V) (o : OD), vs[i]? = some v → os[i]? = some o → Ow K cg F H v o (L i)) → (∀ i j q, i ≠ j → L i q → L j q → False) → (∀ i, ¬ L i p) → (∀ i q, os.length ≤ i → ¬ L i q) →
      (∀ q, A q ↔ q = p ∨ ∃ i, L i q) → Ow K cg F H (.ref p) (.nd k os) A
  | scr {p : Addr} {ns : List Int} {A : Addr → Prop} : SqL K F p (ns.map V.int) → (∀ q, ¬ A q) → Ow K cg F H (.ref p) (.scr ns) A
  | exc {v : V} {A : Addr → Prop} : (∀ q, ¬ A q) → Ow K cg F H v .exc A
  | tk {p : Addr} {ks : List Key} {A : Addr → Prop} : F p = some (.tup (ks.map kV)) → (∀ q, ¬ A q) → Ow K cg F H (.ref p) (.tk ks) A
  | fz {p : Addr} {k : Kd} {vs : List V} {os : List OD} {L : Nat → Addr → Prop} {A : Addr → Prop} : ShpF cg F p k vs → vs.length = os.length →
      (∀ (i : Nat) (v : V) (o : OD), vs[i]? = some v → os[i]? = some o → Ow K cg F H v o (L i)) → (∀ i j q, i ≠ j → L i q → L j q → False) → (∀ i q, os.length ≤ i → ¬ L i q) →
      (∀ q, A q ↔ ∃ i, L i q) → Ow K cg F H (.ref p) (.fz k os) A
section
variable {K : PySem.W.Frag} {cg : Str → Option Value} {F F' H H' : Hp} {v : V} {o : OD} {A B : Addr → Prop}
theorem Ow.at {p : Addr} (h : Ow K cg F H v o A) (hp : A p) : F p = none ∧ ∃ u, H p = some u := by
  induction h with
  | dat h1 h2 => exact absurd hp (h2 p)
  | lst h1 h2 h3 h4 =>
    have e := (h4 p).mp hp
    subst e
    exact ⟨h2, _, h1⟩
  | dk h1 h2 hl h3 h4 =>
    have e := (h4 p).mp hp
    subst e
    exact ⟨h2, _, h1⟩
  | dt h1 h2 hl h3 h4 =>
    have e := (h4 p).mp hp
    subst e
    exact ⟨h2, _, h1⟩
  | @nd p' k vs os L A h1 h2 h3 h4 h5 h6 h7 h8 ih =>
    rcases (h8 p).mp hp with e | ⟨i, hi⟩
    · subst e
      refine ⟨h2, ?_⟩
      cases k with
      | ins c names =>
        obtain ⟨C, dx, _, e, _⟩ := h1
        exact ⟨_, e⟩
      | dk keys => exact ⟨_, h1.1⟩
      | ls => exact ⟨_, h1⟩
      | tp => exact h1.elim
    · have hlt : i < os.length := by
        rcases Nat.lt_or_ge i os.length with z | z
        · exact z
        · exact absurd hi (h7 i p z)
      exact ih i (vs[i]'(by omega)) (os[i]) (List.getElem?_eq_getElem (by omega)) (List.getElem?_eq_getElem hlt) hi
  | scr h1 h2 => exact absurd hp (h2 p)
  | exc h2 => exact absurd hp (h2 p)
  | tk h1 h2 => exact absurd hp (h2 p)
  | @fz p' k vs os L A h1 h3 h4 h5 h7 h8 ih =>
    obtain ⟨i, hi⟩ := (h8 p).mp hp
    have hlt : i < os.length := by
      rcases Nat.lt_or_ge i os.length with z | z
      · exact z
      · exact absurd hi (h7 i p z)
    exact ih i (vs[i]'(by omega)) (os[i]) (List.getElem?_eq_getElem (by omega)) (List.getElem?_eq_getElem hlt) hi
theorem Ow.mo (h : Ow K cg F H v o A) (e : Same F F') (hk : ∀ p, A p → H' p = H p) (hf : ∀ p, A p → F' p = none) : Ow K cg F' H' v o A := by
  induction h with
  | dat h1 h2 => exact .dat (dp_mo h1 e) h2
  | lst h1 h2 h3 h4 => exact .lst ((hk _ ((h4 _).mpr rfl)).trans h1) (hf _ ((h4 _).mpr rfl)) (dpa_mo h3 e) h4
  | dk h1 h2 hl h3 h4 => exact .dk ((hk _ ((h4 _).mpr rfl)).trans h1) (hf _ ((h4 _).mpr rfl)) hl (dpa_mo h3 e) h4
  | dt h1 h2 hl h3 h4 => exact .dt ((hk _ ((h4 _).mpr rfl)).trans h1) (hf _ ((h4 _).mpr rfl)) hl (dpa_mo h3 e) h4
  | @nd p k vs os L A h1 h2 h3 h4 h5 h6 h7 h8 ih =>
    have hp := (h8 p).mpr (.inl rfl)
    refine .nd ?_ (hf _ hp) h3 (fun i v o e1 e2 => ih i v o e1 e2 (fun q hq => hk q ((h8 q).mpr (.inr ⟨i, hq⟩))) (fun q hq => hf q ((h8 q).mpr (.inr ⟨i, hq⟩)))) h5 h6 h7 h8
    cases k with
    | ins c names =>
      obtain ⟨C, dx, z, e, l⟩ := h1
      exact ⟨C, dx, z, (hk _ hp).trans e, l⟩
    | dk keys => exact ⟨(hk _ hp).trans h1.1, h1.2⟩
    | ls => exact (hk _ hp).trans h1
    | tp => exact h1.elim
  | scr h1 h2 => exact .scr (sql_mono e h1) h2
  | exc h2 => exact .exc h2
  | tk h1 h2 => exact .tk (e _ _ h1) h2
  | @fz p k vs os L A h1 h3 h4 h5 h7 h8 ih => exact .fz (h1.mo e) h3 (fun i v o e1 e2 => ih i v o e1 e2 (fun q hq => hk q ((h8 q).mpr ⟨i, hq⟩)) (fun q hq => hf q ((h8 q).mpr ⟨i, hq⟩))) h5 h7 h8
theorem Ow.iff (h : Ow K cg F H v o A) (e : ∀ q, B q ↔ A q) : Ow K cg F H v o B := by
  cases h with
  | dat h1 h2 => exact .dat h1 fun q z => h2 q ((e q).mp z)
  | lst h1 h2 h3 h4 => exact .lst h1 h2 h3 fun q => (e q).trans (h4 q)
  | dk h1 h2 hl h3 h4 => exact .dk h1 h2 hl h3 fun q => (e q).trans (h4 q)
  | dt h1 h2 hl h3 h4 => exact .dt h1 h2 hl h3 fun q => (e q).trans (h4 q)
  | nd h1 h2 h3 h4 h5 h6 h7 h8 => exact .nd h1 h2 h3 h4 h5 h6 h7 fun q => (e q).trans (h8 q)
  | scr h1 h2 => exact .scr h1 fun q z => h2 q ((e q).mp z)
  | exc h2 => exact .exc fun q z => h2 q ((e q).mp z)
  | tk h1 h2 => exact .tk h1 fun q z => h2 q ((e q).mp z)
  | fz h1 h3 h4 h5 h7 h8 => exact .fz h1 h3 h4 h5 h7 fun q => (e q).trans (h8 q)
end

/-! ### freezing -/
/-- a key as data -/
def kD : Key → PyData
  | .inl i => .int i
  | .inr x => .str x
theorem dqa_keys {K : PySem.W.Frag} {F : Hp} : ∀ ks : List Key, DqA K F (ks.map kV) (ks.map kD)
  | [] => .nil
  | .inl i :: ks => .cons (.int i) (dqa_keys ks)
  | .inr x :: ks => .cons (.str x) (dqa_keys ks)
mutual
def OD.frz : OD → Option PyData
  | .dat d => some d
  | .lst ds => some (.list ds)
  | .dk _ => none
  | .dt _ => none
  | .nd .ls os => (frzAll os).map PyData.list
  | .nd _ _ => none
  | .scr _ => none
  | .exc => none
  | .tk ks => some (.tuple (ks.map kD))
  | .fz .ls os => (frzAll os).map PyData.list
  | .fz .tp os => (frzAll os).map PyData.tuple
  | .fz _ _ => none
def frzAll : List OD → Option (List PyData)
  | [] => some []
  | o :: os => match o.frz, frzAll os with
    | some d, some ds => some (d :: ds)
    | _, _ => none
end
theorem frzAll_get : ∀ {os : List OD} {ds : List PyData} {i : Nat} {o : OD}, frzAll os = some ds → os[i]? = some o → ∃ d, o.frz = some d ∧ ds[i]? = some d
  | [], _, _, _, _, e => by simp at e
  | a :: os, ds, i, o, h, e => by
    unfold frzAll at h
    cases ha : a.frz with
    | none =>
      rw [ha] at h
      cases h
    | some d =>
      cases hs : frzAll os with
      | none =>
        rw [ha, hs] at h
        cases h
      | some ds' =>
        rw [ha, hs] at h
        cases h
        cases i with
        | zero =>
          simp at e
          subst e
          exact ⟨d, ha, rfl⟩
        | succ i => exact frzAll_get (i := i) hs (by simpa using e)
theorem frzAll_len : ∀ {os : List OD} {ds : List PyData}, frzAll os = some ds → ds.length = os.length
  | [], _, h => by
    unfold frzAll at h
    cases h
    rfl
  | a :: os, ds, h => by
    unfold frzAll at h
    cases ha : a.frz with
    | none =>
      rw [ha] at h
      cases h
    | some d =>
      cases hs : frzAll os with
      | none =>
        rw [ha, hs] at h
        cases h
      | some ds' =>
        rw [ha, hs] at h
        cases h
        exact congrArg Nat.succ (frzAll_len hs)
theorem dpa_of {K : PySem.W.Frag} {F : Hp} : ∀ {vs : List V} {ds : List PyData}, vs.length = ds.length → (∀ (i : Nat) (v : V) (d : PyData), vs[i]? = some v → ds[i]? = some d → Dq K F v d) → DqA K F vs ds
  | [], [], _, _ => .nil
  | [], _ :: _, h, _ => by simp at h
  | _ :: _, [], h, _ => by simp at h
  | v :: vs, d :: ds, h, f => .cons (f 0 v d rfl rfl) (dpa_of (by simpa using h) fun i x y e1 e2 => f (i + 1) x y (by simpa using e1) (by simpa using e2))
open Classical in
/-- the frozen part with what stands at A added -/
noncomputable def more (F H : Hp) (A : Addr → Prop) : Hp := fun p => if A p then H p else F p
theorem more_in {F H : Hp} {A : Addr → Prop} {p : Addr} (h : A p) : more F H A p = H p := by
  unfold more
  rw [if_pos h]
theorem more_out {F H : Hp} {A : Addr → Prop} {p : Addr} (h : ¬ A p) : more F H A p = F p := by
  unfold more
  rw [if_neg h]
theorem more_same {F H : Hp} {A : Addr → Prop} (h : ∀ p, A p → F p = none) : Same F (more F H A) := fun p u e => by
  by_cases hp : A p
  · rw [h p hp] at e
    cases e
  · rw [more_out hp]
    exact e
theorem more_heap {F H : Hp} {A : Addr → Prop} (h : Same F H) : Same (more F H A) H := fun p u e => by
  by_cases hp : A p
  · rw [more_in hp] at e
    exact e
  · rw [more_out hp] at e
    exact h p u e
theorem Ow.freeze {K : PySem.W.Frag} {cg : Str → Option Value} {F F' H : Hp} {v : V} {o : OD} {A : Addr → Prop} {d : PyData} (h : Ow K cg F H v o A) (hd : o.frz = some d) (e : Same F F') (hk : ∀ p, A p → F' p = H p) : Dq K F' v d := by
  induction h generalizing d with
  | dat h1 h2 =>
    unfold OD.frz at hd
    cases hd
    exact dp_mo h1 e
  | lst h1 h2 h3 h4 =>
    unfold OD.frz at hd
    cases hd
    exact .lst ((hk _ ((h4 _).mpr rfl)).trans h1) (dpa_mo h3 e)
  | dk h1 h2 hl h3 h4 =>
    unfold OD.frz at hd
    cases hd
  | dt h1 h2 hl h3 h4 =>
    unfold OD.frz at hd
    cases hd
  | @nd p k vs os L A h1 h2 h3 h4 h5 h6 h7 h8 ih =>
    cases k with
    | ins c names =>
      simp [OD.frz] at hd
    | dk keys =>
      simp [OD.frz] at hd
    | ls =>
      unfold OD.frz at hd
      cases hs : frzAll os with
      | none =>
        rw [hs] at hd
        cases hd
      | some ds =>
        rw [hs] at hd
        cases hd
        refine .lst ((hk _ ((h8 p).mpr (.inl rfl))).trans h1) (dpa_of (h3.trans (frzAll_len hs).symm) fun i v d e1 e2 => ?_)
        have hi : i < os.length := by
          have := (List.getElem?_eq_some_iff.mp e1).1
          omega
        obtain ⟨d', f1, f2⟩ := frzAll_get hs (List.getElem?_eq_getElem hi)
        rw [e2] at f2
        cases f2
        exact ih i v _ e1 (List.getElem?_eq_getElem hi) f1 fun q hq => hk q ((h8 q).mpr (.inr ⟨i, hq⟩))
    | tp => exact h1.elim
  | scr h1 h2 =>
    unfold OD.frz at hd
    cases hd
  | exc h2 =>
    unfold OD.frz at hd
    cases hd
  | tk h1 h2 =>
    unfold OD.frz at hd
    cases hd
    exact .tup (.of (e _ _ h1)) (dqa_keys _)
  | @fz p k vs os L A h1 h3 h4 h5 h7 h8 ih =>
    have parts : ∀ ds, frzAll os = some ds → DqA K F' vs ds := fun ds hs => by
      refine dpa_of (h3.trans (frzAll_len hs).symm) fun i v d e1 e2 => ?_
      have hi : i < os.length := by
        have := (List.getElem?_eq_some_iff.mp e1).1
        omega
      obtain ⟨d', f1, f2⟩ := frzAll_get hs (List.getElem?_eq_getElem hi)
      rw [e2] at f2
      cases f2
      exact ih i v _ e1 (List.getElem?_eq_getElem hi) f1 fun q hq => hk q ((h8 q).mpr ⟨i, hq⟩)
    cases k with
    | ins c names => simp [OD.frz] at hd
    | dk keys => simp [OD.frz] at hd
    | ls =>
      unfold OD.frz at hd
      obtain ⟨ds, hs, rfl⟩ := Option.map_eq_some_iff.mp hd
      exact .lst (e _ _ h1) (parts ds hs)
    | tp =>
      unfold OD.frz at hd
      obtain ⟨ds, hs, rfl⟩ := Option.map_eq_some_iff.mp hd
      exact .tup (.of (e _ _ h1)) (parts ds hs)

/-- not there, or a tuple: what no one owns -/
def Nw (H : Hp) (p : Addr) : Prop := H p = none ∨ ∃ vs, H p = some (.tup vs)
theorem Nw.not {H : Hp} {p : Addr} {u : HO} (h : H p = some u) (n : ∀ vs, u ≠ .tup vs) : ¬ Nw H p := fun z => by
  rcases z with z | ⟨vs, z⟩
  · rw [h] at z
    cases z
  · rw [h] at z
    cases z
    exact n _ rfl
theorem Nw.back {H H1 : Hp} {p : Addr} (k : ∀ u, H p = some u → H1 p = some u) (h : Nw H1 p) : Nw H p := by
  cases e : H p with
  | none => exact .inl e
  | some u =>
    have e1 := k u e
    rcases h with h | ⟨vs, h⟩
    · rw [h] at e1
      cases e1
    · rw [h] at e1
      cases e1
      exact .inr ⟨vs, e⟩
theorem Ow.nn {K : PySem.W.Frag} {cg : Str → Option Value} {F H : Hp} {v : V} {o : OD} {A : Addr → Prop} {p : Addr} (h : Ow K cg F H v o A) (hp : A p) : ¬ Nw H p := by
  induction h with
  | dat h1 h2 => exact absurd hp (h2 p)
  | lst h1 h2 h3 h4 =>
    have e := (h4 p).mp hp
    subst e
    exact Nw.not h1 fun _ z => nomatch z
  | dk h1 h2 hl h3 h4 =>
    have e := (h4 p).mp hp
    subst e
    exact Nw.not h1 fun _ z => nomatch z
  | dt h1 h2 hl h3 h4 =>
    have e := (h4 p).mp hp
    subst e
    exact Nw.not h1 fun _ z => nomatch z
  | @nd p' k vs os L A h1 h2 h3 h4 h5 h6 h7 h8 ih =>
    rcases (h8 p).mp hp with e | ⟨i, hi⟩
    · subst e
      cases k with
      | ins c names =>
        obtain ⟨C, dx, _, e, _⟩ := h1
        exact Nw.not e fun _ z => nomatch z
      | dk keys => exact Nw.not h1.1 fun _ z => nomatch z
      | ls => exact Nw.not h1 fun _ z => nomatch z
      | tp => exact h1.elim
    · have hlt : i < os.length := by
        rcases Nat.lt_or_ge i os.length with z | z
        · exact z
        · exact absurd hi (h7 i p z)
      exact ih i (vs[i]'(by omega)) (os[i]) (List.getElem?_eq_getElem (by omega)) (List.getElem?_eq_getElem hlt) hi
  | scr h1 h2 => exact absurd hp (h2 p)
  | exc h2 => exact absurd hp (h2 p)
  | tk h1 h2 => exact absurd hp (h2 p)
  | @fz p' k vs os L A h1 h3 h4 h5 h7 h8 ih =>
    obtain ⟨i, hi⟩ := (h8 p).mp hp
    have hlt : i < os.length := by
      rcases Nat.lt_or_ge i os.length with z | z
      · exact z
      · exact absurd hi (h7 i p z)
    exact ih i (vs[i]'(by omega)) (os[i]) (List.getElem?_eq_getElem (by omega)) (List.getElem?_eq_getElem hlt) hi

/-! ### steps -/
/-- from (S, F, H) to (S', F', H'): S what may be changed -/
structure Stp (S : Addr → Prop) (F H : Hp) (S' : Addr → Prop) (F' H' : Hp) : Prop where
  keep : ∀ p u, ¬ S p → H p = some u → H' p = some u
  fr : Same F F'
  nw : ∀ p u, F' p = some u → (∃ z, F p = some z) ∨ Nw H p ∨ S p
  fp : ∀ p, S' p → S p ∨ H p = none
  fh : Same F' H'
/-- a step that changes nothing -/
structure Pst (F H F' H' : Hp) : Prop where
  keep : Same H H'
  fr : Same F F'
  nw : ∀ p u, F' p = some u → (∃ z, F p = some z) ∨ Nw H p
  fh : Same F' H'
section
variable {S S' S1 S2 : Addr → Prop} {F F' F1 F2 H H' H1 H2 : Hp}
theorem Pst.refl (h : Same F H) : Pst F H F H := ⟨fun _ _ e => e, fun _ _ e => e, fun _ _ e => .inl ⟨_, e⟩, h⟩
theorem Pst.trans (a : Pst F H F1 H1) (b : Pst F1 H1 F2 H2) : Pst F H F2 H2 :=
  ⟨fun p u e => b.keep p u (a.keep p u e), fun p u e => b.fr p u (a.fr p u e), fun p u e => by
    rcases b.nw p u e with ⟨z, h⟩ | h
    · exact a.nw p z h
    · exact .inr (h.back fun u => a.keep p u), b.fh⟩
theorem Stp.refl (h : Same F H) : Stp S F H S F H := ⟨fun _ _ _ e => e, fun _ _ e => e, fun _ _ e => .inl ⟨_, e⟩, fun _ h => .inl h, h⟩
theorem Stp.none (a : Stp S F H S1 F1 H1) {p : Addr} (h : H1 p = none) : H p = none ∨ S p := by
  cases e : H p with
  | none => exact .inl rfl
  | some u =>
    by_cases hs : S p
    · exact .inr hs
    · rw [a.keep p u hs e] at h
      cases h
theorem Stp.trans (a : Stp S F H S1 F1 H1) (b : Stp S1 F1 H1 S2 F2 H2) : Stp S F H S2 F2 H2 := by
  refine ⟨fun p u hs e => b.keep p u (fun z => ?_) (a.keep p u hs e), fun p u e => b.fr p u (a.fr p u e), fun p u e => ?_, fun p h => ?_, b.fh⟩
  · rcases a.fp p z with q | q
    · exact hs q
    · rw [q] at e
      cases e
  · rcases b.nw p u e with ⟨z, h⟩ | h | h
    · exact a.nw p z h
    · by_cases hs : S p
      · exact .inr (.inr hs)
      · exact .inr (.inl (h.back fun u => a.keep p u hs))
    · exact .inr ((a.fp p h).symm.imp .inl id)
  · rcases b.fp p h with q | q
    · exact a.fp p q
    · exact (a.none q).symm
theorem Pst.stp (a : Pst F H F' H') : Stp S F H S F' H' := ⟨fun p u _ e => a.keep p u e, a.fr, fun p u e => (a.nw p u e).elim .inl fun h => .inr (.inl h), fun _ h => .inl h, a.fh⟩
theorem Stp.sub (a : Stp S F H S1 F1 H1) (h : ∀ p, S2 p → S1 p) : Stp S F H S2 F1 H1 := ⟨a.keep, a.fr, a.nw, fun p z => a.fp p (h p z), a.fh⟩
end

/-! ### the slots -/
def SlOk (K : PySem.W.Frag) (cg : Str → Option Value) (F H : Hp) (pv : Pv) (σ : L2.St) (g : Gm) (i : Nat) (A : Addr → Prop) : Prop :=
  match gt g i with
  | .no => ∀ q, ¬ A q
  | .v o => ∃ v, σ[i]? = some (some v) ∧ Ow K cg F H v o A
  | .pin o => ∃ v, σ[i]? = some (some v) ∧ pv i = some v ∧ Ow K cg F H v o A
  | .al j n => (∃ v p k vs, σ[i]? = some (some v) ∧ pv j = some (.ref p) ∧ ShpF cg F p k vs ∧ vs[n]? = some v) ∧ ∀ q, ¬ A q
  | .xc => (∃ v, σ[i]? = some (some v) ∧ pv.x i = some v) ∧ ∀ q, ¬ A q
/-- the slots σ over the heap H hold the data g; pv: the arguments, S: what is owned -/
structure Rel (K : PySem.W.Frag) (cg : Cg) (pv : Pv) (g : Gm) (σ : L2.St) (S : Addr → Prop) (F H : Hp) : Prop where
  fh : Same F H
  len : g.length = σ.length
  z : cg.Z pv
  ex : ∃ L : Nat → Addr → Prop, (∀ i, SlOk K cg F H pv σ g i (L i)) ∧ (∀ i j q, i ≠ j → L i q → L j q → False) ∧ ∀ q, S q ↔ ∃ i, L i q
section
variable {K : PySem.W.Frag} {cg : Cg} {pvs : Pv} {g : Gm} {σ : L2.St} {S S' A : Addr → Prop} {F F' H H' : Hp} {v : V} {o : OD} {i : Nat}
theorem SlOk.at {p : Addr} (h : SlOk K cg F H pvs σ g i A) (hp : A p) : F p = none ∧ ∃ u, H p = some u := by
  unfold SlOk at h
  split at h
  · exact absurd hp (h p)
  · obtain ⟨v, _, q⟩ := h
    exact q.at hp
  · obtain ⟨v, _, _, q⟩ := h
    exact q.at hp
  · exact absurd hp (h.2 p)
  · exact absurd hp (h.2 p)
theorem SlOk.nn {p : Addr} (h : SlOk K cg F H pvs σ g i A) (hp : A p) : ¬ Nw H p := by
  unfold SlOk at h
  split at h
  · exact absurd hp (h p)
  · obtain ⟨v, _, q⟩ := h
    exact q.nn hp
  · obtain ⟨v, _, _, q⟩ := h
    exact q.nn hp
  · exact absurd hp (h.2 p)
  · exact absurd hp (h.2 p)
theorem SlOk.mo (h : SlOk K cg F H pvs σ g i A) (e : Same F F') (hk : ∀ p, A p → H' p = H p) (hf : ∀ p, A p → F' p = none) : SlOk K cg F' H' pvs σ g i A := by
  unfold SlOk at h ⊢
  split at h
  · exact h
  · obtain ⟨v, e1, q⟩ := h
    exact ⟨v, e1, q.mo e hk hf⟩
  · obtain ⟨v, e1, e2, q⟩ := h
    exact ⟨v, e1, e2, q.mo e hk hf⟩
  · obtain ⟨⟨v, p, k, vs, e1, e2, e3, e4⟩, q⟩ := h
    exact ⟨⟨v, p, k, vs, e1, e2, e3.mo e, e4⟩, q⟩
  · exact h
theorem Rel.at {p : Addr} (r : Rel K cg pvs g σ S F H) (hp : S p) : F p = none ∧ ∃ u, H p = some u := by
  obtain ⟨L, h1, h2, h3⟩ := r.ex
  obtain ⟨i, hi⟩ := (h3 p).mp hp
  exact (h1 i).at hi
theorem Rel.nn {p : Addr} (r : Rel K cg pvs g σ S F H) (hp : S p) : ¬ Nw H p := by
  obtain ⟨L, h1, h2, h3⟩ := r.ex
  obtain ⟨i, hi⟩ := (h3 p).mp hp
  exact (h1 i).nn hi
/-- what is not owned changes -/
theorem Rel.mo (r : Rel K cg pvs g σ S F H) (e : Same F F') (hk : ∀ p, S p → H' p = H p) (hf : ∀ p, S p → F' p = none) (fh : Same F' H') : Rel K cg pvs g σ S F' H' := by
  obtain ⟨L, h1, h2, h3⟩ := r.ex
  exact ⟨fh, r.len, r.z, L, fun i => (h1 i).mo e (fun p hp => hk p ((h3 p).mpr ⟨i, hp⟩)) (fun p hp => hf p ((h3 p).mpr ⟨i, hp⟩)), h2, h3⟩
theorem Rel.pst (r : Rel K cg pvs g σ S F H) (a : Pst F H F' H') : Rel K cg pvs g σ S F' H' := by
  refine r.mo a.fr (fun p hp => ?_) (fun p hp => ?_) a.fh
  · obtain ⟨_, u, e⟩ := r.at hp
    rw [e, a.keep p u e]
  · obtain ⟨f, u, e⟩ := r.at hp
    cases q : F' p with
    | none => rfl
    | some z =>
      rcases a.nw p z q with ⟨y, h⟩ | h
      · rw [f] at h
        cases h
      · exact absurd h (r.nn hp)
/-- a step of things that are owned apart -/
theorem Rel.stp (r : Rel K cg pvs g σ S F H) {A A' : Addr → Prop} (a : Stp A F H A' F' H') (hd : ∀ p, S p → A p → False) : Rel K cg pvs g σ S F' H' := by
  refine r.mo a.fr (fun p hp => ?_) (fun p hp => ?_) a.fh
  · obtain ⟨_, u, e⟩ := r.at hp
    rw [e, a.keep p u (fun z => hd p hp z) e]
  · obtain ⟨f, u, e⟩ := r.at hp
    cases q : F' p with
    | none => rfl
    | some z =>
      rcases a.nw p z q with ⟨y, h⟩ | h | h
      · rw [f] at h
        cases h
      · exact absurd h (r.nn hp)
      · exact (hd p hp h).elim
theorem Rel.val (r : Rel K cg pvs g σ S F H) (e : gt g i = .v o) : ∃ v A, σ[i]? = some (some v) ∧ Ow K cg F H v o A ∧ ∀ q, A q → S q := by
  obtain ⟨L, h1, h2, h3⟩ := r.ex
  have h := h1 i
  unfold SlOk at h
  rw [e] at h
  obtain ⟨v, e1, q⟩ := h
  exact ⟨v, L i, e1, q, fun q hq => (h3 q).mpr ⟨i, hq⟩⟩
def Sl.od : Sl → Option OD
  | .no => none
  | .v o => some o
  | .pin o => some o
  | .al _ _ => none
  | .xc => none
def Sl.with : Sl → OD → Sl
  | .no, _ => .no
  | .v _, o => .v o
  | .pin _, o => .pin o
  | .al i j, _ => .al i j
  | .xc, _ => .xc
/-- a slot is taken out: what it holds, and how a change of it comes back -/
theorem Rel.take (r : Rel K cg pvs g σ S F H) (e : (gt g i).od = some o) : ∃ (v : V) (A S1 : Addr → Prop), σ[i]? = some (some v) ∧ Ow K cg F H v o A ∧ (∀ q, S q ↔ A q ∨ S1 q) ∧ (∀ q, A q → S1 q → False) ∧
    ∀ o' A' F' H', Stp A F H A' F' H' → Ow K cg F' H' v o' A' → Rel K cg pvs (st g i ((gt g i).with o')) σ (fun q => A' q ∨ S1 q) F' H' ∧ Stp S F H (fun q => A' q ∨ S1 q) F' H' := by
  obtain ⟨L, h1, h2, h3⟩ := r.ex
  have hi : i < g.length := gt_lt fun z => by
    rw [z] at e
    cases e
  have h := h1 i
  unfold SlOk at h
  have key : ∃ v, σ[i]? = some (some v) ∧ Ow K cg F H v o (L i) ∧ ∀ o' A' F' H', Ow K cg F' H' v o' A' → SlOk K cg F' H' pvs σ (st g i ((gt g i).with o')) i A' := by
    cases q : gt g i with
    | no =>
      rw [q] at e
      cases e
    | v o1 =>
      rw [q] at e h
      cases e
      obtain ⟨v, e1, h⟩ := h
      refine ⟨v, e1, h, fun o' A' F' H' w => ?_⟩
      unfold SlOk
      rw [gt_st hi]
      exact ⟨v, e1, w⟩
    | pin o1 =>
      rw [q] at e h
      cases e
      obtain ⟨v, e1, e2, h⟩ := h
      refine ⟨v, e1, h, fun o' A' F' H' w => ?_⟩
      unfold SlOk
      rw [gt_st hi]
      exact ⟨v, e1, e2, w⟩
    | al j n =>
      rw [q] at e
      cases e
    | xc =>
      rw [q] at e
      cases e
  obtain ⟨v, e1, ow, back⟩ := key
  refine ⟨v, L i, fun q => ∃ j, j ≠ i ∧ L j q, e1, ow, fun q => ?_, fun q ha ⟨j, hj, hb⟩ => h2 j i q hj hb ha, fun o' A' F' H' a w => ?_⟩
  · refine ⟨fun hq => ?_, fun hq => ?_⟩
    · obtain ⟨j, hj⟩ := (h3 q).mp hq
      by_cases z : j = i
      · subst z
        exact .inl hj
      · exact .inr ⟨j, z, hj⟩
    · rcases hq with hq | ⟨j, _, hq⟩
      · exact (h3 q).mpr ⟨i, hq⟩
      · exact (h3 q).mpr ⟨j, hq⟩
  · have other : ∀ j, j ≠ i → ∀ p, L j p → H' p = H p ∧ F' p = none := fun j hj p hp => by
      obtain ⟨f, u, eu⟩ := (h1 j).at hp
      refine ⟨by rw [eu, a.keep p u (fun z => h2 j i p hj hp z) eu], ?_⟩
      cases q : F' p with
      | none => rfl
      | some z =>
        rcases a.nw p z q with ⟨y, hh⟩ | hh | hh
        · rw [f] at hh
          cases hh
        · exact absurd hh ((h1 j).nn hp)
        · exact (h2 j i p hj hp hh).elim
    refine ⟨⟨a.fh, by rw [st_len]; exact r.len, r.z, fun j => if j = i then A' else L j, fun j => ?_, fun j k q hjk hj hk => ?_, fun q => ?_⟩, ?_⟩
    · by_cases z : j = i
      · subst z
        simp only [if_true]
        exact back o' A' F' H' w
      · simp only [if_neg z]
        have b := (h1 j).mo a.fr (fun p hp => (other j z p hp).1) (fun p hp => (other j z p hp).2)
        unfold SlOk at b ⊢
        rw [gt_st_ne z]
        exact b
    · have cross : ∀ j, j ≠ i → L j q → A' q → False := fun j hj hl ha => by
        obtain ⟨_, u, eu⟩ := (h1 j).at hl
        rcases a.fp q ha with z | z
        · exact h2 j i q hj hl z
        · rw [eu] at z
          cases z
      by_cases z : j = i
      · subst z
        simp only [if_true] at hj
        by_cases y : k = j
        · exact hjk y.symm
        · simp only [if_neg y] at hk
          exact cross k y hk hj
      · simp only [if_neg z] at hj
        by_cases y : k = i
        · subst y
          simp only [if_true] at hk
          exact cross j z hj hk
        · simp only [if_neg y] at hk
          exact h2 j k q hjk hj hk
    · refine ⟨fun hq => ?_, fun ⟨j, hj⟩ => ?_⟩
      · rcases hq with hq | ⟨j, hj, hq⟩
        · exact ⟨i, by simp only [if_true]; exact hq⟩
        · exact ⟨j, by simp only [if_neg hj]; exact hq⟩
      · by_cases z : j = i
        · subst z
          simp only [if_true] at hj
          exact .inl hj
        · simp only [if_neg z] at hj
          exact .inr ⟨j, z, hj⟩
    · refine ⟨fun p u hs eu => a.keep p u (fun z => hs ((h3 p).mpr ⟨i, z⟩)) eu, a.fr, fun p u eu => ?_, fun p hp => ?_, a.fh⟩
      · rcases a.nw p u eu with z | z | z
        · exact .inl z
        · exact .inr (.inl z)
        · exact .inr (.inr ((h3 p).mpr ⟨i, z⟩))
      · rcases hp with z | ⟨j, _, z⟩
        · rcases a.fp p z with y | y
          · exact .inl ((h3 p).mpr ⟨i, y⟩)
          · exact .inr y
        · exact .inl ((h3 p).mpr ⟨j, z⟩)
/-- a slot is set -/
theorem Rel.set (r : Rel K cg pvs g σ S F H) (ow : Ow K cg F H v o A) (hd : ∀ q, A q → S q → False) (hi : i < σ.length) :
    ∃ S', Rel K cg pvs (st g i (.v o)) (σ.set i (some v)) S' F H ∧ ∀ q, S' q → S q ∨ A q := by
  obtain ⟨L, h1, h2, h3⟩ := r.ex
  have hg : i < g.length := by rw [r.len]; exact hi
  refine ⟨fun q => A q ∨ ∃ j, j ≠ i ∧ L j q, ⟨r.fh, by rw [st_len, List.length_set]; exact r.len, r.z, fun j => if j = i then A else L j, fun j => ?_, fun j k q hjk hj hk => ?_, fun q => ?_⟩, fun q hq => ?_⟩
  · by_cases z : j = i
    · subst z
      simp only [if_true]
      unfold SlOk
      rw [gt_st hg]
      exact ⟨v, by rw [List.getElem?_set_self hi], ow⟩
    · simp only [if_neg z]
      have b := h1 j
      unfold SlOk at b ⊢
      rw [gt_st_ne z, List.getElem?_set_ne (Ne.symm z)]
      exact b
  · have cross : ∀ j, L j q → A q → False := fun j hl ha => hd q ha ((h3 q).mpr ⟨j, hl⟩)
    by_cases z : j = i
    · subst z
      simp only [if_true] at hj
      by_cases y : k = j
      · exact hjk y.symm
      · simp only [if_neg y] at hk
        exact cross k hk hj
    · simp only [if_neg z] at hj
      by_cases y : k = i
      · subst y
        simp only [if_true] at hk
        exact cross j hj hk
      · simp only [if_neg y] at hk
        exact h2 j k q hjk hj hk
  · refine ⟨fun hq => ?_, fun ⟨j, hj⟩ => ?_⟩
    · rcases hq with hq | ⟨j, hj, hq⟩
      · exact ⟨i, by simp only [if_true]; exact hq⟩
      · exact ⟨j, by simp only [if_neg hj]; exact hq⟩
    · by_cases z : j = i
      · subst z
        simp only [if_true] at hj
        exact .inl hj
      · simp only [if_neg z] at hj
        exact .inr ⟨j, z, hj⟩
  · rcases hq with z | ⟨j, _, z⟩
    · exact .inr z
    · exact .inl ((h3 q).mpr ⟨j, z⟩)
/-- a slot is forgotten -/
theorem Rel.kill (r : Rel K cg pvs g σ S F H) (i : Nat) : ∃ S', Rel K cg pvs (st g i .no) σ S' F H ∧ ∀ q, S' q → S q := by
  obtain ⟨L, h1, h2, h3⟩ := r.ex
  refine ⟨fun q => ∃ j, j ≠ i ∧ L j q, ⟨r.fh, by rw [st_len]; exact r.len, r.z, fun j => if j = i then fun _ => False else L j, fun j => ?_, fun j k q hjk hj hk => ?_, fun q => ?_⟩, fun q ⟨j, _, hq⟩ => (h3 q).mpr ⟨j, hq⟩⟩
  · by_cases z : j = i
    · subst z
      simp only [if_true]
      unfold SlOk
      by_cases hg : j < g.length
      · rw [gt_st hg]
        exact fun q hq => hq
      · have e : gt (st g j .no) j = .no := by
          cases q : gt (st g j .no) j with
          | no => rfl
          | v o => exact absurd (gt_lt (g := st g j .no) (i := j) (by rw [q]; intro z; cases z)) (by rw [st_len]; exact hg)
          | pin o => exact absurd (gt_lt (g := st g j .no) (i := j) (by rw [q]; intro z; cases z)) (by rw [st_len]; exact hg)
          | al _ _ => exact absurd (gt_lt (g := st g j .no) (i := j) (by rw [q]; intro z; cases z)) (by rw [st_len]; exact hg)
          | xc => exact absurd (gt_lt (g := st g j .no) (i := j) (by rw [q]; intro z; cases z)) (by rw [st_len]; exact hg)
        rw [e]
        exact fun q hq => hq
    · simp only [if_neg z]
      have b := h1 j
      unfold SlOk at b ⊢
      rw [gt_st_ne z]
      exact b
  · by_cases z : j = i
    · simp only [if_pos z] at hj
    · by_cases y : k = i
      · simp only [if_pos y] at hk
      · simp only [if_neg z] at hj
        simp only [if_neg y] at hk
        exact h2 j k q hjk hj hk
  · refine ⟨fun ⟨j, hj, hq⟩ => ⟨j, by simp only [if_neg hj]; exact hq⟩, fun ⟨j, hj⟩ => ?_⟩
    by_cases z : j = i
    · simp only [if_pos z] at hj
    · simp only [if_neg z] at hj
      exact ⟨j, z, hj⟩
end
end VL
namespace VL
open PySem L2

/-- the own dict of an exception -/
def XOk (K : PySem.W.Frag) (F : Hp) (xs : List (Str × PyData)) (dop : Option Addr) : Prop :=
  match xs with
  | [] => dop = none
  | _ => ∃ d vs, dop = some d ∧ F d = some (.xd ((xs.map (·.1)).zip vs)) ∧ DqA K F vs (xs.map (·.2))
/-- a list that may be owned, read as data -/
def Vw (K : PySem.W.Frag) (F H : Hp) (v : V) (d : PyData) : Prop :=
  match d with
  | .list ds => ∃ p vs, v = .ref p ∧ H p = some (.lst vs) ∧ DqA K F vs ds
  | _ => Dq K F v d
theorem Dq.vw {K : PySem.W.Frag} {F H : Hp} {v : V} {d : PyData} (h : Dq K F v d) (e : Same F H) : Vw K F H v d := by
  cases h with
  | lst h1 h2 => exact ⟨_, _, rfl, e _ _ h1, h2⟩
  | non => exact .non
  | bl b => exact .bl b
  | int i => exact .int i
  | str x => exact .str x
  | tup h1 h2 => exact Dq.tup h1 h2
theorem Vw.pst {K : PySem.W.Frag} {F H F' H' : Hp} {v : V} {d : PyData} (h : Vw K F H v d) (a : Pst F H F' H') : Vw K F' H' v d := by
  cases d with
  | list ds =>
    obtain ⟨p, vs, e, h1, h2⟩ := h
    exact ⟨p, vs, e, a.keep _ _ h1, dpa_mo h2 a.fr⟩
  | none => exact dp_mo h a.fr
  | bool b => exact dp_mo h a.fr
  | int i => exact dp_mo h a.fr
  | str x => exact dp_mo h a.fr
  | tuple ds => exact dp_mo h a.fr
  | dict kvs => exact dp_mo h a.fr

/-! ### the mirror's monads -/
def Out.bind {α β : Type} (x : Out α) (k : α → Gm → Out β) : Out β :=
  match x with
  | .ok a g => k a g
  | .err e g => .err e g
  | .stk => .stk
def Out.of {α : Type} (x : Option α) (g : Gm) : Out α :=
  match x with
  | some a => .ok a g
  | none => .stk
def Res.bind {α β : Type} (x : Res α) (k : α → Res β) : Res β :=
  match x with
  | .ok a => k a
  | .err e => .err e
  | .stk => .stk
def Res.of {α : Type} (x : Option α) : Res α :=
  match x with
  | some a => .ok a
  | none => .stk
def up {α : Type} (x : Res α) (g : Gm) : Out α :=
  match x with
  | .ok a => .ok a g
  | .err e => .err e g
  | .stk => .stk

section
variable (K : PySem.W.Frag) (cg : Cg) (W : WX)
/-! ### what is wanted of a mirror's answer -/
def ErrP (pvs : Pv) (σ : L2.St) (S : Addr → Prop) (F H : Hp) (e : Er) (g : Gm) : Prop :=
  ∀ C dop S' F' H', Stp S F H S' F' H' → Rel K cg pvs g σ S' F' H' → cg e.c = some (.ref C) → XOk K F' e.xs dop → W (.ref C) dop σ H'
def PoV (pvs : Pv) (σ : L2.St) (S : Addr → Prop) (F H : Hp) (Q : VK) : Out PyData → Prop
  | .ok d g => ∀ v S' F' H', Stp S F H S' F' H' → Rel K cg pvs g σ S' F' H' → Dq K F' v d → Q v H'
  | .err e g => ErrP K cg W pvs σ S F H e g
  | .stk => False
def PoO (pvs : Pv) (σ : L2.St) (S : Addr → Prop) (F H : Hp) (Q : VK) : Out OD → Prop
  | .ok o g => ∀ v A S' F' H', Stp S F H (fun p => S' p ∨ A p) F' H' → Rel K cg pvs g σ S' F' H' → Ow K cg F' H' v o A → (∀ q, A q → S' q → False) → Q v H'
  | .err e g => ErrP K cg W pvs σ S F H e g
  | .stk => False
def PoT (pvs : Pv) (σ : L2.St) (S : Addr → Prop) (F H : Hp) (Q : Bool → Hp → Prop) : Out Bool → Prop
  | .ok b g => ∀ S' F' H', Stp S F H S' F' H' → Rel K cg pvs g σ S' F' H' → Q b H'
  | .err e g => ErrP K cg W pvs σ S F H e g
  | .stk => False
def PoA (pvs : Pv) (σ : L2.St) (S : Addr → Prop) (F H : Hp) (Q : List V → Hp → Prop) : Out (List PyData) → Prop
  | .ok ds g => ∀ vs S' F' H', Stp S F H S' F' H' → Rel K cg pvs g σ S' F' H' → DqA K F' vs ds → Q vs H'
  | .err e g => ErrP K cg W pvs σ S F H e g
  | .stk => False
def ErrQ (σ : L2.St) (F H : Hp) (e : Er) : Prop :=
  ∀ C dop F' H', Pst F H F' H' → cg e.c = some (.ref C) → XOk K F' e.xs dop → W (.ref C) dop σ H'
def PoP (σ : L2.St) (F H : Hp) (Q : VK) : Res PyData → Prop
  | .ok d => ∀ v F' H', Pst F H F' H' → Dq K F' v d → Q v H'
  | .err e => ErrQ K cg W σ F H e
  | .stk => False
def PoW (σ : L2.St) (F H : Hp) (Q : VK) : Res PyData → Prop
  | .ok d => ∀ v F' H', Pst F H F' H' → Vw K F' H' v d → Q v H'
  | .err e => ErrQ K cg W σ F H e
  | .stk => False
def PoR (σ : L2.St) (F H : Hp) (Q : VK) : Res OD → Prop
  | .ok o => ∀ v A F' H', Pst F H F' H' → Ow K cg F' H' v o A → (∀ q, A q → H q = none) → Q v H'
  | .err e => ErrQ K cg W σ F H e
  | .stk => False
inductive VwA (K : PySem.W.Frag) (F H : Hp) : List V → List PyData → Prop
  | nil : VwA K F H [] []
  | cons {v : V} {vs : List V} {d : PyData} {ds : List PyData} : Vw K F H v d → VwA K F H vs ds → VwA K F H (v :: vs) (d :: ds)
def PoWA (σ : L2.St) (F H : Hp) (Q : List V → Hp → Prop) : Res (List PyData) → Prop
  | .ok ds => ∀ vs F' H', Pst F H F' H' → VwA K F' H' vs ds → Q vs H'
  | .err e => ErrQ K cg W σ F H e
  | .stk => False

/-! ### readings that mirror: V data, O owned, T a test, A arguments; P, R, W, WA the same without a change of the slots (W: a view) -/
def RV (t : TE) (m : Gm → Out PyData) : Prop := ∀ pvs g σ S F H Q, Rel K cg pvs g σ S F H → PoV K cg W pvs σ S F H Q (m g) → t σ H Q
def RO (t : TE) (m : Gm → Out OD) : Prop := ∀ pvs g σ S F H Q, Rel K cg pvs g σ S F H → PoO K cg W pvs σ S F H Q (m g) → t σ H Q
def RT (t : TT) (m : Gm → Out Bool) : Prop := ∀ pvs g σ S F H Q, Rel K cg pvs g σ S F H → PoT K cg W pvs σ S F H Q (m g) → t σ H Q
def RA (t : TA) (m : Gm → Out (List PyData)) : Prop := ∀ pvs g σ S F H Q, Rel K cg pvs g σ S F H → PoA K cg W pvs σ S F H Q (m g) → t σ H Q
def RP (t : TE) (m : Gm → Res PyData) : Prop := ∀ pvs g σ S F H Q, Rel K cg pvs g σ S F H → PoP K cg W σ F H Q (m g) → t σ H Q
def RW (t : TE) (m : Gm → Res PyData) : Prop := ∀ pvs g σ S F H Q, Rel K cg pvs g σ S F H → PoW K cg W σ F H Q (m g) → t σ H Q
def RR (t : TE) (m : Gm → Res OD) : Prop := ∀ pvs g σ S F H Q, Rel K cg pvs g σ S F H → PoR K cg W σ F H Q (m g) → t σ H Q
def RWA (t : TA) (m : Gm → Res (List PyData)) : Prop := ∀ pvs g σ S F H Q, Rel K cg pvs g σ S F H → PoWA K cg W σ F H Q (m g) → t σ H Q
end
section
variable {K : PySem.W.Frag} {cg : Cg} {W : WX} {pvs : Pv} {g : Gm} {σ : L2.St} {S S1 S' A : Addr → Prop} {F F1 F' H H1 H' : Hp}
theorem ErrP.st {e : Er} (h : ErrP K cg W pvs σ S F H e g) (a : Stp S F H S1 F1 H1) : ErrP K cg W pvs σ S1 F1 H1 e g := fun C dop S' F' H' b r c x => h C dop S' F' H' (a.trans b) r c x
theorem PoV.st {Q : VK} {x : Out PyData} (h : PoV K cg W pvs σ S F H Q x) (a : Stp S F H S1 F1 H1) : PoV K cg W pvs σ S1 F1 H1 Q x := by
  cases x with
  | ok d g => exact fun v S' F' H' b r c => h v S' F' H' (a.trans b) r c
  | err e g => exact ErrP.st h a
  | stk => exact h
theorem PoO.st {Q : VK} {x : Out OD} (h : PoO K cg W pvs σ S F H Q x) (a : Stp S F H S1 F1 H1) : PoO K cg W pvs σ S1 F1 H1 Q x := by
  cases x with
  | ok d g => exact fun v A S' F' H' b r c => h v A S' F' H' (a.trans b) r c
  | err e g => exact ErrP.st h a
  | stk => exact h
theorem PoT.st {Q : Bool → Hp → Prop} {x : Out Bool} (h : PoT K cg W pvs σ S F H Q x) (a : Stp S F H S1 F1 H1) : PoT K cg W pvs σ S1 F1 H1 Q x := by
  cases x with
  | ok d g => exact fun S' F' H' b r => h S' F' H' (a.trans b) r
  | err e g => exact ErrP.st h a
  | stk => exact h
theorem PoA.st {Q : List V → Hp → Prop} {x : Out (List PyData)} (h : PoA K cg W pvs σ S F H Q x) (a : Stp S F H S1 F1 H1) : PoA K cg W pvs σ S1 F1 H1 Q x := by
  cases x with
  | ok d g => exact fun v S' F' H' b r c => h v S' F' H' (a.trans b) r c
  | err e g => exact ErrP.st h a
  | stk => exact h
theorem ErrQ.ps {e : Er} (h : ErrQ K cg W σ F H e) (a : Pst F H F1 H1) : ErrQ K cg W σ F1 H1 e := fun C dop F' H' b c x => h C dop F' H' (a.trans b) c x
theorem ErrQ.up {e : Er} (h : ErrP K cg W pvs σ S F H e g) (r : Rel K cg pvs g σ S F H) : ErrQ K cg W σ F H e := fun C dop F' H' b c x => h C dop S F' H' b.stp (r.pst b) c x
theorem PoP.ps {Q : VK} {x : Res PyData} (h : PoP K cg W σ F H Q x) (a : Pst F H F1 H1) : PoP K cg W σ F1 H1 Q x := by
  cases x with
  | ok d => exact fun v F' H' b c => h v F' H' (a.trans b) c
  | err e => exact ErrQ.ps h a
  | stk => exact h
theorem PoW.ps {Q : VK} {x : Res PyData} (h : PoW K cg W σ F H Q x) (a : Pst F H F1 H1) : PoW K cg W σ F1 H1 Q x := by
  cases x with
  | ok d => exact fun v F' H' b c => h v F' H' (a.trans b) c
  | err e => exact ErrQ.ps h a
  | stk => exact h
theorem PoWA.ps {Q : List V → Hp → Prop} {x : Res (List PyData)} (h : PoWA K cg W σ F H Q x) (a : Pst F H F1 H1) : PoWA K cg W σ F1 H1 Q x := by
  cases x with
  | ok d => exact fun v F' H' b c => h v F' H' (a.trans b) c
  | err e => exact ErrQ.ps h a
  | stk => exact h
theorem PoR.ps {Q : VK} {x : Res OD} (h : PoR K cg W σ F H Q x) (a : Pst F H F1 H1) : PoR K cg W σ F1 H1 Q x := by
  cases x with
  | ok d => exact fun v A F' H' b c f => h v A F' H' (a.trans b) c fun q hq => a.keep.free (f q hq)
  | err e => exact ErrQ.ps h a
  | stk => exact h
theorem Pst.stpA (a : Pst F H F' H') (f : ∀ q, A q → H q = none) : Stp S F H (fun p => S p ∨ A p) F' H' :=
  ⟨fun p u _ e => a.keep p u e, a.fr, fun p u e => (a.nw p u e).elim .inl fun h => .inr (.inl h), fun p h => h.imp id (f p), a.fh⟩
/-- a new object is frozen at once -/
theorem pst_new {p : Addr} {o : HO} (e : Same F H) (hp : H p = none) : Pst F H (upd F p o) (upd H p o) := by
  have fp : F p = none := e.free hp
  refine ⟨fun b u h => ?_, fun b u h => ?_, fun b u h => ?_, fun b u h => ?_⟩
  · rw [upd_ne (ne_of_none h hp)]
    exact h
  · rw [upd_ne (ne_of_none h fp)]
    exact h
  · by_cases z : b = p
    · subst z
      exact .inr (.inl hp)
    · rw [upd_ne z] at h
      exact .inl ⟨u, h⟩
  · by_cases z : b = p
    · subst z
      rw [upd_same] at h ⊢
      exact h
    · rw [upd_ne z] at h ⊢
      exact e b u h
/-- a new object is owned -/
theorem pst_own {p : Addr} {o : HO} (e : Same F H) (hp : H p = none) : Pst F H F (upd H p o) := by
  refine ⟨fun b u h => ?_, fun b u h => h, fun b u h => .inl ⟨u, h⟩, fun b u h => ?_⟩
  · rw [upd_ne (ne_of_none h hp)]
    exact h
  · rw [upd_ne (ne_of_none (e b u h) hp)]
    exact e b u h
/-- what is owned is frozen -/
theorem stp_freeze {v : V} {o : OD} {d : PyData} (ow : Ow K cg F H v o A) (hd : o.frz = some d) (e : Same F H) : Dq K (more F H A) v d ∧ Stp (fun p => S p ∨ A p) F H S (more F H A) H := by
  refine ⟨ow.freeze hd (more_same fun p hp => (ow.at hp).1) fun p hp => more_in hp, fun p u _ h => h, more_same fun p hp => (ow.at hp).1, fun p u h => ?_, fun p h => .inl (.inl h), more_heap e⟩
  by_cases z : A p
  · exact .inr (.inr (.inr z))
  · rw [more_out z] at h
    exact .inl ⟨u, h⟩
theorem Rel.more {v : V} {o : OD} (r : Rel K cg pvs g σ S F H) (ow : Ow K cg F H v o A) (hd : ∀ q, A q → S q → False) : Rel K cg pvs g σ S (more F H A) H :=
  r.mo (more_same fun p hp => (ow.at hp).1) (fun _ _ => rfl) (fun p hp => by rw [more_out (fun z => hd p z hp)]; exact (r.at hp).1) (more_heap r.fh)

theorem Rel.apart (r : Rel K cg pvs g σ S F H) (f : ∀ q, A q → H q = none) : ∀ q, A q → S q → False := fun p hp hs => by
  obtain ⟨_, u, e⟩ := r.at hs
  rw [f p hp] at e
  cases e

/-! ### from one kind to another -/
theorem RP.v {t : TE} {m : Gm → Res PyData} (h : RP K cg W t m) : RV K cg W t (fun g => up (m g) g) := fun pvs g σ S F H Q r q => by
  refine h pvs g σ S F H Q r ?_
  revert q
  show PoV K cg W pvs σ S F H Q (up (m g) g) → _
  cases m g with
  | ok d => exact fun q v F' H' b c => q v S F' H' b.stp (r.pst b) c
  | err e => exact fun q => ErrQ.up q r
  | stk => exact fun q => q
theorem RP.w {t : TE} {m : Gm → Res PyData} (h : RP K cg W t m) : RW K cg W t m := fun pvs g σ S F H Q r q => by
  refine h pvs g σ S F H Q r ?_
  revert q
  cases m g with
  | ok d => exact fun q v F' H' b c => q v F' H' b (c.vw b.fh)
  | err e => exact fun q => q
  | stk => exact fun q => q
theorem RR.o {t : TE} {m : Gm → Res OD} (h : RR K cg W t m) : RO K cg W t (fun g => up (m g) g) := fun pvs g σ S F H Q r q => by
  refine h pvs g σ S F H Q r ?_
  revert q
  show PoO K cg W pvs σ S F H Q (up (m g) g) → _
  cases m g with
  | ok d => exact fun q v A F' H' b c f => q v A S F' H' (b.stpA f) (r.pst b) c (r.apart f)
  | err e => exact fun q => ErrQ.up q r
  | stk => exact fun q => q
theorem RV.o {t : TE} {m : Gm → Out PyData} (h : RV K cg W t m) : RO K cg W t (fun g => (m g).bind fun d g => .ok (.dat d) g) := fun pvs g σ S F H Q r q => by
  refine h pvs g σ S F H Q r ?_
  revert q
  show PoO K cg W pvs σ S F H Q ((m g).bind fun d g => .ok (.dat d) g) → _
  cases m g with
  | ok d g1 => exact fun q v S' F' H' b r' c => q v (fun _ => False) S' F' H' (b.sub fun p hp => hp.elim id False.elim) r' (.dat c fun _ z => z) fun _ z _ => z
  | err e g1 => exact fun q => q
  | stk => exact fun q => q
theorem RP.r {t : TE} {m : Gm → Res PyData} (h : RP K cg W t m) : RR K cg W t (fun g => (m g).bind fun d => .ok (.dat d)) := fun pvs g σ S F H Q r q => by
  refine h pvs g σ S F H Q r ?_
  revert q
  show PoR K cg W σ F H Q ((m g).bind fun d => .ok (.dat d)) → _
  cases m g with
  | ok d => exact fun q v F' H' b c => q v (fun _ => False) F' H' b (.dat c fun _ z => z) fun _ z => z.elim
  | err e => exact fun q => q
  | stk => exact fun q => q
/-- what is owned, frozen: data -/
theorem RO.v {t : TE} {m : Gm → Out OD} (h : RO K cg W t m) : RV K cg W t (fun g => (m g).bind fun o g => .of o.frz g) := fun pvs g σ S F H Q r q => by
  refine h pvs g σ S F H Q r ?_
  revert q
  show PoV K cg W pvs σ S F H Q ((m g).bind fun o g => .of o.frz g) → _
  cases m g with
  | ok o g1 =>
    intro q v A S' F' H' b r' ow hd
    have q : PoV K cg W pvs σ S F H Q (.of o.frz g1) := q
    cases e : o.frz with
    | none =>
      rw [e] at q
      exact q.elim
    | some d =>
      rw [e] at q
      obtain ⟨dd, s1⟩ := stp_freeze (S := S') ow e r'.fh
      exact q v S' _ H' (b.trans s1) (r'.more ow hd) dd
  | err e g1 => exact fun q => q
  | stk => exact fun q => q
theorem RR.p {t : TE} {m : Gm → Res OD} (h : RR K cg W t m) : RP K cg W t (fun g => (m g).bind fun o => .of o.frz) := fun pvs g σ S F H Q r q => by
  refine h pvs g σ S F H Q r ?_
  revert q
  show PoP K cg W σ F H Q ((m g).bind fun o => .of o.frz) → _
  cases m g with
  | ok o =>
    intro q v A F' H' b ow f
    have q : PoP K cg W σ F H Q (.of o.frz) := q
    cases e : o.frz with
    | none =>
      rw [e] at q
      exact q.elim
    | some d =>
      rw [e] at q
      obtain ⟨dd, s1⟩ := stp_freeze (S := fun _ => False) ow e b.fh
      refine q v _ H' ⟨b.keep, fun p u z => s1.fr p u (b.fr p u z), fun p u z => ?_, s1.fh⟩ dd
      by_cases y : A p
      · exact .inr (.inl (f p y))
      · rw [more_out y] at z
        exact b.nw p u z
  | err e => exact fun q => q
  | stk => exact fun q => q

/-! ### names and constants -/
def pVar (i : Nat) (g : Gm) : Res PyData :=
  match gt g i with
  | .v (.dat d) => .ok d
  | .pin (.dat d) => .ok d
  | _ => .stk
theorem rp_var (i : Nat) : RP K cg W (tVar i) (pVar i) := fun pvs g σ S F H Q r q => by
  revert q
  unfold pVar
  obtain ⟨L, h1, h2, h3⟩ := r.ex
  have h := h1 i
  unfold SlOk at h
  split
  · rename_i d e
    rw [e] at h
    obtain ⟨v, e1, ow⟩ := h
    cases ow with
    | dat hd _ => exact fun q => ⟨v, e1, q v F H (.refl r.fh) hd⟩
  · rename_i d e
    rw [e] at h
    obtain ⟨v, e1, _, ow⟩ := h
    cases ow with
    | dat hd _ => exact fun q => ⟨v, e1, q v F H (.refl r.fh) hd⟩
  · exact fun q => q.elim
def wVar (i : Nat) (g : Gm) : Res PyData :=
  match (gt g i).od with
  | some (.dat d) => .ok d
  | some (.lst ds) => .ok (.list ds)
  | _ => .stk
theorem rw_var (i : Nat) : RW K cg W (tVar i) (wVar i) := fun pvs g σ S F H Q r q => by
  revert q
  unfold wVar
  split
  · rename_i d e
    obtain ⟨v, A, S1, e1, ow, _⟩ := r.take e
    cases ow with
    | dat hd _ => exact fun q => ⟨v, e1, q v F H (.refl r.fh) (hd.vw r.fh)⟩
  · rename_i ds e
    obtain ⟨v, A, S1, e1, ow, _⟩ := r.take e
    cases ow with
    | lst a1 a2 a3 a4 => exact fun q => ⟨_, e1, q _ F H (.refl r.fh) ⟨_, _, rfl, a1, a3⟩⟩
  · exact fun q => q.elim
def pC (d : PyData) (_ : Gm) : Res PyData := .ok d
theorem rp_c {v : V} {d : PyData} (h : ∀ F, Dq K F v d) : RP K cg W (tC v) (pC d) := fun pvs g σ S F H Q r q => q v F H (.refl r.fh) (h F)

/-! ### operations on data -/
def OpG (K : PySem.W.Frag) (cg : Str → Option Value) (r : R2) (f : PyData → PyData → Option OD) : Prop := ∀ (F H : Hp) (x y : V) (a b : PyData) (o : OD) (Q : VK), Same F H → Vw K F H x a → Vw K F H y b → f a b = some o →
  (∀ v A F' H', Pst F H F' H' → Ow K cg F' H' v o A → (∀ q, A q → H q = none) → Q v H') → r x y H Q
def CaG (K : PySem.W.Frag) (cg : Str → Option Value) (r : List V → Hp → VK → Prop) (f : List PyData → Option OD) : Prop := ∀ (F H : Hp) (xs : List V) (as : List PyData) (o : OD) (Q : VK), Same F H → VwA K F H xs as → f as = some o →
  (∀ v A F' H', Pst F H F' H' → Ow K cg F' H' v o A → (∀ q, A q → H q = none) → Q v H') → r xs H Q
def oOp (f : PyData → PyData → Option OD) (ma mb : Gm → Out PyData) (g : Gm) : Out OD := (ma g).bind fun a g1 => (mb g1).bind fun b g2 => .of (f a b) g2
def rOp (f : PyData → PyData → Option OD) (ma mb : Gm → Res PyData) (g : Gm) : Res OD := (ma g).bind fun a => (mb g).bind fun b => .of (f a b)
theorem RV.op {r : R2} {f : PyData → PyData → Option OD} {ta tb : TE} {ma mb : Gm → Out PyData} (ho : OpG K cg r f) (ha : RV K cg W ta ma) (hb : RV K cg W tb mb) : RO K cg W (tOp r ta tb) (oOp f ma mb) := fun pvs g σ S F H Q rl q => by
  refine ha pvs g σ S F H _ rl ?_
  unfold oOp at q
  cases e : ma g with
  | ok a g1 =>
    rw [e] at q
    intro v S1 F1 H1 s1 r1 d1
    refine hb pvs g1 σ S1 F1 H1 _ r1 ?_
    have q : PoO K cg W pvs σ S F H Q ((mb g1).bind fun b g2 => .of (f a b) g2) := q
    have q := PoO.st q s1
    cases e2 : mb g1 with
    | ok b g2 =>
      rw [e2] at q
      intro w S2 F2 H2 s2 r2 d2
      have q : PoO K cg W pvs σ S1 F1 H1 Q (.of (f a b) g2) := q
      have q := PoO.st q s2
      cases e3 : f a b with
      | none =>
        rw [e3] at q
        exact q.elim
      | some o =>
        rw [e3] at q
        refine ho F2 H2 v w a b o Q r2.fh ((dp_mo d1 s2.fr).vw r2.fh) (d2.vw r2.fh) e3 fun u A F3 H3 p3 ow fr => q u A S2 F3 H3 (p3.stpA fr) (r2.pst p3) ow (r2.apart fr)
    | err e' g2 =>
      rw [e2] at q
      exact q
    | stk =>
      rw [e2] at q
      exact q.elim
  | err e' g1 =>
    rw [e] at q
    exact q
  | stk =>
    rw [e] at q
    exact q.elim
theorem RW.op {r : R2} {f : PyData → PyData → Option OD} {ta tb : TE} {ma mb : Gm → Res PyData} (ho : OpG K cg r f) (ha : RW K cg W ta ma) (hb : RW K cg W tb mb) : RR K cg W (tOp r ta tb) (rOp f ma mb) := fun pvs g σ S F H Q rl q => by
  refine ha pvs g σ S F H _ rl ?_
  unfold rOp at q
  cases e : ma g with
  | ok a =>
    rw [e] at q
    intro v F1 H1 s1 d1
    refine hb pvs g σ S F1 H1 _ (rl.pst s1) ?_
    have q : PoR K cg W σ F H Q ((mb g).bind fun b => .of (f a b)) := q
    have q := PoR.ps q s1
    cases e2 : mb g with
    | ok b =>
      rw [e2] at q
      intro w F2 H2 s2 d2
      have q : PoR K cg W σ F1 H1 Q (.of (f a b)) := q
      have q := PoR.ps q s2
      cases e3 : f a b with
      | none =>
        rw [e3] at q
        exact q.elim
      | some o =>
        rw [e3] at q
        exact ho F2 H2 v w a b o Q s2.fh (d1.pst s2) d2 e3 q
    | err e' =>
      rw [e2] at q
      exact q
    | stk =>
      rw [e2] at q
      exact q.elim
  | err e' =>
    rw [e] at q
    exact q
  | stk =>
    rw [e] at q
    exact q.elim
/-! ### argument lists -/
def aNil (g : Gm) : Out (List PyData) := .ok [] g
def aCons (m : Gm → Out PyData) (r : Gm → Out (List PyData)) (g : Gm) : Out (List PyData) := (m g).bind fun a g1 => (r g1).bind fun as g2 => .ok (a :: as) g2
def waNil (_ : Gm) : Res (List PyData) := .ok []
def waCons (m : Gm → Res PyData) (r : Gm → Res (List PyData)) (g : Gm) : Res (List PyData) := (m g).bind fun a => (r g).bind fun as => .ok (a :: as)
theorem ra_nil : RA K cg W tNil aNil := fun pvs g σ S F H Q r q => q [] S F H (.refl r.fh) r .nil
theorem ra_cons {ta : TE} {tr : TA} {m : Gm → Out PyData} {mr : Gm → Out (List PyData)} (ha : RV K cg W ta m) (hr : RA K cg W tr mr) : RA K cg W (tCons ta tr) (aCons m mr) := fun pvs g σ S F H Q rl q => by
  refine ha pvs g σ S F H _ rl ?_
  unfold aCons at q
  cases e : m g with
  | ok a g1 =>
    rw [e] at q
    intro v S1 F1 H1 s1 r1 d1
    refine hr pvs g1 σ S1 F1 H1 _ r1 ?_
    have q : PoA K cg W pvs σ S F H Q ((mr g1).bind fun as g2 => .ok (a :: as) g2) := q
    have q := PoA.st q s1
    cases e2 : mr g1 with
    | ok as g2 =>
      rw [e2] at q
      exact fun vs S2 F2 H2 s2 r2 d2 => q (v :: vs) S2 F2 H2 s2 r2 (.cons (dp_mo d1 s2.fr) d2)
    | err e' g2 =>
      rw [e2] at q
      exact q
    | stk =>
      rw [e2] at q
      exact q.elim
  | err e' g1 =>
    rw [e] at q
    exact q
  | stk =>
    rw [e] at q
    exact q.elim
theorem VwA.pst : ∀ {vs : List V} {ds : List PyData}, VwA K F H vs ds → Pst F H F' H' → VwA K F' H' vs ds
  | _, _, .nil, _ => .nil
  | _, _, .cons h t, a => .cons (h.pst a) (VwA.pst t a)
theorem rwa_nil : RWA K cg W tNil waNil := fun pvs g σ S F H Q r q => q [] F H (.refl r.fh) .nil
theorem rwa_cons {ta : TE} {tr : TA} {m : Gm → Res PyData} {mr : Gm → Res (List PyData)} (ha : RW K cg W ta m) (hr : RWA K cg W tr mr) : RWA K cg W (tCons ta tr) (waCons m mr) := fun pvs g σ S F H Q rl q => by
  refine ha pvs g σ S F H _ rl ?_
  unfold waCons at q
  cases e : m g with
  | ok a =>
    rw [e] at q
    intro v F1 H1 s1 d1
    refine hr pvs g σ S F1 H1 _ (rl.pst s1) ?_
    have q : PoWA K cg W σ F H Q ((mr g).bind fun as => .ok (a :: as)) := q
    have q := PoWA.ps q s1
    cases e2 : mr g with
    | ok as =>
      rw [e2] at q
      exact fun vs F2 H2 s2 d2 => q (v :: vs) F2 H2 s2 (.cons (d1.pst s2) d2)
    | err e' =>
      rw [e2] at q
      exact q
    | stk =>
      rw [e2] at q
      exact q.elim
  | err e' =>
    rw [e] at q
    exact q
  | stk =>
    rw [e] at q
    exact q.elim
theorem vwa_of : ∀ {vs : List V} {ds : List PyData}, DqA K F vs ds → Same F H → VwA K F H vs ds
  | _, [], h, _ => by
    cases h
    exact .nil
  | _, d :: ds, h, e => by
    cases h with
    | cons h1 h2 => exact .cons (h1.vw e) (vwa_of h2 e)
def oCa (f : List PyData → Option OD) (m : Gm → Out (List PyData)) (g : Gm) : Out OD := (m g).bind fun as g1 => .of (f as) g1
def rCa (f : List PyData → Option OD) (m : Gm → Res (List PyData)) (g : Gm) : Res OD := (m g).bind fun as => .of (f as)
theorem RA.ca {r : List V → Hp → VK → Prop} {f : List PyData → Option OD} {t : TA} {m : Gm → Out (List PyData)} (ho : CaG K cg r f) (ha : RA K cg W t m) : RO K cg W (tCB r t) (oCa f m) := fun pvs g σ S F H Q rl q => by
  refine ha pvs g σ S F H _ rl ?_
  unfold oCa at q
  cases e : m g with
  | ok as g1 =>
    rw [e] at q
    intro vs S1 F1 H1 s1 r1 d1
    have q : PoO K cg W pvs σ S F H Q (.of (f as) g1) := q
    have q := PoO.st q s1
    cases e3 : f as with
    | none =>
      rw [e3] at q
      exact q.elim
    | some o =>
      rw [e3] at q
      refine ho F1 H1 vs as o Q r1.fh (vwa_of d1 r1.fh) e3 fun u A F3 H3 p3 ow fr => q u A S1 F3 H3 (p3.stpA fr) (r1.pst p3) ow (r1.apart fr)
  | err e' g1 =>
    rw [e] at q
    exact q
  | stk =>
    rw [e] at q
    exact q.elim
theorem RWA.ca {r : List V → Hp → VK → Prop} {f : List PyData → Option OD} {t : TA} {m : Gm → Res (List PyData)} (ho : CaG K cg r f) (ha : RWA K cg W t m) : RR K cg W (tCB r t) (rCa f m) := fun pvs g σ S F H Q rl q => by
  refine ha pvs g σ S F H _ rl ?_
  unfold rCa at q
  cases e : m g with
  | ok as =>
    rw [e] at q
    intro vs F1 H1 s1 d1
    have q : PoR K cg W σ F H Q (.of (f as)) := q
    have q := PoR.ps q s1
    cases e3 : f as with
    | none =>
      rw [e3] at q
      exact q.elim
    | some o =>
      rw [e3] at q
      exact ho F1 H1 vs as o Q s1.fh d1 e3 q
  | err e' =>
    rw [e] at q
    exact q
  | stk =>
    rw [e] at q
    exact q.elim
end
end VL
namespace VL
open PySem L2

def zl : Nat := 1000000
theorem zl_le {n : Nat} (h : n ≤ zl) : n ≤ sizeLine := by
  rw [sizeLine_eq]
  unfold zl at h
  omega
theorem zl_lt {n : Nat} (h : n < zl) : n < sizeLine := by
  rw [sizeLine_eq]
  unfold zl at h
  omega
section
variable {K : PySem.W.Frag} {cg : Str → Option Value} {F H : Hp} {Q : VK} {v : V} {d : PyData}
theorem fin_s (k : ∀ v A F' H', Pst F H F' H' → Ow K cg F' H' v (.dat d) A → (∀ q, A q → H q = none) → Q v H') (e : Same F H) (h : Dq K F v d) : Q v H :=
  k v (fun _ => False) F H (.refl e) (.dat h fun _ z => z) fun _ z => z.elim
theorem fin_l {p : Addr} {vs : List V} {ds : List PyData} (k : ∀ v A F' H', Pst F H F' H' → Ow K cg F' H' v (.lst ds) A → (∀ q, A q → H q = none) → Q v H') (e : Same F H) (hp : H p = none) (h : DqA K F vs ds) : Q (.ref p) (upd H p (.lst vs)) :=
  k (.ref p) (fun q => q = p) F _ (pst_own e hp) (.lst upd_same (e.free hp) h fun _ => Iff.rfl) fun q hq => by
    rw [hq]
    exact hp
theorem fin_t {p : Addr} {vs : List V} {ds : List PyData} (k : ∀ v A F' H', Pst F H F' H' → Ow K cg F' H' v (.dat (.tuple ds)) A → (∀ q, A q → H q = none) → Q v H') (e : Same F H) (hp : H p = none) (h : DqA K F vs ds) : Q (.ref p) (upd H p (.tup vs)) :=
  k (.ref p) (fun _ => False) (upd F p (.tup vs)) _ (pst_new e hp) (.dat (.tup (.of upd_same) (dpa_mo h (pst_new (o := .tup vs) e hp).fr)) fun _ z => z) fun _ z => z.elim
theorem Vw.int {x : V} {i : Int} (h : Vw K F H x (.int i)) : x = .int i := by
  have h : Dq K F x (.int i) := h
  cases h
  rfl
theorem Vw.str {x : V} {i : Str} (h : Vw K F H x (.str i)) : x = .str i := by
  have h : Dq K F x (.str i) := h
  cases h
  rfl
theorem Vw.bool {x : V} {i : Bool} (h : Vw K F H x (.bool i)) : x = .bl i := by
  have h : Dq K F x (.bool i) := h
  cases h
  rfl
theorem Vw.non {x : V} (h : Vw K F H x .none) : x = .non := by
  have h : Dq K F x .none := h
  cases h
  rfl
theorem Vw.tup {x : V} {ds : List PyData} (h : Vw K F H x (.tuple ds)) : ∃ a vs, x = .ref a ∧ SqT K F a vs ∧ DqA K F vs ds := by
  have h : Dq K F x (.tuple ds) := h
  cases h with
  | tup h1 h2 => exact ⟨_, _, rfl, h1, h2⟩
mutual
theorem Dq.dp (e : Same F H) : ∀ (d : PyData) {v : V}, Dq K F v d → Dp K H v d
  | .none, _, h => by
    cases h
    exact .non
  | .bool b, _, h => by
    cases h
    exact .bl b
  | .int i, _, h => by
    cases h
    exact .int i
  | .str x, _, h => by
    cases h
    exact .str x
  | .list ds, _, h => by
    cases h with
    | lst h1 h2 => exact .lst (.of (e _ _ h1)) (DqA.dp e ds h2)
  | .tuple ds, _, h => by
    cases h with
    | tup h1 h2 => exact .tup (sqt_mono e h1) (DqA.dp e ds h2)
  | .dict _, _, h => by cases h
theorem DqA.dp (e : Same F H) : ∀ (ds : List PyData) {vs : List V}, DqA K F vs ds → DpAll K H vs ds
  | [], _, h => by
    cases h
    exact .nil
  | d :: ds, _, h => by
    cases h with
    | cons h1 h2 => exact .cons (Dq.dp e d h1) (DqA.dp e ds h2)
end
theorem Vw.dp {x : V} (e : Same F H) (h : Vw K F H x d) : Dp K H x d := by
  cases d with
  | list ds =>
    obtain ⟨p, vs, rfl, h1, h2⟩ := h
    exact .lst (.of h1) (DqA.dp e ds h2)
  | none => exact Dq.dp e _ h
  | bool b => exact Dq.dp e _ h
  | int i => exact Dq.dp e _ h
  | str x => exact Dq.dp e _ h
  | tuple ds => exact Dq.dp e _ h
  | dict kvs => exact Dq.dp e _ h
end

/-! ### arithmetic -/
def oi (i : Int) : Option OD := some (.dat (.int i))
def ob (b : Bool) : Option OD := some (.dat (.bool b))
def fAdd : PyData → PyData → Option OD
  | .int i, .int j => oi (i + j)
  | .str a, .str b => if a.length + b.length ≤ zl then some (.dat (.str (a ++ b))) else none
  | .list a, .list b => if a.length + b.length ≤ zl then some (.lst (a ++ b)) else none
  | .tuple a, .tuple b => if a.length + b.length ≤ zl then some (.dat (.tuple (a ++ b))) else none
  | _, _ => none
def fSub : PyData → PyData → Option OD
  | .int i, .int j => oi (i - j)
  | _, _ => none
def mulOk (i j : Int) : Bool := decide (i.natAbs.log2 + j.natAbs.log2 < 1000000) || (decide (-(2 ^ 64) < i) && decide (i < 2 ^ 64)) || (decide (-(2 ^ 64) < j) && decide (j < 2 ^ 64))
def fMul : PyData → PyData → Option OD
  | .int i, .int j => if mulOk i j = true then oi (i * j) else none
  | .list a, .int k => if 0 ≤ k ∧ a.length * k.toNat ≤ zl ∧ k < 2 ^ 63 then some (.lst (List.replicate k.toNat a).flatten) else none
  | _, _ => none
def fFdiv : PyData → PyData → Option OD
  | .int i, .int j => if 0 < j ∧ j.natAbs.log2 < 9000 then oi (i / j) else none
  | _, _ => none
def fMod : PyData → PyData → Option OD
  | .int i, .int j => if 0 < j then oi (i % j) else none
  | _, _ => none
def fPow : PyData → PyData → Option OD
  | .int i, .int j => if 0 ≤ j ∧ j ≤ 1000000 ∧ i.natAbs < 2 ^ 64 then oi (i ^ j.toNat) else none
  | _, _ => none
def rAddG (K : PySem.W.Frag) : R2 := fun x y H Q => (rI0 fun i j => .int (i + j)) x y H Q ∨ ((∃ i j, x = .str i ∧ y = .str j ∧ i.length + j.length ≤ sizeLine ∧ Q (.str (i ++ j)) H) ∨ (rCat x y H Q ∨ rCatA K x y H Q))
def rMulG : R2 := fun x y H Q => rI CMulW (fun i j => .int (i * j)) x y H Q ∨ (rI CMul (fun i j => .int (i * j)) x y H Q ∨ rRep x y H Q)
theorem op_addG {X : Cx} : OpR X (binaryOp .Add) (rAddG X.K) := op_add.or (op_add_str.or (op_cat.or op_catA))
theorem op_mulG {X : Cx} : OpR X (binaryOp .Mult) rMulG := op_mulW.or (op_mul.or op_rep)
section
variable {K : PySem.W.Frag} {cg : Str → Option Value}
theorem g_add : OpG K cg (rAddG K) fAdd := fun F H x y a b o Q e hx hy hf k => by
  unfold fAdd at hf
  split at hf
  · cases hf
    rw [hx.int, hy.int]
    exact .inl ⟨_, _, rfl, rfl, fin_s k e (.int _)⟩
  · split at hf
    · rename_i hz
      cases hf
      rw [hx.str, hy.str]
      exact .inr (.inl ⟨_, _, rfl, rfl, zl_le hz, fin_s k e (.str _)⟩)
    · cases hf
  · split at hf
    · rename_i hz
      cases hf
      obtain ⟨p, vs, rfl, h1, h2⟩ := hx
      obtain ⟨p', vs', rfl, h1', h2'⟩ := hy
      refine .inr (.inr (.inl ⟨_, _, _, _, rfl, rfl, h1, h1', ?_, fun p hp => fin_l k e hp (dpa_app h2 h2')⟩))
      rw [dpa_len h2, dpa_len h2']
      exact zl_le hz
    · cases hf
  · split at hf
    · rename_i hz
      cases hf
      obtain ⟨p, vs, rfl, h1, h2⟩ := hx.tup
      obtain ⟨p', vs', rfl, h1', h2'⟩ := hy.tup
      refine .inr (.inr (.inr ⟨_, _, _, _, rfl, rfl, sqt_mono e h1, sqt_mono e h1', ?_, fun z => ?_, fun _ z => ?_, fun _ _ p hp => fin_t k e hp (dpa_app h2 h2')⟩))
      · rw [dpa_len h2, dpa_len h2']
        exact zl_le hz
      · subst z
        cases h2
        exact fin_s k e (.tup h1' h2')
      · subst z
        cases h2'
        rw [List.append_nil] at k
        exact fin_s k e (.tup h1 h2)
    · cases hf
  · cases hf
theorem g_sub : OpG K cg (rI0 fun i j => .int (i - j)) fSub := fun F H x y a b o Q e hx hy hf k => by
  unfold fSub at hf
  split at hf
  · cases hf
    rw [hx.int, hy.int]
    exact ⟨_, _, rfl, rfl, fin_s k e (.int _)⟩
  · cases hf
theorem g_mul : OpG K cg rMulG fMul := fun F H x y a b o Q e hx hy hf k => by
  unfold fMul at hf
  split at hf
  · split at hf
    · rename_i hz
      cases hf
      rw [hx.int, hy.int]
      unfold mulOk at hz
      simp only [Bool.or_eq_true, Bool.and_eq_true, decide_eq_true_eq] at hz
      rcases hz with (hz | hz) | hz
      · exact .inl ⟨_, _, rfl, rfl, hz, fin_s k e (.int _)⟩
      · exact .inr (.inl ⟨_, _, rfl, rfl, .inl hz, fin_s k e (.int _)⟩)
      · exact .inr (.inl ⟨_, _, rfl, rfl, .inr hz, fin_s k e (.int _)⟩)
    · cases hf
  · split at hf
    · rename_i ds n hz
      cases hf
      obtain ⟨p, vs, rfl, h1, h2⟩ := hx
      rw [hy.int]
      refine .inr (.inr ⟨_, _, _, rfl, rfl, h1, by omega, hz.2.2, ?_, fun p hp => fin_l k e hp ?_⟩)
      · rw [dpa_len h2]
        exact zl_le hz.2.1
      · generalize n.toNat = m
        induction m with
        | zero => exact .nil
        | succ m ih => exact dpa_app h2 ih
    · cases hf
  · cases hf
theorem g_fdiv : OpG K cg (rI CDivW fun i j => .int (i / j)) fFdiv := fun F H x y a b o Q e hx hy hf k => by
  unfold fFdiv at hf
  split at hf
  · split at hf
    · rename_i hz
      cases hf
      rw [hx.int, hy.int]
      exact ⟨_, _, rfl, rfl, hz, fin_s k e (.int _)⟩
    · cases hf
  · cases hf
theorem g_mod : OpG K cg (rI (fun _ j => 0 < j) fun i j => .int (i % j)) fMod := fun F H x y a b o Q e hx hy hf k => by
  unfold fMod at hf
  split at hf
  · split at hf
    · rename_i hz
      cases hf
      rw [hx.int, hy.int]
      exact ⟨_, _, rfl, rfl, hz, fin_s k e (.int _)⟩
    · cases hf
  · cases hf
theorem g_pow : OpG K cg (rI CPow fun i j => .int (i ^ j.toNat)) fPow := fun F H x y a b o Q e hx hy hf k => by
  unfold fPow at hf
  split at hf
  · split at hf
    · rename_i hz
      cases hf
      rw [hx.int, hy.int]
      exact ⟨_, _, rfl, rfl, hz, fin_s k e (.int _)⟩
    · cases hf
  · cases hf
end

/-! ### comparisons -/
/-- tuples of whole numbers -/
def intsD : List PyData → Option (List Int)
  | [] => some []
  | .int i :: r => (intsD r).map (i :: ·)
  | _ :: _ => none
theorem ints_map : ∀ {ds : List PyData} {ns : List Int}, intsD ds = some ns → ds = ns.map PyData.int
  | [], _, h => by
    cases h
    rfl
  | .int i :: r, ns, h => by
    unfold intsD at h
    cases e : intsD r with
    | none =>
      rw [e] at h
      cases h
    | some ms =>
      rw [e] at h
      cases h
      rw [ints_map e]
      rfl
  | .none :: _, _, h => by cases h
  | .bool _ :: _, _, h => by cases h
  | .str _ :: _, _, h => by cases h
  | .list _ :: _, _, h => by cases h
  | .tuple _ :: _, _, h => by cases h
  | .dict _ :: _, _, h => by cases h
def lexGt : List Int → List Int → Bool
  | [], _ => false
  | _ :: _, [] => true
  | x :: xs, y :: ys => if x = y then lexGt xs ys else decide (y < x)
def fLt : PyData → PyData → Option OD
  | .int i, .int j => ob (decide (i < j))
  | _, _ => none
def fLe : PyData → PyData → Option OD
  | .int i, .int j => ob (decide (i ≤ j))
  | _, _ => none
def fGt : PyData → PyData → Option OD
  | .int i, .int j => ob (decide (j < i))
  | .tuple a, .tuple b => match intsD a, intsD b with
    | some ns, some ms => ob (lexGt ns ms)
    | _, _ => none
  | _, _ => none
def fGe : PyData → PyData → Option OD
  | .int i, .int j => ob (decide (j ≤ i))
  | _, _ => none
def fEq (a b : PyData) : Option OD := if SeqAt.shaped a = true ∧ SeqAt.shaped b = true then ob (PyData.eqv a b) else none
def fNe (a b : PyData) : Option OD := if SeqAt.shaped a = true ∧ SeqAt.shaped b = true then ob (!PyData.eqv a b) else none
def isNone : PyData → Bool
  | .none => true
  | _ => false
def fIsN (a b : PyData) : Option OD := if isNone b = true then ob (isNone a) else none
def fNotN (a b : PyData) : Option OD := if isNone b = true then ob (!isNone a) else none

theorem lexAt_gt : ∀ (ns ms : List Int) (i : Nat) (e r : Nat → Bool), (∀ j, e (i + j) = decide (ns.getD j 0 = ms.getD j 0)) → (∀ j, r (i + j) = decide (ms.getD j 0 < ns.getD j 0)) →
    Ob.lexAt e r (decide (ns.length > ms.length)) i (min ns.length ms.length) = lexGt ns ms
  | [], ms, i, e, r, _, _ => by
    have z : min ([] : List Int).length ms.length = 0 := by simp
    rw [z]
    show decide (([] : List Int).length > ms.length) = false
    simp
  | a :: ns, [], i, e, r, _, _ => by
    have z : min (a :: ns).length ([] : List Int).length = 0 := by simp
    rw [z]
    show decide ((a :: ns).length > ([] : List Int).length) = true
    simp
  | a :: ns, b :: ms, i, e, r, he, hr => by
    have z : min (a :: ns).length (b :: ms).length = min ns.length ms.length + 1 := by
      simp only [List.length_cons]
      omega
    have ih := lexAt_gt ns ms (i + 1) e r (fun j => by
      have := he (j + 1)
      rw [show i + 1 + j = i + (j + 1) by omega]
      simpa using this) (fun j => by
      have := hr (j + 1)
      rw [show i + 1 + j = i + (j + 1) by omega]
      simpa using this)
    rw [z, Ob.lexAt_succ]
    have e0 : e i = decide (a = b) := by simpa using he 0
    have r0 : r i = decide (b < a) := by simpa using hr 0
    have q : decide ((a :: ns).length > (b :: ms).length) = decide (ns.length > ms.length) := by simp
    rw [q, ih, e0, r0]
    show _ = if a = b then lexGt ns ms else decide (b < a)
    by_cases h : a = b
    · rw [if_pos (decide_eq_true h), if_pos h]
    · rw [if_neg (by simp [h]), if_neg h]
def rGtT (K : PySem.W.Frag) : R2 := fun x y H Q => ∃ (a b : Addr) (ns ms : List Int), x = .ref a ∧ y = .ref b ∧ SqT K H a (ns.map V.int) ∧ SqT K H b (ms.map V.int) ∧ Q (.bl (lexGt ns ms)) H
theorem op_gtT {X : Cx} (hu : X.A.units < cLine) : OpR X (compareOp .Gt) (rGtT X.K) := by
  intro pins s σ H x y v u Q I rx ry h
  obtain ⟨a, b, ns, ms, rfl, rfl, ha, hb, q⟩ := h
  cases rx
  cases ry
  obtain ⟨its, r1, p1, _⟩ := I.tuple ha
  obtain ⟨its2, r2, p2, _⟩ := I.tuple hb
  have i1 : PyProof.Rows.IntsAre its ns := Vals.ints r1
  have i2 : PyProof.Rows.IntsAre its2 ms := Vals.ints r2
  have e1 : its.toArray.size = ns.length := by rw [List.size_toArray]; exact i1.length
  have e2 : its2.toArray.size = ms.length := by rw [List.size_toArray]; exact i2.length
  have at1 : ∀ j (h1 : j < its.toArray.size), ∃ t, its.toArray[j] = .int (ns.getD j 0) t := fun j h1 => PyProof.Rows.IntsAre.int_at i1 _ _ (by simp at h1; simp [h1])
  have at2 : ∀ j (h1 : j < its2.toArray.size), ∃ t, its2.toArray[j] = .int (ms.getD j 0) t := fun j h1 => PyProof.Rows.IntsAre.int_at i2 _ _ (by simp at h1; simp [h1])
  have R := Ob.RcOp.tuples_gt (A := X.A) (s := s) (e := fun j => decide (ns.getD j 0 = ms.getD j 0)) (r := fun j => decide (ms.getD j 0 < ns.getD j 0)) p1 p2 hu (fun j h1 h2 => by
    obtain ⟨t, et⟩ := at1 j h1
    obtain ⟨t', et'⟩ := at2 j h2
    rw [et, et']
    have z : (ns.getD j 0 == ms.getD j 0) = decide (ns.getD j 0 = ms.getD j 0) := by
      by_cases q : ns.getD j 0 = ms.getD j 0
      · rw [decide_eq_true q]; exact beq_iff_eq.mpr q
      · rw [decide_eq_false q]; exact beq_eq_false_iff_ne.mpr q
    rw [← z]
    exact SeqAt.EqAt.int_int _ _ _ _) (fun j h1 h2 _ => by
    obtain ⟨t, et⟩ := at1 j h1
    obtain ⟨t', et'⟩ := at2 j h2
    rw [et, et']
    exact Ob.RcOp.gt_int _ _ _ _)
  rw [e1, e2, lexAt_gt ns ms 0 _ _ (fun j => by rw [Nat.zero_add]) (fun j => by rw [Nat.zero_add])] at R
  exact R X.prog X.w X.xe (EP X pins σ Q) ⟨.bl _, H, I, rfl, q⟩
def rGtG (K : PySem.W.Frag) : R2 := fun x y H Q => (rI0 fun i j => .bl (decide (j < i))) x y H Q ∨ rGtT K x y H Q
theorem op_gtG {X : Cx} (hu : X.A.units < cLine) : OpR X (compareOp .Gt) (rGtG X.K) := op_gt.or (op_gtT hu)
section
variable {K : PySem.W.Frag} {cg : Str → Option Value}
theorem g_lt : OpG K cg (rI0 fun i j => .bl (decide (i < j))) fLt := fun F H x y a b o Q e hx hy hf k => by
  unfold fLt at hf
  split at hf
  · cases hf
    rw [hx.int, hy.int]
    exact ⟨_, _, rfl, rfl, fin_s k e (.bl _)⟩
  · cases hf
theorem g_le : OpG K cg (rI0 fun i j => .bl (decide (i ≤ j))) fLe := fun F H x y a b o Q e hx hy hf k => by
  unfold fLe at hf
  split at hf
  · cases hf
    rw [hx.int, hy.int]
    exact ⟨_, _, rfl, rfl, fin_s k e (.bl _)⟩
  · cases hf
theorem g_ge : OpG K cg (rI0 fun i j => .bl (decide (j ≤ i))) fGe := fun F H x y a b o Q e hx hy hf k => by
  unfold fGe at hf
  split at hf
  · cases hf
    rw [hx.int, hy.int]
    exact ⟨_, _, rfl, rfl, fin_s k e (.bl _)⟩
  · cases hf
theorem g_gt : OpG K cg (rGtG K) fGt := fun F H x y a b o Q e hx hy hf k => by
  unfold fGt at hf
  split at hf
  · cases hf
    rw [hx.int, hy.int]
    exact .inl ⟨_, _, rfl, rfl, fin_s k e (.bl _)⟩
  · split at hf
    · rename_i ns ms e1 e2
      cases hf
      obtain ⟨p, vs, rfl, h1, h2⟩ := hx.tup
      obtain ⟨p', vs', rfl, h1', h2'⟩ := hy.tup
      rw [ints_map e1] at h2
      rw [ints_map e2] at h2'
      have z := dpa_ints_of _ h2
      have z' := dpa_ints_of _ h2'
      subst z
      subst z'
      exact .inr ⟨_, _, _, _, rfl, rfl, sqt_mono e h1, sqt_mono e h1', fin_s k e (.bl _)⟩
    · cases hf
  · cases hf
theorem g_eq : OpG K cg (rEqD K) fEq := fun F H x y a b o Q e hx hy hf k => by
  unfold fEq at hf
  split at hf
  · rename_i hz
    cases hf
    exact ⟨a, b, hx.dp e, hy.dp e, hz.1, hz.2, fin_s k e (.bl _)⟩
  · cases hf
theorem g_ne : OpG K cg (rNeD K) fNe := fun F H x y a b o Q e hx hy hf k => by
  unfold fNe at hf
  split at hf
  · rename_i hz
    cases hf
    exact ⟨a, b, hx.dp e, hy.dp e, hz.1, hz.2, fin_s k e (.bl _)⟩
  · cases hf
end

/-! ### items, slices -/
def od : Option PyData → Option OD
  | some d => some (.dat d)
  | none => none
def fIx : PyData → PyData → Option OD
  | .list ds, .int i => od (atI ds i)
  | .tuple ds, .int i => od (atI ds i)
  | .str z, .int i => if z.length ≤ zl then od ((atI z.cps.toList i).map fun c => .str ⟨#[c]⟩) else none
  | _, _ => none
theorem atI_dp {K : PySem.W.Frag} {F : Hp} {vs : List V} {ds : List PyData} {i : Int} {d : PyData} (h : DqA K F vs ds) (e : atI ds i = some d) : ∃ v, atI vs i = some v ∧ Dq K F v d := by
  unfold atI at e ⊢
  rw [dpa_len h]
  cases q : ixN ds.length i with
  | none =>
    rw [q] at e
    cases e
  | some j =>
    rw [q] at e
    exact dpa_get' h e
section
variable {K : PySem.W.Frag} {cg : Str → Option Value}
theorem g_ix : OpG K cg (rIx K) fIx := fun F H x y a b o Q e hx hy hf k => by
  unfold fIx at hf
  split at hf
  · rename_i ds i
    cases q : atI ds i with
    | none =>
      rw [q] at hf
      cases hf
    | some d =>
      rw [q] at hf
      cases hf
      obtain ⟨p, vs, rfl, h1, h2⟩ := hx
      rw [hy.int]
      obtain ⟨v, e1, e2⟩ := atI_dp h2 q
      exact .inl ⟨_, _, _, v, rfl, rfl, .of h1, e1, fin_s k e e2⟩
  · rename_i ds i
    cases q : atI ds i with
    | none =>
      rw [q] at hf
      cases hf
    | some d =>
      rw [q] at hf
      cases hf
      obtain ⟨p, vs, rfl, h1, h2⟩ := hx.tup
      rw [hy.int]
      obtain ⟨v, e1, e2⟩ := atI_dp h2 q
      exact .inr (.inl ⟨_, _, _, v, rfl, rfl, sqt_mono e h1, e1, fin_s k e e2⟩)
  · rename_i z i
    split at hf
    · rename_i hz
      cases q : atI z.cps.toList i with
      | none =>
        rw [q] at hf
        cases hf
      | some c =>
        rw [q] at hf
        cases hf
        rw [hx.str, hy.int]
        exact .inr (.inr ⟨_, _, c, rfl, rfl, zl_le hz, q, fin_s k e (.str _)⟩)
    · cases hf
  · cases hf
end
def cutD {α : Type} (xs : List α) (lo hi : Option Int) : List α := (xs.drop (HT.sIx xs.length 0 lo)).take (HT.sIx xs.length xs.length hi - HT.sIx xs.length 0 lo)
def fSl (d : PyData) (lo hi : Option Int) : Option OD :=
  match d with
  | .list ds => some (.lst (cutD ds lo hi))
  | .tuple ds => some (.dat (.tuple (cutD ds lo hi)))
  | _ => none
def rSlG (K : PySem.W.Frag) : V → Option Int → Option Int → Hp → VK → Prop := fun x lo hi H Q => rSlL K x lo hi H Q ∨ rSlA K x lo hi H Q
theorem sl_G {X : Cx} : SlR X (rSlG X.K) := sl_list.or sl_tupA
theorem dpa_cut {K : PySem.W.Frag} {F : Hp} {vs : List V} {ds : List PyData} (h : DqA K F vs ds) (lo hi : Option Int) : DqA K F (cutV vs lo hi) (cutD ds lo hi) := by
  unfold cutV cutD
  rw [dpa_len h]
  exact dpa_take _ (dpa_drop _ h)
theorem g_sl {K : PySem.W.Frag} {cg : Str → Option Value} {F H : Hp} {x : V} {a : PyData} {lo hi : Option Int} {o : OD} {Q : VK} (e : Same F H) (hx : Vw K F H x a) (hf : fSl a lo hi = some o)
    (k : ∀ v A F' H', Pst F H F' H' → Ow K cg F' H' v o A → (∀ q, A q → H q = none) → Q v H') : rSlG K x lo hi H Q := by
  unfold fSl at hf
  split at hf
  · cases hf
    obtain ⟨p, vs, rfl, h1, h2⟩ := hx
    exact .inl ⟨_, _, rfl, .of h1, fun p hp => fin_l k e hp (dpa_cut h2 lo hi)⟩
  · rename_i ds
    cases hf
    obtain ⟨p, vs, rfl, h1, h2⟩ := hx.tup
    refine .inr ⟨_, _, rfl, sqt_mono e h1, fun z => ?_, fun _ p hp => fin_t k e hp (dpa_cut h2 lo hi)⟩
    have w : cutD ds lo hi = ds := by
      unfold cutD
      rw [dpa_len h2] at z
      rw [z.1, z.2]
      simp
    rw [w] at k
    exact fin_s k e (.tup h1 h2)
  · cases hf

/-! ### built-in functions -/
def fLen : List PyData → Option OD
  | [.list ds] => oi ds.length
  | [.tuple ds] => oi ds.length
  | [.str z] => if z.length ≤ zl then oi z.length else none
  | _ => none
def fAbs : List PyData → Option OD
  | [.int i] => oi (if i < 0 then -i else i)
  | _ => none
def fMax2 : List PyData → Option OD
  | [.int i, .int j] => oi (if j > i then j else i)
  | _ => none
def fMin2 : List PyData → Option OD
  | [.int i, .int j] => oi (if j < i then j else i)
  | _ => none
def fInt : List PyData → Option OD
  | [.int i] => oi i
  | [.bool b] => oi (if b then 1 else 0)
  | _ => none
def fList : List PyData → Option OD
  | [.list ds] => some (.lst ds)
  | [.tuple ds] => some (.lst ds)
  | _ => none
def fTuple : List PyData → Option OD
  | [.list ds] => some (.dat (.tuple ds))
  | [.tuple ds] => some (.dat (.tuple ds))
  | _ => none
def bools : List PyData → Option (List Bool)
  | [] => some []
  | .bool b :: r => (bools r).map (b :: ·)
  | _ :: _ => none
section
variable {K : PySem.W.Frag} {cg : Str → Option Value}
theorem g_len : CaG K cg (fun xs H Q => ∃ x n, xs = [x] ∧ LenV K x H n ∧ Q (.int n) H) fLen := fun F H xs as o Q e hx hf k => by
  unfold fLen at hf
  split at hf
  · rename_i ds
    cases hf
    cases hx with
    | cons h t =>
      cases t
      obtain ⟨p, vs, rfl, h1, h2⟩ := h
      refine ⟨_, ds.length, rfl, .inl ⟨vs, .of h1, (dpa_len h2).symm⟩, fin_s k e (.int _)⟩
  · rename_i ds
    cases hf
    cases hx with
    | cons h t =>
      cases t
      obtain ⟨p, vs, rfl, h1, h2⟩ := h.tup
      refine ⟨_, ds.length, rfl, .inr ⟨vs, sqt_mono e h1, (dpa_len h2).symm⟩, fin_s k e (.int _)⟩
  · rename_i z
    split at hf
    · rename_i hz
      cases hf
      cases hx with
      | cons h t =>
        cases t
        rw [h.str]
        exact ⟨_, z.length, rfl, ⟨zl_le hz, rfl⟩, fin_s k e (.int _)⟩
    · cases hf
  · cases hf
theorem g_list : CaG K cg (fun xs H Q => ∃ p ys, xs = [.ref p] ∧ (SqL K H p ys ∨ SqT K H p ys) ∧ ∀ l, H l = none → Q (.ref l) (upd H l (.lst ys))) fList := fun F H xs as o Q e hx hf k => by
  unfold fList at hf
  split at hf
  · cases hf
    cases hx with
    | cons h t =>
      cases t
      obtain ⟨p, vs, rfl, h1, h2⟩ := h
      exact ⟨_, _, rfl, .inl (.of h1), fun p hp => fin_l k e hp h2⟩
  · cases hf
    cases hx with
    | cons h t =>
      cases t
      obtain ⟨p, vs, rfl, h1, h2⟩ := h.tup
      exact ⟨_, _, rfl, .inr (sqt_mono e h1), fun p hp => fin_l k e hp h2⟩
  · cases hf
theorem g_tuple : CaG K cg (fun xs H Q => ∃ p ys, xs = [.ref p] ∧ ((SqL K H p ys ∧ ∀ l, H l = none → Q (.ref l) (upd H l (.tup ys))) ∨ (SqT K H p ys ∧ Q (.ref p) H))) fTuple := fun F H xs as o Q e hx hf k => by
  unfold fTuple at hf
  split at hf
  · cases hf
    cases hx with
    | cons h t =>
      cases t
      obtain ⟨p, vs, rfl, h1, h2⟩ := h
      exact ⟨_, _, rfl, .inl ⟨.of h1, fun p hp => fin_t k e hp h2⟩⟩
  · cases hf
    cases hx with
    | cons h t =>
      cases t
      obtain ⟨p, vs, rfl, h1, h2⟩ := h.tup
      exact ⟨_, _, rfl, .inr ⟨sqt_mono e h1, fin_s k e (.tup h1 h2)⟩⟩
  · cases hf
end

/-! ### isinstance of a built-in class -/
def tyN : PyData → String
  | .none => "NoneType"
  | .bool _ => "bool"
  | .int _ => "int"
  | .str _ => "str"
  | .list _ => "list"
  | .tuple _ => "tuple"
  | .dict _ => "dict"
def fIs (T : String) (d : PyData) : Option Bool := kitB (tyN d) T
theorem Vw.ty {K : PySem.W.Frag} {F H : Hp} {x : V} {d : PyData} (e : Same F H) (h : Vw K F H x d) : TyX K H x (.type (tyN d)) := by
  cases d with
  | none =>
    rw [h.non]
    exact .base .non
  | list ds =>
    obtain ⟨p, vs, rfl, h1, _⟩ := h
    exact .base (.lst h1)
  | int i =>
    rw [h.int]
    exact .base (.int i)
  | str i =>
    rw [h.str]
    exact .base (.str i)
  | bool i =>
    rw [h.bool]
    exact .base (.bl i)
  | tuple ds =>
    obtain ⟨p, vs, rfl, h1, _⟩ := h.tup
    rcases h1 with (h1 | ⟨ob, h1⟩) | ⟨ob, its, n, h1, h2, _⟩
    · exact .base (.tup (e _ _ h1))
    · exact .fTuple (e _ _ h1)
    · exact .kTuple h1 h2
  | dict kvs => cases (show Dq K F x (.dict kvs) from h)
end VL
namespace VL
open PySem L2

/-- what an exception is wished to do, and what is known of the fixed values -/
structure Wz where
  x : WX
  Z : Pv → Prop
abbrev cgX (X : Cx) (W : Wz) : Cg := ⟨X.mg, W.Z⟩
def DV (X : Cx) (W : Wz) (e : Expr) (m : Gm → Out PyData) : Prop := ∃ t, PE X e t ∧ RV X.K (cgX X W) W.x t m
def DO (X : Cx) (W : Wz) (e : Expr) (m : Gm → Out OD) : Prop := ∃ t, PE X e t ∧ RO X.K (cgX X W) W.x t m
def DP (X : Cx) (W : Wz) (e : Expr) (m : Gm → Res PyData) : Prop := ∃ t, PE X e t ∧ RP X.K (cgX X W) W.x t m
def DW (X : Cx) (W : Wz) (e : Expr) (m : Gm → Res PyData) : Prop := ∃ t, PE X e t ∧ RW X.K (cgX X W) W.x t m
def DR (X : Cx) (W : Wz) (e : Expr) (m : Gm → Res OD) : Prop := ∃ t, PE X e t ∧ RR X.K (cgX X W) W.x t m
def DT (X : Cx) (W : Wz) (e : Expr) (m : Gm → Out Bool) : Prop := ∃ t, PT X e t ∧ RT X.K (cgX X W) W.x t m
def DA (X : Cx) (W : Wz) (es : List Expr) (m : Gm → Out (List PyData)) : Prop := ∃ t, PA X es t ∧ RA X.K (cgX X W) W.x t m
def DWA (X : Cx) (W : Wz) (es : List Expr) (m : Gm → Res (List PyData)) : Prop := ∃ t, PA X es t ∧ RWA X.K (cgX X W) W.x t m
/-- a test made of and, or -/
def DQ (X : Cx) (W : Wz) (e : Expr) (m : Gm → Out Bool) : Prop := ∃ t, PW X e t ∧ RT X.K (cgX X W) W.x t m

/-! ### mirrors -/
def vP (m : Gm → Res PyData) (g : Gm) : Out PyData := up (m g) g
def oR (m : Gm → Res OD) (g : Gm) : Out OD := up (m g) g
def oV (m : Gm → Out PyData) (g : Gm) : Out OD := (m g).bind fun d g => .ok (.dat d) g
def rP (m : Gm → Res PyData) (g : Gm) : Res OD := (m g).bind fun d => .ok (.dat d)
def vO (m : Gm → Out OD) (g : Gm) : Out PyData := (m g).bind fun o g => .of o.frz g
def pR (m : Gm → Res OD) (g : Gm) : Res PyData := (m g).bind fun o => .of o.frz
section
variable {X : Cx} {W : Wz} {e : Expr}
theorem DP.v {m : Gm → Res PyData} (h : DP X W e m) : DV X W e (vP m) := let ⟨t, a, b⟩ := h; ⟨t, a, b.v⟩
theorem DP.w {m : Gm → Res PyData} (h : DP X W e m) : DW X W e m := let ⟨t, a, b⟩ := h; ⟨t, a, b.w⟩
theorem DR.o {m : Gm → Res OD} (h : DR X W e m) : DO X W e (oR m) := let ⟨t, a, b⟩ := h; ⟨t, a, b.o⟩
theorem DV.o {m : Gm → Out PyData} (h : DV X W e m) : DO X W e (oV m) := let ⟨t, a, b⟩ := h; ⟨t, a, b.o⟩
theorem DP.r {m : Gm → Res PyData} (h : DP X W e m) : DR X W e (rP m) := let ⟨t, a, b⟩ := h; ⟨t, a, b.r⟩
theorem DO.v {m : Gm → Out OD} (h : DO X W e m) : DV X W e (vO m) := let ⟨t, a, b⟩ := h; ⟨t, a, b.v⟩
theorem DR.p {m : Gm → Res OD} (h : DR X W e m) : DP X W e (pR m) := let ⟨t, a, b⟩ := h; ⟨t, a, b.p⟩
end

section
variable {K : PySem.W.Frag} {cg : Cg} {W : WX}
def vFrz (i : Nat) (g : Gm) : Out PyData :=
  match (gt g i).od with
  | some o => match o.frz with
    | some d => .ok d (st g i ((gt g i).with (.dat d)))
    | none => .stk
  | none => .stk
def oMov (i : Nat) (g : Gm) : Out OD :=
  match (gt g i).od with
  | some o => .ok o (st g i .no)
  | none => .stk
end
section
variable {X : Cx} {W : Wz}
theorem dp_var (i : Nat) {x : Str} {pos : Pos} (hN : X.N[i]? = some x := by rfl) (hv : Vis X.env.scope x := by first | exact Or.inl rfl | exact Or.inr (Or.inl rfl) | exact Or.inr (Or.inr rfl)) (hd : (x == ("__debug__" : Str)) = false := by decide)
    (hcd : (x == ("__classdict__" : Str)) = false := by decide) : DP X W (.Name x pos) (pVar i) := ⟨_, pv i hN hv hd hcd, rp_var i⟩
theorem dw_var (i : Nat) {x : Str} {pos : Pos} (hN : X.N[i]? = some x := by rfl) (hv : Vis X.env.scope x := by first | exact Or.inl rfl | exact Or.inr (Or.inl rfl) | exact Or.inr (Or.inr rfl)) (hd : (x == ("__debug__" : Str)) = false := by decide)
    (hcd : (x == ("__classdict__" : Str)) = false := by decide) : DW X W (.Name x pos) (wVar i) := ⟨_, pv i hN hv hd hcd, rw_var i⟩
theorem dp_int {i : Int} {j pos} : DP X W (.Constant (.int i) j pos) (pC (.int i)) := ⟨_, pe_int, rp_c fun _ => .int i⟩
theorem dp_bl {b : Bool} {j pos} : DP X W (.Constant (.bool b) j pos) (pC (.bool b)) := ⟨_, pe_bl, rp_c fun _ => .bl b⟩
theorem dp_str {x : Str} {j pos} : DP X W (.Constant (.str x) j pos) (pC (.str x)) := ⟨_, pe_str, rp_c fun _ => .str x⟩
/-- a constant of the module -/
theorem dp_glob {x : Str} {v : V} {u : Value} {d : PyData} {pos : Pos} (hm : X.mg x = some u) (r : RelV v u) (h : ∀ F, Dq X.K F v d) (hg : Gl X x := by rfl) (hd : (x == ("__debug__" : Str)) = false := by decide) : DP X W (.Name x pos) (pC d) :=
  ⟨_, pe_glob hg hm r hd, rp_c h⟩
variable {a b c : Expr} {pos : Pos}
/-! ### operations -/
theorem dr_bin {op : Operator} {r : R2} {f : PyData → PyData → Option OD} {ma mb : Gm → Res PyData} (ho : OpR X (binaryOp op) r) (hg : OpG X.K X.mg r f) (ha : DW X W a ma) (hb : DW X W b mb) : DR X W (.BinOp a op b pos) (rOp f ma mb) :=
  let ⟨_, a1, a2⟩ := ha; let ⟨_, b1, b2⟩ := hb; ⟨_, pe_op ho a1 b1, RW.op hg a2 b2⟩
theorem do_bin {op : Operator} {r : R2} {f : PyData → PyData → Option OD} {ma mb : Gm → Out PyData} (ho : OpR X (binaryOp op) r) (hg : OpG X.K X.mg r f) (ha : DV X W a ma) (hb : DV X W b mb) : DO X W (.BinOp a op b pos) (oOp f ma mb) :=
  let ⟨_, a1, a2⟩ := ha; let ⟨_, b1, b2⟩ := hb; ⟨_, pe_op ho a1 b1, RV.op hg a2 b2⟩
theorem dr_cmp {op : CmpOp} {r : R2} {f : PyData → PyData → Option OD} {ma mb : Gm → Res PyData} (ho : OpR X (compareOp op) r) (hg : OpG X.K X.mg r f) (ha : DW X W a ma) (hb : DW X W b mb) (hm : behindInMarks op b = false := by first | exact nomark _ | with_unfolding_all rfl) : DR X W (.Compare a [op] [b] pos) (rOp f ma mb) :=
  let ⟨_, a1, a2⟩ := ha; let ⟨_, b1, b2⟩ := hb; ⟨_, pe_cmpR ho a1 b1 hm, RW.op hg a2 b2⟩
theorem do_cmp {op : CmpOp} {r : R2} {f : PyData → PyData → Option OD} {ma mb : Gm → Out PyData} (ho : OpR X (compareOp op) r) (hg : OpG X.K X.mg r f) (ha : DV X W a ma) (hb : DV X W b mb) (hm : behindInMarks op b = false := by first | exact nomark _ | with_unfolding_all rfl) : DO X W (.Compare a [op] [b] pos) (oOp f ma mb) :=
  let ⟨_, a1, a2⟩ := ha; let ⟨_, b1, b2⟩ := hb; ⟨_, pe_cmpR ho a1 b1 hm, RV.op hg a2 b2⟩
theorem dr_ix {ma mb : Gm → Res PyData} (ha : DW X W a ma) (hb : DW X W b mb) (hs : PlainIx b := by exact fun _ _ => rfl) : DR X W (.Subscript a b pos) (rOp fIx ma mb) :=
  let ⟨_, a1, a2⟩ := ha; let ⟨_, b1, b2⟩ := hb; ⟨_, pe_ix ix_seq a1 b1 hs, RW.op g_ix a2 b2⟩
theorem do_ix {ma mb : Gm → Out PyData} (ha : DV X W a ma) (hb : DV X W b mb) (hs : PlainIx b := by exact fun _ _ => rfl) : DO X W (.Subscript a b pos) (oOp fIx ma mb) :=
  let ⟨_, a1, a2⟩ := ha; let ⟨_, b1, b2⟩ := hb; ⟨_, pe_ix ix_seq a1 b1 hs, RV.op g_ix a2 b2⟩
end
/-! ### a op b op' c -/
def tst (d : PyData) (g : Gm) : Out Bool :=
  match d with
  | .bool b => .ok b g
  | _ => .stk
def vChain (f f' : PyData → PyData → Option OD) (ma mb mc : Gm → Out PyData) (g : Gm) : Out OD :=
  (ma g).bind fun a g1 => (mb g1).bind fun b g2 => match f a b with
    | some (.dat (.bool true)) => (mc g2).bind fun c g3 => .of (f' b c) g3
    | some (.dat (.bool false)) => .ok (.dat (.bool false)) g2
    | _ => .stk
section
variable {K : PySem.W.Frag} {cg : Cg} {W : WX} {pvs : Pv} {g : Gm} {σ : L2.St} {S S1 S' A : Addr → Prop} {F F1 F' H H1 H' : Hp}
/-- the owned post at a value of plain data -/
theorem PoO.dat {Q : VK} {d : PyData} {v : V} (q : PoO K cg W pvs σ S F H Q (.ok (.dat d) g)) (s : Stp S F H S' F' H') (r : Rel K cg pvs g σ S' F' H') (h : Dq K F' v d) : Q v H' :=
  q v (fun _ => False) S' F' H' (s.sub fun p hp => hp.elim id False.elim) r (.dat h fun _ z => z) fun _ z _ => z
theorem RV.chain {r r' : R2} {f f' : PyData → PyData → Option OD} {ta tb tc : TE} {ma mb mc : Gm → Out PyData} (ho : OpG K cg r f) (ho' : OpG K cg r' f') (ha : RV K cg W ta ma) (hb : RV K cg W tb mb) (hc : RV K cg W tc mc) :
    RO K cg W (tChain r r' ta tb tc) (vChain f f' ma mb mc) := fun pvs g σ S F H Q rl q => by
  refine ha pvs g σ S F H _ rl ?_
  unfold vChain at q
  cases e : ma g with
  | ok a g1 =>
    rw [e] at q
    intro v S1 F1 H1 s1 r1 d1
    refine hb pvs g1 σ S1 F1 H1 _ r1 ?_
    simp only [Out.bind] at q
    have q := PoO.st q s1
    cases e2 : mb g1 with
    | ok b g2 =>
      rw [e2] at q
      intro w S2 F2 H2 s2 r2 d2
      simp only at q
      have q := PoO.st q s2
      cases e3 : f a b with
      | none =>
        rw [e3] at q
        exact q.elim
      | some o =>
        rw [e3] at q
        refine ho F2 H2 v w a b o _ r2.fh ((dp_mo d1 s2.fr).vw r2.fh) (d2.vw r2.fh) e3 fun z A F3 H3 p3 ow fr => ?_
        have q := PoO.st q (p3.stp (S := S2))
        cases ow with
        | dat hd _ =>
          rename_i d
          cases hd with
          | bl k =>
            cases k with
            | true =>
              refine ⟨true, rfl, ?_⟩
              rw [if_pos rfl]
              refine hc pvs g2 σ S2 F3 H3 _ (r2.pst p3) ?_
              simp only at q
              cases e4 : mc g2 with
              | ok c g3 =>
                rw [e4] at q
                intro w' S4 F4 H4 s4 r4 d4
                simp only at q
                have q := PoO.st q s4
                cases e5 : f' b c with
                | none =>
                  rw [e5] at q
                  exact q.elim
                | some o' =>
                  rw [e5] at q
                  exact ho' F4 H4 w w' b c o' Q r4.fh ((dp_mo (dp_mo d2 p3.fr) s4.fr).vw r4.fh) (d4.vw r4.fh) e5 fun u A F5 H5 p5 ow5 fr5 => q u A S4 F5 H5 (p5.stpA fr5) (r4.pst p5) ow5 (r4.apart fr5)
              | err e' g3 =>
                rw [e4] at q
                exact q
              | stk =>
                rw [e4] at q
                exact q.elim
            | false =>
              refine ⟨false, rfl, ?_⟩
              rw [if_neg Bool.false_ne_true]
              exact PoO.dat q (.refl p3.fh) (r2.pst p3) (.bl false)
          | non => exact q.elim
          | int i => exact q.elim
          | str x => exact q.elim
          | lst h1 h2 => exact q.elim
          | tup h1 h2 => exact q.elim
        | lst h1 h2 h3 h4 => exact q.elim
        | dk h1 h2 h3 h4 h5 => exact q.elim
        | dt h1 h2 h3 h4 h5 => exact q.elim
        | nd h1 h2 h3 h4 h5 h6 h7 h8 => exact q.elim
        | scr h1 h2 => exact q.elim
        | exc h2 => exact q.elim
        | tk h1 h2 => exact q.elim
        | fz h1 h3 h4 h5 h7 h8 => exact q.elim
    | err e' g2 =>
      rw [e2] at q
      exact q
    | stk =>
      rw [e2] at q
      exact q.elim
  | err e' g1 =>
    rw [e] at q
    exact q
  | stk =>
    rw [e] at q
    exact q.elim
/-! ### tests -/
def tV (m : Gm → Out PyData) (g : Gm) : Out Bool := (m g).bind tst
theorem rt_b {t : TE} {m : Gm → Out PyData} (h : RV K cg W t m) : RT K cg W (tB t) (tV m) := fun pvs g σ S F H Q r q => by
  refine h pvs g σ S F H _ r ?_
  unfold tV at q
  cases e : m g with
  | ok d g1 =>
    rw [e] at q
    intro v S1 F1 H1 s1 r1 d1
    cases d1 with
    | bl b => exact ⟨b, rfl, q S1 F1 H1 s1 r1⟩
    | non => exact q.elim
    | int i => exact q.elim
    | str x => exact q.elim
    | lst h1 h2 => exact q.elim
    | tup h1 h2 => exact q.elim
  | err e' g1 =>
    rw [e] at q
    exact q
  | stk =>
    rw [e] at q
    exact q.elim
def tAndM (ma mb : Gm → Out Bool) (g : Gm) : Out Bool := (ma g).bind fun a g1 => if a = true then mb g1 else .ok false g1
def tOrM (ma mb : Gm → Out Bool) (g : Gm) : Out Bool := (ma g).bind fun a g1 => if a = true then .ok true g1 else mb g1
def tNotM (ma : Gm → Out Bool) (g : Gm) : Out Bool := (ma g).bind fun a g1 => .ok (!a) g1
theorem rt_and {t u : TT} {ma mb : Gm → Out Bool} (ha : RT K cg W t ma) (hb : RT K cg W u mb) : RT K cg W (tAnd t u) (tAndM ma mb) := fun pvs g σ S F H Q r q => by
  refine ha pvs g σ S F H _ r ?_
  unfold tAndM at q
  cases e : ma g with
  | ok a g1 =>
    rw [e] at q
    intro S1 F1 H1 s1 r1
    have q := PoT.st q s1
    cases a with
    | true => exact hb pvs g1 σ S1 F1 H1 Q r1 q
    | false => exact q S1 F1 H1 (.refl r1.fh) r1
  | err e' g1 =>
    rw [e] at q
    exact q
  | stk =>
    rw [e] at q
    exact q.elim
theorem rt_or {t u : TT} {ma mb : Gm → Out Bool} (ha : RT K cg W t ma) (hb : RT K cg W u mb) : RT K cg W (tOr t u) (tOrM ma mb) := fun pvs g σ S F H Q r q => by
  refine ha pvs g σ S F H _ r ?_
  unfold tOrM at q
  cases e : ma g with
  | ok a g1 =>
    rw [e] at q
    intro S1 F1 H1 s1 r1
    have q := PoT.st q s1
    cases a with
    | false => exact hb pvs g1 σ S1 F1 H1 Q r1 q
    | true => exact q S1 F1 H1 (.refl r1.fh) r1
  | err e' g1 =>
    rw [e] at q
    exact q
  | stk =>
    rw [e] at q
    exact q.elim
theorem rt_not {t : TT} {ma : Gm → Out Bool} (ha : RT K cg W t ma) : RT K cg W (tNot t) (tNotM ma) := fun pvs g σ S F H Q r q => by
  refine ha pvs g σ S F H _ r ?_
  unfold tNotM at q
  cases e : ma g with
  | ok a g1 =>
    rw [e] at q
    exact fun S1 F1 H1 s1 r1 => q S1 F1 H1 s1 r1
  | err e' g1 =>
    rw [e] at q
    exact q
  | stk =>
    rw [e] at q
    exact q.elim
/-! ### and, or, not of bools as values -/
def vAnd (ma mb : Gm → Out PyData) (g : Gm) : Out PyData := (ma g).bind fun d g1 => match d with
  | .bool true => mb g1
  | .bool false => .ok (.bool false) g1
  | _ => .stk
def vOr (ma mb : Gm → Out PyData) (g : Gm) : Out PyData := (ma g).bind fun d g1 => match d with
  | .bool false => mb g1
  | .bool true => .ok (.bool true) g1
  | _ => .stk
def vNot (ma : Gm → Out PyData) (g : Gm) : Out PyData := (ma g).bind fun d g1 => match d with
  | .bool b => .ok (.bool (!b)) g1
  | _ => .stk
theorem rv_and {t u : TE} {ma mb : Gm → Out PyData} (ha : RV K cg W t ma) (hb : RV K cg W u mb) : RV K cg W (tAndV t u) (vAnd ma mb) := fun pvs g σ S F H Q r q => by
  refine ha pvs g σ S F H _ r ?_
  unfold vAnd at q
  cases e : ma g with
  | ok d g1 =>
    rw [e] at q
    intro v S1 F1 H1 s1 r1 d1
    have q := PoV.st q s1
    cases d1 with
    | bl b =>
      refine ⟨b, rfl, ?_⟩
      cases b with
      | true => exact hb pvs g1 σ S1 F1 H1 Q r1 q
      | false => exact q _ S1 F1 H1 (.refl r1.fh) r1 (.bl false)
    | non => exact q.elim
    | int i => exact q.elim
    | str x => exact q.elim
    | lst h1 h2 => exact q.elim
    | tup h1 h2 => exact q.elim
  | err e' g1 =>
    rw [e] at q
    exact q
  | stk =>
    rw [e] at q
    exact q.elim
theorem rv_or {t u : TE} {ma mb : Gm → Out PyData} (ha : RV K cg W t ma) (hb : RV K cg W u mb) : RV K cg W (tOrV t u) (vOr ma mb) := fun pvs g σ S F H Q r q => by
  refine ha pvs g σ S F H _ r ?_
  unfold vOr at q
  cases e : ma g with
  | ok d g1 =>
    rw [e] at q
    intro v S1 F1 H1 s1 r1 d1
    have q := PoV.st q s1
    cases d1 with
    | bl b =>
      refine ⟨b, rfl, ?_⟩
      cases b with
      | false => exact hb pvs g1 σ S1 F1 H1 Q r1 q
      | true => exact q _ S1 F1 H1 (.refl r1.fh) r1 (.bl true)
    | non => exact q.elim
    | int i => exact q.elim
    | str x => exact q.elim
    | lst h1 h2 => exact q.elim
    | tup h1 h2 => exact q.elim
  | err e' g1 =>
    rw [e] at q
    exact q
  | stk =>
    rw [e] at q
    exact q.elim
def vIf (mt : Gm → Out Bool) (ma mb : Gm → Out PyData) (g : Gm) : Out PyData := (mt g).bind fun b g1 => if b = true then ma g1 else mb g1
/-! ### x or y of any values, by truth -/
def tru : PyData → Option Bool
  | .none => some false
  | .bool b => some b
  | .int i => some (i != 0)
  | .str y => if y.length ≤ zl then some ((y.length : Int) != 0) else none
  | .list ds => some (!ds.isEmpty)
  | .tuple ds => some (!ds.isEmpty)
  | .dict _ => none
def vOrT (ma mb : Gm → Out PyData) (g : Gm) : Out PyData := (ma g).bind fun d g1 => match tru d with
  | some true => .ok d g1
  | some false => mb g1
  | none => .stk
/-! ### displays -/
def oTup (m : Gm → Out (List PyData)) (g : Gm) : Out OD := (m g).bind fun ds g1 => if ds.length ≤ zl then .ok (.dat (.tuple ds)) g1 else .stk
def oLst (m : Gm → Out (List PyData)) (g : Gm) : Out OD := (m g).bind fun ds g1 => if ds.length ≤ zl then .ok (.lst ds) g1 else .stk
theorem ro_tup {t : TA} {m : Gm → Out (List PyData)} (h : RA K cg W t m) : RO K cg W (tTup t) (oTup m) := fun pvs g σ S F H Q r q => by
  refine h pvs g σ S F H _ r ?_
  unfold oTup at q
  cases e : m g with
  | ok ds g1 =>
    rw [e] at q
    intro vs S1 F1 H1 s1 r1 d1
    simp only [Out.bind] at q
    have q := PoO.st q s1
    split at q
    · rename_i hz
      refine ⟨by rw [dpa_len d1]; exact zl_le hz, fun p hp => ?_⟩
      exact fin_t (fun v A F' H' p3 ow fr => q v A S1 F' H' (p3.stpA fr) (r1.pst p3) ow (r1.apart fr)) r1.fh hp d1
    · exact q.elim
  | err e' g1 =>
    rw [e] at q
    exact q
  | stk =>
    rw [e] at q
    exact q.elim
theorem ro_lst {t : TA} {m : Gm → Out (List PyData)} (h : RA K cg W t m) : RO K cg W (tLst t) (oLst m) := fun pvs g σ S F H Q r q => by
  refine h pvs g σ S F H _ r ?_
  unfold oLst at q
  cases e : m g with
  | ok ds g1 =>
    rw [e] at q
    intro vs S1 F1 H1 s1 r1 d1
    simp only [Out.bind] at q
    have q := PoO.st q s1
    split at q
    · rename_i hz
      refine ⟨by rw [dpa_len d1]; exact zl_le hz, fun p hp => ?_⟩
      exact fin_l (fun v A F' H' p3 ow fr => q v A S1 F' H' (p3.stpA fr) (r1.pst p3) ow (r1.apart fr)) r1.fh hp d1
    · exact q.elim
  | err e' g1 =>
    rw [e] at q
    exact q
  | stk =>
    rw [e] at q
    exact q.elim
/-! ### slices -/
def PoN (K : PySem.W.Frag) (cg : Cg) (W : WX) (pvs : Pv) (σ : L2.St) (S : Addr → Prop) (F H : Hp) (Q : Option Int → Hp → Prop) : Out (Option Int) → Prop
  | .ok n g => ∀ S' F' H', Stp S F H S' F' H' → Rel K cg pvs g σ S' F' H' → Q n H'
  | .err e g => ErrP K cg W pvs σ S F H e g
  | .stk => False
def RN (K : PySem.W.Frag) (cg : Cg) (W : WX) (t : L2.TO) (m : Gm → Out (Option Int)) : Prop := ∀ pvs g σ S F H Q, Rel K cg pvs g σ S F H → PoN K cg W pvs σ S F H Q (m g) → t σ H Q
theorem PoN.st {Q : Option Int → Hp → Prop} {x : Out (Option Int)} (h : PoN K cg W pvs σ S F H Q x) (a : Stp S F H S1 F1 H1) : PoN K cg W pvs σ S1 F1 H1 Q x := by
  cases x with
  | ok d g => exact fun S' F' H' b r => h S' F' H' (a.trans b) r
  | err e g => exact ErrP.st h a
  | stk => exact h
def nNone (g : Gm) : Out (Option Int) := .ok none g
def nSome (m : Gm → Out PyData) (g : Gm) : Out (Option Int) := (m g).bind fun d g1 => match d with
  | .int i => .ok (some i) g1
  | _ => .stk
theorem rn_none : RN K cg W tNoPart nNone := fun pvs g σ S F H Q r q => q S F H (.refl r.fh) r
theorem rn_some {t : TE} {m : Gm → Out PyData} (h : RV K cg W t m) : RN K cg W (tPart t) (nSome m) := fun pvs g σ S F H Q r q => by
  refine h pvs g σ S F H _ r ?_
  unfold nSome at q
  cases e : m g with
  | ok d g1 =>
    rw [e] at q
    intro v S1 F1 H1 s1 r1 d1
    cases d1 with
    | int i => exact ⟨i, rfl, q S1 F1 H1 s1 r1⟩
    | bl b => exact q.elim
    | non => exact q.elim
    | str x => exact q.elim
    | lst h1 h2 => exact q.elim
    | tup h1 h2 => exact q.elim
  | err e' g1 =>
    rw [e] at q
    exact q
  | stk =>
    rw [e] at q
    exact q.elim
def oSl (m : Gm → Out PyData) (ml mh : Gm → Out (Option Int)) (g : Gm) : Out OD := (m g).bind fun d g1 => (ml g1).bind fun lo g2 => (mh g2).bind fun hi g3 => .of (fSl d lo hi) g3
theorem ro_sl {t : TE} {tl th : L2.TO} {m : Gm → Out PyData} {ml mh : Gm → Out (Option Int)} (h : RV K cg W t m) (hl : RN K cg W tl ml) (hh : RN K cg W th mh) : RO K cg W (tSl (rSlG K) t tl th) (oSl m ml mh) := fun pvs g σ S F H Q r q => by
  refine h pvs g σ S F H _ r ?_
  unfold oSl at q
  cases e : m g with
  | ok d g1 =>
    rw [e] at q
    intro v S1 F1 H1 s1 r1 d1
    refine hl pvs g1 σ S1 F1 H1 _ r1 ?_
    simp only [Out.bind] at q
    have q := PoO.st q s1
    cases e2 : ml g1 with
    | ok lo g2 =>
      rw [e2] at q
      intro S2 F2 H2 s2 r2
      refine hh pvs g2 σ S2 F2 H2 _ r2 ?_
      simp only at q
      have q := PoO.st q s2
      cases e3 : mh g2 with
      | ok hi g3 =>
        rw [e3] at q
        intro S3 F3 H3 s3 r3
        simp only at q
        have q := PoO.st q s3
        cases e4 : fSl d lo hi with
        | none =>
          rw [e4] at q
          exact q.elim
        | some o =>
          rw [e4] at q
          exact g_sl r3.fh ((dp_mo (dp_mo d1 s2.fr) s3.fr).vw r3.fh) e4 fun u A F5 H5 p5 ow5 fr5 => q u A S3 F5 H5 (p5.stpA fr5) (r3.pst p5) ow5 (r3.apart fr5)
      | err e' g3 =>
        rw [e3] at q
        exact q
      | stk =>
        rw [e3] at q
        exact q.elim
    | err e' g2 =>
      rw [e2] at q
      exact q
    | stk =>
      rw [e2] at q
      exact q.elim
  | err e' g1 =>
    rw [e] at q
    exact q
  | stk =>
    rw [e] at q
    exact q.elim
/-! ### isinstance -/
def vIs (T : String) (m : Gm → Out PyData) (g : Gm) : Out PyData := (m g).bind fun d g1 => match fIs T d with
  | some b => .ok (.bool b) g1
  | none => .stk
end
section
variable {X : Cx} {W : Wz} {a b c : Expr} {pos : Pos}
theorem dt_val {m : Gm → Out PyData} (h : DV X W a m) (he : ∀ whole, isTrue a X.env whole = (do let v ← whole; standAt a.pos; holding [v] (truthy v)) := by intro _; rfl) : DT X W a (tV m) := let ⟨_, h1, h2⟩ := h; ⟨_, pt_val h1 he, rt_b h2⟩
theorem rt_test {K : PySem.W.Frag} {cg : Cg} {W : WX} {t : TE} {m : Gm → Out PyData} (h : RV K cg W t m) : RT K cg W (tTest t) (tV m) := rt_b h
theorem dt_cmp {op : CmpOp} {r : R2} {f : PyData → PyData → Option OD} {ma mb : Gm → Out PyData} (ho : OpR X (compareOp op) r) (hg : OpG X.K X.mg r f) (ha : DV X W a ma) (hb : DV X W b mb) (hm : behindInMarks op b = false := by first | exact nomark _ | with_unfolding_all rfl) : DT X W (.Compare a [op] [b] pos) (tV (vO (oOp f ma mb))) :=
  let ⟨_, a1, a2⟩ := ha; let ⟨_, b1, b2⟩ := hb; ⟨_, pt_cmpR ho a1 b1 hm, rt_test (RO.v (RV.op hg a2 b2))⟩
theorem dt_cmpW {op : CmpOp} {r : R2} {f : PyData → PyData → Option OD} {ma mb : Gm → Res PyData} (ho : OpR X (compareOp op) r) (hg : OpG X.K X.mg r f) (ha : DW X W a ma) (hb : DW X W b mb) (hm : behindInMarks op b = false := by first | exact nomark _ | with_unfolding_all rfl) : DT X W (.Compare a [op] [b] pos) (tV (vP (pR (rOp f ma mb)))) :=
  let ⟨_, a1, a2⟩ := ha; let ⟨_, b1, b2⟩ := hb; ⟨_, pt_cmpR ho a1 b1 hm, rt_test (RP.v (RR.p (RW.op hg a2 b2)))⟩
theorem dt_chain {op op' : CmpOp} {r r' : R2} {f f' : PyData → PyData → Option OD} {ma mb mc : Gm → Out PyData} (ho : OpR X (compareOp op) r) (ho' : OpR X (compareOp op') r') (hg : OpG X.K X.mg r f) (hg' : OpG X.K X.mg r' f') (ha : DV X W a ma) (hb : DV X W b mb) (hc : DV X W c mc)
    (hm : lastMarks [op, op'] [b, c] = false := by with_unfolding_all rfl) : DT X W (.Compare a [op, op'] [b, c] pos) (tV (vO (vChain f f' ma mb mc))) :=
  let ⟨_, a1, a2⟩ := ha; let ⟨_, b1, b2⟩ := hb; let ⟨_, c1, c2⟩ := hc; ⟨_, pt_chain ho ho' a1 b1 c1 hm, rt_test (RO.v (RV.chain hg hg' a2 b2 c2))⟩
theorem dt_not {m : Gm → Out Bool} (h : DT X W a m) : DT X W (.UnaryOp .Not a pos) (tNotM m) := let ⟨_, h1, h2⟩ := h; ⟨_, pt_not h1, rt_not h2⟩
theorem DQ.t {m : Gm → Out Bool} (h : DQ X W a m) : DT X W a m := let ⟨_, h1, h2⟩ := h; ⟨_, h1.pt, h2⟩
variable {rest : List Expr}
theorem dq_and1 {m : Gm → Out Bool} (h : DT X W a m) : DQ X W (.BoolOp .And [a] pos) m := let ⟨_, h1, h2⟩ := h; ⟨_, pw_and1 h1, h2⟩
theorem dq_or1 {m : Gm → Out Bool} (h : DT X W a m) : DQ X W (.BoolOp .Or [a] pos) m := let ⟨_, h1, h2⟩ := h; ⟨_, pw_or1 h1, h2⟩
theorem dq_and {ma mb : Gm → Out Bool} (h : DT X W a ma) (h' : DQ X W (.BoolOp .And (b :: rest) pos) mb) : DQ X W (.BoolOp .And (a :: b :: rest) pos) (tAndM ma mb) := let ⟨_, h1, h2⟩ := h; let ⟨_, k1, k2⟩ := h'; ⟨_, pw_and h1 k1, rt_and h2 k2⟩
theorem dq_or {ma mb : Gm → Out Bool} (h : DT X W a ma) (h' : DQ X W (.BoolOp .Or (b :: rest) pos) mb) : DQ X W (.BoolOp .Or (a :: b :: rest) pos) (tOrM ma mb) := let ⟨_, h1, h2⟩ := h; let ⟨_, k1, k2⟩ := h'; ⟨_, pw_or h1 k1, rt_or h2 k2⟩
theorem dv_one {op} {m : Gm → Out PyData} (h : DV X W a m) : DV X W (.BoolOp op [a] pos) m := let ⟨_, h1, h2⟩ := h; ⟨_, pe_one h1, h2⟩
theorem dv_and {ma mb : Gm → Out PyData} (h : DV X W a ma) (h' : DV X W (.BoolOp .And (b :: rest) pos) mb) : DV X W (.BoolOp .And (a :: b :: rest) pos) (vAnd ma mb) := let ⟨_, h1, h2⟩ := h; let ⟨_, k1, k2⟩ := h'; ⟨_, pe_and h1 k1, rv_and h2 k2⟩
theorem dv_or {ma mb : Gm → Out PyData} (h : DV X W a ma) (h' : DV X W (.BoolOp .Or (b :: rest) pos) mb) : DV X W (.BoolOp .Or (a :: b :: rest) pos) (vOr ma mb) := let ⟨_, h1, h2⟩ := h; let ⟨_, k1, k2⟩ := h'; ⟨_, pe_or h1 k1, rv_or h2 k2⟩
variable {e : Expr} {es : List Expr}
theorem da_nil : DA X W [] aNil := ⟨_, pa_nil, ra_nil⟩
theorem da_cons {m : Gm → Out PyData} {mr : Gm → Out (List PyData)} (h : DV X W e m) (hr : DA X W es mr) (hs : starEach (e :: es) X.env = (false, eval e X.env) :: starEach es X.env := by rfl) : DA X W (e :: es) (aCons m mr) :=
  let ⟨_, h1, h2⟩ := h; let ⟨_, k1, k2⟩ := hr; ⟨_, pa_cons h1 k1 hs, ra_cons h2 k2⟩
theorem dwa_nil : DWA X W [] waNil := ⟨_, pa_nil, rwa_nil⟩
theorem dwa_cons {m : Gm → Res PyData} {mr : Gm → Res (List PyData)} (h : DW X W e m) (hr : DWA X W es mr) (hs : starEach (e :: es) X.env = (false, eval e X.env) :: starEach es X.env := by rfl) : DWA X W (e :: es) (waCons m mr) :=
  let ⟨_, h1, h2⟩ := h; let ⟨_, k1, k2⟩ := hr; ⟨_, pa_cons h1 k1 hs, rwa_cons h2 k2⟩
theorem do_tup {m : Gm → Out (List PyData)} {x1} (h : DA X W es m) : DO X W (.Tuple es x1 pos) (oTup m) := let ⟨_, h1, h2⟩ := h; ⟨_, pe_tup h1, ro_tup h2⟩
theorem do_lst {m : Gm → Out (List PyData)} (h : DA X W es m) : DO X W (.List es pos) (oLst m) := let ⟨_, h1, h2⟩ := h; ⟨_, pe_lst h1, ro_lst h2⟩
def DN (X : Cx) (W : Wz) (e : Option Expr) (m : Gm → Out (Option Int)) : Prop := ∃ t, L2.PO X e t ∧ RN X.K (cgX X W) W.x t m
theorem dn_none : DN X W none nNone := ⟨_, po_none, rn_none⟩
theorem dn_some {m : Gm → Out PyData} (h : DV X W e m) : DN X W (some e) (nSome m) := let ⟨_, h1, h2⟩ := h; ⟨_, po_some h1, rn_some h2⟩
theorem do_sl {lo hi : Option Expr} {p2 : Pos} {m : Gm → Out PyData} {ml mh : Gm → Out (Option Int)} (h : DV X W e m) (hl : DN X W lo ml) (hh : DN X W hi mh) : DO X W (.Subscript e (.Slice lo hi none p2) pos) (oSl m ml mh) :=
  let ⟨_, h1, h2⟩ := h; let ⟨_, k1, k2⟩ := hl; let ⟨_, l1, l2⟩ := hh; ⟨_, pe_slice sl_G h1 k1 l1, ro_sl h2 k2 l2⟩
variable {x : Str} {p : Pos} {id T : String} {r : List V → Hp → VK → Prop} {f : List PyData → Option OD}
theorem do_callB {m : Gm → Out (List PyData)} (hc : CallR X (.builtin id) r) (hf : CaG X.K X.mg r f) (hm : X.mg x = none) (hv : bootBuiltins x = some (.builtin id)) (ha : DA X W (e :: es) m) (hg : Gl X x := by rfl) (hn : x ≠ "__name__" := by decide) (hdb : (x == ("__debug__" : Str)) = false := by decide)
    (he : starEach (e :: es) X.env = (false, eval e X.env) :: starEach es X.env := by rfl) (hpl : (backTo pos (starEach es X.env)).any (·.1) = false := by rfl) : DO X W (.Call (.Name x p) (e :: es) [] pos) (oCa f m) :=
  let ⟨_, h1, h2⟩ := ha; ⟨_, pe_callB hc hg hm hv h1 hn hdb he hpl, RA.ca hf h2⟩
theorem do_callTy {m : Gm → Out (List PyData)} (hc : CallR X (.type T) r) (hf : CaG X.K X.mg r f) (hm : X.mg x = none) (hv : bootBuiltins x = some (.type T)) (ha : DA X W (e :: es) m) (hg : Gl X x := by rfl) (hn : x ≠ "__name__" := by decide) (hdb : (x == ("__debug__" : Str)) = false := by decide)
    (he : starEach (e :: es) X.env = (false, eval e X.env) :: starEach es X.env := by rfl) (hpl : (backTo pos (starEach es X.env)).any (·.1) = false := by rfl) : DO X W (.Call (.Name x p) (e :: es) [] pos) (oCa f m) :=
  let ⟨_, h1, h2⟩ := ha; ⟨_, pe_callTy hc hg hm hv h1 hn hdb he hpl, RA.ca hf h2⟩
theorem dr_callB {m : Gm → Res (List PyData)} (hc : CallR X (.builtin id) r) (hf : CaG X.K X.mg r f) (hm : X.mg x = none) (hv : bootBuiltins x = some (.builtin id)) (ha : DWA X W (e :: es) m) (hg : Gl X x := by rfl) (hn : x ≠ "__name__" := by decide) (hdb : (x == ("__debug__" : Str)) = false := by decide)
    (he : starEach (e :: es) X.env = (false, eval e X.env) :: starEach es X.env := by rfl) (hpl : (backTo pos (starEach es X.env)).any (·.1) = false := by rfl) : DR X W (.Call (.Name x p) (e :: es) [] pos) (rCa f m) :=
  let ⟨_, h1, h2⟩ := ha; ⟨_, pe_callB hc hg hm hv h1 hn hdb he hpl, RWA.ca hf h2⟩
theorem dr_callTy {m : Gm → Res (List PyData)} (hc : CallR X (.type T) r) (hf : CaG X.K X.mg r f) (hm : X.mg x = none) (hv : bootBuiltins x = some (.type T)) (ha : DWA X W (e :: es) m) (hg : Gl X x := by rfl) (hn : x ≠ "__name__" := by decide) (hdb : (x == ("__debug__" : Str)) = false := by decide)
    (he : starEach (e :: es) X.env = (false, eval e X.env) :: starEach es X.env := by rfl) (hpl : (backTo pos (starEach es X.env)).any (·.1) = false := by rfl) : DR X W (.Call (.Name x p) (e :: es) [] pos) (rCa f m) :=
  let ⟨_, h1, h2⟩ := ha; ⟨_, pe_callTy hc hg hm hv h1 hn hdb he hpl, RWA.ca hf h2⟩
end
end VL
namespace VL
open PySem L2
section
variable (K : PySem.W.Frag) (cg : Cg) (W : WX)
def ErrS (pvs : Pv) (S : Addr → Prop) (F H : Hp) (e : Er) (g : Gm) : Prop :=
  ∀ C dop σ' S' F' H', Stp S F H S' F' H' → Rel K cg pvs g σ' S' F' H' → cg e.c = some (.ref C) → XOk K F' e.xs dop → W (.ref C) dop σ' H'
def PoS (pvs : Pv) (S : Addr → Prop) (F H : Hp) (D : Ends) : SOut → Prop
  | .nx g => ∀ σ' S' F' H', Stp S F H S' F' H' → Rel K cg pvs g σ' S' F' H' → D.nx σ' H'
  | .rt o g => ∀ v A σ' S' F' H', Stp S F H (fun p => S' p ∨ A p) F' H' → Rel K cg pvs g σ' S' F' H' → Ow K cg F' H' v o A → (∀ q, A q → S' q → False) → D.rt v H'
  | .br g => ∀ σ' S' F' H', Stp S F H S' F' H' → Rel K cg pvs g σ' S' F' H' → D.bk σ' H'
  | .ct g => ∀ σ' S' F' H', Stp S F H S' F' H' → Rel K cg pvs g σ' S' F' H' → D.ct σ' H'
  | .err e g => ErrS K cg W pvs S F H e g
  | .stk => False
def RS (t : TS) (m : Gm → SOut) : Prop := ∀ pvs g σ S F H D, Rel K cg pvs g σ S F H → PoS K cg W pvs S F H D (m g) → t D σ H
end
def DS (X : Cx) (W : Wz) (s : Stmt) (m : Gm → SOut) : Prop := ∃ t, PS X s t ∧ RS X.K (cgX X W) W.x t m
def DSs (X : Cx) (W : Wz) (s : List Stmt) (m : Gm → SOut) : Prop := ∃ t, PSs X s t ∧ RS X.K (cgX X W) W.x t m
section
variable {K : PySem.W.Frag} {cg : Cg} {W : WX} {pvs : Pv} {g : Gm} {σ : L2.St} {S S1 S' A : Addr → Prop} {F F1 F' H H1 H' : Hp} {D : Ends}
theorem ErrS.st {e : Er} (h : ErrS K cg W pvs S F H e g) (a : Stp S F H S1 F1 H1) : ErrS K cg W pvs S1 F1 H1 e g := fun C dop σ' S' F' H' b r c x => h C dop σ' S' F' H' (a.trans b) r c x
theorem ErrS.p {e : Er} (h : ErrS K cg W pvs S F H e g) : ErrP K cg W pvs σ S F H e g := fun C dop S' F' H' b r c x => h C dop σ S' F' H' b r c x
theorem PoS.st {x : SOut} (h : PoS K cg W pvs S F H D x) (a : Stp S F H S1 F1 H1) : PoS K cg W pvs S1 F1 H1 D x := by
  cases x with
  | nx g => exact fun σ' S' F' H' b r => h σ' S' F' H' (a.trans b) r
  | rt o g => exact fun v A σ' S' F' H' b r => h v A σ' S' F' H' (a.trans b) r
  | br g => exact fun σ' S' F' H' b r => h σ' S' F' H' (a.trans b) r
  | ct g => exact fun σ' S' F' H' b r => h σ' S' F' H' (a.trans b) r
  | err e g => exact ErrS.st h a
  | stk => exact h

/-! ### blocks -/
def sNx (g : Gm) : SOut := .nx g
def SOut.bind (x : SOut) (k : Gm → SOut) : SOut :=
  match x with
  | .nx g => k g
  | y => y
def sSeq (m n : Gm → SOut) (g : Gm) : SOut := (m g).bind n
theorem rs_next : RS K cg W tNext sNx := fun pvs g σ S F H D r q => q σ S F H (.refl r.fh) r
theorem rs_seq {t u : TS} {m n : Gm → SOut} (h : RS K cg W t m) (h' : RS K cg W u n) : RS K cg W (tSeq t u) (sSeq m n) := fun pvs g σ S F H D r q => by
  refine h pvs g σ S F H _ r ?_
  unfold sSeq at q
  cases e : m g with
  | nx g1 =>
    rw [e] at q
    exact fun σ' S' F' H' b r' => h' pvs g1 σ' S' F' H' D r' (PoS.st q b)
  | rt o g1 =>
    rw [e] at q
    exact q
  | br g1 =>
    rw [e] at q
    exact q
  | ct g1 =>
    rw [e] at q
    exact q
  | err e' g1 =>
    rw [e] at q
    exact q
  | stk =>
    rw [e] at q
    exact q
/-- a slot is frozen ahead of a statement -/
def frz1 (i : Nat) (g : Gm) : Gm :=
  match (gt g i).od with
  | some o => match o.frz with
    | some d => st g i ((gt g i).with (.dat d))
    | none => g
  | none => g
theorem Rel.frz1 (r : Rel K cg pvs g σ S F H) (i : Nat) : ∃ S' F', Stp S F H S' F' H ∧ Rel K cg pvs (frz1 i g) σ S' F' H := by
  unfold VL.frz1
  cases e : (gt g i).od with
  | none => exact ⟨S, F, .refl r.fh, r⟩
  | some o =>
    obtain ⟨v, A, S1, e1, ow, hS, hd, back⟩ := r.take e
    cases ef : o.frz with
    | none =>
      simp only [ef]
      exact ⟨S, F, .refl r.fh, r⟩
    | some d =>
      simp only [ef]
      obtain ⟨dd, s1⟩ := stp_freeze (S := fun _ => False) ow ef r.fh
      have s2 : Stp A F H (fun _ => False) (VL.more F H A) H := ⟨fun p u hs z => z, s1.fr, fun p u z => by
        rcases s1.nw p u z with y | y | y
        · exact .inl y
        · exact .inr (.inl y)
        · exact .inr (.inr (y.elim False.elim id)), fun p z => z.elim, s1.fh⟩
      obtain ⟨r2, s3⟩ := back (.dat d) (fun _ => False) (VL.more F H A) H s2 (.dat dd fun _ z => z)
      exact ⟨_, _, s3, r2⟩
def sFrz (i : Nat) (m : Gm → SOut) (g : Gm) : SOut := m (frz1 i g)
/-- slots are forgotten -/
def kl : List Nat → Gm → Gm
  | [], g => g
  | i :: is, g => kl is (st g i .no)
theorem Rel.kl (r : Rel K cg pvs g σ S F H) : ∀ is : List Nat, ∃ S', Rel K cg pvs (VL.kl is g) σ S' F H ∧ ∀ q, S' q → S q := fun is => by
  induction is generalizing g S with
  | nil => exact ⟨S, r, fun _ z => z⟩
  | cons i is ih =>
    obtain ⟨S1, r1, h1⟩ := r.kill i
    obtain ⟨S2, r2, h2⟩ := ih r1
    exact ⟨S2, r2, fun q z => h1 q (h2 q z)⟩
theorem Rel.klS (r : Rel K cg pvs g σ S F H) (is : List Nat) : ∃ S', Rel K cg pvs (VL.kl is g) σ S' F H ∧ Stp S F H S' F H := by
  obtain ⟨S', r', h⟩ := r.kl is
  exact ⟨S', r', (Stp.refl r.fh).sub h⟩

/-! ### small statements -/
def sDrop {α : Type} (m : Gm → Out α) (g : Gm) : SOut :=
  match m g with
  | .ok _ g1 => .nx g1
  | .err e g1 => .err e g1
  | .stk => .stk
def sRet (m : Gm → Out OD) (g : Gm) : SOut :=
  match m g with
  | .ok o g1 => .rt o g1
  | .err e g1 => .err e g1
  | .stk => .stk
def sAsg (i : Nat) (m : Gm → Out OD) (g : Gm) : SOut :=
  match m g with
  | .ok o g1 => .nx (st g1 i (.v o))
  | .err e g1 => .err e g1
  | .stk => .stk
def sIf (mt : Gm → Out Bool) (ma mb : Gm → SOut) (g : Gm) : SOut :=
  match mt g with
  | .ok b g1 => if b = true then ma g1 else mb g1
  | .err e g1 => .err e g1
  | .stk => .stk
theorem rs_drop {t : TE} {m : Gm → Out OD} (h : RO K cg W t m) : RS K cg W (tDrop t) (sDrop m) := fun pvs g σ S F H D r q => by
  refine h pvs g σ S F H _ r ?_
  unfold sDrop at q
  cases e : m g with
  | ok d g1 =>
    rw [e] at q
    exact fun v A S1 F1 H1 s1 r1 ow hd => q σ S1 F1 H1 (s1.sub fun p z => .inl z) r1
  | err e' g1 =>
    rw [e] at q
    exact ErrS.p q
  | stk =>
    rw [e] at q
    exact q.elim
theorem rs_ret {t : TE} {m : Gm → Out OD} (h : RO K cg W t m) : RS K cg W (tRet t) (sRet m) := fun pvs g σ S F H D r q => by
  refine h pvs g σ S F H _ r ?_
  unfold sRet at q
  cases e : m g with
  | ok d g1 =>
    rw [e] at q
    exact fun v A S1 F1 H1 s1 r1 ow hd => q v A σ S1 F1 H1 s1 r1 ow hd
  | err e' g1 =>
    rw [e] at q
    exact ErrS.p q
  | stk =>
    rw [e] at q
    exact q.elim
def sRetN (g : Gm) : SOut := .rt (.dat .none) g
theorem Rel.asg {v : V} {o : OD} {i : Nat} (r : Rel K cg pvs g σ S F H) (ow : Ow K cg F H v o A) (hd : ∀ q, A q → S q → False) : ∃ S', Rel K cg pvs (st g i (.v o)) (σ.set i (some v)) S' F H ∧ ∀ q, S' q → S q ∨ A q := by
  by_cases hi : i < σ.length
  · exact r.set ow hd hi
  · have e1 : σ.set i (some v) = σ := List.set_eq_of_length_le (by omega)
    have e2 : ∀ (g : Gm) (i : Nat) (s : Sl), g.length ≤ i → st g i s = g := by
      intro g
      induction g with
      | nil => intro _ _ _; rfl
      | cons a g ih =>
        intro i s h
        cases i with
        | zero => simp at h
        | succ i => exact congrArg (a :: ·) (ih i s (by simpa using h))
    rw [e1, e2 g i _ (by rw [r.len]; omega)]
    exact ⟨S, r, fun _ z => .inl z⟩
theorem rs_asg {t : TE} {m : Gm → Out OD} {i : Nat} (h : RO K cg W t m) : RS K cg W (tAsg t (gName i)) (sAsg i m) := fun pvs g σ S F H D r q => by
  refine h pvs g σ S F H _ r ?_
  unfold sAsg at q
  cases e : m g with
  | ok d g1 =>
    rw [e] at q
    intro v A S1 F1 H1 s1 r1 ow hd
    obtain ⟨S2, r2, h2⟩ := r1.asg (i := i) ow hd
    exact q _ S2 F1 H1 (s1.sub h2) r2
  | err e' g1 =>
    rw [e] at q
    exact ErrS.p q
  | stk =>
    rw [e] at q
    exact q.elim
theorem rs_if {tt : TT} {t u : TS} {mt : Gm → Out Bool} {ma mb : Gm → SOut} (ht : RT K cg W tt mt) (ha : RS K cg W t ma) (hb : RS K cg W u mb) : RS K cg W (tIfS tt t u) (sIf mt ma mb) := fun pvs g σ S F H D r q => by
  refine ht pvs g σ S F H _ r ?_
  unfold sIf at q
  cases e : mt g with
  | ok b g1 =>
    rw [e] at q
    intro S1 F1 H1 s1 r1
    have q := PoS.st q s1
    cases b with
    | true => exact ha pvs g1 σ S1 F1 H1 D r1 q
    | false => exact hb pvs g1 σ S1 F1 H1 D r1 q
  | err e' g1 =>
    rw [e] at q
    exact ErrS.p q
  | stk =>
    rw [e] at q
    exact q.elim
/-! ### targets -/
abbrev Tg := PyData → Gm → Option Gm
/-- the slots ts alone turn -/
def Turns (ts : List Nat) (σ σ' : L2.St) : Prop := σ'.length = σ.length ∧ ∀ j : Nat, j ∉ ts → σ'[j]? = σ[j]?
theorem Turns.trans {ts us : List Nat} {σ σ1 σ2 : L2.St} (a : Turns ts σ σ1) (b : Turns us σ1 σ2) : Turns (ts ++ us) σ σ2 :=
  ⟨b.1.trans a.1, fun j hj => (b.2 j fun z => hj (List.mem_append_right _ z)).trans (a.2 j fun z => hj (List.mem_append_left _ z))⟩
def RG (K : PySem.W.Frag) (cg : Cg) (ts : List Nat) (t : TG) (m : Tg) : Prop := ∀ pvs g g' σ S F H v d (Q : L2.St → Hp → Prop), Rel K cg pvs g σ S F H → Dq K F v d → m d g = some g' → (∀ σ' S', Rel K cg pvs g' σ' S' F H → (∀ q, S' q → S q) → Turns ts σ σ' → Q σ' H) → t v σ H Q
def RGs (K : PySem.W.Frag) (cg : Cg) (ts : List Nat) (t : TGs) (m : List PyData → Gm → Option Gm) : Prop := ∀ pvs g g' σ S F H vs ds (Q : L2.St → Hp → Prop), Rel K cg pvs g σ S F H → DqA K F vs ds → m ds g = some g' → (∀ σ' S', Rel K cg pvs g' σ' S' F H → (∀ q, S' q → S q) → Turns ts σ σ' → Q σ' H) → t vs σ H Q
def gN (i : Nat) : Tg := fun d g => some (st g i (.v (.dat d)))
theorem rg_n (i : Nat) : RG K cg [i] (gName i) (gN i) := fun pvs g g' σ S F H v d Q r hd e q => by
  cases e
  obtain ⟨S2, r2, h2⟩ := r.asg (i := i) (A := fun _ => False) (Ow.dat hd fun _ z => z) fun _ z => z.elim
  exact q _ S2 r2 (fun p hp => (h2 p hp).elim id False.elim) ⟨List.length_set, fun j hj => List.getElem?_set_ne fun z => hj (by simp [z])⟩
def gsNil : List PyData → Gm → Option Gm
  | [], g => some g
  | _, _ => none
def gsCons (t : Tg) (u : List PyData → Gm → Option Gm) : List PyData → Gm → Option Gm
  | d :: ds, g => match t d g with
    | some g1 => u ds g1
    | none => none
  | [], _ => none
theorem rgs_nil : RGs K cg [] gNil gsNil := fun pvs g g' σ S F H vs ds Q r hd e q => by
  cases hd with
  | nil =>
    cases e
    exact ⟨rfl, q σ S r (fun _ z => z) ⟨rfl, fun _ _ => rfl⟩⟩
  | cons h t => cases e
theorem rgs_cons {ts us : List Nat} {t : TG} {u : TGs} {m : Tg} {n : List PyData → Gm → Option Gm} (h : RG K cg ts t m) (h' : RGs K cg us u n) : RGs K cg (ts ++ us) (gCons t u) (gsCons m n) := fun pvs g g' σ S F H vs ds Q r hd e q => by
  cases hd with
  | nil => cases e
  | cons h1 t1 =>
    rename_i v vs d ds
    have e : (match m d g with | some g1 => n ds g1 | none => none) = some g' := e
    cases e1 : m d g with
    | none =>
      rw [e1] at e
      cases e
    | some g1 =>
      rw [e1] at e
      exact ⟨v, vs, rfl, h pvs g g1 σ S F H v d _ r h1 e1 fun σ' S' r' s' t' => h' pvs g1 g' σ' S' F H vs ds Q r' t1 e fun σ2 S2 r2 s2 t2 => q σ2 S2 r2 (fun p z => s' p (s2 p z)) (t'.trans t2)⟩
def gT (n : Nat) (m : List PyData → Gm → Option Gm) : Tg := fun d g => match d with
  | .tuple ds => if ds.length = n then m ds g else none
  | _ => none
theorem rg_t {ts : List Nat} {t : TGs} {m : List PyData → Gm → Option Gm} {n : Nat} (h : RGs K cg ts t m) : RG K cg ts (gTup K n t) (gT n m) := fun pvs g g' σ S F H v d Q r hd e q => by
  cases hd with
  | tup h1 h2 =>
    rename_i a xs ds
    unfold gT at e
    simp only at e
    split at e
    · rename_i hn
      exact ⟨a, xs, rfl, sqt_mono r.fh h1, by rw [dpa_len h2]; exact hn, h pvs g g' σ S F H xs ds Q r h2 e q⟩
    · cases e
  | non => cases e
  | bl b => cases e
  | int i => cases e
  | str x => cases e
  | lst h1 h2 => cases e
def sUnp (tg : Tg) (m : Gm → Out PyData) (g : Gm) : SOut :=
  match m g with
  | .ok d g1 => match tg d g1 with
    | some g2 => .nx g2
    | none => .stk
  | .err e g1 => .err e g1
  | .stk => .stk
theorem rs_unp {t : TE} {tg : TG} {m : Gm → Out PyData} {n : Tg} {ts : List Nat} (h : RV K cg W t m) (h' : RG K cg ts tg n) : RS K cg W (tAsg t tg) (sUnp n m) := fun pvs g σ S F H D r q => by
  refine h pvs g σ S F H _ r ?_
  unfold sUnp at q
  cases e : m g with
  | ok d g1 =>
    rw [e] at q
    intro v S1 F1 H1 s1 r1 d1
    cases e2 : n d g1 with
    | none =>
      simp only [e2] at q
      exact q.elim
    | some g2 =>
      simp only [e2] at q
      exact h' pvs g1 g2 σ S1 F1 H1 v d _ r1 d1 e2 fun σ' S' r' s' _ => q σ' S' F1 H1 (s1.sub s') r'
  | err e' g1 =>
    rw [e] at q
    exact ErrS.p q
  | stk =>
    rw [e] at q
    exact q.elim
/-- a, b = x, y -/
def sPar (i j : Nat) (m : Gm → Out (List PyData)) (g : Gm) : SOut :=
  match m g with
  | .ok [a, b] g1 => .nx (st (st g1 i (.v (.dat a))) j (.v (.dat b)))
  | .ok _ _ => .stk
  | .err e g1 => .err e g1
  | .stk => .stk
theorem rs_par {t : TA} {m : Gm → Out (List PyData)} {i j : Nat} (h : RA K cg W t m) : RS K cg W (tPar i j t) (sPar i j m) := fun pvs g σ S F H D r q => by
  refine h pvs g σ S F H _ r ?_
  unfold sPar at q
  cases e : m g with
  | ok ds g1 =>
    rw [e] at q
    intro vs S1 F1 H1 s1 r1 d1
    cases d1 with
    | nil => exact q.elim
    | cons h1 t1 =>
      cases t1 with
      | nil => exact q.elim
      | cons h2 t2 =>
        cases t2 with
        | nil =>
          refine ⟨_, _, rfl, ?_⟩
          obtain ⟨S2, r2, hs2⟩ := r1.asg (i := i) (A := fun _ => False) (Ow.dat h1 fun _ z => z) fun _ z => z.elim
          obtain ⟨S3, r3, hs3⟩ := r2.asg (i := j) (A := fun _ => False) (Ow.dat h2 fun _ z => z) fun _ z => z.elim
          exact q _ S3 F1 H1 (s1.sub fun p z => (hs2 p ((hs3 p z).elim id False.elim)).elim id False.elim) r3
        | cons h3 t3 => exact q.elim
  | err e' g1 =>
    rw [e] at q
    exact ErrS.p q
  | stk =>
    rw [e] at q
    exact q.elim
/-- x += e, of whole numbers -/
def sAug (i : Nat) (f : Int → Int → Int) (m : Gm → Out PyData) (g : Gm) : SOut :=
  match pVar i g with
  | .ok (.int a) => match m g with
    | .ok (.int b) g1 => .nx (st g1 i (.v (.dat (.int (f a b)))))
    | .ok _ _ => .stk
    | .err e g1 => .err e g1
    | .stk => .stk
  | _ => .stk
/-! ### changes in place: x[i] = e, x.append(e) .. of a slot -/
theorem stp_upd {p : Addr} {o : HO} (e : Same F H) (hf : F p = none) : Stp (fun q => q = p) F H (fun q => q = p) F (upd H p o) := by
  refine ⟨fun b u hb h => ?_, fun _ _ h => h, fun b u h => .inl ⟨u, h⟩, fun _ h => .inl h, fun b u h => ?_⟩
  · rw [upd_ne hb]
    exact h
  · rw [upd_ne (ne_of_none h hf)]
    exact e b u h
def sSet (i : Nat) (mi me : Gm → Out PyData) (g : Gm) : SOut :=
  match me g with
  | .ok d g1 => match (gt g1 i).od with
    | none => .stk
    | some _ => match mi g1 with
      | .ok (.int n) g2 => match (gt g2 i).od with
        | some (.lst ds) => match ixN ds.length n with
          | some j => .nx (st g2 i ((gt g2 i).with (.lst (ds.set j d))))
          | none => .stk
        | _ => .stk
      | .ok _ _ => .stk
      | .err e g2 => .err e g2
      | .stk => .stk
  | .err e g1 => .err e g1
  | .stk => .stk
theorem Rel.slot {i : Nat} {o : OD} (r : Rel K cg pvs g σ S F H) (e : (gt g i).od = some o) : ∃ v, σ[i]? = some (some v) := by
  obtain ⟨v, A, S1, e1, _⟩ := r.take e
  exact ⟨v, e1⟩
/-- the list in a slot is changed -/
theorem Rel.relst {i : Nat} {ds : List PyData} {w : V} (r : Rel K cg pvs g σ S F H) (e : (gt g i).od = some (.lst ds)) (hw : σ[i]? = some (some w)) : ∃ p vs, w = .ref p ∧ H p = some (.lst vs) ∧ DqA K F vs ds ∧
    ∀ vs' ds', DqA K F vs' ds' → ∃ S', Rel K cg pvs (st g i ((gt g i).with (.lst ds'))) σ S' F (upd H p (.lst vs')) ∧ Stp S F H S' F (upd H p (.lst vs')) := by
  obtain ⟨v, A, S1, e1, ow, hS, hd, back⟩ := r.take e
  rw [hw] at e1
  cases e1
  cases ow with
  | lst h1 h2 h3 h4 =>
    rename_i p vs
    refine ⟨p, vs, rfl, h1, h3, fun vs' ds' h' => ?_⟩
    have s1 : Stp A F H (fun q => q = p) F (upd H p (.lst vs')) := by
      have s0 := stp_upd (o := .lst vs') r.fh h2
      exact ⟨fun b u hb hh => s0.keep b u (fun z => hb ((h4 b).mpr z)) hh, s0.fr, fun b u hh => .inl ⟨u, hh⟩, fun b hb => .inl ((h4 b).mpr hb), s0.fh⟩
    obtain ⟨r2, s2⟩ := back (.lst ds') (fun q => q = p) F (upd H p (.lst vs')) s1 (.lst upd_same h2 h' fun _ => Iff.rfl)
    exact ⟨_, r2, s2⟩
theorem rs_set {te ti : TE} {me mi : Gm → Out PyData} {i : Nat} (h : RV K cg W te me) (h' : RV K cg W ti mi) : RS K cg W (tAsg te (gSub (tVar i) ti rSetL)) (sSet i mi me) := fun pvs g σ S F H D r q => by
  refine h pvs g σ S F H _ r ?_
  unfold sSet at q
  cases e : me g with
  | ok d g1 =>
    rw [e] at q
    intro v S1 F1 H1 s1 r1 d1
    simp only at q
    have q := PoS.st q s1
    cases e0 : (gt g1 i).od with
    | none =>
      simp only [e0] at q
      exact q.elim
    | some o0 =>
      simp only [e0] at q
      obtain ⟨w, ew⟩ := r1.slot e0
      refine ⟨w, ew, h' pvs g1 σ S1 F1 H1 _ r1 ?_⟩
      cases e2 : mi g1 with
      | ok k g2 =>
        rw [e2] at q
        intro u S2 F2 H2 s2 r2 d2
        have q := PoS.st q s2
        cases d2 with
        | int n =>
          cases e3 : (gt g2 i).od with
          | none =>
            simp only [e3] at q
            exact q.elim
          | some o =>
            simp only [e3] at q
            cases o with
            | lst ds =>
              obtain ⟨p, vs, rfl, h1, h2, back⟩ := r2.relst e3 ew
              simp only at q
              cases e4 : ixN ds.length n with
              | none =>
                simp only [e4] at q
                exact q.elim
              | some j =>
                simp only [e4] at q
                obtain ⟨S3, r3, s3⟩ := back _ _ (dpa_set (dp_mo d1 s2.fr) j h2)
                exact ⟨p, vs, n, j, rfl, rfl, h1, by rw [dpa_len h2]; exact e4, q σ S3 F2 _ s3 r3⟩
            | dat d => exact q.elim
            | dk d => exact q.elim
            | dt d => exact q.elim
            | nd k os => exact q.elim
            | scr ns => exact q.elim
            | exc => exact q.elim
            | tk ks => exact q.elim
            | fz k os => exact q.elim
        | non => exact q.elim
        | bl b => exact q.elim
        | str x => exact q.elim
        | lst h1 h2 => exact q.elim
        | tup h1 h2 => exact q.elim
      | err e' g2 =>
        rw [e2] at q
        exact ErrS.p q
      | stk =>
        rw [e2] at q
        exact q.elim
  | err e' g1 =>
    rw [e] at q
    exact ErrS.p q
  | stk =>
    rw [e] at q
    exact q.elim
/-- a list's own method: what it gives, what the list is behind it -/
def MuG (K : PySem.W.Frag) (r : V → List V → Hp → VK → Prop) (f : List PyData → List PyData → Option (PyData × List PyData)) : Prop :=
  ∀ (F H : Hp) (p : Addr) (vs : List V) (ds : List PyData) (xs : List V) (as : List PyData) (d : PyData) (ds' : List PyData) (Q : VK), H p = some (.lst vs) → DqA K F vs ds → DqA K F xs as → f ds as = some (d, ds') →
    (∀ v vs', Dq K F v d → DqA K F vs' ds' → Q v (upd H p (.lst vs'))) → r (.ref p) xs H Q
def vMut (i : Nat) (f : List PyData → List PyData → Option (PyData × List PyData)) (m : Gm → Out (List PyData)) (g : Gm) : Out PyData :=
  match (gt g i).od with
  | some (.lst _) => (m g).bind fun as g1 => match (gt g1 i).od with
    | some (.lst ds) => match f ds as with
      | some (d, ds') => .ok d (st g1 i ((gt g1 i).with (.lst ds')))
      | none => .stk
    | _ => .stk
  | _ => .stk
def fApp : List PyData → List PyData → Option (PyData × List PyData)
  | ds, [d] => if ds.length < zl then some (.none, ds ++ [d]) else none
  | _, _ => none
theorem u_app : MuG K rAppend fApp := fun F H p vs ds xs as d ds' Q h1 h2 h3 hf k => by
  unfold fApp at hf
  split at hf
  · split at hf
    · rename_i hz
      cases hf
      cases h3 with
      | cons a b =>
        cases b
        exact ⟨p, vs, _, rfl, rfl, h1, by rw [dpa_len h2]; exact zl_lt hz, k .non _ .non (dpa_app h2 (.cons a .nil))⟩
    · cases hf
  · cases hf
end
end VL
namespace VL
open PySem L2
section
variable {K : PySem.W.Frag} {cg : Cg} {W : WX} {pvs : Pv} {g : Gm} {σ : L2.St} {S S1 S' A : Addr → Prop} {F F1 F' H H1 H' : Hp} {D : Ends}
/-! ### while -/
/-- what a loop does with its body's end: on it goes, or out -/
def lp (x : SOut) (go : Gm → SOut) : SOut :=
  match x with
  | .nx g => go g
  | .ct g => go g
  | .br g => .nx g
  | y => y
def whl (is : List Nat) (mt : Gm → Out Bool) (mb : Gm → SOut) : Nat → Gm → SOut
  | 0, _ => .stk
  | n + 1, g => match mt g with
    | .ok b g1 => if b = true then lp (mb g1) fun g2 => whl is mt mb n (kl is g2) else .nx g1
    | .err e g1 => .err e g1
    | .stk => .stk
def sWhl (is : List Nat) (fuel : Gm → Nat) (mt : Gm → Out Bool) (mb : Gm → SOut) (g : Gm) : SOut := whl is mt mb (fuel g) (kl is g)
theorem rs_while {tt : TT} {tb : TS} {mt : Gm → Out Bool} {mb : Gm → SOut} {is : List Nat} {fuel : Gm → Nat} (ht : RT K cg W tt mt) (hb : RS K cg W tb mb) : RS K cg W (tWhile tt tb) (sWhl is fuel mt mb) := fun pvs g σ S F H D r q => by
  unfold sWhl at q
  refine ⟨fun n σ' H' => ∃ g' S' F', Rel K cg pvs g' σ' S' F' H' ∧ PoS K cg W pvs S' F' H' D (whl is mt mb n g'), ⟨fuel g, ?_⟩, ?_⟩
  · obtain ⟨S1, r1, s1⟩ := r.klS is
    exact ⟨_, S1, F, r1, PoS.st q s1⟩
  · rintro n σ1 H1 ⟨g1, S1, F1, r1, q1⟩
    cases n with
    | zero => exact q1.elim
    | succ n =>
      refine ht pvs g1 σ1 S1 F1 H1 _ r1 ?_
      unfold whl at q1
      cases e : mt g1 with
      | ok b g2 =>
        rw [e] at q1
        intro S2 F2 H2 s2 r2
        have q2 := PoS.st q1 s2
        cases b with
        | false =>
          show D.nx σ1 H2
          exact q2 σ1 S2 F2 H2 (.refl r2.fh) r2
        | true =>
          show ∃ N : L2.St → Hp → Prop, _
          refine ⟨fun σ' H' => ∃ g' S' F', Rel K cg pvs g' σ' S' F' H' ∧ PoS K cg W pvs S' F' H' D (whl is mt mb n g'), fun σ' H' h => ⟨n, Nat.lt_succ_self n, h⟩, hb pvs g2 σ1 S2 F2 H2 _ r2 ?_⟩
          have q3 : PoS K cg W pvs S2 F2 H2 D (lp (mb g2) fun g2 => whl is mt mb n (kl is g2)) := q2
          cases e2 : mb g2 with
          | nx g3 =>
            rw [e2] at q3
            intro σ4 S4 F4 H4 s4 r4
            obtain ⟨S5, r5, s5⟩ := r4.klS is
            exact ⟨_, S5, F4, r5, PoS.st (PoS.st q3 s4) s5⟩
          | ct g3 =>
            rw [e2] at q3
            intro σ4 S4 F4 H4 s4 r4
            obtain ⟨S5, r5, s5⟩ := r4.klS is
            exact ⟨_, S5, F4, r5, PoS.st (PoS.st q3 s4) s5⟩
          | br g3 =>
            rw [e2] at q3
            exact q3
          | rt o g3 =>
            rw [e2] at q3
            exact q3
          | err e' g3 =>
            rw [e2] at q3
            exact q3
          | stk =>
            rw [e2] at q3
            exact q3
      | err e' g2 =>
        rw [e] at q1
        exact ErrS.p q1
      | stk =>
        rw [e] at q1
        exact q1.elim
/-! ### for -/
def forM (is : List Nat) (tg : Tg) (mb : Gm → SOut) : List PyData → Gm → SOut
  | [], g => .nx g
  | d :: ds, g => match tg d g with
    | some g1 => lp (mb g1) fun g2 => forM is tg mb ds (kl is g2)
    | none => .stk
/-- a turn of a loop -/
theorem for_turn {tb : TS} {tg : TG} {m : Tg} {mb : Gm → SOut} {is ts : List Nat} {d : PyData} {ds : List PyData} {v : V} (hg : RG K cg ts tg m) (hb : RS K cg W tb mb) (r : Rel K cg pvs g σ S F H) (hd : Dq K F v d)
    (q : PoS K cg W pvs S F H D (forM is m mb (d :: ds) g)) (N : L2.St → Hp → Prop) (hN : ∀ g' σ' S' F' H', Stp S F H S' F' H' → Rel K cg pvs g' σ' S' F' H' → PoS K cg W pvs S' F' H' D (forM is m mb ds g') → N σ' H') :
    tg v σ H fun σ2 H2 => tb { D with nx := N, ct := N, bk := D.nx } σ2 H2 := by
  unfold forM at q
  cases e : m d g with
  | none =>
    simp only [e] at q
    exact q.elim
  | some g1 =>
    simp only [e] at q
    refine hg pvs g g1 σ S F H v d _ r hd e fun σ1 S1 r1 h1 _ => hb pvs g1 σ1 S1 F H _ r1 ?_
    have s1 : Stp S F H S1 F H := (Stp.refl r.fh).sub h1
    have q3 := PoS.st q s1
    cases e2 : mb g1 with
    | nx g3 =>
      rw [e2] at q3
      intro σ4 S4 F4 H4 s4 r4
      obtain ⟨S5, r5, s5⟩ := r4.klS is
      exact hN _ σ4 S5 F4 H4 ((s1.trans s4).trans s5) r5 (PoS.st (PoS.st q3 s4) s5)
    | ct g3 =>
      rw [e2] at q3
      intro σ4 S4 F4 H4 s4 r4
      obtain ⟨S5, r5, s5⟩ := r4.klS is
      exact hN _ σ4 S5 F4 H4 ((s1.trans s4).trans s5) r5 (PoS.st (PoS.st q3 s4) s5)
    | br g3 =>
      rw [e2] at q3
      exact q3
    | rt o g3 =>
      rw [e2] at q3
      exact q3
    | err e' g3 =>
      rw [e2] at q3
      exact q3
    | stk =>
      rw [e2] at q3
      exact q3
def lof : PyData → Option (List PyData)
  | .list ds => some ds
  | _ => none
def tof : PyData → Option (List PyData)
  | .tuple ds => some ds
  | _ => none
def sFor (of : PyData → Option (List PyData)) (is : List Nat) (tg : Tg) (ms : Gm → Out PyData) (mb : Gm → SOut) (g : Gm) : SOut :=
  match ms g with
  | .ok d g1 => match of d with
    | some ds => forM is tg mb ds (kl is g1)
    | none => .stk
  | .err e g1 => .err e g1
  | .stk => .stk
theorem drop_get {α : Type} {l : List α} {i : Nat} {x : α} (h : l[i]? = some x) : l.drop i = x :: l.drop (i + 1) := by
  obtain ⟨hi, e⟩ := List.getElem?_eq_some_iff.mp h
  rw [List.drop_eq_getElem_cons hi, e]
theorem rs_forL {tl : TE} {tb : TS} {tg : TG} {m : Tg} {ms : Gm → Out PyData} {mb : Gm → SOut} {is ts : List Nat} (hs : RV K cg W tl ms) (hg : RG K cg ts tg m) (hb : RS K cg W tb mb) : RS K cg W (tFor (iList K tl) tg tb) (sFor lof is m ms mb) := fun pvs g σ S F H D r q => by
  refine hs pvs g σ S F H _ r ?_
  unfold sFor at q
  cases e : ms g with
  | ok d g1 =>
    rw [e] at q
    intro v S1 F1 H1 s1 r1 d1
    have q1 := PoS.st q s1
    cases d1 with
    | lst h1 h2 =>
      rename_i a vs ds
      simp only [lof] at q1
      refine ⟨a, rfl, ⟨vs, .of (r1.fh _ _ h1)⟩, ?_⟩
      refine for_list (K := K) (a := a) (xs := vs) (fun i σ' H' => ∃ g' S' F', Rel K cg pvs g' σ' S' F' H' ∧ F' a = some (.lst vs) ∧ DqA K F' vs ds ∧ PoS K cg W pvs S' F' H' D (forM is m mb (ds.drop i) g')) ?_ ?_ ?_ ?_
      · obtain ⟨S2, r2, s2⟩ := r1.klS is
        exact ⟨_, S2, F1, r2, h1, h2, PoS.st q1 s2⟩
      · rintro i σ' H' _ ⟨g', S', F', r', h1', _⟩
        exact .of (r'.fh _ _ h1')
      · rintro i x σ' H' hx ⟨g', S', F', r', h1', h2', q'⟩
        obtain ⟨d, ed, hd⟩ := dpa_get h2' hx
        rw [drop_get ed] at q'
        exact for_turn hg hb r' hd q' _ fun g2 σ2 S2 F2 H2 s2 r2 q2 => ⟨g2, S2, F2, r2, s2.fr _ _ h1', dpa_mo h2' s2.fr, q2⟩
      · rintro σ' H' ⟨g', S', F', r', _, h2', q'⟩
        rw [dpa_len h2', List.drop_length] at q'
        exact q' σ' S' F' H' (.refl r'.fh) r'
    | non => exact q1.elim
    | bl b => exact q1.elim
    | int i => exact q1.elim
    | str x => exact q1.elim
    | tup h1 h2 => exact q1.elim
  | err e' g1 =>
    rw [e] at q
    exact ErrS.p q
  | stk =>
    rw [e] at q
    exact q.elim
/-- lo, lo + 1, .. -/
def rng (lo : Int) (n : Nat) : List PyData := (List.range n).map fun (i : Nat) => PyData.int (lo + (i : Int))
noncomputable def rngOf : List PyData → Option (Int × Nat)
  | [.int j] => cIf (-(2 ^ 62) ≤ j ∧ j < 2 ^ 62) (some (0, j.toNat)) none
  | [.int i, .int j] => cIf (-(2 ^ 62) ≤ i ∧ i < 2 ^ 62 ∧ -(2 ^ 62) ≤ j ∧ j < 2 ^ 62) (some (i, (j - i).toNat)) none
  | _ => none
theorem rng_get {lo : Int} {n i : Nat} (h : i < n) : (rng lo n)[i]? = some (.int (lo + (i : Int))) := by
  unfold rng
  rw [List.getElem?_map, List.getElem?_range h]
  rfl
theorem rng_len {lo : Int} {n : Nat} : (rng lo n).length = n := by
  unfold rng
  rw [List.length_map, List.length_range]
noncomputable def sForR (is : List Nat) (tg : Tg) (ms : Gm → Out (List PyData)) (mb : Gm → SOut) (g : Gm) : SOut :=
  match ms g with
  | .ok as g1 => match rngOf as with
    | some (lo, n) => forM is tg mb (rng lo n) (kl is g1)
    | none => .stk
  | .err e g1 => .err e g1
  | .stk => .stk
theorem for_rng {tb : TS} {tg : TG} {m : Tg} {mb : Gm → SOut} {is ts : List Nat} {lo : Int} {n : Nat} (hg : RG K cg ts tg m) (hb : RS K cg W tb mb) (r : Rel K cg pvs g σ S F H) (q : PoS K cg W pvs S F H D (forM is m mb (rng lo n) (kl is g))) :
    ∃ W : Nat → Nat → L2.St → Hp → Prop, (∃ m, W 0 m σ H) ∧ ∀ i m σ H, W i m σ H →
      ((Itr lo n).stop i H ∧ D.nx σ H) ∨ ((Itr lo n).go i H ∧ ∃ N : L2.St → Hp → Prop, (∀ σ' H', N σ' H' → ∃ m', m' < m ∧ W (i + 1) m' σ' H') ∧ ∀ x H', (Itr lo n).yld i H x H' → tg x σ H' fun σ2 H2 => tb { D with nx := N, ct := N, bk := D.nx } σ2 H2) := by
  refine for_range (lo := lo) (n := n) (fun i σ' H' => ∃ g' S' F', Rel K cg pvs g' σ' S' F' H' ∧ PoS K cg W pvs S' F' H' D (forM is m mb ((rng lo n).drop i) g')) ?_ ?_ ?_
  · obtain ⟨S2, r2, s2⟩ := r.klS is
    exact ⟨_, S2, F, r2, PoS.st q s2⟩
  · rintro i σ' H' hi ⟨g', S', F', r', q'⟩
    rw [drop_get (rng_get hi)] at q'
    exact for_turn hg hb r' (.int _) q' _ fun g2 σ2 S2 F2 H2 s2 r2 q2 => ⟨g2, S2, F2, r2, q2⟩
  · rintro σ' H' ⟨g', S', F', r', q'⟩
    rw [List.drop_of_length_le (by rw [rng_len]; exact Nat.le_refl _)] at q'
    exact q' σ' S' F' H' (.refl r'.fh) r'
theorem rs_forR1 {ta : TA} {tb : TS} {tg : TG} {m : Tg} {ms : Gm → Out (List PyData)} {mb : Gm → SOut} {is ts : List Nat} (hs : RA K cg W ta ms) (hg : RG K cg ts tg m) (hb : RS K cg W tb mb) (h1 : ∀ g as g1, ms g = .ok as g1 → as.length = 1) : RS K cg W (tFor (iRng1 ta) tg tb) (sForR is m ms mb) := fun pvs g σ S F H D r q => by
  refine hs pvs g σ S F H _ r ?_
  unfold sForR at q
  cases e : ms g with
  | ok as g1 =>
    have hl := h1 _ _ _ e
    rw [e] at q
    intro vs S1 F1 H1 s1 r1 d1
    have q1 := PoS.st q s1
    cases d1 with
    | nil => cases hl
    | cons a t =>
      cases t with
      | cons b t => simp at hl
      | nil =>
        cases a with
        | int j =>
          simp only [rngOf, cIf] at q1
          split at q1
          · rename_i lo n ez
            split at ez
            · rename_i hz
              cases ez
              exact ⟨j, rfl, hz.1, hz.2, for_rng hg hb r1 q1⟩
            · cases ez
          · exact q1.elim
        | non => exact q1.elim
        | bl b => exact q1.elim
        | str x => exact q1.elim
        | lst h1 h2 => exact q1.elim
        | tup h1 h2 => exact q1.elim
  | err e' g1 =>
    rw [e] at q
    exact ErrS.p q
  | stk =>
    rw [e] at q
    exact q.elim
theorem aCons_len {m : Gm → Out PyData} {mr : Gm → Out (List PyData)} {n : Nat} (h : ∀ g as g1, mr g = .ok as g1 → as.length = n) : ∀ g as g1, aCons m mr g = .ok as g1 → as.length = n + 1 := fun g as g1 e => by
  unfold aCons at e
  cases e1 : m g with
  | ok a g2 =>
    rw [e1] at e
    simp only [Out.bind] at e
    cases e2 : mr g2 with
    | ok bs g3 =>
      rw [e2] at e
      simp only at e
      cases e
      simp only [List.length_cons]
      rw [h _ _ _ e2]
    | err e' g3 =>
      rw [e2] at e
      cases e
    | stk =>
      rw [e2] at e
      cases e
  | err e' g2 =>
    rw [e1] at e
    cases e
  | stk =>
    rw [e1] at e
    cases e
theorem aNil_len : ∀ g as g1, aNil g = .ok as g1 → as.length = 0 := fun g as g1 e => by
  cases e
  rfl

/-! ### comprehensions -/
theorem wipe_get {σ : L2.St} {j : Nat} : ∀ {is : List Nat}, (wipe σ is)[j]? = if j ∈ is then (σ[j]?).map (fun _ => none) else σ[j]?
  | [] => by simp [wipe]
  | i :: is => by
    unfold wipe
    by_cases h : i = j
    · subst h
      rw [if_pos (by simp)]
      by_cases hl : i < (wipe σ is).length
      · rw [List.getElem?_set_self hl]
        rw [wipe_length] at hl
        rw [List.getElem?_eq_getElem hl]
        rfl
      · rw [List.getElem?_eq_none (by simpa using hl)]
        rw [wipe_length] at hl
        rw [List.getElem?_eq_none (by omega)]
        rfl
    · rw [List.getElem?_set_ne h, wipe_get (is := is)]
      have z : (j ∈ i :: is) ↔ j ∈ is := by
        simp only [List.mem_cons]
        exact ⟨fun q => q.elim (fun e => absurd e.symm h) id, .inr⟩
      by_cases q : j ∈ is
      · rw [if_pos q, if_pos (z.mpr q)]
      · rw [if_neg q, if_neg (fun y => q (z.mp y))]
theorem wipe_eq {σ σ' : L2.St} {is ts : List Nat} (h : Turns ts σ σ') (hs : ∀ j ∈ ts, j ∈ is) : wipe σ' is = wipe σ is := by
  refine List.ext_getElem? fun j => ?_
  rw [wipe_get, wipe_get]
  by_cases q : j ∈ is
  · rw [if_pos q, if_pos q]
    by_cases z : j < σ.length
    · rw [List.getElem?_eq_getElem z, List.getElem?_eq_getElem (by rw [h.1]; exact z)]
      rfl
    · have z2 : ¬ j < σ'.length := by
        rw [h.1]
        exact z
      rw [List.getElem?_eq_none (by omega), List.getElem?_eq_none (by omega)]
  · rw [if_neg q, if_neg q, h.2 j fun z => q (hs j z)]
/-- what the slots hold counts only where something is known -/
theorem Rel.sig {σ' : L2.St} (r : Rel K cg pvs g σ S F H) (hl : σ'.length = σ.length) (h : ∀ j : Nat, gt g j ≠ .no → σ'[j]? = σ[j]?) : Rel K cg pvs g σ' S F H := by
  obtain ⟨L, h1, h2, h3⟩ := r.ex
  refine ⟨r.fh, by rw [hl]; exact r.len, r.z, L, fun i => ?_, h2, h3⟩
  have b := h1 i
  unfold SlOk at b ⊢
  cases e : gt g i with
  | no =>
    rw [e] at b
    exact b
  | v o =>
    rw [e] at b
    rw [h i (by rw [e]; intro z; cases z)]
    exact b
  | pin o =>
    rw [e] at b
    rw [h i (by rw [e]; intro z; cases z)]
    exact b
  | al j n =>
    rw [e] at b
    rw [h i (by rw [e]; intro z; cases z)]
    exact b
  | xc =>
    rw [e] at b
    rw [h i (by rw [e]; intro z; cases z)]
    exact b
theorem gt_no (g : Gm) (i : Nat) : gt (st g i .no) i = .no := by
  by_cases hg : i < g.length
  · exact gt_st hg
  · cases q : gt (st g i .no) i with
    | no => rfl
    | v o => exact absurd (gt_lt (g := st g i .no) (i := i) (by rw [q]; intro z; cases z)) (by rw [st_len]; exact hg)
    | pin o => exact absurd (gt_lt (g := st g i .no) (i := i) (by rw [q]; intro z; cases z)) (by rw [st_len]; exact hg)
    | al _ _ => exact absurd (gt_lt (g := st g i .no) (i := i) (by rw [q]; intro z; cases z)) (by rw [st_len]; exact hg)
    | xc => exact absurd (gt_lt (g := st g i .no) (i := i) (by rw [q]; intro z; cases z)) (by rw [st_len]; exact hg)
theorem kl_keep : ∀ (is : List Nat) (g : Gm) (j : Nat), gt g j = .no → gt (VL.kl is g) j = .no
  | [], _, _, h => h
  | i :: is, g, j, h => kl_keep is _ j (by
    by_cases z : j = i
    · subst z
      exact gt_no g j
    · rw [gt_st_ne z]
      exact h)
theorem kl_no : ∀ (is : List Nat) (g : Gm) (j : Nat), j ∈ is → gt (VL.kl is g) j = .no
  | i :: is, g, j, h => by
    rcases List.mem_cons.mp h with e | h
    · subst e
      exact kl_keep is _ j (gt_no g j)
    · exact kl_no is _ j h
theorem Rel.wipe {is : List Nat} (r : Rel K cg pvs (VL.kl is g) σ S F H) : Rel K cg pvs (VL.kl is g) (L2.wipe σ is) S F H :=
  r.sig (wipe_length σ is) fun j hj => by
    rw [wipe_get, if_neg fun z => hj (kl_no is g j z)]
theorem Rel.unwipe {is : List Nat} (r : Rel K cg pvs (VL.kl is g) (L2.wipe σ is) S F H) : Rel K cg pvs (VL.kl is g) σ S F H :=
  r.sig (wipe_length σ is).symm fun j hj => by
    rw [wipe_get, if_neg fun z => hj (kl_no is g j z)]
def cmpM (is : List Nat) (tg : Tg) (mt : Gm → Out Bool) (me : Gm → Out PyData) : List PyData → List PyData → Gm → Out (List PyData)
  | [], acc, g => .ok acc g
  | d :: ds, acc, g => match tg d g with
    | none => .stk
    | some g1 => match mt g1 with
      | .ok true g2 => match me g2 with
        | .ok y g3 => if acc.length < zl then cmpM is tg mt me ds (acc ++ [y]) (VL.kl is g3) else .stk
        | _ => .stk
      | .ok false g2 => cmpM is tg mt me ds acc (VL.kl is g2)
      | _ => .stk
/-- the slots' plain data ahead of a comprehension stand behind it -/
def rst : List Nat → Gm → Gm → Gm
  | [], _, g => g
  | i :: is, g0, g => rst is g0 (match gt g0 i with
    | .v (.dat d) => st g i (.v (.dat d))
    | .pin (.dat d) => st g i (.pin (.dat d))
    | _ => g)
def W0 : WX := fun _ _ _ _ => False
/-- what is wanted behind a comprehension whose list lies at L -/
def PoC (K : PySem.W.Frag) (cg : Cg) (pvs : Pv) (σ : L2.St) (L : Addr) (S : Addr → Prop) (F H : Hp) (Q : Hp → Prop) (x : Out (List PyData)) (fin : Gm → Prop) : Prop :=
  match x with
  | .ok acc g => fin g ∧ ∀ S' F' H' vs, Stp (fun p => S p ∨ p = L) F H (fun p => S' p ∨ p = L) F' H' → Rel K cg pvs g σ S' F' H' → H' L = some (.lst vs) → F' L = none → ¬ S' L → DqA K F' vs acc → Q H'
  | _ => False
theorem PoC.st {L : Addr} {Q : Hp → Prop} {x : Out (List PyData)} {fin : Gm → Prop} (h : PoC K cg pvs σ L S F H Q x fin) (a : Stp (fun p => S p ∨ p = L) F H (fun p => S1 p ∨ p = L) F1 H1) : PoC K cg pvs σ L S1 F1 H1 Q x fin := by
  cases x with
  | ok acc g => exact ⟨h.1, fun S' F' H' vs b => h.2 S' F' H' vs (a.trans b)⟩
  | err e g => exact h
  | stk => exact h
/-- a step beside the list at L -/
theorem stp_beside {L : Addr} {u : HO} (a : Stp S F H S1 F1 H1) (hL : H L = some u) (hs : ¬ S L) (hf : F L = none) (hn : ∀ vs, u ≠ .tup vs := by intro _ z; cases z) : Stp (fun p => S p ∨ p = L) F H (fun p => S1 p ∨ p = L) F1 H1 ∧ H1 L = some u ∧ ¬ S1 L ∧ F1 L = none := by
  refine ⟨⟨fun p w hp e => a.keep p w (fun z => hp (.inl z)) e, a.fr, fun p w e => (a.nw p w e).imp id (fun z => z.imp id .inl), fun p hp => ?_, a.fh⟩, a.keep L u hs hL, fun z => ?_, ?_⟩
  · rcases hp with z | z
    · exact (a.fp p z).imp .inl id
    · exact .inl (.inr z)
  · rcases a.fp L z with y | y
    · exact hs y
    · rw [hL] at y
      cases y
  · cases q : F1 L with
    | none => rfl
    | some w =>
      rcases a.nw L w q with ⟨z, y⟩ | y | y
      · rw [hf] at y
        cases y
      · exact absurd y (Nw.not hL hn)
      · exact absurd y hs
theorem cmp_turn {tg : TG} {tt : TT} {te : TE} {m : Tg} {mt : Gm → Out Bool} {me : Gm → Out PyData} {is ts : List Nat} {d : PyData} {ds acc : List PyData} {x : V} {L : Addr} {vs : List V} {Q : Hp → Prop} {fin : Gm → Prop} {Nx : Hp → Prop}
    (hg : RG K cg ts tg m) (hts : ∀ j ∈ ts, j ∈ is) (ht : RT K cg W0 tt mt) (he : RV K cg W0 te me) (r : Rel K cg pvs g (L2.wipe σ is) S F H) (hL : H L = some (.lst vs)) (hF : F L = none) (hS : ¬ S L) (ha : DqA K F vs acc) (hd : Dq K F x d)
    (q : PoC K cg pvs (L2.wipe σ is) L S F H Q (cmpM is m mt me (d :: ds) acc g) fin)
    (hN : ∀ g' S' F' H' vs' acc', Stp (fun p => S p ∨ p = L) F H (fun p => S' p ∨ p = L) F' H' → Rel K cg pvs (VL.kl is g') (L2.wipe σ is) S' F' H' → H' L = some (.lst vs') → F' L = none → ¬ S' L → DqA K F' vs' acc' → PoC K cg pvs (L2.wipe σ is) L S' F' H' Q (cmpM is m mt me ds acc' (VL.kl is g')) fin → Nx H') :
    tg x (L2.wipe σ is) H fun σ2 H2 => L2.wipe σ2 is = L2.wipe σ is ∧ tt σ2 H2 fun b H3 => if b = true then te σ2 H3 fun y H4 => ∃ acc, H4 L = some (.lst acc) ∧ acc.length < sizeLine ∧ Nx (upd H4 L (.lst (acc ++ [y]))) else Nx H3 := by
  unfold cmpM at q
  cases e : m d g with
  | none =>
    simp only [e] at q
    exact q.elim
  | some g1 =>
    simp only [e] at q
    refine hg pvs g g1 _ S F H x d _ r hd e fun σ2 S2 r2 h2 t2 => ?_
    have ew : L2.wipe σ2 is = L2.wipe σ is := by
      rw [wipe_eq t2 hts]
      refine List.ext_getElem? fun j => ?_
      rw [wipe_get, wipe_get]
      by_cases z : j ∈ is
      · simp only [if_pos z]
        cases σ[j]? <;> rfl
      · simp only [if_neg z]
    refine ⟨ew, ht pvs g1 σ2 S2 F H _ r2 ?_⟩
    have s2 : Stp S F H S2 F H := (Stp.refl r.fh).sub h2
    obtain ⟨b2, hL2, hS2, hF2⟩ := stp_beside s2 hL hS hF
    have q2 := PoC.st q b2
    have back : ∀ {g' : Gm} {S' : Addr → Prop} {F' H' : Hp}, Rel K cg pvs g' σ2 S' F' H' → ∃ S'', Rel K cg pvs (VL.kl is g') (L2.wipe σ is) S'' F' H' ∧ ∀ p, S'' p → S' p := fun {g' S' F' H'} rr => by
      obtain ⟨S'', rk, hk⟩ := rr.kl is
      have rw1 := rk.wipe
      rw [ew] at rw1
      exact ⟨S'', rw1, hk⟩
    cases e2 : mt g1 with
    | err e' g2 =>
      simp only [e2] at q2
      exact q2.elim
    | stk =>
      simp only [e2] at q2
      exact q2.elim
    | ok b g2 =>
      intro S3 F3 H3 s3 r3
      obtain ⟨b3, hL3, hS3, hF3⟩ := stp_beside s3 hL2 hS2 hF2
      cases b with
      | false =>
        simp only [e2] at q2
        show Nx H3
        obtain ⟨S4, r4, h4⟩ := back r3
        have b4 : Stp (fun p => S3 p ∨ p = L) F3 H3 (fun p => S4 p ∨ p = L) F3 H3 := (Stp.refl r3.fh).sub fun p hp => hp.imp (h4 p) id
        exact hN g2 S4 F3 H3 vs acc ((b2.trans b3).trans b4) r4 hL3 hF3 (fun z => hS3 (h4 L z)) (dpa_mo ha s3.fr) (PoC.st (PoC.st q2 b3) b4)
      | true =>
        simp only [e2] at q2
        show te σ2 H3 _
        refine he pvs g2 σ2 S3 F3 H3 _ r3 ?_
        cases e3 : me g2 with
        | err e' g3 =>
          simp only [e3] at q2
          exact q2.elim
        | stk =>
          simp only [e3] at q2
          exact q2.elim
        | ok y g3 =>
          simp only [e3] at q2
          intro v S4 F4 H4 s4 r4 d4
          obtain ⟨b4, hL4, hS4, hF4⟩ := stp_beside s4 hL3 hS3 hF3
          split at q2
          · rename_i hz
            have ha4 := dpa_mo (dpa_mo ha s3.fr) s4.fr
            refine ⟨vs, hL4, by rw [dpa_len ha]; exact zl_lt hz, ?_⟩
            obtain ⟨S5, r5, h5⟩ := back r4
            have nS5 : ¬ S5 L := fun z => hS4 (h5 L z)
            have u := stp_upd (o := .lst (vs ++ [v])) r4.fh hF4
            have b5 : Stp (fun p => S4 p ∨ p = L) F4 H4 (fun p => S5 p ∨ p = L) F4 (upd H4 L (.lst (vs ++ [v]))) :=
              ⟨fun p w hp e => u.keep p w (fun z => hp (.inr z)) e, u.fr, fun p w e => .inl ⟨w, e⟩, fun p hp => .inl (hp.imp (h5 p) id), u.fh⟩
            have r6 : Rel K cg pvs (VL.kl is g3) (L2.wipe σ is) S5 F4 (upd H4 L (.lst (vs ++ [v]))) := r5.stp u fun p hp z => nS5 (z ▸ hp)
            exact hN g3 S5 F4 _ (vs ++ [v]) (acc ++ [y]) (((b2.trans b3).trans b4).trans b5) r6 upd_same hF4 nS5 (dpa_app ha4 (.cons d4 .nil)) (PoC.st (PoC.st (PoC.st q2 b3) b4) b5)
          · exact q2.elim
theorem Rel.putD {i : Nat} {v : V} {d : PyData} (r : Rel K cg pvs g σ S F H) (e : gt g i = .no) (hv : σ[i]? = some (some v)) (hd : Dq K F v d) : Rel K cg pvs (st g i (.v (.dat d))) σ S F H := by
  obtain ⟨L, h1, h2, h3⟩ := r.ex
  refine ⟨r.fh, by rw [st_len]; exact r.len, r.z, L, fun j => ?_, h2, h3⟩
  have b := h1 j
  unfold SlOk at b ⊢
  by_cases z : j = i
  · subst z
    rw [e] at b
    by_cases hl : j < g.length
    · rw [gt_st hl]
      exact ⟨v, hv, .dat hd b⟩
    · have z : j < σ.length := (List.getElem?_eq_some_iff.mp hv).1
      rw [r.len] at hl
      exact absurd z hl
  · rw [gt_st_ne z]
    exact b
theorem Rel.putP {i : Nat} {v : V} {d : PyData} (r : Rel K cg pvs g σ S F H) (e : gt g i = .no) (hv : σ[i]? = some (some v)) (hp : pvs i = some v) (hd : Dq K F v d) : Rel K cg pvs (st g i (.pin (.dat d))) σ S F H := by
  obtain ⟨L, h1, h2, h3⟩ := r.ex
  refine ⟨r.fh, by rw [st_len]; exact r.len, r.z, L, fun j => ?_, h2, h3⟩
  have b := h1 j
  unfold SlOk at b ⊢
  by_cases z : j = i
  · subst z
    rw [e] at b
    by_cases hl : j < g.length
    · rw [gt_st hl]
      exact ⟨v, hv, hp, .dat hd b⟩
    · have z : j < σ.length := (List.getElem?_eq_some_iff.mp hv).1
      rw [r.len] at hl
      exact absurd z hl
  · rw [gt_st_ne z]
    exact b
theorem Rel.rst {g0 : Gm} {S0 : Addr → Prop} {F0 H0 : Hp} (r0 : Rel K cg pvs g0 σ S0 F0 H0) (hF : Same F0 F) : ∀ (is : List Nat), is.Nodup → ∀ (g : Gm), Rel K cg pvs g σ S F H → (∀ i ∈ is, gt g i = .no) → Rel K cg pvs (VL.rst is g0 g) σ S F H := fun is => by
  induction is with
  | nil => exact fun _ g r _ => r
  | cons i is ih =>
    intro nd g r hn
    have e0 := hn i (by simp)
    obtain ⟨n1, n2⟩ := List.nodup_cons.mp nd
    obtain ⟨L, h1, _, _⟩ := r0.ex
    have b := h1 i
    unfold SlOk at b
    unfold VL.rst
    have stay : ∀ s : Sl, ∀ j ∈ is, gt (VL.st g i s) j = .no := fun s j hj => by
      rw [gt_st_ne (show j ≠ i from fun z => n1 (z ▸ hj))]
      exact hn j (List.mem_cons_of_mem _ hj)
    have keep : ∀ j ∈ is, gt g j = .no := fun j hj => hn j (List.mem_cons_of_mem _ hj)
    split
    · rename_i d e
      rw [e] at b
      obtain ⟨v, ev, ow⟩ := b
      cases ow with
      | dat hd _ => exact ih n2 _ (r.putD e0 ev (dp_mo hd hF)) (stay _)
    · rename_i d e
      rw [e] at b
      obtain ⟨v, ev, ep, ow⟩ := b
      cases ow with
      | dat hd _ => exact ih n2 _ (r.putP e0 ev ep (dp_mo hd hF)) (stay _)
    · exact ih n2 _ r keep
/-- from the loop's end to the comprehension's value -/
def cEnd (is : List Nat) (g1 : Gm) (x : Out (List PyData)) : Out OD :=
  match x with
  | .ok acc g2 => .ok (.lst acc) (VL.rst is g1 g2)
  | _ => .stk
def oComp (of : PyData → Option (List PyData)) (is : List Nat) (tg : Tg) (mt : Gm → Out Bool) (me ms : Gm → Out PyData) (g : Gm) : Out OD :=
  match ms g with
  | .ok d g1 => match of d with
    | some ds => cEnd is g1 (cmpM is tg mt me ds [] (VL.kl is g1))
    | none => .stk
  | .err e g1 => .err e g1
  | .stk => .stk
theorem cmp_no {is : List Nat} {tg : Tg} {mt : Gm → Out Bool} {me : Gm → Out PyData} : ∀ (ds acc : List PyData) (g : Gm) (acc' : List PyData) (g' : Gm), cmpM is tg mt me ds acc (VL.kl is g) = .ok acc' g' → ∃ g2, g' = VL.kl is g2
  | [], acc, g, acc', g', h => by
    cases h
    exact ⟨g, rfl⟩
  | d :: ds, acc, g, acc', g', h => by
    unfold cmpM at h
    split at h
    · cases h
    · split at h
      · split at h
        · split at h
          · exact cmp_no ds _ _ acc' g' h
          · cases h
        · cases h
      · exact cmp_no ds _ _ acc' g' h
      · cases h
theorem cmp_end {is : List Nat} {L : Addr} {Q : VK} {x : Out (List PyData)} (hnd : is.Nodup) (r1 : Rel K cg pvs g σ S F H) (hx : ∀ acc g', x = .ok acc g' → ∃ g2, g' = VL.kl is g2) (q : PoO K cg W pvs σ S F H Q (cEnd is g x)) (hL : H L = none) :
    PoC K cg pvs (L2.wipe σ is) L S F (upd H L (.lst [])) (Q (.ref L)) x fun _ => True := by
  cases x with
  | err e g' => exact q.elim
  | stk => exact q.elim
  | ok acc g' =>
    obtain ⟨g2, eg⟩ := hx acc g' rfl
    subst eg
    refine ⟨trivial, fun S' F' H' vs b r' h1 h2 h3 h4 => ?_⟩
    have u := pst_own (o := .lst []) r1.fh hL
    have s1 : Stp S F H (fun p => S p ∨ p = L) F (upd H L (.lst [])) := u.stpA fun p hp => by
      rw [hp]
      exact hL
    have s2 := s1.trans b
    exact q (.ref L) (fun p => p = L) S' F' H' s2 (Rel.rst r1 s2.fr is hnd _ r'.unwipe (kl_no is g2)) (.lst h1 h2 h4 fun _ => Iff.rfl) fun p hp hs => h3 (hp ▸ hs)
theorem ro_compL {tl : TE} {tg : TG} {tt : TT} {te : TE} {m : Tg} {ms me : Gm → Out PyData} {mt : Gm → Out Bool} {is ts : List Nat} (hs : RV K cg W tl ms) (hg : RG K cg ts tg m) (ht : RT K cg W0 tt mt) (he : RV K cg W0 te me) (hts : ∀ j ∈ ts, j ∈ is) (hnd : is.Nodup) :
    RO K cg W (tLc (iList K tl) tg tt te is) (oComp lof is m mt me ms) := fun pvs g σ S F H Q r q => by
  refine hs pvs g σ S F H _ r ?_
  unfold oComp at q
  cases e : ms g with
  | ok d g1 =>
    rw [e] at q
    intro v S1 F1 H1 s1 r1 d1
    have q1 := PoO.st q s1
    cases d1 with
    | lst h1 h2 =>
      rename_i a vs ds
      simp only [lof] at q1
      refine ⟨a, rfl, ⟨vs, .of (r1.fh _ _ h1)⟩, fun L hL => ?_⟩
      obtain ⟨Sk, rk, hk⟩ := r1.kl is
      have u := pst_own (o := .lst []) r1.fh hL
      have q2 := cmp_end hnd r1 (fun acc g' ex => cmp_no _ _ _ _ _ ex) q1 hL
      have b0 : Stp (fun p => S1 p ∨ p = L) F1 (upd H1 L (.lst [])) (fun p => Sk p ∨ p = L) F1 (upd H1 L (.lst [])) := (Stp.refl u.fh).sub fun p hp => hp.imp (hk p) id
      have nSk : ¬ Sk L := fun z => by
        obtain ⟨_, w, ew⟩ := r1.at (hk L z)
        rw [hL] at ew
        cases ew
      refine lc_list (K := K) (a := a) (xs := vs) (fun i H' => ∃ g' S' F' vs' acc, Rel K cg pvs (VL.kl is g') (L2.wipe σ is) S' F' H' ∧ F' a = some (.lst vs) ∧ DqA K F' vs ds ∧ H' L = some (.lst vs') ∧ F' L = none ∧ ¬ S' L ∧ DqA K F' vs' acc ∧ PoC K cg pvs (L2.wipe σ is) L S' F' H' (Q (.ref L)) (cmpM is m mt me (ds.drop i) acc (VL.kl is g')) fun _ => True) ?_ ?_ ?_ ?_
      · exact ⟨g1, Sk, F1, [], [], (rk.pst u).wipe, h1, h2, upd_same, r1.fh.free hL, nSk, .nil, PoC.st q2 b0⟩
      · rintro i H' _ ⟨g', S', F', vs', acc, r', h1', _⟩
        exact .of (r'.fh _ _ h1')
      · rintro i x H' hx ⟨g', S', F', vs', acc, r', h1', h2', a1, a2, a3, a4, q'⟩
        obtain ⟨d, ed, hd⟩ := dpa_get h2' hx
        rw [drop_get ed] at q'
        exact cmp_turn hg hts ht he r' a1 a2 a3 a4 hd q' fun g2 S2 F2 H2 vs2 acc2 b2 r2 c1 c2 c3 c4 q2 => ⟨g2, S2, F2, vs2, acc2, r2, b2.fr _ _ h1', dpa_mo h2' b2.fr, c1, c2, c3, c4, q2⟩
      · rintro H' ⟨g', S', F', vs', acc, r', _, h2', a1, a2, a3, a4, q'⟩
        rw [dpa_len h2', List.drop_length] at q'
        exact q'.2 S' F' H' vs' (.refl r'.fh) r' a1 a2 a3 a4
    | non => exact q1.elim
    | bl b => exact q1.elim
    | int i => exact q1.elim
    | str x => exact q1.elim
    | tup h1 h2 => exact q1.elim
  | err e' g1 =>
    rw [e] at q
    exact q
  | stk =>
    rw [e] at q
    exact q.elim
noncomputable def oCompR (is : List Nat) (tg : Tg) (mt : Gm → Out Bool) (me : Gm → Out PyData) (ms : Gm → Out (List PyData)) (g : Gm) : Out OD :=
  match ms g with
  | .ok as g1 => match rngOf as with
    | some (lo, n) => cEnd is g1 (cmpM is tg mt me (rng lo n) [] (VL.kl is g1))
    | none => .stk
  | .err e g1 => .err e g1
  | .stk => .stk
theorem comp_rng {tg : TG} {tt : TT} {te : TE} {m : Tg} {me : Gm → Out PyData} {mt : Gm → Out Bool} {is ts : List Nat} {lo : Int} {n : Nat} {Q : VK} {L : Addr} (hg : RG K cg ts tg m) (ht : RT K cg W0 tt mt) (he : RV K cg W0 te me) (hts : ∀ j ∈ ts, j ∈ is) (hnd : is.Nodup)
    (r1 : Rel K cg pvs g σ S F H) (q1 : PoO K cg W pvs σ S F H Q (cEnd is g (cmpM is m mt me (rng lo n) [] (VL.kl is g)))) (hL : H L = none) :
    ∃ W : Nat → Nat → Hp → Prop, (∃ m, W 0 m (upd H L (.lst []))) ∧ ∀ i m H, W i m H →
      ((Itr lo n).stop i H ∧ Q (.ref L) H) ∨ ((Itr lo n).go i H ∧ ∃ Nx : Hp → Prop, (∀ H', Nx H' → ∃ m', m' < m ∧ W (i + 1) m' H') ∧ ∀ x H', (Itr lo n).yld i H x H' → tg x (L2.wipe σ is) H' fun σ2 H2 => L2.wipe σ2 is = L2.wipe σ is ∧ tt σ2 H2 fun b H3 =>
        if b = true then te σ2 H3 fun y H4 => ∃ acc, H4 L = some (.lst acc) ∧ acc.length < sizeLine ∧ Nx (upd H4 L (.lst (acc ++ [y]))) else Nx H3) := by
  obtain ⟨Sk, rk, hk⟩ := r1.kl is
  have u := pst_own (o := .lst []) r1.fh hL
  have q2 := cmp_end hnd r1 (fun acc g' ex => cmp_no _ _ _ _ _ ex) q1 hL
  have b0 : Stp (fun p => S p ∨ p = L) F (upd H L (.lst [])) (fun p => Sk p ∨ p = L) F (upd H L (.lst [])) := (Stp.refl u.fh).sub fun p hp => hp.imp (hk p) id
  have nSk : ¬ Sk L := fun z => by
    obtain ⟨_, w, ew⟩ := r1.at (hk L z)
    rw [hL] at ew
    cases ew
  refine lc_range (lo := lo) (n := n) (fun i H' => ∃ g' S' F' vs' acc, Rel K cg pvs (VL.kl is g') (L2.wipe σ is) S' F' H' ∧ H' L = some (.lst vs') ∧ F' L = none ∧ ¬ S' L ∧ DqA K F' vs' acc ∧ PoC K cg pvs (L2.wipe σ is) L S' F' H' (Q (.ref L)) (cmpM is m mt me ((rng lo n).drop i) acc (VL.kl is g')) fun _ => True) ?_ ?_ ?_
  · exact ⟨g, Sk, F, [], [], (rk.pst u).wipe, upd_same, r1.fh.free hL, nSk, .nil, PoC.st q2 b0⟩
  · rintro i H' hi ⟨g', S', F', vs', acc, r', a1, a2, a3, a4, q'⟩
    rw [drop_get (rng_get hi)] at q'
    exact cmp_turn hg hts ht he r' a1 a2 a3 a4 (.int _) q' fun g2 S2 F2 H2 vs2 acc2 b2 r2 c1 c2 c3 c4 q2 => ⟨g2, S2, F2, vs2, acc2, r2, c1, c2, c3, c4, q2⟩
  · rintro H' ⟨g', S', F', vs', acc, r', a1, a2, a3, a4, q'⟩
    rw [List.drop_of_length_le (by rw [rng_len]; exact Nat.le_refl _)] at q'
    exact q'.2 S' F' H' vs' (.refl r'.fh) r' a1 a2 a3 a4
theorem ro_compR1 {ta : TA} {tg : TG} {tt : TT} {te : TE} {m : Tg} {me : Gm → Out PyData} {ms : Gm → Out (List PyData)} {mt : Gm → Out Bool} {is ts : List Nat} (hs : RA K cg W ta ms) (hg : RG K cg ts tg m) (ht : RT K cg W0 tt mt) (he : RV K cg W0 te me) (hts : ∀ j ∈ ts, j ∈ is) (hnd : is.Nodup)
    (h1 : ∀ g as g1, ms g = .ok as g1 → as.length = 1) : RO K cg W (tLc (iRng1 ta) tg tt te is) (oCompR is m mt me ms) := fun pvs g σ S F H Q r q => by
  refine hs pvs g σ S F H _ r ?_
  unfold oCompR at q
  cases e : ms g with
  | ok as g1 =>
    have hl := h1 _ _ _ e
    rw [e] at q
    intro vs S1 F1 H1 s1 r1 d1
    have q1 := PoO.st q s1
    cases d1 with
    | nil => cases hl
    | cons a t =>
      cases t with
      | cons b t => simp at hl
      | nil =>
        cases a with
        | int j =>
          simp only [rngOf, cIf] at q1
          split at q1
          · rename_i lo n ez
            split at ez
            · rename_i hz
              cases ez
              exact ⟨j, rfl, hz.1, hz.2, fun L hL => comp_rng hg ht he hts hnd r1 q1 hL⟩
            · cases ez
          · exact q1.elim
        | non => exact q1.elim
        | bl b => exact q1.elim
        | str x => exact q1.elim
        | lst h1 h2 => exact q1.elim
        | tup h1 h2 => exact q1.elim
  | err e' g1 =>
    rw [e] at q
    exact q
  | stk =>
    rw [e] at q
    exact q.elim
def tYesM (g : Gm) : Out Bool := .ok true g
/-! ### raise and try -/
def sErr (e : Er) (g : Gm) : SOut := .err e g
theorem rs_raise {C : Addr} {c : Str} (hc : cg c = some (.ref C)) : RS K cg W (fun _ σ H => W (.ref C) none σ H) (sErr ⟨c, []⟩) := fun pvs g σ S F H D r q => q C none σ S F H (.refl r.fh) r hc rfl
/-- the clauses of a try: which class they take, what they do -/
abbrev Cls := List ((Str → Option Bool) × (Er → Gm → SOut))
def caught : Cls → Er → Gm → SOut
  | [], e, g => .err e g
  | (f, ms) :: r, e, g => match f e.c with
    | some true => ms e g
    | some false => caught r e g
    | none => .stk
def sTry (mb : Gm → SOut) (cs : Cls) (g : Gm) : SOut :=
  match mb g with
  | .err e g1 => caught cs e g1
  | y => y
/-- a clause is what its suites mirror -/
inductive ClsOk (K : PySem.W.Frag) (cg : Cg) (Wout : WX) : List (Value × (Addr → Value → Option Addr → TS)) → Cls → Prop
  | nil : ClsOk K cg Wout [] []
  | cons {c : Value} {ts : Addr → Value → Option Addr → TS} {f : Str → Option Bool} {ms : Er → Gm → SOut} {l : List (Value × (Addr → Value → Option Addr → TS))} {cs : Cls} (hf : ∀ x C b, cg x = some (.ref C) → f x = some b → PySem.W.exmOne K (.ref C) c = some b)
      (hs : ∀ e a C dop, cg e.c = some (.ref C) → RS K cg Wout (ts a (.ref C) dop) (ms e)) (r : ClsOk K cg Wout l cs) : ClsOk K cg Wout ((c, ts) :: l) ((f, ms) :: cs)
end
section
variable {X : Cx} {W : Wz} {st : Stmt} {rest : List Stmt} {a b c e : Expr} {es : List Expr} {pos : Pos}
theorem dss_nil : DSs X W [] sNx := ⟨_, pss_nil, rs_next⟩
theorem dss_one {m : Gm → SOut} (h : DS X W st m) : DSs X W [st] m := let ⟨_, h1, h2⟩ := h; ⟨_, pss_one h1, h2⟩
theorem dss_cons {m n : Gm → SOut} (h : DS X W st m) (hr : DSs X W rest n) : DSs X W (st :: rest) (sSeq m n) := let ⟨_, h1, h2⟩ := h; let ⟨_, k1, k2⟩ := hr; ⟨_, pss_cons h1 k1, rs_seq h2 k2⟩
theorem ds_expr {m : Gm → Out OD} (h : DO X W e m) (hs : swapsWith e none pos.line X.env = pure false := by rfl) : DS X W (.Expr e pos) (sDrop m) := let ⟨_, h1, h2⟩ := h; ⟨_, ps_expr h1 hs, rs_drop h2⟩
theorem ds_ret {m : Gm → Out OD} (h : DO X W e m) : DS X W (.Return (some e) pos) (sRet m) := let ⟨_, h1, h2⟩ := h; ⟨_, ps_ret h1, rs_ret h2⟩
theorem ds_if {mt : Gm → Out Bool} {ma mb : Gm → SOut} {sa sb : List Stmt} (hc : DT X W c mt) (ha : DSs X W sa ma) (hb : DSs X W sb mb) : DS X W (.If c sa sb pos) (sIf mt ma mb) :=
  let ⟨_, c1, c2⟩ := hc; let ⟨_, a1, a2⟩ := ha; let ⟨_, b1, b2⟩ := hb; ⟨_, ps_if c1 a1 b1, rs_if c2 a2 b2⟩
theorem ds_set {i : Nat} {x : Str} {pos' : Pos} {m : Gm → Out OD} (hN : X.N.Nodup) (h : DO X W e m) (hi : X.N[i]? = some x := by rfl) (hx : Loc X.env.scope x := by first | exact Or.inl rfl | exact Or.inr rfl) (hs : swapsWith e (some (.Name x pos')) pos.line X.env = pure false := by rfl)
    (hf : X.fn x = true ∨ X.env.scope.names.lookup x = some .local := by first | exact .inl rfl | exact .inr rfl) : DS X W (.Assign [.Name x pos'] e pos) (sAsg i m) := let ⟨_, h1, h2⟩ := h; ⟨_, ps_set hN hi hx h1 hs hf, rs_asg h2⟩
def DG (X : Cx) (W : Wz) (ts : List Nat) (e : Expr) (m : Tg) : Prop := ∃ t, PG X e t ∧ RG X.K (cgX X W) ts t m
def DGs (X : Cx) (W : Wz) (ts : List Nat) (es : List Expr) (m : List PyData → Gm → Option Gm) : Prop := ∃ t, PGs X es t ∧ RGs X.K (cgX X W) ts t m
theorem dg_name {x : Str} (i : Nat) (hN : X.N.Nodup) (hi : X.N[i]? = some x := by rfl) (hx : Loc X.env.scope x := by first | exact Or.inl rfl | exact Or.inr rfl) (hf : X.fn x = true ∨ X.env.scope.names.lookup x = some .local := by first | exact .inl rfl | exact .inr rfl) : DG X W [i] (.Name x pos) (gN i) := ⟨_, pg_name hN hi hx hf, rg_n i⟩
theorem dgs_nil : DGs X W [] [] gsNil := ⟨_, pgs_nil, rgs_nil⟩
theorem dgs_cons {ts us : List Nat} {m : Tg} {n : List PyData → Gm → Option Gm} (h : DG X W ts e m) (hr : DGs X W us es n) (hs : (assignEach (e :: es) X.env).map (·.2) = assign e X.env :: (assignEach es X.env).map (·.2) := by rfl) : DGs X W (ts ++ us) (e :: es) (gsCons m n) :=
  let ⟨_, h1, h2⟩ := h; let ⟨_, k1, k2⟩ := hr; ⟨_, pgs_cons h1 k1 hs, rgs_cons h2 k2⟩
theorem dg_tup {ts : List Nat} {m : List PyData → Gm → Option Gm} {k n : Nat} (h : DGs X W ts es m) (hc : X.calm = true := by rfl) (hn : (assignEach es X.env).length = n := by rfl) (hst : (assignEach es X.env).findIdx? (·.1) = none := by rfl) : DG X W ts (.Tuple es k pos) (gT n m) :=
  let ⟨_, h1, h2⟩ := h; ⟨_, pg_tup hc h1 hn hst, rg_t h2⟩
theorem ds_unp {tg : Expr} {ts : List Nat} {n : Tg} {m : Gm → Out PyData} (hg : DG X W ts tg n) (h : DV X W e m) (hs : swapsWithSole [tg] e pos.line X.env = pure false := by rfl) (hw : swappedStores [tg] e X.env = pure none := by rfl) (h1 : (assignEach [tg] X.env).map (·.2) = [assign tg X.env] := by rfl) :
    DS X W (.Assign [tg] e pos) (sUnp n m) := let ⟨_, g1, g2⟩ := hg; let ⟨_, e1, e2⟩ := h; ⟨_, ps_asg e1 g1 hs hw h1, rs_unp e2 g2⟩
theorem ds_setIx {i : Expr} {k : Nat} {x : Str} {p2 p3 : Pos} {mi me : Gm → Out PyData} (he : DV X W e me) (hi : DV X W i mi) (hN : X.N[k]? = some x := by rfl) (hv : Vis X.env.scope x := by first | exact Or.inl rfl | exact Or.inr (Or.inl rfl) | exact Or.inr (Or.inr rfl)) (hd : (x == ("__debug__" : Str)) = false := by decide)
    (hcd : (x == ("__classdict__" : Str)) = false := by decide)
    (ha : ∀ v, assign (.Subscript (.Name x p2) i p3) X.env v = (do
      let ov ← holding [v] (eval (.Name x p2) X.env)
      let iv ← holding [v, ov] (eval i X.env)
      standAt p3
      holding [v, ov, iv] (setItem ov iv v)
      release [v, ov, iv] []) := by intro _; rfl)
    (hs : swapsWithSole [.Subscript (.Name x p2) i p3] e pos.line X.env = pure false := by rfl) (hw : swappedStores [.Subscript (.Name x p2) i p3] e X.env = pure none := by rfl) (h1 : (assignEach [.Subscript (.Name x p2) i p3] X.env).map (·.2) = [assign (.Subscript (.Name x p2) i p3) X.env] := by rfl) :
    DS X W (.Assign [.Subscript (.Name x p2) i p3] e pos) (sSet k mi me) :=
  let ⟨_, e1, e2⟩ := he; let ⟨_, i1, i2⟩ := hi; ⟨_, ps_asg e1 (pg_sub (pv k hN hv hd hcd) i1 set_list ha) hs hw h1, rs_set e2 i2⟩
theorem ds_while {mt : Gm → Out Bool} {mb : Gm → SOut} {body : List Stmt} (is : List Nat) (fuel : Gm → Nat) (hp : PassesOwn (model X.prog X.w) X.A X.env X.xe) (hc : DT X W c mt) (hb : DSs X W body mb) : DS X W (.While c body [] pos) (sWhl is fuel mt mb) :=
  let ⟨_, c1, c2⟩ := hc; let ⟨_, b1, b2⟩ := hb; ⟨_, ps_while hp c1 b1, rs_while c2 b2⟩
theorem ds_forL {tg iter : Expr} {ts : List Nat} {n : Tg} {ms : Gm → Out PyData} {mb : Gm → SOut} {body : List Stmt} (is : List Nat) (hp : PassesOwn (model X.prog X.w) X.A X.env X.xe) (hi : DV X W iter ms) (hg : DG X W ts tg n) (hb : DSs X W body mb) (hc : X.calm = true := by rfl) (hs : ∀ x, foldedSetIterable iter X.env x = pure x := by intro _; rfl) :
    DS X W (.For tg iter body [] pos) (sFor lof is n ms mb) := let ⟨_, i1, i2⟩ := hi; let ⟨_, g1, g2⟩ := hg; let ⟨_, b1, b2⟩ := hb; ⟨_, ps_for hp hc (pi_list i1) g1 b1 hs, rs_forL i2 g2 b2⟩
theorem ds_forR1 {tg : Expr} {p p2 : Pos} {ts : List Nat} {n : Tg} {ma : Gm → Out PyData} {mb : Gm → SOut} {body : List Stmt} (is : List Nat) (hp : PassesOwn (model X.prog X.w) X.A X.env X.xe) (hm : X.mg "range" = none) (ha : DV X W a ma) (hg : DG X W ts tg n) (hb : DSs X W body mb) (hc : X.calm = true := by rfl) (hgl : Gl X "range" := by rfl)
    (hsa : starEach [a] X.env = [(false, eval a X.env)] := by rfl) (hs : ∀ x, foldedSetIterable (.Call (.Name "range" p) [a] [] p2) X.env x = pure x := by intro _; rfl) :
    DS X W (.For tg (.Call (.Name "range" p) [a] [] p2) body [] pos) (sForR is n (aCons ma aNil) mb) := let ⟨_, i1, i2⟩ := ha; let ⟨_, g1, g2⟩ := hg; let ⟨_, b1, b2⟩ := hb; ⟨_, ps_for hp hc (pi_range1 hgl hm (pa_cons i1 pa_nil hsa) hsa) g1 b1 hs, rs_forR1 (ra_cons i2 ra_nil) g2 b2 (aCons_len aNil_len)⟩
theorem ds_par {i j : Nat} {x y : Str} {px py pt : Pos} {kt k2 : Nat} {pt2 : Pos} {ma mb : Gm → Out PyData} (hN : X.N.Nodup) (ha : DV X W a ma) (hb : DV X W b mb) (hi : X.N[i]? = some x := by rfl) (hj : X.N[j]? = some y := by rfl) (hij : i ≠ j := by decide) (hx : X.env.scope.names.lookup x = some .local := by rfl) (hy : X.env.scope.names.lookup y = some .local := by rfl)
    (hc : X.calm = true := by rfl) (hsa : starEach [a, b] X.env = (false, eval a X.env) :: starEach [b] X.env := by rfl) (hsb : starEach [b] X.env = (false, eval b X.env) :: starEach [] X.env := by rfl)
    (hp : ∀ ta, PA X [a, b] ta → PS X (.Assign [.Tuple [.Name x px, .Name y py] kt pt] (.Tuple [a, b] k2 pt2) pos) (tPar i j ta)) : DS X W (.Assign [.Tuple [.Name x px, .Name y py] kt pt] (.Tuple [a, b] k2 pt2) pos) (sPar i j (aCons ma (aCons mb aNil))) :=
  let ⟨_, a1, a2⟩ := ha; let ⟨_, b1, b2⟩ := hb; ⟨_, hp _ (pa_cons a1 (pa_cons b1 pa_nil hsb) hsa), rs_par (ra_cons a2 (ra_cons b2 ra_nil))⟩
variable {name : Str} {apos cpos p2 : Pos} {id : String} {r : V → List V → Hp → VK → Prop} {x : Str}
end
end VL
namespace VL
open PySem L2
section
variable (K : PySem.W.Frag) (cg : Cg) (W : WX)
def cV (m : Gm → Out PyData) : TE := fun σ H Q => ∃ pvs g S F, Rel K cg pvs g σ S F H ∧ PoV K cg W pvs σ S F H Q (m g)
def cT (m : Gm → Out Bool) : TT := fun σ H Q => ∃ pvs g S F, Rel K cg pvs g σ S F H ∧ PoT K cg W pvs σ S F H Q (m g)
def cS (m : Gm → SOut) : TS := fun D σ H => ∃ pvs g S F, Rel K cg pvs g σ S F H ∧ PoS K cg W pvs S F H D (m g)
def cG (ts : List Nat) (m : Tg) : TG := fun v σ H Q => ∃ pvs g g' S F d, Rel K cg pvs g σ S F H ∧ Dq K F v d ∧ m d g = some g' ∧ ∀ σ' S', Rel K cg pvs g' σ' S' F H → (∀ q, S' q → S q) → Turns ts σ σ' → Q σ' H
end
section
variable {K : PySem.W.Frag} {cg : Cg} {W : WX}
theorem rv_c {m : Gm → Out PyData} : RV K cg W (cV K cg W m) m := fun pvs g σ S F H Q r q => ⟨pvs, g, S, F, r, q⟩
theorem rt_c {m : Gm → Out Bool} : RT K cg W (cT K cg W m) m := fun pvs g σ S F H Q r q => ⟨pvs, g, S, F, r, q⟩
theorem rs_c {m : Gm → SOut} : RS K cg W (cS K cg W m) m := fun pvs g σ S F H D r q => ⟨pvs, g, S, F, r, q⟩
theorem rg_c {ts : List Nat} {m : Tg} : RG K cg ts (cG K cg ts m) m := fun pvs g g' σ S F H v d Q r hd e q => ⟨pvs, g, g', S, F, d, r, hd, e, q⟩
end
section
variable {W : Wz} {X : Cx} {e : Expr}
theorem DV.pe {m : Gm → Out PyData} (h : DV X W e m) : PE X e (cV X.K (cgX X W) W.x m) := by
  obtain ⟨t, h1, h2⟩ := h
  exact ⟨fun pins s σ H Q I ⟨pvs, g, S, F, r, q⟩ => h1.run pins s σ H Q I (h2 pvs g σ S F H Q r q)⟩
theorem DT.pt {m : Gm → Out Bool} (h : DT X W e m) : PT X e (cT X.K (cgX X W) W.x m) := by
  obtain ⟨t, h1, h2⟩ := h
  exact ⟨fun pins s σ H Q I ⟨pvs, g, S, F, r, q⟩ => h1.run pins s σ H Q I (h2 pvs g σ S F H Q r q)⟩
theorem DSs.pss {l : List Stmt} {m : Gm → SOut} (h : DSs X W l m) : PSs X l (cS X.K (cgX X W) W.x m) := by
  obtain ⟨t, h1, h2⟩ := h
  exact ⟨fun pins s σ H D I ⟨pvs, g, S, F, r, q⟩ => h1.run pins s σ H D I (h2 pvs g σ S F H D r q)⟩
theorem DG.pg {ts : List Nat} {m : Tg} (h : DG X W ts e m) : PG X e (cG X.K (cgX X W) ts m) := by
  obtain ⟨t, h1, h2⟩ := h
  exact ⟨fun pins s σ H v u Q I rv ⟨pvs, g, g', S, F, d, r, hd, em, q⟩ => h1.run pins s σ H v u Q I rv (h2 pvs g g' σ S F H v d Q r hd em q)⟩
/-! ### comprehensions -/
/-- the tests of a comprehension -/
def DTs (X : Cx) (W : Wz) (es : List Expr) (m : Gm → Out Bool) : Prop := PTs X es (cT X.K (cgX X W) W.x m)
theorem dts_nil : DTs X W [] tYesM := ⟨fun pins s σ H Q I ⟨pvs, g, S, F, r, q⟩ => pts_nil.run pins s σ H Q I (q S F H (.refl r.fh) r)⟩
theorem dts_one {m : Gm → Out Bool} (h : DT X W e m) : DTs X W [e] m := pts_one h.pt
variable {elt tg iter a c : Expr} {ifs : List Expr} {scope : Scope} {pos p p2 : Pos} {n : Tg} {ts : List Nat} {mt : Gm → Out Bool} {me ms ma mc : Gm → Out PyData}
/-- within a comprehension nothing is raised -/
abbrev w0 (W : Wz) : Wz := ⟨W0, W.Z⟩
abbrev Blk (X : Cx) (scope : Scope) (P : Cx → Prop) : Prop := ∀ (s : Shared) (H : Hp) (C : Addr) (cl : List (Str × Addr)) (fp : List Addr), P (X.blk s H scope (compEnvC scope cl C X.env) fp)
/-- a comprehension: as a value, or handed to a name at once -/
def DC (X : Cx) (W : Wz) (e : Expr) (m : Gm → Out OD) : Prop := ∃ t, PE X e t ∧ (∀ (i : Nat) (y : Str) (py spos : Pos), X.N[i]? = some y → X.env.scope.names.lookup y = some .local → swapsWith e (some (.Name y py)) spos.line X.env = pure true → PS X (.Assign [.Name y py] e spos) (tAsg t (gName i))) ∧ RO X.K (cgX X W) W.x t m
theorem DC.o {m : Gm → Out OD} (h : DC X W e m) : DO X W e m := let ⟨t, a, _, c⟩ := h; ⟨t, a, c⟩
theorem DC.f {m : Gm → Out OD} (h : DC X W e m) : DC X W e (oV (vO m)) := let ⟨t, a, b, c⟩ := h; ⟨t, a, b, c.v.o⟩
theorem dc_mk {own : List (Str × Nat)} {wi : TI} {g : TG} {tt : TT} {te : TE} {M : Gm → Out OD} (hc : X.calm = true) (hN : X.N.Nodup) (hi : PI X tg iter wi) (ok : BlkOk X.N X.env.scope scope own)
    (hg : Blk X scope fun X' => PG X' tg g) (ht : Blk X scope fun X' => PTs X' ifs tt) (he : Blk X scope fun X' => PE X' elt te) (hs : ∀ x, foldedSetIterable iter X.env x = pure x) (hM : RO X.K (cgX X W) W.x (tLc wi g tt te (own.map (·.2))) M) :
    DC X W (.ListComp elt [⟨tg, iter, ifs, 0⟩] scope pos) M := ⟨_, pe_lc hc hN hi ok hg ht he hs, fun i y py spos h1 h2 h3 => ps_setLc hc hN h1 h2 h3 hi ok hg ht he hs, hM⟩
theorem dc_compL (own : List (Str × Nat)) (hN : X.N.Nodup) (hi : DV X W iter ms) (ok : BlkOk X.N X.env.scope scope own) (hg : Blk X scope fun X' => DG X' (w0 W) ts tg n) (ht : Blk X scope fun X' => DTs X' (w0 W) ifs mt) (he : Blk X scope fun X' => DV X' (w0 W) elt me)
    (hts : ∀ j ∈ ts, j ∈ own.map (·.2) := by decide) (hnd : (own.map (·.2)).Nodup := by decide) (hc : X.calm = true := by rfl) (hs : ∀ x, foldedSetIterable iter X.env x = pure x := by intro _; rfl) :
    DC X W (.ListComp elt [⟨tg, iter, ifs, 0⟩] scope pos) (oComp lof (own.map (·.2)) n mt me ms) := by
  obtain ⟨t, i1, i2⟩ := hi
  exact dc_mk hc hN (pi_list i1) ok (fun s H C cl fp => (hg s H C cl fp).pg) (fun s H C cl fp => show PTs _ _ (cT X.K (cgX X W) W0 mt) from ht s H C cl fp) (fun s H C cl fp => (he s H C cl fp).pe) hs (ro_compL i2 rg_c rt_c rv_c hts hnd)
theorem dc_compR1 (own : List (Str × Nat)) (hN : X.N.Nodup) (hm : X.mg "range" = none) (ha : DV X W a ma) (ok : BlkOk X.N X.env.scope scope own) (hg : Blk X scope fun X' => DG X' (w0 W) ts tg n) (ht : Blk X scope fun X' => DTs X' (w0 W) ifs mt) (he : Blk X scope fun X' => DV X' (w0 W) elt me)
    (hts : ∀ j ∈ ts, j ∈ own.map (·.2) := by decide) (hnd : (own.map (·.2)).Nodup := by decide) (hc : X.calm = true := by rfl) (hgl : Gl X "range" := by rfl) (hsa : starEach [a] X.env = [(false, eval a X.env)] := by rfl) (hs : ∀ x, foldedSetIterable (.Call (.Name "range" p) [a] [] p2) X.env x = pure x := by intro _; rfl) :
    DC X W (.ListComp elt [⟨tg, .Call (.Name "range" p) [a] [] p2, ifs, 0⟩] scope pos) (oCompR (own.map (·.2)) n mt me (aCons ma aNil)) := by
  obtain ⟨t, i1, i2⟩ := ha
  exact dc_mk hc hN (pi_range1 hgl hm (pa_cons i1 pa_nil hsa) hsa) ok (fun s H C cl fp => (hg s H C cl fp).pg) (fun s H C cl fp => show PTs _ _ (cT X.K (cgX X W) W0 mt) from ht s H C cl fp) (fun s H C cl fp => (he s H C cl fp).pe) hs (ro_compR1 (ra_cons i2 ra_nil) rg_c rt_c rv_c hts hnd (aCons_len aNil_len))
end
/-! ### arguments with what is lent -/
inductive Ar where
  | d (x : PyData) | l (i : Nat)
inductive ArOk (K : PySem.W.Frag) (F : Hp) (σ : L2.St) : List V → List Ar → Prop
  | nil : ArOk K F σ [] []
  | d {v : V} {x : PyData} {vs : List V} {as : List Ar} : Dq K F v x → ArOk K F σ vs as → ArOk K F σ (v :: vs) (.d x :: as)
  | l {v : V} {i : Nat} {vs : List V} {as : List Ar} : σ[i]? = some (some v) → ArOk K F σ vs as → ArOk K F σ (v :: vs) (.l i :: as)
section
variable (K : PySem.W.Frag) (cg : Cg) (W : WX)
def PoL (pvs : Pv) (σ : L2.St) (S : Addr → Prop) (F H : Hp) (Q : List V → Hp → Prop) : Out (List Ar) → Prop
  | .ok as g => ∀ vs S' F' H', Stp S F H S' F' H' → Rel K cg pvs g σ S' F' H' → ArOk K F' σ vs as → Q vs H'
  | .err e g => ErrP K cg W pvs σ S F H e g
  | .stk => False
def RL (t : TA) (m : Gm → Out (List Ar)) : Prop := ∀ pvs g σ S F H Q, Rel K cg pvs g σ S F H → PoL K cg W pvs σ S F H Q (m g) → t σ H Q
end
def DL (X : Cx) (W : Wz) (es : List Expr) (m : Gm → Out (List Ar)) : Prop := ∃ t, PA X es t ∧ RL X.K (cgX X W) W.x t m
section
variable {K : PySem.W.Frag} {cg : Cg} {W : WX} {pvs : Pv} {g : Gm} {σ : L2.St} {S S1 S' A : Addr → Prop} {F F1 F' H H1 H' : Hp}
theorem PoL.st {Q : List V → Hp → Prop} {x : Out (List Ar)} (h : PoL K cg W pvs σ S F H Q x) (a : Stp S F H S1 F1 H1) : PoL K cg W pvs σ S1 F1 H1 Q x := by
  cases x with
  | ok d g => exact fun v S' F' H' b r c => h v S' F' H' (a.trans b) r c
  | err e g => exact ErrP.st h a
  | stk => exact h
def lNil (g : Gm) : Out (List Ar) := .ok [] g
def lD (m : Gm → Out PyData) (r : Gm → Out (List Ar)) (g : Gm) : Out (List Ar) := (m g).bind fun x g1 => (r g1).bind fun as g2 => .ok (.d x :: as) g2
def lL (i : Nat) (r : Gm → Out (List Ar)) (g : Gm) : Out (List Ar) :=
  match (gt g i).od with
  | some _ => (r g).bind fun as g1 => .ok (.l i :: as) g1
  | none => .stk
theorem ArOk.mo : ∀ {vs : List V} {as : List Ar}, ArOk K F σ vs as → Same F F' → ArOk K F' σ vs as
  | _, _, .nil, _ => .nil
  | _, _, .d h t, e => .d (dp_mo h e) (ArOk.mo t e)
  | _, _, .l h t, e => .l h (ArOk.mo t e)
theorem rl_nil : RL K cg W tNil lNil := fun pvs g σ S F H Q r q => q [] S F H (.refl r.fh) r .nil
theorem rl_d {ta : TE} {tr : TA} {m : Gm → Out PyData} {mr : Gm → Out (List Ar)} (ha : RV K cg W ta m) (hr : RL K cg W tr mr) : RL K cg W (tCons ta tr) (lD m mr) := fun pvs g σ S F H Q rl q => by
  refine ha pvs g σ S F H _ rl ?_
  unfold lD at q
  cases e : m g with
  | ok a g1 =>
    rw [e] at q
    intro v S1 F1 H1 s1 r1 d1
    refine hr pvs g1 σ S1 F1 H1 _ r1 ?_
    simp only [Out.bind] at q
    have q := PoL.st q s1
    cases e2 : mr g1 with
    | ok as g2 =>
      rw [e2] at q
      exact fun vs S2 F2 H2 s2 r2 d2 => q (v :: vs) S2 F2 H2 s2 r2 (.d (dp_mo d1 s2.fr) d2)
    | err e' g2 =>
      rw [e2] at q
      exact q
    | stk =>
      rw [e2] at q
      exact q.elim
  | err e' g1 =>
    rw [e] at q
    exact q
  | stk =>
    rw [e] at q
    exact q.elim
theorem rl_l {tr : TA} {mr : Gm → Out (List Ar)} {i : Nat} (hr : RL K cg W tr mr) : RL K cg W (tCons (tVar i) tr) (lL i mr) := fun pvs g σ S F H Q rl q => by
  unfold lL at q
  cases e0 : (gt g i).od with
  | none =>
    simp only [e0] at q
    exact q.elim
  | some o =>
    simp only [e0] at q
    obtain ⟨v, ev⟩ := rl.slot e0
    refine ⟨v, ev, hr pvs g σ S F H _ rl ?_⟩
    cases e2 : mr g with
    | ok as g2 =>
      rw [e2] at q
      exact fun vs S2 F2 H2 s2 r2 d2 => q (v :: vs) S2 F2 H2 s2 r2 (.l ev d2)
    | err e' g2 =>
      rw [e2] at q
      exact q
    | stk =>
      rw [e2] at q
      exact q.elim
def lends : List Ar → List Nat
  | [] => []
  | .d _ :: as => lends as
  | .l i :: as => i :: lends as
def osOf (g : Gm) : List Ar → Option (List OD)
  | [] => some []
  | .d x :: as => match osOf g as with
    | some os => some (.dat x :: os)
    | none => none
  | .l i :: as => match (gt g i).od, osOf g as with
    | some o, some os => some (o :: os)
    | _, _ => none
def putA : Gm → List Ar → List OD → Gm
  | g, .d _ :: as, _ :: os => putA g as os
  | g, .l i :: as, o :: os => putA (st g i ((gt g i).with o)) as os
  | g, _, _ => g
/-- things owned side by side -/
def OwA (K : PySem.W.Frag) (cg : Str → Option Value) (F H : Hp) (vs : List V) (os : List OD) (A : Addr → Prop) : Prop :=
  vs.length = os.length ∧ ∃ L : Nat → Addr → Prop, (∀ (i : Nat) (v : V) (o : OD), vs[i]? = some v → os[i]? = some o → Ow K cg F H v o (L i)) ∧ (∀ i j q, i ≠ j → L i q → L j q → False) ∧ (∀ i q, os.length ≤ i → ¬ L i q) ∧ ∀ q, A q ↔ ∃ i, L i q
theorem putA_len : ∀ (as : List Ar) (os : List OD) (g : Gm), (putA g as os).length = g.length
  | [], _, _ => by unfold putA; rfl
  | .d _ :: as, [], _ => by unfold putA; rfl
  | .d _ :: as, _ :: os, g => by
    unfold putA
    exact putA_len as os g
  | .l i :: as, [], _ => by unfold putA; rfl
  | .l i :: as, o :: os, g => by
    unfold putA
    exact (putA_len as os _).trans (st_len _ _ _)
theorem putA_out : ∀ (as : List Ar) (os : List OD) (g : Gm) (j : Nat), j ∉ lends as → gt (putA g as os) j = gt g j
  | [], _, _, _, _ => by unfold putA; rfl
  | .d _ :: as, [], _, _, _ => by unfold putA; rfl
  | .d _ :: as, _ :: os, g, j, h => by
    unfold putA
    exact putA_out as os g j h
  | .l i :: as, [], _, _, _ => by unfold putA; rfl
  | .l i :: as, o :: os, g, j, h => by
    unfold putA
    have h1 : j ≠ i := fun z => h (by rw [z]; exact List.mem_cons_self)
    rw [putA_out as os _ j fun z => h (List.mem_cons_of_mem _ z), gt_st_ne h1]
theorem lends_mem : ∀ {as : List Ar} {i : Nat}, i ∈ lends as ↔ ∃ k : Nat, as[k]? = some (.l i)
  | [], i => by simp [lends]
  | .d x :: as, i => by
    unfold lends
    rw [lends_mem (as := as)]
    constructor
    · rintro ⟨k, h⟩
      exact ⟨k + 1, by simpa using h⟩
    · rintro ⟨k, h⟩
      cases k with
      | zero => simp at h
      | succ k => exact ⟨k, by simpa using h⟩
  | .l j :: as, i => by
    unfold lends
    rw [List.mem_cons, lends_mem (as := as)]
    constructor
    · rintro (h | ⟨k, h⟩)
      · exact ⟨0, by simp [h]⟩
      · exact ⟨k + 1, by simpa using h⟩
    · rintro ⟨k, h⟩
      cases k with
      | zero =>
        simp at h
        exact .inl h.symm
      | succ k => exact .inr ⟨k, by simpa using h⟩
theorem lends_inj : ∀ {as : List Ar} {i k k' : Nat}, (lends as).Nodup → as[k]? = some (.l i) → as[k']? = some (.l i) → k = k'
  | [], _, _, _, _, h, _ => by simp at h
  | .d x :: as, i, k, k', nd, h, h' => by
    cases k with
    | zero => simp at h
    | succ k =>
      cases k' with
      | zero => simp at h'
      | succ k' => exact congrArg Nat.succ (lends_inj (as := as) nd (by simpa using h) (by simpa using h'))
  | .l j :: as, i, k, k', nd, h, h' => by
    obtain ⟨n1, n2⟩ := List.nodup_cons.mp nd
    cases k with
    | zero =>
      simp at h
      cases k' with
      | zero => rfl
      | succ k' => exact absurd (lends_mem.mpr ⟨k', by rw [← h] at h'; simpa using h'⟩) n1
    | succ k =>
      cases k' with
      | zero =>
        simp at h'
        exact absurd (lends_mem.mpr ⟨k, by rw [← h'] at h; simpa using h⟩) n1
      | succ k' => exact congrArg Nat.succ (lends_inj (as := as) n2 (by simpa using h) (by simpa using h'))
theorem putA_in : ∀ (as : List Ar) (os : List OD) (g : Gm) (j k : Nat) (o o1 : OD), (lends as).Nodup → as[k]? = some (.l j) → os[k]? = some o → as.length = os.length → (gt g j).od = some o1 → gt (putA g as os) j = (gt g j).with o
  | [], _, _, _, _, _, _, _, h, _, _, _ => by simp at h
  | a :: as, [], _, _, _, _, _, _, _, _, h, _ => by simp at h
  | .d x :: as, o' :: os, g, j, k, o, o1, nd, h, ho, hl, he => by
    unfold putA
    cases k with
    | zero => simp at h
    | succ k => exact putA_in as os g j k o o1 nd (by simpa using h) (by simpa using ho) (by simpa using hl) he
  | .l i :: as, o' :: os, g, j, k, o, o1, nd, h, ho, hl, he => by
    unfold putA
    obtain ⟨n1, n2⟩ := List.nodup_cons.mp nd
    cases k with
    | zero =>
      simp at h ho
      subst h
      subst ho
      rw [putA_out as os _ i n1, gt_st (gt_lt fun z => by rw [z] at he; cases he)]
    | succ k =>
      have hj : j ≠ i := fun z => n1 (lends_mem.mpr ⟨k, by rw [← z]; simpa using h⟩)
      have e2 : gt (st g i ((gt g i).with o')) j = gt g j := gt_st_ne hj
      rw [putA_in as os _ j k o o1 n2 (by simpa using h) (by simpa using ho) (by simpa using hl) (by rw [e2]; exact he), e2]
theorem osOf_get : ∀ {as : List Ar} {os : List OD}, osOf g as = some os → os.length = as.length ∧ ∀ (k : Nat) (a : Ar), as[k]? = some a → (match a with | .d x => os[k]? = some (.dat x) | .l i => ∃ o, (gt g i).od = some o ∧ os[k]? = some o)
  | [], os, h => by
    cases h
    exact ⟨rfl, fun k a e => by simp at e⟩
  | .d x :: as, os, h => by
    unfold osOf at h
    cases e : osOf g as with
    | none =>
      rw [e] at h
      cases h
    | some os' =>
      rw [e] at h
      cases h
      obtain ⟨h1, h2⟩ := osOf_get e
      refine ⟨by simp [h1], fun k a ea => ?_⟩
      cases k with
      | zero =>
        simp at ea
        subst ea
        rfl
      | succ k => exact h2 k a (by simpa using ea)
  | .l i :: as, os, h => by
    unfold osOf at h
    cases e0 : (gt g i).od with
    | none =>
      rw [e0] at h
      cases h
    | some o =>
      cases e : osOf g as with
      | none =>
        rw [e0, e] at h
        cases h
      | some os' =>
        rw [e0, e] at h
        cases h
        obtain ⟨h1, h2⟩ := osOf_get e
        refine ⟨by simp [h1], fun k a ea => ?_⟩
        cases k with
        | zero =>
          simp at ea
          subst ea
          exact ⟨o, e0, rfl⟩
        | succ k => exact h2 k a (by simpa using ea)
theorem ArOk.get : ∀ {vs : List V} {as : List Ar}, ArOk K F σ vs as → vs.length = as.length ∧ ∀ (k : Nat) (a : Ar) (v : V), as[k]? = some a → vs[k]? = some v → (match a with | .d x => Dq K F v x | .l i => σ[i]? = some (some v))
  | _, _, .nil => ⟨rfl, fun k a v e => by simp at e⟩
  | _, _, .d h t => by
    obtain ⟨h1, h2⟩ := ArOk.get t
    refine ⟨by simp [h1], fun k a v ea ev => ?_⟩
    cases k with
    | zero =>
      simp at ea ev
      subst ea
      subst ev
      exact h
    | succ k => exact h2 k a v (by simpa using ea) (by simpa using ev)
  | _, _, .l h t => by
    obtain ⟨h1, h2⟩ := ArOk.get t
    refine ⟨by simp [h1], fun k a v ea ev => ?_⟩
    cases k with
    | zero =>
      simp at ea ev
      subst ea
      subst ev
      exact h
    | succ k => exact h2 k a v (by simpa using ea) (by simpa using ev)
/-- arguments are lent, and come back -/
theorem Rel.lend {as : List Ar} {vs : List V} {os : List OD} (r : Rel K cg pvs g σ S F H) (ha : ArOk K F σ vs as) (nd : (lends as).Nodup) (ho : osOf g as = some os) : ∃ (A S1 : Addr → Prop), OwA K cg F H vs os A ∧ (∀ q, S q ↔ A q ∨ S1 q) ∧ (∀ q, A q → S1 q → False) ∧
    ∀ os' A' F' H', Stp A F H A' F' H' → OwA K cg F' H' vs os' A' → ∃ S', Rel K cg pvs (putA g as os') σ S' F' H' ∧ ∀ q, S' q → A' q ∨ S1 q := by
  obtain ⟨L, h1, h2, h3⟩ := r.ex
  obtain ⟨o1, o2⟩ := osOf_get ho
  obtain ⟨a1, a2⟩ := ha.get
  have slotAt : ∀ (i : Nat) (o : OD) (v : V), (gt g i).od = some o → σ[i]? = some (some v) → Ow K cg F H v o (L i) := fun i o v e ev => by
    have h := h1 i
    unfold SlOk at h
    cases q : gt g i with
    | no =>
      rw [q] at e
      cases e
    | v o1 =>
      rw [q] at e h
      cases e
      obtain ⟨w, e1, h⟩ := h
      rw [ev] at e1
      cases e1
      exact h
    | pin o1 =>
      rw [q] at e h
      cases e
      obtain ⟨w, e1, _, h⟩ := h
      rw [ev] at e1
      cases e1
      exact h
    | al j n =>
      rw [q] at e
      cases e
    | xc =>
      rw [q] at e
      cases e
  let L' : Nat → Addr → Prop := fun k q => ∃ i, as[k]? = some (.l i) ∧ L i q
  refine ⟨fun q => ∃ k, L' k q, fun q => ∃ j, j ∉ lends as ∧ L j q, ⟨by rw [a1, o1], L', fun k v o ev eo => ?_, fun k k' q hk hl hl' => ?_, fun k q hk ⟨i, e, _⟩ => ?_, fun q => Iff.rfl⟩, fun q => ?_, fun q ⟨k, i, e, hl⟩ ⟨j, hj, hl'⟩ => ?_, fun os' A' F' H' st ow' => ?_⟩
  · have hk : k < as.length := by
      have := (List.getElem?_eq_some_iff.mp ev).1
      omega
    have ea : as[k]? = some as[k] := List.getElem?_eq_getElem hk
    have b1 := o2 k _ ea
    have b2 := a2 k _ v ea ev
    cases q : as[k] with
    | d x =>
      rw [q] at b1 b2 ea
      simp only at b1 b2
      rw [eo] at b1
      cases b1
      exact .dat b2 fun p ⟨i, e, _⟩ => by
        rw [ea] at e
        cases e
    | l i =>
      rw [q] at b1 b2 ea
      simp only at b1 b2
      obtain ⟨o3, e3, e4⟩ := b1
      rw [eo] at e4
      cases e4
      refine (slotAt i _ v e3 b2).iff fun p => ⟨fun ⟨i', e, hl⟩ => ?_, fun hl => ⟨i, ea, hl⟩⟩
      rw [ea] at e
      cases e
      exact hl
  · obtain ⟨i, e, hl⟩ := hl
    obtain ⟨i', e', hl'⟩ := hl'
    by_cases z : i = i'
    · subst z
      exact hk (lends_inj nd e e')
    · exact h2 i i' q z hl hl'
  · have := (List.getElem?_eq_some_iff.mp e).1
    omega
  · refine ⟨fun hq => ?_, fun hq => ?_⟩
    · obtain ⟨j, hj⟩ := (h3 q).mp hq
      by_cases z : j ∈ lends as
      · obtain ⟨k, hk⟩ := lends_mem.mp z
        exact .inl ⟨k, j, hk, hj⟩
      · exact .inr ⟨j, z, hj⟩
    · rcases hq with ⟨k, i, _, hl⟩ | ⟨j, _, hl⟩
      · exact (h3 q).mpr ⟨i, hl⟩
      · exact (h3 q).mpr ⟨j, hl⟩
  · exact h2 i j q (fun z => hj (z ▸ lends_mem.mpr ⟨k, e⟩)) hl hl'
  · obtain ⟨l', M, w1, w2, w3, w4⟩ := ow'
    have other : ∀ j, j ∉ lends as → ∀ p, L j p → H' p = H p ∧ F' p = none := fun j hj p hp => by
      obtain ⟨f, u, eu⟩ := (h1 j).at hp
      have nA : ¬ ∃ k, L' k p := fun ⟨k, i, e, hl⟩ => h2 i j p (fun z => hj (z ▸ lends_mem.mpr ⟨k, e⟩)) hl hp
      refine ⟨by rw [eu, st.keep p u nA eu], ?_⟩
      cases q : F' p with
      | none => rfl
      | some z =>
        rcases st.nw p z q with ⟨y, hh⟩ | hh | hh
        · rw [f] at hh
          cases hh
        · exact absurd hh ((h1 j).nn hp)
        · exact (nA hh).elim
    let N : Nat → Addr → Prop := fun j q => (∃ k : Nat, as[k]? = some (.l j) ∧ M k q) ∨ (j ∉ lends as ∧ L j q)
    refine ⟨fun q => ∃ j, N j q, ⟨st.fh, by rw [putA_len]; exact r.len, r.z, N, fun j => ?_, fun j j' q hj hl hl' => ?_, fun q => Iff.rfl⟩, fun q ⟨j, hl⟩ => ?_⟩
    · by_cases z : j ∈ lends as
      · obtain ⟨k, hk⟩ := lends_mem.mp z
        have hkl : k < as.length := (List.getElem?_eq_some_iff.mp hk).1
        obtain ⟨o, e1, e2⟩ := o2 k _ hk
        have hvk : vs[k]? = some (vs[k]'(by omega)) := List.getElem?_eq_getElem (by omega)
        have hok : os'[k]? = some (os'[k]'(by omega)) := List.getElem?_eq_getElem (by omega)
        have sv : σ[j]? = some (some (vs[k]'(by omega))) := a2 k _ _ hk hvk
        have ow := w1 k _ _ hvk hok
        have ow2 : Ow K cg F' H' (vs[k]'(by omega)) (os'[k]'(by omega)) (N j) := ow.iff fun p => ⟨fun hh => by
          rcases hh with ⟨k', e', hh⟩ | ⟨y, _⟩
          · rw [lends_inj nd e' hk] at hh
            exact hh
          · exact absurd z y, fun hh => .inl ⟨k, hk, hh⟩⟩
        have eg := putA_in as os' g j k _ o nd hk hok (by omega) e1
        unfold SlOk
        rw [eg]
        have b := h1 j
        unfold SlOk at b
        cases q : gt g j with
        | no =>
          rw [q] at e1
          cases e1
        | v o3 => exact ⟨_, sv, ow2⟩
        | pin o3 =>
          rw [q] at b
          obtain ⟨w, ew, ep, _⟩ := b
          rw [sv] at ew
          cases ew
          exact ⟨_, sv, ep, ow2⟩
        | al _ _ =>
          rw [q] at e1
          cases e1
        | xc =>
          rw [q] at e1
          cases e1
      · have b := (h1 j).mo st.fr (fun p hp => (other j z p hp).1) (fun p hp => (other j z p hp).2)
        have ei : ∀ p, N j p ↔ L j p := fun p => ⟨fun hh => by
          rcases hh with ⟨k, e, _⟩ | ⟨_, hh⟩
          · exact absurd (lends_mem.mpr ⟨k, e⟩) z
          · exact hh, fun hh => .inr ⟨z, hh⟩⟩
        unfold SlOk at b ⊢
        rw [putA_out as os' g j z]
        cases q : gt g j with
        | no =>
          rw [q] at b
          exact fun p hp => b p ((ei p).mp hp)
        | v o3 =>
          rw [q] at b
          obtain ⟨w, ew, ow⟩ := b
          exact ⟨w, ew, ow.iff ei⟩
        | pin o3 =>
          rw [q] at b
          obtain ⟨w, ew, ep, ow⟩ := b
          exact ⟨w, ew, ep, ow.iff ei⟩
        | al _ _ =>
          rw [q] at b
          exact ⟨b.1, fun p hp => b.2 p ((ei p).mp hp)⟩
        | xc =>
          rw [q] at b
          exact ⟨b.1, fun p hp => b.2 p ((ei p).mp hp)⟩
    · have cross : ∀ j k, j ∉ lends as → L j q → M k q → False := fun j k hj hl hm => by
        obtain ⟨_, u, eu⟩ := (h1 j).at hl
        rcases st.fp q ((w4 q).mpr ⟨k, hm⟩) with ⟨k', i, e, hl'⟩ | z
        · exact h2 i j q (fun z => hj (z ▸ lends_mem.mpr ⟨k', e⟩)) hl' hl
        · rw [eu] at z
          cases z
      rcases hl with ⟨k, e, hm⟩ | ⟨n1, hm⟩
      · rcases hl' with ⟨k', e', hm'⟩ | ⟨n1', hm'⟩
        · by_cases z : k = k'
          · subst z
            rw [e] at e'
            cases e'
            exact hj rfl
          · exact w2 k k' q z hm hm'
        · exact cross j' k n1' hm' hm
      · rcases hl' with ⟨k', e', hm'⟩ | ⟨n1', hm'⟩
        · exact cross j k' n1 hm hm'
        · exact h2 j j' q hj hm hm'
    · rcases hl with ⟨k, _, hm⟩ | ⟨n1, hm⟩
      · exact .inl ((w4 q).mpr ⟨k, hm⟩)
      · exact .inr ⟨j, n1, hm⟩
/-! ### what a def promises -/
inductive FOut where
  | ok (o : OD) (os : List OD) | err (e : Er) (os : List OD) | stk
def PoF (K : PySem.W.Frag) (cg : Str → Option Value) (vs : List V) (A : Addr → Prop) (F H : Hp) (Q : VK) (E : XK) : FOut → Prop
  | .ok r os' => ∀ v B A' F' H', Stp A F H (fun p => A' p ∨ B p) F' H' → Ow K cg F' H' v r B → OwA K cg F' H' vs os' A' → (∀ q, B q → A' q → False) → Q v H'
  | .err e os' => ∀ C dop A' F' H', Stp A F H A' F' H' → OwA K cg F' H' vs os' A' → cg e.c = some (.ref C) → XOk K F' e.xs dop → E (.ref C) dop H'
  | .stk => False
def spL (K : PySem.W.Frag) (cg : Str → Option Value) (n : Nat) (m : List OD → FOut) : Sp := fun vs H Q E => vs.length = n ∧ ∃ os A F, Same F H ∧ OwA K cg F H vs os A ∧ PoF K cg vs A F H Q E (m os)
def oCall (n : Nat) (m : List OD → FOut) (ml : Gm → Out (List Ar)) (g : Gm) : Out OD := (ml g).bind fun as g1 => match osOf g1 as with
  | none => .stk
  | some os => if (lends as).Nodup ∧ as.length = n then match m os with
    | .ok r os' => .ok r (putA g1 as os')
    | .err e os' => .err e (putA g1 as os')
    | .stk => .stk
    else .stk
theorem ro_call {n : Nat} {t : TA} {m : List OD → FOut} {ml : Gm → Out (List Ar)} (h : RL K cg W t ml) : RO K cg W (tCallS (spL K cg n m) (WE W) t) (oCall n m ml) := fun pvs g σ S F H Q r q => by
  refine h pvs g σ S F H _ r ?_
  unfold oCall at q
  cases e : ml g with
  | err e' g1 =>
    rw [e] at q
    exact q
  | stk =>
    rw [e] at q
    exact q.elim
  | ok as g1 =>
    rw [e] at q
    intro vs S1 F1 H1 s1 r1 d1
    simp only [Out.bind] at q
    have q := PoO.st q s1
    cases e1 : osOf g1 as with
    | none =>
      simp only [e1] at q
      exact q.elim
    | some os =>
      simp only [e1] at q
      split at q
      · rename_i hnd
        obtain ⟨A, S2, owA, hS, hd, back⟩ := r1.lend d1 hnd.1 e1
        refine ⟨d1.get.1.trans hnd.2, os, A, F1, r1.fh, owA, ?_⟩
        cases e2 : m os with
        | stk =>
          simp only [e2] at q
          exact q.elim
        | ok o os' =>
          simp only [e2] at q
          intro v B A' F' H' st ow ow' dj
          obtain ⟨S', r', hs'⟩ := back os' A' F' H' (st.sub fun p z => .inl z) ow'
          refine q v B S' F' H' ⟨fun p u hp eu => st.keep p u (fun z => hp ((hS p).mpr (.inl z))) eu, st.fr, fun p u eu => ?_, fun p hp => ?_, st.fh⟩ r' ow fun p hb hp => ?_
          · exact (st.nw p u eu).imp id fun z => z.imp id fun y => (hS p).mpr (.inl y)
          · rcases hp with hp | hp
            · rcases hs' p hp with y | y
              · exact (st.fp p (.inl y)).imp (fun z => (hS p).mpr (.inl z)) id
              · exact .inl ((hS p).mpr (.inr y))
            · exact (st.fp p (.inr hp)).imp (fun z => (hS p).mpr (.inl z)) id
          · rcases hs' p hp with y | y
            · exact dj p hb y
            · rcases st.fp p (.inr hb) with z | z
              · exact hd p z y
              · obtain ⟨_, u, eu⟩ := r1.at ((hS p).mpr (.inr y))
                rw [z] at eu
                cases eu
        | err e' os' =>
          simp only [e2] at q
          intro C dop A' F' H' st ow' hc hx
          obtain ⟨S', r', hs'⟩ := back os' A' F' H' st ow'
          refine q C dop S' F' H' ⟨fun p u hp eu => st.keep p u (fun z => hp ((hS p).mpr (.inl z))) eu, st.fr, fun p u eu => ?_, fun p hp => ?_, st.fh⟩ r' hc hx
          · exact (st.nw p u eu).imp id fun z => z.imp id fun y => (hS p).mpr (.inl y)
          · rcases hs' p hp with y | y
            · exact (st.fp p y).imp (fun z => (hS p).mpr (.inl z)) id
            · exact .inl ((hS p).mpr (.inr y))
      · exact q.elim
/-! ### a def's body -/
def ini1 : Bool → OD → Sl
  | true, o => .pin o
  | false, o => .v o
def ini (ls : List Bool) (os : List OD) (k : Nat) : Gm := List.zipWith ini1 ls os ++ List.replicate k .no
def finA : List Bool → List OD → Gm → Option (List OD)
  | [], [], _ => some []
  | true :: ls, _ :: os, s :: g => match s with
    | .pin o => (finA ls os g).map (o :: ·)
    | _ => none
  | false :: ls, .dat d :: os, _ :: g => (finA ls os g).map (.dat d :: ·)
  | _, _, _ => none
noncomputable def fnM (ls : List Bool) (k : Nat) (mb : Gm → SOut) (os : List OD) : FOut :=
  cIf (os.length = ls.length) (match mb (ini ls os k) with
    | .nx g => match finA ls os g with
      | some os' => .ok (.dat .none) os'
      | none => .stk
    | .rt o g => match finA ls os g with
      | some os' => .ok o os'
      | none => .stk
    | .err e g => match finA ls os g with
      | some os' => .err e os'
      | none => .stk
    | _ => .stk) .stk
theorem gt_get : ∀ (g : Gm) (i : Nat), gt g i = (g[i]?).getD .no
  | [], _ => rfl
  | _ :: _, 0 => rfl
  | _ :: r, n + 1 => by
    show gt r n = _
    rw [gt_get r n]
    simp
theorem finA_get : ∀ {ls : List Bool} {os : List OD} {g : Gm} {os' : List OD}, finA ls os g = some os' → os'.length = ls.length ∧ os.length = ls.length ∧
    ∀ i : Nat, (ls[i]? = some true → ∃ o', gt g i = .pin o' ∧ os'[i]? = some o') ∧ (ls[i]? = some false → ∃ d, os[i]? = some (.dat d) ∧ os'[i]? = some (.dat d))
  | [], [], g, os', h => by
    simp only [finA] at h
    cases h
    exact ⟨rfl, rfl, fun i => ⟨fun z => by simp at z, fun z => by simp at z⟩⟩
  | [], _ :: _, g, os', h => by simp [finA] at h
  | true :: ls, [], g, os', h => by simp [finA] at h
  | false :: ls, [], g, os', h => by simp [finA] at h
  | true :: ls, o :: os, [], os', h => by simp [finA] at h
  | false :: ls, o :: os, [], os', h => by
    cases o <;> simp [finA] at h
  | true :: ls, o :: os, s :: g, os', h => by
    cases s with
    | no => simp [finA] at h
    | al _ _ => simp [finA] at h
    | xc => simp [finA] at h
    | v o2 => simp [finA] at h
    | pin o2 =>
      simp only [finA] at h
      cases e : finA ls os g with
      | none =>
        rw [e] at h
        cases h
      | some os2 =>
        rw [e] at h
        cases h
        obtain ⟨h1, h2, h3⟩ := finA_get e
        refine ⟨by simp [h1], by simp [h2], fun i => ?_⟩
        cases i with
        | zero => exact ⟨fun _ => ⟨o2, rfl, rfl⟩, fun z => by simp at z⟩
        | succ i =>
          obtain ⟨a, b⟩ := h3 i
          exact ⟨fun z => by
            obtain ⟨o', q1, q2⟩ := a (by simpa using z)
            exact ⟨o', q1, by simpa using q2⟩, fun z => by
            obtain ⟨d, q1, q2⟩ := b (by simpa using z)
            exact ⟨d, by simpa using q1, by simpa using q2⟩⟩
  | false :: ls, o :: os, s :: g, os', h => by
    cases o with
    | dat d =>
      simp only [finA] at h
      cases e : finA ls os g with
      | none =>
        rw [e] at h
        cases h
      | some os2 =>
        rw [e] at h
        cases h
        obtain ⟨h1, h2, h3⟩ := finA_get e
        refine ⟨by simp [h1], by simp [h2], fun i => ?_⟩
        cases i with
        | zero => exact ⟨fun z => by simp at z, fun _ => ⟨d, rfl, rfl⟩⟩
        | succ i =>
          obtain ⟨a, b⟩ := h3 i
          exact ⟨fun z => by
            obtain ⟨o', q1, q2⟩ := a (by simpa using z)
            exact ⟨o', q1, by simpa using q2⟩, fun z => by
            obtain ⟨d, q1, q2⟩ := b (by simpa using z)
            exact ⟨d, by simpa using q1, by simpa using q2⟩⟩
    | lst ds => simp [finA] at h
    | dk kvs => simp [finA] at h
    | dt kvs => simp [finA] at h
    | nd k os2 => simp [finA] at h
    | scr ns => simp [finA] at h
    | exc => simp [finA] at h
    | tk ks => simp [finA] at h
    | fz k os2 => simp [finA] at h
/-- the fixed values at the entry -/
def pvO (vs : List V) : Pv := ⟨fun i => vs[i]?, fun _ => none⟩
/-- at the entry -/
theorem rel_start {ls : List Bool} {os : List OD} {vs : List V} {k : Nat} {N : List Str} (hF : Same F H) (ho : OwA K cg F H vs os A) (hl : os.length = ls.length) (hN : N.length = ls.length + k) (hz : cg.Z (pvO vs)) : Rel K cg (pvO vs) (ini ls os k) (L2.start N vs) A F H := by
  obtain ⟨l1, L, h1, h2, h3, h4⟩ := ho
  have zl : (List.zipWith ini1 ls os).length = os.length := by
    rw [List.length_zipWith]
    omega
  refine ⟨hF, ?_, hz, L, fun i => ?_, h2, h4⟩
  · unfold ini L2.start
    rw [List.length_append, List.length_append, zl, List.length_replicate, List.length_replicate, List.length_map]
    omega
  · unfold SlOk
    by_cases hi : i < os.length
    · have eo : os[i]? = some os[i] := List.getElem?_eq_getElem hi
      have ev : vs[i]? = some (vs[i]'(by omega)) := List.getElem?_eq_getElem (by omega)
      have el : ls[i]? = some (ls[i]'(by omega)) := List.getElem?_eq_getElem (by omega)
      have ow := h1 i _ _ ev eo
      have sg : gt (ini ls os k) i = ini1 (ls[i]'(by omega)) os[i] := by
        rw [gt_get]
        unfold ini
        rw [List.getElem?_append_left (by rw [zl]; exact hi), List.getElem?_zipWith, el, eo]
        rfl
      have ss : (L2.start N vs)[i]? = some (some (vs[i]'(by omega))) := by
        unfold L2.start
        rw [List.getElem?_append_left (by rw [List.length_map]; omega), List.getElem?_map, ev]
        rfl
      rw [sg]
      cases ls[i]'(by omega) with
      | true => exact ⟨_, ss, ev, ow⟩
      | false => exact ⟨_, ss, ow⟩
    · have sg : gt (ini ls os k) i = .no := by
        rw [gt_get]
        unfold ini
        rw [List.getElem?_append_right (by rw [zl]; omega), List.getElem?_replicate]
        split <;> rfl
      rw [sg]
      exact fun q => h3 i q (by omega)
/-- at the end -/
theorem own_end {ls : List Bool} {os os' : List OD} {vs : List V} {F0 H0 : Hp} {A0 : Addr → Prop} (r : Rel K cg (pvO vs) g σ S F H) (ho : OwA K cg F0 H0 vs os A0) (hF : Same F0 F) (hf : finA ls os g = some os') : ∃ A', OwA K cg F H vs os' A' ∧ ∀ q, A' q → S q := by
  obtain ⟨l1, L0, w1, w2, w3, w4⟩ := ho
  obtain ⟨L, h1, h2, h3⟩ := r.ex
  obtain ⟨f1, f2, f3⟩ := finA_get hf
  refine ⟨fun q => ∃ i : Nat, ls[i]? = some true ∧ L i q, ⟨by omega, fun i q => ls[i]? = some true ∧ L i q, fun i v o ev eo => ?_, fun i j q hij ⟨_, a⟩ ⟨_, b⟩ => h2 i j q hij a b, fun i q hi ⟨a, _⟩ => ?_, fun q => Iff.rfl⟩, fun q ⟨i, _, hl⟩ => (h3 q).mpr ⟨i, hl⟩⟩
  · have hi : i < ls.length := by
      have := (List.getElem?_eq_some_iff.mp eo).1
      omega
    have el : ls[i]? = some ls[i] := List.getElem?_eq_getElem hi
    cases z : ls[i] with
    | true =>
      rw [z] at el
      obtain ⟨o', e1, e2⟩ := (f3 i).1 el
      rw [eo] at e2
      cases e2
      have b := h1 i
      unfold SlOk at b
      rw [e1] at b
      obtain ⟨w, _, ep, ow⟩ := b
      have ep : vs[i]? = some w := ep
      rw [ev] at ep
      cases ep
      exact ow.iff fun q => ⟨fun hh => hh.2, fun hh => ⟨el, hh⟩⟩
    | false =>
      rw [z] at el
      obtain ⟨d, e1, e2⟩ := (f3 i).2 el
      rw [eo] at e2
      cases e2
      have ow := w1 i v _ ev e1
      cases ow with
      | dat hd _ =>
        refine .dat (dp_mo hd hF) fun q hh => ?_
        have hh1 : ls[i]? = some true := hh.1
        rw [el] at hh1
        cases hh1
  · have := (List.getElem?_eq_some_iff.mp a).1
    omega
end
section
variable {P : Program} {w : World} {K : PySem.W.Frag} {mg : Str → Option Value} {base : Heap} {x qual : Str} {params : Arguments} {body : List Stmt} {scope : Scope} {dvs : List V} {kws : List (Str × V)} {f : Addr} {fd : FuncData}
/-- THE RULE: a def mirrors its body -/
theorem fn_ok {N ps : List Str} {k kk : Nat} {ls : List Bool} {mb : Gm → SOut} (F : FunD K x qual params body scope dvs kws f fd) (S : FnScope N ps scope) (hl : ls.length = ps.length) (hN : N.length = ls.length + kk)
    (hb : ∀ (cdv : Value) (A : Around) (outer : List Env) (s : Shared) (H : Hp) (E : XK), Room k (A.deeper (PyProof.Rows.envOfC qual scope s.heap.objs.size f cdv)) →
      DSs (cxOf (L2N.CX P w) P w K mg base N qual scope f cdv A outer s H E) ⟨fun cls d _ H' => E cls d H', fun _ => True⟩ body mb) : FnOk P w K mg base (L2N.CX P w) (k + 1) f fd ps (spL K mg ps.length (fnM ls kk mb)) := by
  refine F.ok S (fun vs H Q E h => h.1) fun cdv A outer s H vs Q E hr h => ?_
  obtain ⟨t, t1, t2⟩ := hb cdv A outer s H E hr
  refine ⟨t, t1, ?_⟩
  obtain ⟨hv, os, A0, F0, hF, ho, q⟩ := h
  unfold fnM cIf at q
  split at q
  · rename_i hos
    have r0 := rel_start (cg := ⟨mg, fun _ => True⟩) (N := N) (k := kk) hF ho hos hN trivial
    refine t2 (pvO vs) _ _ A0 F0 H _ r0 ?_
    have fin : ∀ {g' : Gm} {o : OD} {os' : List OD}, finA ls os g' = some os' → PoF K mg vs A0 F0 H Q E (.ok o os') → ∀ (v : V) (A : Addr → Prop) (σ' : L2.St) (S' : Addr → Prop) (F' H' : Hp), Stp A0 F0 H (fun p => S' p ∨ A p) F' H' → Rel K ⟨mg, fun _ => True⟩ (pvO vs) g' σ' S' F' H' → Ow K mg F' H' v o A → (∀ q, A q → S' q → False) → Q v H' :=
      fun {g' o os'} ef q v A σ' S' F' H' st r ow dj => by
        obtain ⟨A', ow', sub⟩ := own_end r ho st.fr ef
        exact q v A A' F' H' (st.sub fun p hp => hp.elim (fun z => .inl (sub p z)) .inr) ow ow' fun p hb hp => dj p hb (sub p hp)
    cases e : mb (ini ls os kk) with
    | nx g' =>
      rw [e] at q
      simp only at q
      cases ef : finA ls os g' with
      | none =>
        simp only [ef] at q
        exact q.elim
      | some os' =>
        simp only [ef] at q
        exact fun σ' S' F' H' st r => fin ef q .non (fun _ => False) σ' S' F' H' (st.sub fun p hp => hp.elim id False.elim) r (.dat .non fun _ z => z) fun _ z _ => z
    | rt o g' =>
      rw [e] at q
      simp only at q
      cases ef : finA ls os g' with
      | none =>
        simp only [ef] at q
        exact q.elim
      | some os' =>
        simp only [ef] at q
        exact fun v A σ' S' F' H' st r ow dj => fin ef q v A σ' S' F' H' st r ow dj
    | err e' g' =>
      rw [e] at q
      simp only at q
      cases ef : finA ls os g' with
      | none =>
        simp only [ef] at q
        exact q.elim
      | some os' =>
        simp only [ef] at q
        intro C dop σ' S' F' H' st r hc hx
        obtain ⟨A', ow', sub⟩ := own_end r ho st.fr ef
        exact q C dop A' F' H' (st.sub sub) ow' hc hx
    | br g' =>
      rw [e] at q
      exact q.elim
    | ct g' =>
      rw [e] at q
      exact q.elim
    | stk =>
      rw [e] at q
      exact q.elim
  · exact q.elim
end
section
variable {X : Cx} {W : Wz} {e : Expr} {es : List Expr} {pos p : Pos} {x : Str} {k : Nat} {f C : Addr} {fd : FuncData} {ps : List Str}
theorem dl_nil : DL X W [] lNil := ⟨_, pa_nil, rl_nil⟩
theorem dl_d {m : Gm → Out PyData} {mr : Gm → Out (List Ar)} (h : DV X W e m) (hr : DL X W es mr) (hs : starEach (e :: es) X.env = (false, eval e X.env) :: starEach es X.env := by rfl) : DL X W (e :: es) (lD m mr) :=
  let ⟨_, h1, h2⟩ := h; let ⟨_, k1, k2⟩ := hr; ⟨_, pa_cons h1 k1 hs, rl_d h2 k2⟩
theorem dl_l {mr : Gm → Out (List Ar)} (i : Nat) (hr : DL X W es mr) (hN : X.N[i]? = some x := by rfl) (hv : Vis X.env.scope x := by first | exact Or.inl rfl | exact Or.inr (Or.inl rfl) | exact Or.inr (Or.inr rfl)) (hd : (x == ("__debug__" : Str)) = false := by decide)
    (hcd : (x == ("__classdict__" : Str)) = false := by decide) (hs : starEach (.Name x pos :: es) X.env = (false, eval (.Name x pos) X.env) :: starEach es X.env := by rfl) : DL X W (.Name x pos :: es) (lL i mr) :=
  let ⟨_, k1, k2⟩ := hr; ⟨_, pa_cons (pv i hN hv hd hcd) k1 hs, rl_l k2⟩
theorem do_call {n : Nat} {m : List OD → FOut} {ml : Gm → Out (List Ar)} (F : FnOk X.prog X.w X.K X.mg X.base (L2N.CX X.prog X.w) k f fd ps (spL X.K X.mg n m)) (hr : Room k X.A) (hm : X.mg x = some (.ref f)) (hk : PySem.W.keepIn X.K (.ref f) = true) (hb : Binds X.K fd ps []) (tk : L2N.Takes X W.x) (ha : DL X W (e :: es) ml)
    (hg : Gl X x := by rfl) (hdb : (x == ("__debug__" : Str)) = false := by decide) (he : starEach (e :: es) X.env = (false, eval e X.env) :: starEach es X.env := by rfl) (hpl : (backTo pos (starEach es X.env)).any (·.1) = false := by rfl) :
    DO X W (.Call (.Name x p) (e :: es) [] pos) (oCall n m ml) := let ⟨_, h1, h2⟩ := ha; ⟨_, pe_callS F hr hg hm hk hb (fun σ => L2N.passAt tk σ) h1 hdb he hpl, ro_call h2⟩
theorem ds_raise {bmB : List Value} {B newId initId : String} {msg : Str} {j : Nat} {p2 pos2 : Pos} (FB : ExcBaseFacts B newId initId bmB) (q : PySem.W.excIn X.K C bmB newId = true) (gC : X.mg x = some (.ref C)) (kC : PySem.W.keepIn X.K (.ref C) = true) (r : Raises X (.ref C)) (tk : L2N.Takes X W.x) (hg : Gl X x := by rfl) (hc : X.calm = true := by rfl)
    (hdb : (x == ("__debug__" : Str)) = false := by decide) : DS X W (.Raise (some (.Call (.Name x p) [.Constant (.str msg) j p2] [] pos2)) none pos) (sErr ⟨x, []⟩) := ⟨_, L2N.ps_raise hc tk (L2N.pmk_own FB q gC kC r hg hdb), rs_raise (cg := cgX X W) gC⟩
/-! ### try -/
def noE (x : SOut) : SOut :=
  match x with
  | .err _ _ => .stk
  | y => y
theorem PoS.noE {K : PySem.W.Frag} {cg : Cg} {W' : WX} {pvs : Pv} {S : Addr → Prop} {F H : Hp} {D : Ends} {y : SOut} (h : PoS K cg W' pvs S F H D (VL.noE y)) : PoS K cg W0 pvs S F H D y := by
  cases y with
  | nx g => exact h
  | rt o g => exact h
  | br g => exact h
  | ct g => exact h
  | err e g => exact h.elim
  | stk => exact h
/-- a suite's own reading -/
def cSu (K : PySem.W.Frag) (cg : Cg) (ms : Er → Gm → SOut) : Addr → Value → Option Addr → TS := fun _ cls dop D σ H => ∃ e C pvs g S F, cls = .ref C ∧ cg e.c = some (.ref C) ∧ Rel K cg pvs g σ S F H ∧ PoS K cg W0 pvs S F H D (ms e g)
/-- the clauses, without a name -/
inductive HdM (X : Cx) (W : Wz) : List ExceptHandler → Cls → Prop
  | nil : HdM X W [] []
  | cons {x : Str} {c : Value} {b₀ : Stmt} {suite : List Stmt} {np pos' : Pos} {hds : List ExceptHandler} {cs : Cls} {f : Str → Option Bool} {ms : Er → Gm → SOut} (hc : Names X x c) (hf : ∀ y C b, X.mg y = some (.ref C) → f y = some b → PySem.W.exmOne X.K (.ref C) c = some b)
      (hsu : ∀ (e : Er) (a : Addr) (oe : Obj) (C : Addr) (d : Option Addr) (pn : List (Addr × Obj)), X.mg e.c = some (.ref C) → L2N.Zn (.ref C) d oe → (∃ vs, oe.data = .fields vs) → DSs (X.suite a ((a, oe) :: pn)) (w0 W) (b₀ :: suite) (ms e))
      (r : HdM X W hds cs) : HdM X W (.ExceptHandler (some (.Name x np)) none (b₀ :: suite) pos' :: hds) ((f, fun e g => noE (ms e g)) :: cs)
theorem HdM.ok {hds : List ExceptHandler} {cs : Cls} (h : HdM X W hds cs) : ∃ l, L2N.HdsOk X hds l ∧ ClsOk X.K (cgX X W) W.x l cs := by
  induction h with
  | nil => exact ⟨[], .nil, .nil⟩
  | @cons x c b₀ suite np pos' hds cs f ms hc hf hsu r ih =>
    obtain ⟨l, h1, h2⟩ := ih
    refine ⟨(c, cSu X.K (cgX X W) ms) :: l, .cons hc (fun a oe cls d pn hz hv => ⟨fun pins s σ H D I hh => ?_⟩) h1, .cons hf (fun e a C dop hC pvs g σ S F H D rl q => ⟨e, C, pvs, g, S, F, rfl, hC, rl, PoS.noE q⟩) h2⟩
    obtain ⟨e, C, pvs, g, S, F, rfl, hC, rl, q⟩ := hh
    obtain ⟨t, t1, t2⟩ := hsu e a oe C d pn hC hz hv
    exact t1.run pins s σ H D I (t2 pvs g σ S F H D rl q)
end
end VL
namespace VL
open PySem L2
/-! ### the Hook: facts, defs, one more Bool -/
def obsM (n : Nat) (fa : List He.Fa) (fn : List He.DefD) (ex : PySem.W.Frag → Bool) (g : Addr → Option Obj) : He.AlD × Bool := (He.obsD fa fn (He.frG g (He.asD g n)), ex (He.frG g (He.asD g n)))
def SaysM (fa : List He.Fa) (fn : List He.DefD) (ex : PySem.W.Frag → Bool) (K : PySem.W.Frag) : Prop := He.SaysD fa fn K ∧ ex K = true
mutual
theorem kdat_ok {K : PySem.W.Frag} : ∀ (d : PyData) (u : Value), kdat K d u = true → ∃ v, RelV v u ∧ ∀ F, Dq K F v d
  | .none, u, h => by
    cases u with
    | none => exact ⟨.non, rfl, fun _ => .non⟩
    | _ => simp [kdat] at h
  | .bool b, u, h => by
    cases u with
    | bool a =>
      have h : (a == b) = true := by simpa [kdat] using h
      rw [eq_of_beq h]
      exact ⟨.bl b, rfl, fun _ => .bl b⟩
    | _ => simp [kdat] at h
  | .int j, u, h => by
    cases u with
    | int i t =>
      have h : i = j := by simpa [kdat] using h
      rw [h]
      exact ⟨.int j, ⟨t, rfl⟩, fun _ => .int j⟩
    | _ => simp [kdat] at h
  | .str y, u, h => by
    cases u with
    | str x t =>
      have h : x = y := by simpa [kdat] using h
      rw [h]
      exact ⟨.str y, ⟨t, rfl⟩, fun _ => .str y⟩
    | _ => simp [kdat] at h
  | .tuple ds, u, h => by
    cases u with
    | ref a =>
      unfold kdat at h
      simp only at h
      cases q : K.lookup a with
      | none =>
        rw [q] at h
        cases h
      | some ob =>
        obtain ⟨oc, od, dt, sl⟩ := ob
        rw [q] at h
        cases oc with
        | type c =>
          cases dt with
          | seq its k =>
            have h : (decide (c = "tuple") && (decide (its.size ≤ sizeLine) && kdats K ds its.toList)) = true := h
            obtain ⟨h1, h2⟩ := Bool.and_eq_true_iff.mp h
            obtain ⟨h3, h4⟩ := Bool.and_eq_true_iff.mp h2
            obtain ⟨vs, hv, hd⟩ := kdats_ok ds its.toList h4
            exact ⟨.ref a, rfl, fun F => .tup (.inr ⟨_, its, k, q, congrArg Value.type (of_decide_eq_true h1), rfl, of_decide_eq_true h3, hv⟩) (hd F)⟩
          | _ => cases h
        | _ => cases dt <;> cases h
    | _ => simp [kdat] at h
  | .list _, u, h => by simp [kdat] at h
  | .dict _, u, h => by simp [kdat] at h
theorem kdats_ok {K : PySem.W.Frag} : ∀ (ds : List PyData) (us : List Value), kdats K ds us = true → ∃ vs, Vals vs us ∧ ∀ F, DqA K F vs ds
  | [], us, h => by
    cases us with
    | nil => exact ⟨[], .nil, fun _ => .nil⟩
    | cons a r => simp [kdats] at h
  | d :: ds, us, h => by
    cases us with
    | nil => simp [kdats] at h
    | cons u r =>
      unfold kdats at h
      simp only at h
      obtain ⟨h1, h2⟩ := Bool.and_eq_true_iff.mp h
      obtain ⟨w, r1, d1⟩ := kdat_ok d u h1
      obtain ⟨ws, r2, d2⟩ := kdats_ok ds r h2
      exact ⟨w :: ws, .cons r1 r2, fun F => .cons (d1 F) (d2 F)⟩
end
/-- the name stands for that data -/
def Con (K : PySem.W.Frag) (mg : Str → Option Value) (x : Str) (d : PyData) : Prop := ∃ v u, mg x = some u ∧ RelV v u ∧ ∀ F, Dq K F v d
theorem kcon_ok {K : PySem.W.Frag} {h : Heap} {mg : Str → Option Value} {x : Str} {d : PyData} (X : K.In h) (G : h.Ns mainGlobals mg) (c : kcon K x d = true) : Con K mg x d := by
  unfold kcon at c
  cases e : PySem.W.nsIn K mainGlobals x with
  | none =>
    rw [e] at c
    cases c
  | some o =>
    rw [e] at c
    cases o with
    | none => cases c
    | some u =>
      obtain ⟨v, r, hd⟩ := kdat_ok d u c
      exact ⟨v, u, PySem.W.mg_of X G e, r, hd⟩
/-! ### defs by their names -/
/-- a def of the text stands behind its name -/
def Df (K : PySem.W.Frag) (mg : Str → Option Value) (x : Str) (st : Stmt) : Prop := ∃ f fd, FunD K x x (defArgs st) (defBody st) (defScope st) [] [] f fd ∧ mg x = some (.ref f)
/-- the def behind a name keeps its mirror -/
def FK (P : Program) (w : World) (K : PySem.W.Frag) (mg : Str → Option Value) (base : Heap) (k : Nat) (x : Str) (ps : List Str) (m : List OD → FOut) : Prop :=
  ∃ f fd, FnOk P w K mg base (L2N.CX P w) k f fd ps (spL K mg ps.length m) ∧ mg x = some (.ref f) ∧ PySem.W.keepIn K (.ref f) = true ∧ Binds K fd ps []
/-- a class of errors, over ValueError, without an own __init__ -/
def EK (K : PySem.W.Frag) (mg : Str → Option Value) (x : Str) : Prop :=
  ∃ C, mg x = some (.ref C) ∧ PySem.W.excIn K C He.veBase "ValueError.__new__" = true ∧ PySem.W.keepIn K (.ref C) = true ∧ PySem.W.subIn K (.ref C) (.type "BaseException") = some true ∧ PySem.W.typeIn K (.ref C) = some (.type "type")
/-- which errors a clause takes -/
def XK (K : PySem.W.Frag) (mg : Str → Option Value) (x : Str) (l : List (Str × Bool)) : Prop := ∃ C, mg x = some (.ref C) ∧ ∀ p ∈ l, ∃ D, mg p.1 = some (.ref D) ∧ PySem.W.exmOne K (.ref D) (.ref C) = some p.2
def clsF (l : List (Str × Bool)) (y : Str) : Option Bool := l.lookup y
theorem mem_of_lookup' : ∀ {l : List (Str × Bool)} {y : Str} {b : Bool}, l.lookup y = some b → (y, b) ∈ l
  | [], _, _, h => by cases h
  | (z, c) :: r, y, b, h => by
    unfold List.lookup at h
    split at h
    · rename_i e
      cases h
      rw [eq_of_beq e]
      exact List.mem_cons_self
    · exact List.mem_cons_of_mem _ (mem_of_lookup' h)
theorem XK.hf {K : PySem.W.Frag} {mg : Str → Option Value} {C : Addr} {l : List (Str × Bool)} (h : ∀ p ∈ l, ∃ D, mg p.1 = some (.ref D) ∧ PySem.W.exmOne K (.ref D) (.ref C) = some p.2) : ∀ y D b, mg y = some (.ref D) → clsF l y = some b → PySem.W.exmOne K (.ref D) (.ref C) = some b := fun y D b hy hb => by
  obtain ⟨D', h1, h2⟩ := h (y, b) (mem_of_lookup' hb)
  rw [hy] at h1
  cases h1
  exact h2
section
variable {P : Program} {w : World} {K : PySem.W.Frag} {mg : Str → Option Value} {base : Heap}
/-- THE RULE for a def by its name -/
theorem fk_mk {x : Str} {st : Stmt} {N ps : List Str} {k kk : Nat} {ls : List Bool} {mb : Gm → SOut} (D : Df K mg x st) (S : FnScope N ps (defScope st)) (hl : ls.length = ps.length) (hN : N.length = ls.length + kk)
    (hbd : ∀ (kV doc pm : Value) (an : Option Addr) (cdv ct : Value) (us : List Value), us.length = ps.length → bindArgs (PySem.W.fnOf x x (defArgs st) (defBody st) (defScope st) .none kV doc pm an cdv ct) ⟨us, []⟩ = pure (ps.zip us))
    (hb : ∀ (f : Addr) (cdv : Value) (A : Around) (outer : List Env) (s : Shared) (H : Hp) (E : L2.XK), Room k (A.deeper (PyProof.Rows.envOfC x (defScope st) s.heap.objs.size f cdv)) →
      DSs (cxOf (L2N.CX P w) P w K mg base N x (defScope st) f cdv A outer s H E) ⟨fun cls d _ H' => E cls d H', fun _ => True⟩ (defBody st) mb) : FK P w K mg base (k + 1) x ps (fnM ls kk mb) := by
  obtain ⟨f, fd, F, g⟩ := D
  exact ⟨f, fd, fn_ok F S hl hN (fun cdv A outer s H E hr => hb f cdv A outer s H E hr), g, F.kp, F.bindsN hbd⟩
end
section
variable {X : Cx} {W : Wz} {e : Expr} {es : List Expr} {pos p : Pos} {x : Str} {k j : Nat} {ps : List Str} {m : List OD → FOut}
theorem do_fk {n : Nat} {ml : Gm → Out (List Ar)} (F : FK X.prog X.w X.K X.mg X.base k x ps m) (hr : Room j X.A) (hk : k ≤ j) (tk : L2N.Takes X W.x) (ha : DL X W (e :: es) ml)
    (hg : Gl X x := by rfl) (hdb : (x == ("__debug__" : Str)) = false := by decide) (he : starEach (e :: es) X.env = (false, eval e X.env) :: starEach es X.env := by rfl) (hpl : (backTo pos (starEach es X.env)).any (·.1) = false := by rfl) (hn : ps.length = n := by rfl) :
    DO X W (.Call (.Name x p) (e :: es) [] pos) (oCall n m ml) := by
  subst hn
  obtain ⟨f, fd, F, g, kp, b⟩ := F
  exact do_call F (hr.mono hk) g kp b tk ha hg hdb he hpl
theorem ds_raiseK {msg : Str} {j : Nat} {p2 pos2 : Pos} (E : EK X.K X.mg x) (tk : L2N.Takes X W.x) (hg : Gl X x := by rfl) (hc : X.calm = true := by rfl)
    (hdb : (x == ("__debug__" : Str)) = false := by decide) : DS X W (.Raise (some (.Call (.Name x p) [.Constant (.str msg) j p2] [] pos2)) none pos) (sErr ⟨x, []⟩) := by
  obtain ⟨C, g, q, kp, s1, s2⟩ := E
  exact ds_raise PySem.F.excBase_ValueError q g kp (raises_own s1 s2) tk hg hc hdb
theorem dp_con {d : PyData} (C : Con X.K X.mg x d) (hg : Gl X x := by rfl) (hd : (x == ("__debug__" : Str)) = false := by decide) : DP X W (.Name x pos) (pC d) := by
  obtain ⟨v, u, hm, r, h⟩ := C
  exact dp_glob hm r h hg hd
/-! ### the script -/
def oSlS (i : Nat) (n : Int) (g : Gm) : Out OD :=
  match (gt g i).od with
  | some (.scr ns) => .ok (.lst (cutD (ns.map PyData.int) none (some n))) g
  | _ => .stk
theorem cut_map {α β : Type} (f : α → β) (xs : List α) (lo hi : Option Int) : cutD (xs.map f) lo hi = (cutD xs lo hi).map f := by
  unfold cutD
  rw [List.length_map, ← List.map_drop, ← List.map_take]
theorem do_slS {i : Nat} {n : Int} {j : Nat} {p2 p3 p4 : Pos} (hN : X.N[i]? = some x := by rfl) (hv : Vis X.env.scope x := by first | exact Or.inl rfl | exact Or.inr (Or.inl rfl) | exact Or.inr (Or.inr rfl)) (hd : (x == ("__debug__" : Str)) = false := by decide)
    (hcd : (x == ("__classdict__" : Str)) = false := by decide) : DO X W (.Subscript (.Name x p3) (.Slice none (some (.Constant (.int n) j p4)) none p2) pos) (oSlS i n) := by
  refine ⟨_, pe_slice sl_list (pv i hN hv hd hcd) po_none (po_some pe_int), fun pvs g σ S F H Q r q => ?_⟩
  unfold oSlS at q
  cases e : (gt g i).od with
  | none =>
    simp only [e] at q
    exact q.elim
  | some o =>
    simp only [e] at q
    obtain ⟨v, A, S1, e1, ow, _⟩ := r.take e
    cases ow with
    | @scr a ns _ h1 h2 =>
      refine ⟨.ref a, e1, n, rfl, a, ns.map V.int, rfl, sql_mono r.fh h1, fun p hp => ?_⟩
      have hc : cutV (ns.map V.int) none (some n) = (cutD ns none (some n)).map V.int := cut_map V.int ns none (some n)
      rw [hc]
      refine fin_l (fun v A F' H' p3 ow fr => q v A S F' H' (p3.stpA fr) (r.pst p3) ow (r.apart fr)) r.fh hp ?_
      rw [cut_map]
      exact dpa_ints _
    | dat _ _ => exact q.elim
    | lst _ _ _ _ => exact q.elim
    | dk _ _ _ _ _ => exact q.elim
    | dt _ _ _ _ _ => exact q.elim
    | nd _ _ _ _ _ _ _ _ => exact q.elim
    | exc _ => exact q.elim
    | tk _ _ => exact q.elim
    | fz _ _ _ _ _ _ => exact q.elim
/-- the whole law: True at every script -/
theorem law_end {P : Program} {w : World} {K : PySem.W.Frag} {mg : Str → Option Value} {H : Hp} {a : Addr} {ns : List Int} {m : List OD → FOut} {os : List OD} (hS : SqL K H a (ns.map V.int)) (hm : m [.scr ns] = .ok (.dat (.bool true)) os) :
    spL K mg 1 m [.ref a] H (fun v _ => v = .bl true) fun _ _ _ => False := by
  refine ⟨rfl, [.scr ns], fun _ => False, H, Same.refl H, ⟨rfl, fun _ _ => False, fun i v o e1 e2 => ?_, fun _ _ _ _ z => z.elim, fun _ _ _ z => z, fun q => ⟨False.elim, fun ⟨_, z⟩ => z⟩⟩, ?_⟩
  · cases i with
    | zero =>
      simp at e1 e2
      subst e1
      subst e2
      exact .scr hS fun _ z => z
    | succ i => simp at e1
  · rw [hm]
    intro v B A' F' H' st ow _ _
    cases ow with
    | dat hd _ =>
      cases hd
      rfl
end
end VL
namespace VL
open PySem PySem.Spec PyProof.Rows L2
theorem takes0N {X : Cx} : L2N.Takes X (fun _ _ _ _ => False) := fun u s' x => by
  obtain ⟨_, _, _, _, _, _, _, _, _, _, _, _, _, _, _, _, w⟩ := x
  exact w.elim
theorem no_cx (P : Program) (w : World) (H : Hp) (s : Shared) (e : Value) (s' : Shared) (h : L2N.CX P w [] H s (fun _ _ _ => False) e s') : False := by
  obtain ⟨_, _, _, _, _, _, _, _, _, _, _, _, z⟩ := h
  exact z
/-- the walk of a law by its mirror -/
theorem walk_m {l : PySem.W.OpenLaw} {n k : Nat} {q : Program} {loose : List Str} {XP : (Str → Option Value) → Heap → Prop} {YP : World → Heap → Prop} {d : DefRec} {x : Str} {m : List OD → FOut}
    (h1 : l.most = some n) (h2 : n ≤ sizeLine) (h3 : d.params.defaults = []) (h4 : Room k callerA)
    (h5 : ∀ (w : World) (mg : Str → Option Value) (f : Addr) (h : Heap), YP w h → h.Ns mainGlobals mg → mg d.name = some (.ref f) → ∃ (K : PySem.W.Frag) (fd : FuncData), K.In h ∧
      (∀ (s : Shared) (u : Value), BindsTo s fd ⟨[u], []⟩ [(x, u)]) ∧ ∀ base : Heap, K.In base → base.Ns mainGlobals mg → FnOk l.prog w K mg base (L2N.CX l.prog w) k f fd [x] (spL K mg 1 m))
    (h6 : ∀ ns : List Int, ns.length ≤ n → ∃ os, m [.scr ns] = .ok (.dat (.bool true)) os) : PySem.W.WalkO q loose XP YP l.row.toRowW d [] (fun f vs => PySem.call f vs) := by
  refine Att.attach_call h1 h3 ?_
  intro w s0 s1 mg mb f o pm cd doc a vs ns G Y z1 z2 z3 z4 z5 z6 z7 z8
  obtain ⟨K, fd, KX, hb, hF⟩ := h5 w mg f _ Y G.T.g z4
  obtain ⟨os, hm⟩ := h6 ns z7
  refine law_call KX G.T.g G.T.b G.T.builtins G.T.nolimit z8 z5 z6 (Nat.le_trans z7 h2) h4 hF hb ?_ ?_
  · exact fun H _ hS => law_end (P := l.prog) (w := w) hS hm
  · exact fun H e s' => no_cx l.prog w H s1 e s'
section
variable {K : PySem.W.Frag} {h : Heap} {mg : Str → Option Value}
theorem ek_of (X : K.In h) (G : h.Ns mainGlobals mg) {x : Str} (c1 : (He.Fa.glo x).ok K = true) (c2 : (He.Fa.exc x).ok K = true) : EK K mg x := by
  obtain ⟨a, b, c, d⟩ := He.exc_ok c2
  exact ⟨_, He.glo_ok X G c1, a, b, c, d⟩
theorem xk_nil (X : K.In h) (G : h.Ns mainGlobals mg) {x : Str} (c1 : (He.Fa.glo x).ok K = true) : XK K mg x [] := ⟨_, He.glo_ok X G c1, fun p hp => by cases hp⟩
theorem xk_cons (X : K.In h) (G : h.Ns mainGlobals mg) {x y : Str} {b : Bool} {l : List (Str × Bool)} (c1 : (He.Fa.glo y).ok K = true) (c2 : (He.Fa.exm y x b).ok K = true) (c3 : (He.Fa.glo x).ok K = true) (r : XK K mg x l) : XK K mg x ((y, b) :: l) := by
  obtain ⟨C, g, r⟩ := r
  have e := g.symm.trans (He.glo_ok X G c3)
  cases e
  refine ⟨_, g, fun p hp => ?_⟩
  cases hp with
  | head => exact ⟨_, He.glo_ok X G c1, He.exm_ok c2⟩
  | tail _ hp => exact r p hp
end
def fuN (i : Nat) (g : Gm) : Nat := match pVar i g with
  | .ok (.int n) => n.toNat + 2
  | _ => 0
section
variable {P : Program} {w : World} {K : PySem.W.Frag} {mg : Str → Option Value} {base : Heap}
theorem fl_mk {x : Str} {st : Stmt} {f : Addr} {fd : FuncData} {N ps : List Str} {k kk : Nat} {ls : List Bool} {mb : Gm → SOut} (F : FunD K x x (defArgs st) (defBody st) (defScope st) [] [] f fd) (S : FnScope N ps (defScope st)) (hl : ls.length = ps.length) (hN : N.length = ls.length + kk)
    (hb : ∀ (cdv : Value) (A : Around) (outer : List Env) (s : Shared) (H : Hp) (E : L2.XK), Room k (A.deeper (PyProof.Rows.envOfC x (defScope st) s.heap.objs.size f cdv)) →
      DSs (cxOf (L2N.CX P w) P w K mg base N x (defScope st) f cdv A outer s H E) ⟨fun cls d _ H' => E cls d H', fun _ => True⟩ (defBody st) mb) : FnOk P w K mg base (L2N.CX P w) (k + 1) f fd ps (spL K mg ps.length (fnM ls kk mb)) := fn_ok F S hl hN hb
end
end VL
namespace VL
open PySem L2
theorem fEq_int (a b : Int) : fEq (.int a) (.int b) = ob (decide (a = b)) := by
  show (if (true = true ∧ true = true) then ob (a == b) else none) = _
  rw [if_pos ⟨rfl, rfl⟩]
  congr 1
theorem fNe_int (a b : Int) : fNe (.int a) (.int b) = ob (!decide (a = b)) := by
  show (if (true = true ∧ true = true) then ob (!(a == b)) else none) = _
  rw [if_pos ⟨rfl, rfl⟩]
  congr 1
theorem fEq_bool (a b : Bool) : fEq (.bool a) (.bool b) = ob (decide (a = b)) := by
  cases a <;> cases b <;> rfl
theorem is_int_int (i : Int) : fIs "int" (.int i) = some true := rfl
theorem is_int_bool (i : Bool) : fIs "int" (.bool i) = some true := by decide +kernel +revert
theorem is_bool_bool (i : Bool) : fIs "bool" (.bool i) = some true := rfl
theorem is_bool_int (i : Int) : fIs "bool" (.int i) = some false := by
  show kitB "int" "bool" = some false
  decide +kernel
theorem is_tup_tup (i : List PyData) : fIs "tuple" (.tuple i) = some true := rfl
theorem is_tup_none : fIs "tuple" .none = some false := by decide +kernel
theorem is_int_none : fIs "int" .none = some false := by decide +kernel
theorem is_bool_none : fIs "bool" .none = some false := by decide +kernel
theorem is_str_none : fIs "str" .none = some false := by decide +kernel
theorem is_int_tup (i : List PyData) : fIs "int" (.tuple i) = some false := by
  show kitB "tuple" "int" = some false
  decide +kernel
theorem is_bool_tup (i : List PyData) : fIs "bool" (.tuple i) = some false := by
  show kitB "tuple" "bool" = some false
  decide +kernel
theorem is_int_str (i : Str) : fIs "int" (.str i) = some false := by
  show kitB "str" "int" = some false
  decide +kernel
theorem is_int_list (i : List PyData) : fIs "int" (.list i) = some false := by
  show kitB "list" "int" = some false
  decide +kernel
theorem is_list_list (i : List PyData) : fIs "list" (.list i) = some true := rfl
theorem is_list_tup (i : List PyData) : fIs "list" (.tuple i) = some false := by
  show kitB "tuple" "list" = some false
  decide +kernel
theorem is_tup_list (i : List PyData) : fIs "tuple" (.list i) = some false := by
  show kitB "list" "tuple" = some false
  decide +kernel
theorem is_tup_int (i : Int) : fIs "tuple" (.int i) = some false := by
  show kitB "int" "tuple" = some false
  decide +kernel
theorem is_str_str (i : Str) : fIs "str" (.str i) = some true := rfl
theorem is_str_int (i : Int) : fIs "str" (.int i) = some false := by
  show kitB "int" "str" = some false
  decide +kernel
theorem nodup_one (a : Nat) : List.Nodup [a] = True := by simp
theorem List.nodup_nil_t : (List.Nodup ([] : List Nat)) = True := by simp
theorem atI_nat {α : Type} (xs : List α) (n : Nat) : atI xs (n : Int) = xs[n]? := by
  unfold atI ixN
  by_cases h : (n : Int) < xs.length
  · rw [if_pos (Int.natCast_nonneg n), if_pos h]
    rfl
  · rw [if_pos (Int.natCast_nonneg n), if_neg h]
    simp
    omega
theorem atI_0 {α : Type} (a : α) (l : List α) : atI (a :: l) 0 = some a := by
  have e := atI_nat (a :: l) 0
  exact e
theorem atI_1 {α : Type} (a b : α) (l : List α) : atI (a :: b :: l) 1 = some b := by
  have e := atI_nat (a :: b :: l) 1
  exact e
theorem atI_2 {α : Type} (a b c : α) (l : List α) : atI (a :: b :: c :: l) 2 = some c := by
  have e := atI_nat (a :: b :: c :: l) 2
  exact e
theorem atI_3 {α : Type} (a b c d : α) (l : List α) : atI (a :: b :: c :: d :: l) 3 = some d := by
  have e := atI_nat (a :: b :: c :: d :: l) 3
  exact e
theorem atI_4 {α : Type} (a b c d e : α) (l : List α) : atI (a :: b :: c :: d :: e :: l) 4 = some e := by
  have e := atI_nat (a :: b :: c :: d :: e :: l) 4
  exact e
theorem atI_5 {α : Type} (a b c d e f : α) (l : List α) : atI (a :: b :: c :: d :: e :: f :: l) 5 = some f := by
  have e := atI_nat (a :: b :: c :: d :: e :: f :: l) 5
  exact e
theorem atI_6 {α : Type} (a b c d e f g : α) (l : List α) : atI (a :: b :: c :: d :: e :: f :: g :: l) 6 = some g := by
  have e := atI_nat (a :: b :: c :: d :: e :: f :: g :: l) 6
  exact e
theorem atI_7 {α : Type} (a b c d e f g h : α) (l : List α) : atI (a :: b :: c :: d :: e :: f :: g :: h :: l) 7 = some h := by
  have e := atI_nat (a :: b :: c :: d :: e :: f :: g :: h :: l) 7
  exact e
theorem ixN_1_0 : ixN 1 0 = some 0 := rfl
theorem ixN_2_0 : ixN 2 0 = some 0 := rfl
theorem ixN_2_1 : ixN 2 1 = some 1 := rfl
theorem ixN_3_0 : ixN 3 0 = some 0 := rfl
theorem ixN_3_1 : ixN 3 1 = some 1 := rfl
theorem ixN_3_2 : ixN 3 2 = some 2 := rfl
theorem ixN_4_0 : ixN 4 0 = some 0 := rfl
theorem ixN_4_1 : ixN 4 1 = some 1 := rfl
theorem ixN_4_2 : ixN 4 2 = some 2 := rfl
theorem ixN_4_3 : ixN 4 3 = some 3 := rfl
theorem ixN_5_0 : ixN 5 0 = some 0 := rfl
theorem ixN_5_1 : ixN 5 1 = some 1 := rfl
theorem ixN_5_2 : ixN 5 2 = some 2 := rfl
theorem ixN_5_3 : ixN 5 3 = some 3 := rfl
theorem ixN_5_4 : ixN 5 4 = some 4 := rfl
theorem ixN_6_0 : ixN 6 0 = some 0 := rfl
theorem ixN_6_1 : ixN 6 1 = some 1 := rfl
theorem ixN_6_2 : ixN 6 2 = some 2 := rfl
theorem ixN_6_3 : ixN 6 3 = some 3 := rfl
theorem ixN_6_4 : ixN 6 4 = some 4 := rfl
theorem ixN_6_5 : ixN 6 5 = some 5 := rfl
theorem ixN_7_0 : ixN 7 0 = some 0 := rfl
theorem ixN_7_1 : ixN 7 1 = some 1 := rfl
theorem ixN_7_2 : ixN 7 2 = some 2 := rfl
theorem ixN_7_3 : ixN 7 3 = some 3 := rfl
theorem ixN_7_4 : ixN 7 4 = some 4 := rfl
theorem ixN_7_5 : ixN 7 5 = some 5 := rfl
theorem ixN_7_6 : ixN 7 6 = some 6 := rfl
theorem fPow9 : fPow (.int 10) (.int 9) = oi 1000000000 := by
  show (if (0 : Int) ≤ 9 ∧ (9 : Int) ≤ 1000000 ∧ (10 : Int).natAbs < 2 ^ 64 then oi ((10 : Int) ^ (9 : Int).toNat) else none) = _
  rw [if_pos ⟨by decide, by decide, by decide⟩]
  congr 1
theorem fPow18 : fPow (.int 10) (.int 18) = oi 1000000000000000000 := by
  show (if (0 : Int) ≤ 18 ∧ (18 : Int) ≤ 1000000 ∧ (10 : Int).natAbs < 2 ^ 64 then oi ((10 : Int) ^ (18 : Int).toNat) else none) = _
  rw [if_pos ⟨by decide, by decide, by decide⟩]
  congr 1
theorem fPow29 : fPow (.int 10) (.int 29) = oi 100000000000000000000000000000 := by
  show (if (0 : Int) ≤ 29 ∧ (29 : Int) ≤ 1000000 ∧ (10 : Int).natAbs < 2 ^ 64 then oi ((10 : Int) ^ (29 : Int).toNat) else none) = _
  rw [if_pos ⟨by decide, by decide, by decide⟩]
  congr 1
section
variable {α β : Type} (i j : Int) (a b : List PyData) (g : Gm) (e : Er)
theorem fAdd_i : fAdd (.int i) (.int j) = oi (i + j) := rfl
theorem fAdd_l : fAdd (.list a) (.list b) = if a.length + b.length ≤ zl then some (.lst (a ++ b)) else none := rfl
theorem fAdd_t : fAdd (.tuple a) (.tuple b) = if a.length + b.length ≤ zl then some (.dat (.tuple (a ++ b))) else none := rfl
theorem fSub_i : fSub (.int i) (.int j) = oi (i - j) := rfl
theorem fMul_i : fMul (.int i) (.int j) = if mulOk i j = true then oi (i * j) else none := rfl
theorem fFdiv_i : fFdiv (.int i) (.int j) = if 0 < j ∧ j.natAbs.log2 < 9000 then oi (i / j) else none := rfl
theorem fMod_i : fMod (.int i) (.int j) = if 0 < j then oi (i % j) else none := rfl
theorem fLt_i : fLt (.int i) (.int j) = ob (decide (i < j)) := rfl
theorem fLe_i : fLe (.int i) (.int j) = ob (decide (i ≤ j)) := rfl
theorem fGt_i : fGt (.int i) (.int j) = ob (decide (j < i)) := rfl
theorem fGe_i : fGe (.int i) (.int j) = ob (decide (j ≤ i)) := rfl
theorem fIx_l : fIx (.list a) (.int i) = od (atI a i) := rfl
theorem fIx_t : fIx (.tuple a) (.int i) = od (atI a i) := rfl
theorem fLen_l : fLen [.list a] = oi a.length := rfl
theorem fLen_t : fLen [.tuple a] = oi a.length := rfl
theorem fAbs_i : fAbs [.int i] = oi (if i < 0 then -i else i) := rfl
theorem fMax2_i : fMax2 [.int i, .int j] = oi (if j > i then j else i) := rfl
theorem fMin2_i : fMin2 [.int i, .int j] = oi (if j < i then j else i) := rfl
theorem fInt_i : fInt [.int i] = oi i := rfl
theorem fInt_b (k : Bool) : fInt [.bool k] = oi (if k then 1 else 0) := rfl
theorem fList_l : fList [.list a] = some (.lst a) := rfl
theorem fList_t : fList [.tuple a] = some (.lst a) := rfl
theorem fTuple_l : fTuple [.list a] = some (.dat (.tuple a)) := rfl
theorem fTuple_t : fTuple [.tuple a] = some (.dat (.tuple a)) := rfl
theorem fIsN_n (d : PyData) : fIsN d .none = ob (isNone d) := rfl
theorem fNotN_n (d : PyData) : fNotN d .none = ob (!isNone d) := rfl
theorem isNone_n : isNone .none = true := rfl
theorem isNone_i : isNone (.int i) = false := rfl
theorem isNone_b (k : Bool) : isNone (.bool k) = false := rfl
theorem isNone_s (k : Str) : isNone (.str k) = false := rfl
theorem isNone_l : isNone (.list a) = false := rfl
theorem isNone_t : isNone (.tuple a) = false := rfl
theorem od_some (d : PyData) : od (some d) = some (.dat d) := rfl
theorem obind_ok (x : α) (k : α → Gm → Out β) : (Out.ok x g).bind k = k x g := rfl
theorem obind_err (k : α → Gm → Out β) : (Out.err e g : Out α).bind k = .err e g := rfl
theorem oof_some (x : α) : Out.of (some x) g = .ok x g := rfl
theorem rbind_ok (x : α) (k : α → Res β) : (Res.ok x).bind k = k x := rfl
theorem rof_some (x : α) : Res.of (some x) = .ok x := rfl
theorem up_ok (x : α) : up (.ok x) g = .ok x g := rfl
theorem frz_dat (d : PyData) : (OD.dat d).frz = some d := by simp [OD.frz]
theorem frz_lst : (OD.lst a).frz = some (.list a) := by simp [OD.frz]
theorem tst_b (k : Bool) : tst (.bool k) g = .ok k g := rfl
theorem sbind_nx (k : Gm → SOut) : (SOut.nx g).bind k = k g := rfl
theorem sbind_rt (o : OD) (k : Gm → SOut) : (SOut.rt o g).bind k = .rt o g := rfl
theorem sbind_br (k : Gm → SOut) : (SOut.br g).bind k = .br g := rfl
theorem sbind_ct (k : Gm → SOut) : (SOut.ct g).bind k = .ct g := rfl
theorem sbind_err (k : Gm → SOut) : (SOut.err e g).bind k = .err e g := rfl
def pSl : Sl → Res PyData
  | .v (.dat d) => .ok d
  | .pin (.dat d) => .ok d
  | _ => .stk
theorem pVar_eq (n : Nat) : pVar n g = pSl (gt g n) := by
  unfold pVar pSl
  rfl
theorem pSl_v (d : PyData) : pSl (.v (.dat d)) = .ok d := rfl
theorem pSl_pin (d : PyData) : pSl (.pin (.dat d)) = .ok d := rfl
def wSl : Sl → Res PyData
  | .v (.dat d) => .ok d
  | .v (.lst ds) => .ok (.list ds)
  | .pin (.dat d) => .ok d
  | .pin (.lst ds) => .ok (.list ds)
  | _ => .stk
theorem wVar_eq (n : Nat) : wVar n g = wSl (gt g n) := by
  unfold wVar
  cases gt g n with
  | no => rfl
  | v o => cases o <;> rfl
  | pin o => cases o <;> rfl
  | al _ _ => rfl
  | xc => rfl
theorem wSl_v (d : PyData) : wSl (.v (.dat d)) = .ok d := rfl
theorem wSl_vl : wSl (.v (.lst a)) = .ok (.list a) := rfl
theorem wSl_pin (d : PyData) : wSl (.pin (.dat d)) = .ok d := rfl
theorem wSl_pl : wSl (.pin (.lst a)) = .ok (.list a) := rfl
end
theorem Nat.cast_zero_i : ((0 : Nat) : Int) = 0 := rfl
theorem Nat.cast_one_i : ((1 : Nat) : Int) = 1 := rfl
theorem log_lt {n b : Nat} (h : n < 2 ^ b) (hb : 0 < b) : n.log2 < b := PySem.Flt.log2_lt_of hb h
theorem mul_small {i j : Int} (h1 : -(2 ^ 64) < j) (h2 : j < 2 ^ 64) : mulOk i j = true := by
  unfold mulOk
  rw [decide_eq_true h1, decide_eq_true h2]
  simp
theorem mul_small' {i j : Int} (h1 : -(2 ^ 64) < i) (h2 : i < 2 ^ 64) : mulOk i j = true := by
  unfold mulOk
  rw [decide_eq_true h1, decide_eq_true h2]
  simp
theorem mul_wide {i j : Int} (h1 : i.natAbs < 2 ^ 100000) (h2 : j.natAbs < 2 ^ 100000) : mulOk i j = true := by
  have a := log_lt h1 (by decide)
  have b := log_lt h2 (by decide)
  unfold mulOk
  have c : i.natAbs.log2 + j.natAbs.log2 < 1000000 := by omega
  simp [c]
/-- whole numbers that are no burden -/
def Sm (a : Int) : Prop := a.natAbs ≤ 2 ^ 8000
theorem Sm.lt {a : Int} (h : Sm a) {n : Nat} (hn : 8000 < n) : a.natAbs < 2 ^ n := Nat.lt_of_le_of_lt h (Nat.pow_lt_pow_right (by decide) hn)
theorem Sm.mul {a b : Int} (h : Sm a) (h' : Sm b) : mulOk a b = true := mul_wide (h.lt (by decide)) (h'.lt (by decide))
theorem Sm.log {a : Int} (h : Sm a) : a.natAbs.log2 < 9000 := log_lt (h.lt (by decide)) (by decide)
theorem Sm.le {a b : Int} (h : Sm a) (h0 : 0 ≤ b) (h1 : b ≤ a) : Sm b := Nat.le_trans (by omega) h
theorem Sm.of {a : Int} {n : Nat} (h1 : -(2 ^ n : Nat) ≤ a) (h2 : a ≤ (2 ^ n : Nat)) (hn : n ≤ 8000) : Sm a := by
  have h : a.natAbs ≤ 2 ^ n := by omega
  exact Nat.le_trans h (Nat.pow_le_pow_right (by decide) hn)
theorem Sm.abs {a : Int} (h : Sm a) : Sm (if a < 0 then -a else a) := by
  unfold Sm at h ⊢
  split <;> omega
end VL
namespace VL
open PySem L2
def gz : Nat := 100000
/-- data of a small depth that may be compared -/
def Gd : Nat → PyData → Prop
  | _, .none => True
  | _, .bool _ => True
  | _, .int _ => True
  | _, .str x => SeqAt.shaped (.str x) = true
  | 0, .list _ => False
  | 0, .tuple _ => False
  | n + 1, .list ds => ds.length ≤ gz ∧ ∀ d ∈ ds, Gd n d
  | n + 1, .tuple ds => ds.length ≤ gz ∧ ∀ d ∈ ds, Gd n d
  | _, .dict _ => False
theorem Gd.up : ∀ {n : Nat} {d : PyData}, Gd n d → Gd (n + 1) d
  | n, .none, _ => by cases n <;> trivial
  | n, .bool _, _ => by cases n <;> trivial
  | n, .int _, _ => by cases n <;> trivial
  | n, .str x, h => by
    cases n with
    | zero => simpa [Gd] using h
    | succ n => simpa [Gd] using h
  | 0, .list _, h => by simp [Gd] at h
  | 0, .tuple _, h => by simp [Gd] at h
  | n + 1, .list ds, h => by
    simp only [Gd] at h ⊢
    exact ⟨h.1, fun d hd => Gd.up (h.2 d hd)⟩
  | n + 1, .tuple ds, h => by
    simp only [Gd] at h ⊢
    exact ⟨h.1, fun d hd => Gd.up (h.2 d hd)⟩
  | n, .dict _, h => by cases n <;> simp [Gd] at h
theorem Gd.le {n m : Nat} {d : PyData} (h : Gd n d) (hm : n ≤ m) : Gd m d := by
  induction hm with
  | refl => exact h
  | step _ ih => exact ih.up
theorem gd_int (n : Nat) (i : Int) : Gd n (.int i) := by cases n <;> trivial
theorem gd_bool (n : Nat) (i : Bool) : Gd n (.bool i) := by cases n <;> trivial
theorem gd_pair (n : Nat) (a b : Int) : Gd (n + 1) (.tuple [.int a, .int b]) := by
  simp only [Gd]
  refine ⟨by simp [gz], fun d hd => ?_⟩
  simp at hd
  rcases hd with rfl | rfl <;> exact gd_int _ _
theorem depthAll_le {k : Nat} : ∀ {ds : List PyData}, (∀ d ∈ ds, d.depth ≤ k) → PyData.depthAll ds ≤ k
  | [], _ => by simp [PyData.depthAll]
  | d :: ds, h => by
    simp only [PyData.depthAll]
    exact Nat.max_le.mpr ⟨h d List.mem_cons_self, depthAll_le fun e he => h e (List.mem_cons_of_mem _ he)⟩
theorem layAll {ds : List PyData} (h : ∀ d ∈ ds, d.canLay0 = true) : PyData.canLayAll0 ds = true := by
  induction ds with
  | nil => rfl
  | cons d ds ih =>
    simp only [PyData.canLayAll0]
    rw [h d List.mem_cons_self, ih fun e he => h e (List.mem_cons_of_mem _ he)]
    rfl
theorem Gd.lay : ∀ {n : Nat} {d : PyData}, Gd n d → d.canLay0 = true ∧ d.depth ≤ n + 1
  | n, .none, _ => ⟨rfl, by simp [PyData.depth]⟩
  | n, .bool _, _ => ⟨rfl, by simp [PyData.depth]⟩
  | n, .int _, _ => ⟨rfl, by simp [PyData.depth]⟩
  | n, .str x, h => by
    have h : SeqAt.shaped (.str x) = true := by cases n <;> simpa [Gd] using h
    exact ⟨SeqAt.canLay_of_shaped h, by simp [PyData.depth]⟩
  | 0, .list _, h => by simp [Gd] at h
  | 0, .tuple _, h => by simp [Gd] at h
  | n + 1, .list ds, h => by
    simp only [Gd] at h
    have z := fun d hd => Gd.lay (h.2 d hd)
    refine ⟨layAll fun d hd => (z d hd).1, ?_⟩
    have := depthAll_le fun d hd => (z d hd).2
    simp only [PyData.depth]
    omega
  | n + 1, .tuple ds, h => by
    simp only [Gd] at h
    have z := fun d hd => Gd.lay (h.2 d hd)
    refine ⟨layAll fun d hd => (z d hd).1, ?_⟩
    have := depthAll_le fun d hd => (z d hd).2
    simp only [PyData.depth]
    omega
  | n, .dict _, h => by cases n <;> simp [Gd] at h
theorem Gd.shaped {n : Nat} {d : PyData} (h : Gd n d) (hn : n ≤ 60) : SeqAt.shaped d = true := by
  obtain ⟨a, b⟩ := h.lay
  unfold SeqAt.shaped
  rw [a, decide_eq_true (show d.depth ≤ 64 by omega)]
  rfl
theorem eqvAll_refl {ds : List PyData} (h : ∀ d ∈ ds, PyData.eqv d d = true) : PyData.eqvAll ds ds = true := by
  induction ds with
  | nil => rfl
  | cons d ds ih =>
    simp only [PyData.eqvAll]
    rw [h d List.mem_cons_self, ih fun e he => h e (List.mem_cons_of_mem _ he)]
    rfl
theorem Gd.eqv : ∀ {n : Nat} {d : PyData}, Gd n d → PyData.eqv d d = true
  | n, .none, _ => rfl
  | n, .bool b, _ => by simp [PyData.eqv]
  | n, .int _, _ => by simp [PyData.eqv]
  | n, .str x, h => by simp [PyData.eqv]
  | 0, .list _, h => by simp [Gd] at h
  | 0, .tuple _, h => by simp [Gd] at h
  | n + 1, .list ds, h => by
    simp only [Gd] at h
    exact eqvAll_refl fun d hd => Gd.eqv (h.2 d hd)
  | n + 1, .tuple ds, h => by
    simp only [Gd] at h
    exact eqvAll_refl fun d hd => Gd.eqv (h.2 d hd)
  | n, .dict _, h => by cases n <;> simp [Gd] at h
theorem fEq_refl {n : Nat} {d : PyData} (h : Gd n d) (hn : n ≤ 60) : fEq d d = some (.dat (.bool true)) := by
  unfold fEq
  rw [if_pos ⟨h.shaped hn, h.shaped hn⟩, h.eqv]
  rfl
theorem fNe_refl {n : Nat} {d : PyData} (h : Gd n d) (hn : n ≤ 60) : fNe d d = some (.dat (.bool false)) := by
  unfold fNe
  rw [if_pos ⟨h.shaped hn, h.shaped hn⟩, h.eqv]
  rfl
theorem fNe_bool (a b : Bool) : fNe (.bool a) (.bool b) = ob (decide (a ≠ b)) := by
  cases a <;> cases b <;> rfl
theorem rngOf_n {n : Int} (h1 : 0 ≤ n) (h2 : n ≤ gz) : rngOf [.int n] = some (0, n.toNat) := by
  unfold gz at h2
  simp only [rngOf]
  rw [cIf_pos (by omega)]
section
variable {is : List Nat} {tg : Tg} {mt : Gm → Out Bool} {me : Gm → Out PyData} {ms : Gm → Out (List PyData)} {mb : Gm → SOut} {g g1 : Gm}
end
/-- a comprehension that keeps a fact of the slots -/
theorem cmp_inv {is : List Nat} {tg : Tg} {mt : Gm → Out Bool} {me : Gm → Out PyData} {P : Gm → Prop} {Q : PyData → Prop} : ∀ (l acc : List PyData) (g : Gm), acc.length + l.length ≤ zl →
    (∀ d ∈ l, ∀ g, P g → ∃ g1 g2 g3 y, tg d g = some g1 ∧ mt g1 = .ok true g2 ∧ me g2 = .ok y g3 ∧ P (kl is g3) ∧ Q y) → P g → ∃ ys g', cmpM is tg mt me l acc g = .ok (acc ++ ys) g' ∧ P g' ∧ ys.length = l.length ∧ ∀ y ∈ ys, Q y
  | [], acc, g, _, _, hP => ⟨[], g, by simp [cmpM], hP, rfl, fun _ h => by cases h⟩
  | d :: l, acc, g, hz, h, hP => by
    obtain ⟨g1, g2, g3, y, e1, e2, e3, e4, e5⟩ := h d List.mem_cons_self g hP
    obtain ⟨ys, g', r1, r2, r3, r4⟩ := cmp_inv l (acc ++ [y]) (kl is g3) (by simp at hz ⊢; omega) (fun e he => h e (List.mem_cons_of_mem _ he)) e4
    refine ⟨y :: ys, g', ?_, r2, by simp [r3], fun z hz => ?_⟩
    · unfold cmpM
      have hz' : acc.length < zl := by simp at hz; omega
      simp only [e1, e2, e3, if_pos hz', r1]
      simp
    · rcases List.mem_cons.mp hz with rfl | hz
      · exact e5
      · exact r4 z hz
def inI (lo hi : Int) : PyData → Bool
  | .int s => decide (lo ≤ s) && decide (s ≤ hi)
  | _ => false
theorem pickI {l : List PyData} {r lo hi : Int} (hl : l.all (inI lo hi) = true) (h1 : 0 ≤ r) (h2 : r < l.length) : ∃ s, atI l r = some (.int s) ∧ lo ≤ s ∧ s ≤ hi := by
  have hlt : r.toNat < l.length := by omega
  have e := atI_nat l r.toNat
  rw [Int.toNat_of_nonneg h1, List.getElem?_eq_getElem hlt] at e
  have h := List.all_eq_true.mp hl _ (List.getElem_mem hlt)
  cases q : l[r.toNat] with
  | int s =>
    rw [q] at h e
    have h : (decide (lo ≤ s) && decide (s ≤ hi)) = true := h
    obtain ⟨a, b⟩ := Bool.and_eq_true_iff.mp h
    exact ⟨s, e, of_decide_eq_true a, of_decide_eq_true b⟩
  | none =>
    rw [q] at h
    cases h
  | bool _ =>
    rw [q] at h
    cases h
  | str _ =>
    rw [q] at h
    cases h
  | list _ =>
    rw [q] at h
    cases h
  | tuple _ =>
    rw [q] at h
    cases h
  | dict _ =>
    rw [q] at h
    cases h
theorem sm_lit {a : Int} (h0 : -(10 ^ 100) ≤ a) (h1 : a ≤ 10 ^ 100) : Sm a := by
  have e : (10 : Nat) ^ 100 ≤ 2 ^ 400 := by decide
  exact Nat.le_trans (Nat.le_trans (show a.natAbs ≤ 10 ^ 100 by omega) e) (Nat.pow_le_pow_right (by decide) (by decide))
end VL
namespace VL
open PySem L2
section
variable {K : PySem.W.Frag} {cg : Str → Option Value}
end
/-! ### - x -/
def rNeg (m : Gm → Res PyData) (g : Gm) : Res OD := (m g).bind fun d => match d with
  | .int i => .ok (.dat (.int (-i)))
  | _ => .stk
section
variable {K : PySem.W.Frag} {cg : Cg} {W : WX}
end
section
variable {X : Cx} {W : Wz} {a b c : Expr} {pos p p2 p3 : Pos}
end
end VL
namespace VL
open PySem L2
end VL
namespace VL
open PySem L2
def rngC (lo c : Int) (n : Nat) : List PyData := (List.range n).map fun i : Nat => .int (lo + (i : Int) * c)
noncomputable def rngOf3 : List PyData → Option (Int × Int × Nat)
  | [.int i, .int j, .int c] => cIf (c ≠ 0 ∧ c.natAbs < 1073741824 ∧ Builtin.Range.small i j c = true ∧ 0 ≤ Builtin.Range.rangeSize i j c) (some (i, c, (Builtin.Range.rangeSize i j c).toNat)) none
  | _ => none
section
variable {K : PySem.W.Frag} {cg : Cg} {W : WX} {pvs : Pv} {g : Gm} {σ : L2.St} {S S1 S' A : Addr → Prop} {F F1 F' H H1 H' : Hp} {D : Ends}
noncomputable def sForC (is : List Nat) (tg : Tg) (ms : Gm → Out (List PyData)) (mb : Gm → SOut) (g : Gm) : SOut :=
  match ms g with
  | .ok as g1 => match rngOf3 as with
    | some (lo, c, n) => forM is tg mb (rngC lo c n) (kl is g1)
    | none => .stk
  | .err e g1 => .err e g1
  | .stk => .stk
noncomputable def oCompC (is : List Nat) (tg : Tg) (mt : Gm → Out Bool) (me : Gm → Out PyData) (ms : Gm → Out (List PyData)) (g : Gm) : Out OD :=
  match ms g with
  | .ok as g1 => match rngOf3 as with
    | some (lo, c, n) => cEnd is g1 (cmpM is tg mt me (rngC lo c n) [] (VL.kl is g1))
    | none => .stk
  | .err e g1 => .err e g1
  | .stk => .stk
end
section
variable {X : Cx} {W : Wz} {elt tg iter a b c : Expr} {ifs : List Expr} {scope : Scope} {pos p p2 : Pos} {n : Tg} {ts : List Nat} {mt : Gm → Out Bool} {me ma mb' mc : Gm → Out PyData}
end
end VL
namespace VL
open PySem L2
section
variable {K : PySem.W.Frag} {cg cg' : Cg} {W : WX} {pvs : Pv} {g : Gm} {σ : L2.St} {S S1 S' A : Addr → Prop} {F F1 F' H H1 H' : Hp} {D : Ends} {i : Nat} {v : V}
theorem st_out : ∀ (g : Gm) (i : Nat) (s : Sl), g.length ≤ i → st g i s = g
  | [], _, _, _ => rfl
  | a :: g, 0, _, h => by simp at h
  | a :: g, i + 1, s, h => congrArg (a :: ·) (st_out g i s (by simpa using h))
/-- fixed values with one more -/
def pvI (pvs : Pv) (i : Nat) (v : V) : Pv := ⟨pvs.p, fun j => if j = i then some v else pvs.x j⟩
theorem Rel.pinE (r : Rel K cg pvs g σ S F H) (hf : cg'.f = cg.f) (hz : cg'.Z (pvI pvs i v)) : ∃ S', Rel K cg' (pvI pvs i v) (st g i .xc) (σ.set i (some v)) S' F H ∧ ∀ q, S' q → S q := by
  obtain ⟨L, h1, h2, h3⟩ := r.ex
  have hf' : (cg'.f : Str → Option Value) = cg.f := hf
  by_cases hi : i < σ.length
  · have hg : i < g.length := by rw [r.len]; exact hi
    refine ⟨fun q => ∃ j, j ≠ i ∧ L j q, ⟨r.fh, by rw [st_len, List.length_set]; exact r.len, hz, fun j => if j = i then fun _ => False else L j, fun j => ?_, fun j k q hjk hj hk => ?_, fun q => ?_⟩, fun q ⟨j, _, hq⟩ => (h3 q).mpr ⟨j, hq⟩⟩
    · by_cases z : j = i
      · subst z
        simp only [if_true]
        unfold SlOk
        rw [gt_st hg]
        exact ⟨⟨v, by rw [List.getElem?_set_self hi], by simp [pvI]⟩, fun _ q => q⟩
      · simp only [if_neg z]
        have b := h1 j
        rw [← hf'] at b
        unfold SlOk at b ⊢
        rw [gt_st_ne z, List.getElem?_set_ne (Ne.symm z)]
        have e : (pvI pvs i v).x j = pvs.x j := by simp [pvI, z]
        rw [e]
        exact b
    · by_cases z : j = i
      · simp only [if_pos z] at hj
      · by_cases y : k = i
        · simp only [if_pos y] at hk
        · simp only [if_neg z] at hj
          simp only [if_neg y] at hk
          exact h2 j k q hjk hj hk
    · refine ⟨fun ⟨j, hj, hq⟩ => ⟨j, by simp only [if_neg hj]; exact hq⟩, fun ⟨j, hj⟩ => ?_⟩
      by_cases z : j = i
      · simp only [if_pos z] at hj
      · simp only [if_neg z] at hj
        exact ⟨j, z, hj⟩
  · have e1 : σ.set i (some v) = σ := List.set_eq_of_length_le (by omega)
    rw [e1, st_out g i _ (by rw [r.len]; omega)]
    refine ⟨S, ⟨r.fh, r.len, hz, L, fun j => ?_, h2, h3⟩, fun _ z => z⟩
    have b := h1 j
    rw [← hf'] at b
    unfold SlOk at b ⊢
    by_cases z : j = i
    · subst z
      have e : gt g j = .no := by
        cases q : gt g j with
        | no => rfl
        | v o => exact absurd (gt_lt (g := g) (i := j) (by rw [q]; intro z; cases z)) (by rw [r.len]; exact hi)
        | pin o => exact absurd (gt_lt (g := g) (i := j) (by rw [q]; intro z; cases z)) (by rw [r.len]; exact hi)
        | al _ _ => exact absurd (gt_lt (g := g) (i := j) (by rw [q]; intro z; cases z)) (by rw [r.len]; exact hi)
        | xc => exact absurd (gt_lt (g := g) (i := j) (by rw [q]; intro z; cases z)) (by rw [r.len]; exact hi)
      rw [e] at b ⊢
      exact b
    · have e : (pvI pvs i v).x j = pvs.x j := by simp [pvI, z]
      rw [e]
      exact b
theorem Rel.unpinE (r : Rel K cg' (pvI pvs i v) g σ S F H) (hf : cg'.f = cg.f) (hz : cg.Z pvs) : ∃ S', Rel K cg pvs (st g i .no) (σ.set i none) S' F H ∧ ∀ q, S' q → S q := by
  obtain ⟨L, h1, h2, h3⟩ := r.ex
  have hf' : (cg'.f : Str → Option Value) = cg.f := hf
  have hno : gt (st g i .no) i = .no := gt_no g i
  refine ⟨fun q => ∃ j, j ≠ i ∧ L j q, ⟨r.fh, by rw [st_len, List.length_set]; exact r.len, hz, fun j => if j = i then fun _ => False else L j, fun j => ?_, fun j k q hjk hj hk => ?_, fun q => ?_⟩, fun q ⟨j, _, hq⟩ => (h3 q).mpr ⟨j, hq⟩⟩
  · by_cases z : j = i
    · subst z
      simp only [if_true]
      unfold SlOk
      rw [hno]
      exact fun _ q => q
    · simp only [if_neg z]
      have b := h1 j
      rw [hf'] at b
      unfold SlOk at b ⊢
      rw [gt_st_ne z, List.getElem?_set_ne (Ne.symm z)]
      have e : (pvI pvs i v).x j = pvs.x j := by simp [pvI, z]
      rw [e] at b
      exact b
  · by_cases z : j = i
    · simp only [if_pos z] at hj
    · by_cases y : k = i
      · simp only [if_pos y] at hk
      · simp only [if_neg z] at hj
        simp only [if_neg y] at hk
        exact h2 j k q hjk hj hk
  · refine ⟨fun ⟨j, hj, hq⟩ => ⟨j, by simp only [if_neg hj]; exact hq⟩, fun ⟨j, hj⟩ => ?_⟩
    by_cases z : j = i
    · simp only [if_pos z] at hj
    · simp only [if_neg z] at hj
      exact ⟨j, z, hj⟩
/-- behind a suite with a name: the name is gone; nothing is raised out of it -/
def asE (i : Nat) : SOut → SOut
  | .nx g => .nx (st g i .no)
  | .rt o g => .rt o (st g i .no)
  | .br g => .br (st g i .no)
  | .ct g => .ct (st g i .no)
  | .err _ _ => .stk
  | .stk => .stk
theorem PoS.asE {Wo : WX} {y : SOut} (hf : cg'.f = cg.f) (hz : cg.Z pvs) (h : PoS K cg Wo pvs S F H D (VL.asE i y)) :
    PoS K cg' W0 (pvI pvs i v) S F H { nx := fun σ' H' => D.nx (σ'.set i none) H', rt := D.rt, bk := fun σ' H' => D.bk (σ'.set i none) H', ct := fun σ' H' => D.ct (σ'.set i none) H' } y := by
  have hf' : (cg'.f : Str → Option Value) = cg.f := hf
  cases y with
  | nx g =>
    intro σ' S' F' H' s r
    obtain ⟨S2, r2, h2⟩ := r.unpinE hf hz
    exact h _ S2 F' H' (s.sub h2) r2
  | rt o g =>
    intro v A σ' S' F' H' s r ow hd
    obtain ⟨S2, r2, h2⟩ := r.unpinE hf hz
    rw [hf'] at ow
    exact h v A _ S2 F' H' (s.sub fun p z => z.imp (h2 p) id) r2 ow fun q ha hs => hd q ha (h2 q hs)
  | br g =>
    intro σ' S' F' H' s r
    obtain ⟨S2, r2, h2⟩ := r.unpinE hf hz
    exact h _ S2 F' H' (s.sub h2) r2
  | ct g =>
    intro σ' S' F' H' s r
    obtain ⟨S2, r2, h2⟩ := r.unpinE hf hz
    exact h _ S2 F' H' (s.sub h2) r2
  | err e g => exact h.elim
  | stk => exact h.elim
/-- the suite's own reading, with what is known of the exception -/
def cSuA (K : PySem.W.Frag) (cg : Cg) (i : Nat) (ms : Er → Gm → SOut) : Addr → Value → Option Addr → TS := fun a cls dop D σ H => ∃ e C pvs g S F, cls = .ref C ∧ cg e.c = some (.ref C) ∧ (e.xs = [] → dop = none) ∧
  Rel K ⟨cg.f, fun pv => pv.x i = some (.ref a)⟩ pvs g σ S F H ∧ PoS K ⟨cg.f, fun pv => pv.x i = some (.ref a)⟩ W0 pvs S F H D (ms e g)
end
section
variable {X : Cx} {W : Wz} {pos : Pos}
/-- a suite's context: slot i holds the exception at a -/
abbrev wS (i : Nat) (a : Addr) : Wz := ⟨W0, fun pv => pv.x i = some (.ref a)⟩
theorem ds_tryAs {x n : Str} {i : Nat} {b₀ : Stmt} {suite body : List Stmt} {np pos' : Pos} {mb : Gm → SOut} {l : List (Str × Bool)} {ms : Er → Gm → SOut} (hN : X.N.Nodup) (tk : L2N.Takes X W.x) (hZ : ∀ pv, W.Z pv)
    (hb : ∀ (W' : WX) (pn : List (Addr × Obj)) (xe : Value → Shared → Prop), L2N.Takes (X.tr pn xe) W' → PassesOwn (model X.prog X.w) X.A X.env xe → DSs (X.tr pn xe) ⟨W', W.Z⟩ body mb)
    (E : XK X.K X.mg x l)
    (hsu : ∀ (e : Er) (a : Addr) (oe : Obj) (C : Addr) (d : Option Addr) (pn : List (Addr × Obj)), X.mg e.c = some (.ref C) → (e.xs = [] → d = none) → L2N.Zn (.ref C) d oe → (∃ vs, oe.data = .fields vs) → DSs (X.suite a ((a, oe) :: pn)) (wS i a) (b₀ :: suite) (ms e))
    (hi : X.N[i]? = some n := by rfl) (hln : X.env.kindOf n = some .local := by rfl) (hg : Gl X x := by rfl) (hd : (x == ("__debug__" : Str)) = false := by decide)
    (hs : X.stack = X.env :: X.outer := by rfl) (hf : X.env.frame = some X.env.locals := by rfl) :
    DS X W (.Try body [.ExceptHandler (some (.Name x np)) (some n) (b₀ :: suite) pos'] [] [] pos) (sTry mb [(clsF l, fun e g => VL.asE i (ms e (st g i .xc)))]) := by
  obtain ⟨C0, gC, hl⟩ := E
  refine ⟨_, L2N.ps_try_as (tb := fun W' => cS X.K (cgX X W) W' mb) (ts := cSuA X.K (cgX X W) i ms) hs hf hN hi hln ⟨hg, hd, .inl gC⟩ tk (fun W' pn xe t p => (hb W' pn xe t p).pss) (fun a oe cls d pn hz hv => ⟨fun pins s σ H D I hh => ?_⟩), ?_⟩
  · obtain ⟨e, C, pvs, g, S, F, rfl, hC, hdn, rl, q⟩ := hh
    obtain ⟨t, t1, t2⟩ := hsu e a oe C d pn hC hdn hz hv
    exact t1.run pins s σ H D I (t2 pvs g σ S F H D rl q)
  · intro pvs g σ S F H D r q
    refine (rs_c (m := mb) (K := X.K) (cg := cgX X W)) pvs g σ S F H D r ?_
    unfold sTry at q
    cases e : mb g with
    | nx g1 =>
      rw [e] at q
      exact q
    | rt o g1 =>
      rw [e] at q
      exact q
    | br g1 =>
      rw [e] at q
      exact q
    | ct g1 =>
      rw [e] at q
      exact q
    | stk =>
      rw [e] at q
      exact q
    | err e' g1 =>
      rw [e] at q
      intro C dop σ' S' F' H' b r' hc hx
      simp only [caught] at q
      cases ef : clsF l e'.c with
      | none =>
        simp only [ef] at q
        exact q.elim
      | some bb =>
        simp only [ef] at q
        refine ⟨bb, XK.hf hl e'.c C bb hc ef, fun eb a ha => ?_, fun eb => ?_⟩
        · subst eb
          obtain ⟨S2, r2, h2⟩ := r'.pinE (cg' := ⟨X.mg, fun pv => pv.x i = some (.ref a)⟩) (i := i) (v := .ref a) rfl (by simp [pvI])
          refine ⟨e', C, _, _, S2, F', rfl, hc, fun z => ?_, r2, PoS.asE (cg := cgX X W) rfl (hZ _) (PoS.st (PoS.st q b) (Stp.sub (.refl r'.fh) h2))⟩
          unfold XOk at hx
          rw [z] at hx
          exact hx
        · subst eb
          exact (PoS.st q b) C dop σ' S' F' H' (.refl r'.fh) r' hc hx
/-! ### isinstance(n, C) -/
theorem pe_no {e : Expr} : PE X e (fun _ _ _ => False) := ⟨fun _ _ _ _ _ _ h => h.elim⟩
/-- which errors are instances of a class, and that they can be asked -/
def IK (K : PySem.W.Frag) (mg : Str → Option Value) (cv : Value) (l : List (Str × Bool)) : Prop := ∀ p ∈ l, ∃ D, mg p.1 = some (.ref D) ∧ ExcC K D ∧ PySem.W.kitOne K (.ref D) cv = some p.2
section
open PySem.W PySem.Spec PySem.Calls PyProof.Rows Builtin Builtin.ObjectAttr Builtin.Getset_descriptor
variable {prog : Program} {w : World} {A : Around} {E : Value → Shared → Prop} {s : Shared} {K : PySem.W.Frag} {x D : Addr}
structure InC (h : Heap) (x D : Addr) : Prop where
  ex : ∃ ox, h.get? x = some ox ∧ ox.cls = .ref D
theorem InC.type {M : Model} {h : Heap} (I : InC h x D) : Looks M h (typeOf (.ref x)) (.ref D) := let ⟨_, h1, h2⟩ := I.ex; h2 ▸ (Looks.ld h1).andThen .now
theorem find_cls {M : Model} {h : Heap} {name : Str} {a g : Value} (X : K.In h) (ha : findIn K (.ref D) name = some (some a)) (hg : specialIn K a "__get__" = some (some g)) (ht : takesIn K a = some true) : Looks M h (find (.ref x) (.ref D) name) (.bind g a) := by
  refine (looks_findIn (M := M) X ha).andThen ((show Looks M h (getOf (some a)) (some g) from looks_specialIn X hg).andThen ?_)
  exact (show Looks M h (dataDescriptor? (some a) (some g)) (some (g, a)) from (looks_takesIn (M := M) X ht).andThen .now).andThen (Looks.tag .now)
theorem class_getC {R : Result → Shared → Prop} {tp : Value} (X : K.In s.heap) (I : InC s.heap x D) (hm : mroIn K D (.type "object") = some true)
    (q : R (.ok (.ret (.ref D))) s) : codeAny (model prog w) A (.call (.builtin "getset_descriptor.__get__") ⟨[.builtin "object.__class__", .ref x, tp], []⟩) R s := by
  obtain ⟨hp, gl, dr, tk, os⟩ := s
  have ty := I.type (M := model prog w)
  have ob := looks_mroIn (M := model prog w) X hm
  refine codeAny_call_builtin KF.slot_gs.plain KF.entry_gs (KF.slot_gs.check _ _ _ _ _ _ _ _ KF.type_class (KF.args_gs _ _ _) ?z)
  case z =>
    unfold Builtin.«getset_descriptor.__get__» descrGet; rw [dga_obj]
    refine wpAny_bind (wpAny_pure ?y)
    case y =>
      unfold descrGetter descrCheckInstance descrNameAndClass isInstance; simp only [KF.owner_class]
      repeat lk
      refine ⟨Code.quiet_builtin _ (by decide +kernel), codeAny_builtin KF.entry_class ?v⟩
      case v =>
        unfold Builtin.«object.__class__» shownTypeOf
        repeat lk
        exact q
theorem kin_classC {Q : Option Value → Shared → Prop} (C : ExcC K D) (X : K.In s.heap) (I : InC s.heap x D) (q : Q (some (.ref D)) { s with toks := s.toks + 1 }) : wpAny (model prog w) A (getAttr? (.ref x) "__class__") Q E s := by
  obtain ⟨hp, gl, dr, tk, os⟩ := s
  have ty := I.type (M := model prog w)
  have ga := looks_findIn (M := model prog w) X C.hg
  have gt := looks_findIn (M := model prog w) X C.hk
  have fd := find_cls (M := model prog w) (x := x) X C.ha C.hn C.ht
  have sb : Looks (model prog w) hp (isInstance (.ref x) (.type "BaseException")) true := ty.andThen (looks_subIn X C.hs)
  have n0 : (false && onTheHeap (Value.builtin "BaseException.__getattribute__")) = false := rfl
  have n1 : (onTheHeap (Value.ref D) && Value.builtin "BaseException.__getattribute__" == Value.builtin "object.__getattribute__") = false := by
    have : (Value.builtin "BaseException.__getattribute__" == Value.builtin "object.__getattribute__") = false := by decide +kernel
    rw [this]; rfl
  unfold getAttr? getAttrBy? getAttrBy
  refine wpAny_bind (wpAny_mkText (wpAny_bind (wpAny_attempt (wpAny_holding (wpAny_bind (ty.at (wpAny_bind (ga.at ?z))))))))
  case z =>
    change wpAny _ _ (if (onTheHeap (Value.ref D) && Value.builtin "BaseException.__getattribute__" == Value.builtin "object.__getattribute__") = true then _ else _) _ _ _
    rw [n1, if_neg Bool.false_ne_true]
    unfold getAttrByItsOwn hookBefore
    refine wpAny_bind ?y
    case y =>
      rw [if_pos (show onTheHeap (Value.ref D) = true from rfl)]
      refine gt.at ?v
      case v =>
        refine wpAny_bind (wpAny_attempt (wpAny_holding ?u))
        case u =>
          unfold callGetattribute
          rw [n0, if_neg Bool.false_ne_true]
          unfold boundAndCalled
          rw [PySem.F.excAttr_ValueError.ga.bind (.ref x)]
          refine wpAny_bind (wpAny_pure ?t)
          case t =>
            change wpAny _ _ (call (.builtin "BaseException.__getattribute__") [.ref x, .str "__class__" tk]) _ _ _
            refine wpAny_call (codeAny_call_builtin PySem.F.excAttr_ValueError.ga.plain PySem.F.entry_bexc_ga ?r)
            case r =>
              refine @check_slot (model prog w) _ _ ⟨hp, gl, dr, tk + 1, os⟩ "BaseException.__getattribute__" "BaseException" "__getattribute__" (.ref x) [.str "__class__" tk] [] _ (by decide +kernel) (by decide +kernel) sb (PySem.F.args_bexc_ga (.ref x) (.str "__class__" tk)) ?p
              case p =>
                unfold Builtin.«object.__getattribute__»
                refine wpAny_bind (wpAny_of_eq (a := ((Value.ref x : Value), [Value.str "__class__" tk])) (by first | rfl | (simp only [slotArgs]; rfl)) ?o)
                case o =>
                  refine wpAny_bind (wpAny_pure (wpAny_bind (ty.at (wpAny_bind (fd.at ?m)))))
                  case m =>
                    change wpAny _ _ (holding [Value.builtin "object.__class__"] (call (.builtin "getset_descriptor.__get__") [.builtin "object.__class__", .ref x, .ref D]) >>= ret) _ _ _
                    refine wpAny_bind (wpAny_holding (wpAny_call (class_getC (s := ⟨hp, gl, dr, tk + 1, os⟩) X I C.hm ?l)))
                    case l =>
                      refine wpAny_pure ?k
                      case k =>
                        change wpAny _ _ (handedOut (.ref D)) _ _ _
                        rw [handedOut_of (v := .ref D) rfl]
                        first
                          | exact wpAny_pure (wpAny_pure q)
                          | exact wpAny_pure q
                          | exact wpAny_pure (wpAny_bind (wpAny_pure (wpAny_pure q)))
theorem kitx_excC (C : ExcC K D) : KitX K (.ref x) (.ref D) (fun h => InC h x D) where
  ty := fun _ _ _ I => I.type
  it := fun _ _ X _ => by
    obtain ⟨cd, hc, _⟩ := any_some C.hd
    unfold clsIn at hc
    split at hc
    · rename_i z1 z2 z3 z4 ho
      intro B P F u k q
      unfold isType loadHead
      exact wpAny_bind (wpAny_loadPart (k _ _ (X _ _ ho)) (wpAny_pure q))
    · cases hc
  ne := fun h tp dd its n sl X htp => by
    obtain ⟨cd, hc, _⟩ := any_some C.hd
    refine Bool.eq_false_iff.mpr fun q => ?_
    have e : D = tp := Value.ref.inj (beq_iff_eq.mp q)
    subst e
    unfold clsIn at hc
    split at hc
    · rename_i z1 z2 z3 z4 ho
      cases (X _ _ ho).symm.trans htp
    · cases hc
  ca := fun X I k => kin_classC C X I k
end
theorem call_isC {p : Addr × Obj} {D : Addr} {d : Option Addr} (hp : p ∈ X.pn) (E : ExcC X.K D) (hz : Zc (.ref D) d p.2) : CallR X (.builtin "isinstance") (rIsE X.K D p.1) := by
  rintro pins s σ H xs us Q I r ⟨c, cv, b, rfl, hcv, kit, q⟩
  have at_ := (I.pin _ (List.mem_append_left _ hp)).1
  have J : InC s.heap p.1 D := ⟨_, at_, hz.1⟩
  cases r with
  | cons r1 r =>
    cases r with
    | cons r2 r =>
      cases r
      cases r1
      cases hcv _ r2
      refine PySem.W.kia_one (kitx_excC E) I.kIn J kit (fun z => nomatch z) fun tk => ?_
      exact ⟨.bl b, H, I.kept (t' := tk) fun _ _ z => z, rfl, q⟩
def vIsE (i : Nat) (l : List (Str × Bool)) (e : Er) (g : Gm) : Out PyData :=
  match gt g i with
  | .xc => match clsF l e.c with
    | some b => .ok (.bool b) g
    | none => .stk
  | _ => .stk
/-- a class of the text, or a built-in one, as the second argument -/
theorem isE_own {x : Str} {C : Addr} {p3 : Pos} (gC : X.mg x = some (.ref C)) (hg : Gl X x := by rfl) (hd : (x == ("__debug__" : Str)) = false := by decide) : PE X (.Name x p3) (tC (.ref C)) := pe_glob hg gC rfl hd
theorem isE_blt {x : Str} {T : String} {p3 : Pos} (hm : X.mg x = none) (hv : bootBuiltins x = some (.type T)) (hg : Gl X x := by rfl) (hn : x ≠ "__name__" := by decide) (hd : (x == ("__debug__" : Str)) = false := by decide) : PE X (.Name x p3) (tC (.ty T)) := pe_bltn (v := .ty T) hg hm hv rfl hn hd
/-- an own class, by its name -/
def IO (K : PySem.W.Frag) (mg : Str → Option Value) (x : Str) (l : List (Str × Bool)) : Prop := ∃ C, mg x = some (.ref C) ∧ IK K mg (.ref C) l
/-- a built-in class, by its name -/
def IB (K : PySem.W.Frag) (mg : Str → Option Value) (x : Str) (T : String) (l : List (Str × Bool)) : Prop := mg x = none ∧ bootBuiltins x = some (.type T) ∧ IK K mg (.type T) l
section
variable {i : Nat} {n y : Str} {p p2 p3 : Pos} {l : List (Str × Bool)} {e : Er} {a C : Addr} {oe : Obj} {d : Option Addr} {pn : List (Addr × Obj)} {T : String}
end
end
/-! ### the facts of the head -/
theorem excB_ok {K : PySem.W.Frag} {D : Addr} (h : excB K D = true) : ExcC K D := by
  unfold excB at h
  simp only [Bool.and_eq_true, decide_eq_true_eq] at h
  obtain ⟨h1, h2, h3, h4, h5, h6, h7, h8⟩ := h
  exact ⟨h1, h2, h3, h4, h5, h6, h7, h8⟩
section
variable {K : PySem.W.Frag} {h : Heap} {mg : Str → Option Value}
theorem ikB_ok (X : K.In h) (G : h.Ns mainGlobals mg) {cv : Value} {l : List (Str × Bool)} (c : ikB K cv l = true) : IK K mg cv l := fun p hp => by
  have q := List.all_eq_true.mp c p hp
  split at q
  · rename_i D e
    simp only [Bool.and_eq_true, decide_eq_true_eq] at q
    exact ⟨D, PySem.W.mg_of X G e, excB_ok q.1, q.2⟩
  · cases q
theorem ioB_ok (X : K.In h) (G : h.Ns mainGlobals mg) {x : Str} {l : List (Str × Bool)} (c : ioB K x l = true) : IO K mg x l := by
  unfold ioB at c
  split at c
  · rename_i D e
    exact ⟨D, PySem.W.mg_of X G e, ikB_ok X G c⟩
  · cases c
end
end VL
namespace VL
open PySem L2
end VL
namespace VL
open PySem L2
end VL
namespace VL
open PySem L2
noncomputable def forRA (is : List Nat) (tg : Tg) (mb : Gm → SOut) (as : List PyData) (g : Gm) : SOut :=
  match rngOf as with
  | some (lo, n) => forM is tg mb (rng lo n) (kl is g)
  | none => .stk
noncomputable def compRA (is : List Nat) (tg : Tg) (mt : Gm → Out Bool) (me : Gm → Out PyData) (as : List PyData) (g : Gm) : Out OD :=
  match rngOf as with
  | some (lo, n) => cEnd is g (cmpM is tg mt me (rng lo n) [] (kl is g))
  | none => .stk
noncomputable def forCA (is : List Nat) (tg : Tg) (mb : Gm → SOut) (as : List PyData) (g : Gm) : SOut :=
  match rngOf3 as with
  | some (lo, c, n) => forM is tg mb (rngC lo c n) (kl is g)
  | none => .stk
noncomputable def compCA (is : List Nat) (tg : Tg) (mt : Gm → Out Bool) (me : Gm → Out PyData) (as : List PyData) (g : Gm) : Out OD :=
  match rngOf3 as with
  | some (lo, c, n) => cEnd is g (cmpM is tg mt me (rngC lo c n) [] (kl is g))
  | none => .stk
section
variable {is : List Nat} {tg : Tg} {mt : Gm → Out Bool} {me : Gm → Out PyData} {ms : Gm → Out (List PyData)} {mb : Gm → SOut} {g : Gm}
theorem sForR_ok : sForR is tg ms mb g = match ms g with
    | .ok as g1 => forRA is tg mb as g1
    | .err e g1 => .err e g1
    | .stk => .stk := by
  unfold sForR forRA
  cases ms g <;> rfl
theorem oCompR_ok : oCompR is tg mt me ms g = match ms g with
    | .ok as g1 => compRA is tg mt me as g1
    | .err e g1 => .err e g1
    | .stk => .stk := by
  unfold oCompR compRA
  cases ms g <;> rfl
theorem sForC_ok : sForC is tg ms mb g = match ms g with
    | .ok as g1 => forCA is tg mb as g1
    | .err e g1 => .err e g1
    | .stk => .stk := by
  unfold sForC forCA
  cases ms g <;> rfl
theorem oCompC_ok : oCompC is tg mt me ms g = match ms g with
    | .ok as g1 => compCA is tg mt me as g1
    | .err e g1 => .err e g1
    | .stk => .stk := by
  unfold oCompC compCA
  cases ms g <;> rfl
theorem forRA_1 {n : Int} (h1 : 0 ≤ n) (h2 : n ≤ gz) : forRA is tg mb [.int n] g = forM is tg mb (rng 0 n.toNat) (kl is g) := by
  unfold forRA
  rw [rngOf_n h1 h2]
theorem forRA_n {n : Nat} (h2 : n ≤ gz) : forRA is tg mb [.int (n : Int)] g = forM is tg mb (rng 0 n) (kl is g) := by
  rw [forRA_1 (Int.natCast_nonneg n) (Int.ofNat_le.mpr h2), Int.toNat_natCast]
theorem compRA_1 {n : Int} (h1 : 0 ≤ n) (h2 : n ≤ gz) : compRA is tg mt me [.int n] g = cEnd is g (cmpM is tg mt me (rng 0 n.toNat) [] (kl is g)) := by
  unfold compRA
  rw [rngOf_n h1 h2]
theorem compRA_n {n : Nat} (h2 : n ≤ gz) : compRA is tg mt me [.int (n : Int)] g = cEnd is g (cmpM is tg mt me (rng 0 n) [] (kl is g)) := by
  rw [compRA_1 (Int.natCast_nonneg n) (Int.ofNat_le.mpr h2), Int.toNat_natCast]
end
/-- as cmp_inv, telling the items -/
theorem cmp_fold {α β : Type} {is : List Nat} {tg : Tg} {mt : Gm → Out Bool} {me : Gm → Out PyData} {enc : α → PyData} {out : α → Option PyData} {g : Gm} : ∀ (l : List α) (acc : List PyData), acc.length + l.length ≤ zl →
    (∀ a ∈ l, ∃ g1, tg (enc a) g = some g1 ∧ ((∃ y g2 g3, out a = some y ∧ mt g1 = .ok true g2 ∧ me g2 = .ok y g3 ∧ kl is g3 = g) ∨ ∃ g2, out a = none ∧ mt g1 = .ok false g2 ∧ kl is g2 = g)) →
    cmpM is tg mt me (l.map enc) acc g = .ok (acc ++ l.filterMap out) g
  | [], acc, _, _ => by simp [cmpM]
  | a :: l, acc, hz, h => by
    obtain ⟨g1, e1, e2⟩ := h a List.mem_cons_self
    rw [List.map_cons]
    unfold cmpM
    rw [e1]
    rcases e2 with ⟨y, g2, g3, o, m, e, k⟩ | ⟨g2, o, m, k⟩
    · simp only [m, e]
      rw [if_pos (by simp at hz; omega), k, cmp_fold (β := β) (out := out) l (acc ++ [y]) (by simp at hz ⊢; omega) fun b hb => h b (List.mem_cons_of_mem _ hb)]
      simp [List.filterMap_cons, o]
    · simp only [m]
      rw [k, cmp_fold (β := β) (out := out) l acc (by simp at hz ⊢; omega) fun b hb => h b (List.mem_cons_of_mem _ hb)]
      simp [List.filterMap_cons, o]
theorem forRA_0 {is : List Nat} {tg : Tg} {mb : Gm → SOut} {g : Gm} (n : Nat) (z : Int) (hz : z = (n : Int)) (h2 : n ≤ gz) : forRA is tg mb [.int z] g = forM is tg mb (rng 0 n) (kl is g) := by
  subst hz
  exact forRA_n h2
theorem compRA_0 {is : List Nat} {tg : Tg} {mt : Gm → Out Bool} {me : Gm → Out PyData} {g : Gm} (n : Nat) (z : Int) (hz : z = (n : Int)) (h2 : n ≤ gz) : compRA is tg mt me [.int z] g = cEnd is g (cmpM is tg mt me (rng 0 n) [] (kl is g)) := by
  subst hz
  exact compRA_n h2
end VL
namespace VL
open PySem L2
def scal : PyData → Bool
  | .none => true
  | .bool _ => true
  | .int _ => true
  | .str _ => true
  | _ => false
def oCallT (n : Nat) (m : List OD → FOut) (ml : Gm → Out (List Ar)) (g : Gm) : Out OD := (ml g).bind fun as g1 => match osOf g1 as with
  | none => .stk
  | some os => match frzAll os with
    | none => .stk
    | some ds => if (lends as).Nodup ∧ as.length = n then match m (ds.map OD.dat) with
      | .ok (.dat d) _ => if scal d = true then .ok (.dat d) g1 else .stk
      | .ok _ _ => .stk
      | .err e _ => if e.xs.isEmpty = true then .err e g1 else .stk
      | .stk => .stk
      else .stk
section
variable {K : PySem.W.Frag} {cg : Cg} {W : WX} {pvs : Pv} {g : Gm} {σ : L2.St} {S S1 S' A : Addr → Prop} {F F1 F' H H1 H' : Hp}
theorem more_keep (e : Same F H) : Same F (more F H A) := fun p u h => by
  by_cases hp : A p
  · rw [more_in hp]
    exact e p u h
  · rw [more_out hp]
    exact h
theorem OwA.frz {vs : List V} {os : List OD} {ds : List PyData} (e : Same F H) (h : OwA K cg F H vs os A) (hd : frzAll os = some ds) : OwA K cg (more F H A) H vs (ds.map OD.dat) (fun _ => False) := by
  obtain ⟨hl, L, h1, h2, h3, h4⟩ := h
  refine ⟨by rw [List.length_map, frzAll_len hd]; exact hl, fun _ _ => False, fun i v o e1 e2 => ?_, fun _ _ _ _ z => z.elim, fun _ _ _ z => z, fun q => ⟨fun z => z.elim, fun ⟨_, z⟩ => z⟩⟩
  have hi : i < os.length := by
    have := (List.getElem?_eq_some_iff.mp e1).1
    omega
  obtain ⟨d, f1, f2⟩ := frzAll_get hd (List.getElem?_eq_getElem hi)
  rw [List.getElem?_map, f2] at e2
  cases e2
  refine .dat ?_ fun _ z => z
  exact (h1 i v _ e1 (List.getElem?_eq_getElem hi)).freeze f1 (more_keep e) fun p hp => more_in ((h4 p).mpr ⟨i, hp⟩)
end
section
variable {X : Cx} {W : Wz} {e : Expr} {es : List Expr} {pos p : Pos} {x : Str} {k j : Nat} {ps : List Str} {m : List OD → FOut}
end
end VL
namespace VL
open PySem L2
section
variable {K : PySem.W.Frag} {cg : Cg} {W : WX} {pvs : Pv} {g : Gm} {σ : L2.St} {S S1 S' A : Addr → Prop} {F F1 F' H H1 H' : Hp}
noncomputable def cmpW (is : List Nat) (tg : Tg) (mt : Gm → Out Bool) (me : Gm → Out PyData) (i : Nat) (ds0 : List PyData) : List PyData → List PyData → Gm → Out (List PyData)
  | [], acc, g => cIf ((gt g i).od = some (.lst ds0)) (.ok acc g) .stk
  | d :: ds, acc, g => cIf ((gt g i).od = some (.lst ds0)) (match cmpM is tg mt me [d] acc g with
    | .ok acc' g' => cmpW is tg mt me i ds0 ds acc' g'
    | _ => .stk) .stk
noncomputable def oCompW (is : List Nat) (tg : Tg) (mt : Gm → Out Bool) (me : Gm → Out PyData) (i : Nat) (g : Gm) : Out OD :=
  match (gt g i).od with
  | some (.lst ds) => cEnd is g (cmpW is tg mt me i ds ds [] (VL.kl is g))
  | some (.dat (.list ds)) => cEnd is g (cmpM is tg mt me ds [] (VL.kl is g))
  | _ => .stk
end
section
variable {X : Cx} {W : Wz} {elt tg a : Expr} {ifs : List Expr} {scope : Scope} {pos p2 : Pos} {n : Tg} {ts : List Nat} {mt : Gm → Out Bool} {me : Gm → Out PyData} {x : Str}
end
end VL
namespace VL
open PySem L2
section
variable {K : PySem.W.Frag} {cg : Cg} {W : WX} {pvs : Pv} {g : Gm} {σ : L2.St} {S S1 S' A : Addr → Prop} {F F1 F' H H1 H' : Hp}
end
section
variable {X : Cx} {W : Wz} {o e : Expr} {es : List Expr} {name : Str} {apos cpos : Pos} {T id : String} {r : V → List V → Hp → VK → Prop} {f : PyData → List PyData → Option OD} {me : Gm → Out PyData} {ma : Gm → Out (List PyData)}
end
theorem tru_n : tru .none = some false := rfl
theorem tru_i (i : Int) : tru (.int i) = some (i != 0) := rfl
theorem tru_b (i : Bool) : tru (.bool i) = some i := rfl
theorem tru_t (ds : List PyData) : tru (.tuple ds) = some (!ds.isEmpty) := rfl
theorem tru_l (ds : List PyData) : tru (.list ds) = some (!ds.isEmpty) := rfl
end VL
namespace VL
open PySem L2
/-! ### keys -/
def keyOf : PyData → Option Key
  | .int i => some (.inl i)
  | .str x => some (.inr x)
  | _ => none
section
variable {κ : Type} [DecidableEq κ]
def valD (kvs : List (κ × PyData)) (k : κ) : Option PyData := (kvs.find? fun kv => decide (kv.1 = k)).map (·.2)
def putD (kvs : List (κ × PyData)) (k : κ) (v : PyData) : List (κ × PyData) :=
  if (kvs.any fun kv => decide (kv.1 = k)) = true then kvs.map (fun kv => if kv.1 = k then (kv.1, v) else kv) else kvs ++ [(k, v)]
abbrev KD (K : PySem.W.Frag) (F : Hp) : List (κ × V) → List (κ × PyData) → Prop := Paired fun p q => p.1 = q.1 ∧ Dq K F p.2 q.2
variable {K : PySem.W.Frag} {F F' : Hp}
theorem KD.mo {kvs : List (κ × V)} {kds : List (κ × PyData)} (h : KD K F kvs kds) (e : Same F F') : KD K F' kvs kds := by
  induction h with
  | nil => exact .nil
  | cons h t ih => exact .cons ⟨h.1, dp_mo h.2 e⟩ ih
theorem KD.val {kvs : List (κ × V)} {kds : List (κ × PyData)} (h : KD K F kvs kds) (k : κ) : (valV kvs k = none ∧ valD kds k = none) ∨ ∃ v d, valV kvs k = some v ∧ valD kds k = some d ∧ Dq K F v d := by
  induction h with
  | nil => exact .inl ⟨rfl, rfl⟩
  | @cons p q ps qs h t ih =>
    by_cases e : p.1 = k
    · have e' : q.1 = k := h.1.symm.trans e
      exact .inr ⟨p.2, q.2, valV_pos e, by simp [valD, e'], h.2⟩
    · have e' : ¬ q.1 = k := fun z => e (h.1.trans z)
      have a : valD (q :: qs) k = valD qs k := by simp [valD, e']
      rw [valV_neg e, a]
      exact ih
theorem KD.any {kvs : List (κ × V)} {kds : List (κ × PyData)} (h : KD K F kvs kds) (k : κ) : (kvs.any fun kv => decide (kv.1 = k)) = kds.any fun kv => decide (kv.1 = k) := by
  induction h with
  | nil => rfl
  | @cons p q ps qs h t ih => rw [List.any_cons, List.any_cons, ih, h.1]
theorem KD.len {kvs : List (κ × V)} {kds : List (κ × PyData)} (h : KD K F kvs kds) : kvs.length = kds.length := Paired.length h
theorem KD.repl {kvs : List (κ × V)} {kds : List (κ × PyData)} (h : KD K F kvs kds) (k : κ) {v : V} {d : PyData} (hd : Dq K F v d) : KD K F (kvs.map fun kv => if kv.1 = k then (kv.1, v) else kv) (kds.map fun kv => if kv.1 = k then (kv.1, d) else kv) := by
  induction h with
  | nil => exact .nil
  | @cons p q ps qs h t ih =>
    rw [List.map_cons, List.map_cons]
    refine .cons ?_ ih
    by_cases e : p.1 = k
    · rw [if_pos e, if_pos (h.1.symm.trans e)]
      exact ⟨h.1, hd⟩
    · rw [if_neg e, if_neg (fun z => e (h.1.trans z))]
      exact h
theorem KD.put {kvs : List (κ × V)} {kds : List (κ × PyData)} (h : KD K F kvs kds) (k : κ) {v : V} {d : PyData} (hd : Dq K F v d) : KD K F (putK kvs k v) (putD kds k d) := by
  unfold putK putD
  rw [h.any k]
  by_cases e : (kds.any fun kv => decide (kv.1 = k)) = true
  · rw [if_pos e, if_pos e]
    exact h.repl k hd
  · rw [if_neg e, if_neg e]
    exact Paired.snoc h ⟨rfl, hd⟩
end
section
variable {X : Cx} {o i e f : Expr} {apos cpos pos : Pos} {td ty tx : TE}
end
section
variable {K : PySem.W.Frag} {cg : Cg} {W : WX} {pvs : Pv} {g : Gm} {σ : L2.St} {S S1 S' A : Addr → Prop} {F F1 F' H H1 H' : Hp}
end
end VL
namespace VL
open PySem PySem.Spec PyProof.Rows L2
section
variable {K : PySem.W.Frag} {cg : Cg} {W : WX}
end
section
variable {X : Cx} {W : Wz} {e f : Expr} {pos apos cpos p p2 pos' : Pos} {x : Str}
end
end VL
namespace VL
open PySem L2
section
variable {κ : Type} [DecidableEq κ]
def ixOf : List κ → κ → Option Nat
  | [], _ => none
  | x :: r, k => if x = k then some 0 else (ixOf r k).map (· + 1)
theorem ixOf_lt : ∀ {l : List κ} {k : κ} {j : Nat}, ixOf l k = some j → j < l.length
  | [], _, _, h => by cases h
  | x :: r, k, j, h => by
    unfold ixOf at h
    split at h
    · cases h
      simp
    · obtain ⟨i, hi, rfl⟩ := Option.map_eq_some_iff.mp h
      have := ixOf_lt hi
      simp
      omega
theorem ixOf_val : ∀ {l : List κ} {vs : List V} {k : κ} {j : Nat} {v : V}, ixOf l k = some j → vs[j]? = some v → valV (l.zip vs) k = some v
  | [], _, _, _, _, h, _ => by cases h
  | x :: r, [], _, _, _, _, e => by simp at e
  | x :: r, w :: vs, k, j, v, h, e => by
    unfold ixOf at h
    split at h
    · rename_i hx
      cases h
      simp at e
      subst e
      exact valV_pos hx
    · rename_i hx
      obtain ⟨i, hi, rfl⟩ := Option.map_eq_some_iff.mp h
      show valV ((x, w) :: r.zip vs) k = some v
      rw [valV_neg hx]
      exact ixOf_val hi (by simpa using e)
end
theorem ixOf_look : ∀ {l : List Str} {vs : List V} {k : Str} {j : Nat} {v : V}, ixOf l k = some j → vs[j]? = some v → (l.zip vs).lookup k = some v
  | [], _, _, _, _, h, _ => by cases h
  | x :: r, [], _, _, _, _, e => by simp at e
  | x :: r, w :: vs, k, j, v, h, e => by
    unfold ixOf at h
    split at h
    · rename_i hx
      cases h
      simp at e
      subst e
      simp [List.lookup, hx]
    · rename_i hx
      obtain ⟨i, hi, rfl⟩ := Option.map_eq_some_iff.mp h
      have hx' : (k == x) = false := by
        rw [beq_eq_false_iff_ne]
        exact fun z => hx z.symm
      simp only [List.zip_cons_cons, List.lookup, hx']
      exact ixOf_look hi (by simpa using e)
/-! ### parts -/
structure Pts (K : PySem.W.Frag) (cg : Str → Option Value) (F H : Hp) (vs : List V) (os : List OD) (L : Nat → Addr → Prop) : Prop where
  len : vs.length = os.length
  ow : ∀ (i : Nat) (v : V) (o : OD), vs[i]? = some v → os[i]? = some o → Ow K cg F H v o (L i)
  dj : ∀ i j q, i ≠ j → L i q → L j q → False
  out : ∀ i q, os.length ≤ i → ¬ L i q
section
variable {K : PySem.W.Frag} {cg : Str → Option Value} {F F' H H' : Hp} {vs : List V} {os : List OD} {L : Nat → Addr → Prop}
theorem Pts.at (P : Pts K cg F H vs os L) {i : Nat} {q : Addr} (h : L i q) : F q = none ∧ (∃ u, H q = some u) ∧ ¬ Nw H q := by
  have hi : i < os.length := by
    rcases Nat.lt_or_ge i os.length with z | z
    · exact z
    · exact absurd h (P.out i q z)
  have w := P.ow i (vs[i]'(by rw [P.len]; exact hi)) (os[i]) (List.getElem?_eq_getElem (by rw [P.len]; exact hi)) (List.getElem?_eq_getElem hi)
  exact ⟨(w.at h).1, (w.at h).2, w.nn h⟩
/-- what a step at the part j leaves as it is -/
theorem Pts.other {B B' : Addr → Prop} (st : Stp B F H B' F' H') {q : Addr} (h0 : F q = none) (h1 : ∃ u, H q = some u) (h2 : ¬ Nw H q) (hb : ¬ B q) : H' q = H q ∧ F' q = none ∧ ¬ B' q := by
  obtain ⟨u, hu⟩ := h1
  refine ⟨by rw [hu, st.keep q u hb hu], ?_, fun z => ?_⟩
  · cases e : F' q with
    | none => rfl
    | some z =>
      rcases st.nw q z e with ⟨y, hy⟩ | y | y
      · rw [h0] at hy
        cases hy
      · exact absurd y h2
      · exact absurd y hb
  · rcases st.fp q z with y | y
    · exact hb y
    · rw [hu] at y
      cases y
theorem Pts.step (P : Pts K cg F H vs os L) {j : Nat} {B' : Addr → Prop} {w : V} {o' : OD} (st : Stp (L j) F H B' F' H') (hw : vs[j]? = some w) (ow : Ow K cg F' H' w o' B') : Pts K cg F' H' vs (os.set j o') (fun i => if i = j then B' else L i) := by
  refine ⟨by rw [List.length_set]; exact P.len, fun i v o e1 e2 => ?_, fun i k q hik hi hk => ?_, fun i q hi => ?_⟩
  · by_cases z : i = j
    · subst z
      simp only [if_true]
      rw [hw] at e1
      cases e1
      have hj : i < os.length := by
        have := (List.getElem?_eq_some_iff.mp e2).1
        simpa using this
      rw [List.getElem?_set_self hj] at e2
      cases e2
      exact ow
    · simp only [if_neg z]
      rw [List.getElem?_set_ne (Ne.symm z)] at e2
      have b := P.ow i v o e1 e2
      have ot : ∀ q, L i q → H' q = H q ∧ F' q = none ∧ ¬ B' q := fun q hq => by
        obtain ⟨a1, a2, a3⟩ := P.at hq
        exact Pts.other st a1 a2 a3 fun y => P.dj i j q z hq y
      exact b.mo st.fr (fun q hq => (ot q hq).1) fun q hq => (ot q hq).2.1
  · have cross : ∀ i, i ≠ j → L i q → B' q → False := fun i hij hi hb => by
      obtain ⟨a1, a2, a3⟩ := P.at hi
      exact (Pts.other st a1 a2 a3 fun y => P.dj i j q hij hi y).2.2 hb
    by_cases z : i = j
    · subst z
      simp only [if_true] at hi
      by_cases y : k = i
      · exact hik y.symm
      · simp only [if_neg y] at hk
        exact cross k y hk hi
    · simp only [if_neg z] at hi
      by_cases y : k = j
      · subst y
        simp only [if_true] at hk
        exact cross i z hi hk
      · simp only [if_neg y] at hk
        exact P.dj i k q hik hi hk
  · rw [List.length_set] at hi
    by_cases z : i = j
    · subst z
      have : i < os.length := by
        have := (List.getElem?_eq_some_iff.mp hw).1
        rw [P.len] at this
        exact this
      omega
    · simp only [if_neg z]
      exact P.out i q hi
/-- a part of a node that is owned -/
theorem Ow.part {A : Addr → Prop} {v : V} {k : Kd} {j : Nat} {o : OD} (h : Ow K cg F H v (.nd k os) A) (hj : os[j]? = some o) : ∃ (p : Addr) (vs : List V) (w : V) (B : Addr → Prop), v = .ref p ∧ Shp cg H p k vs ∧ vs.length = os.length ∧ vs[j]? = some w ∧ Ow K cg F H w o B ∧ (∀ q, B q → A q) ∧ ¬ B p ∧
    ∀ o' B' F' H', Stp B F H B' F' H' → Ow K cg F' H' w o' B' → ∃ A', Ow K cg F' H' v (.nd k (os.set j o')) A' ∧ Stp A F H A' F' H' := by
  cases h with
  | @nd p k vs os L A h1 h2 h3 h4 h5 h6 h7 h8 =>
    have P : Pts K cg F H vs os L := ⟨h3, h4, h5, h7⟩
    have hlt : j < os.length := (List.getElem?_eq_some_iff.mp hj).1
    have hw : vs[j]? = some (vs[j]'(by omega)) := List.getElem?_eq_getElem (by omega)
    refine ⟨p, vs, _, L j, rfl, h1, h3, hw, h4 j _ o hw hj, fun q hq => (h8 q).mpr (.inr ⟨j, hq⟩), h6 j, fun o' B' F' H' st ow => ?_⟩
    have P' := P.step st hw ow
    have own : Ow K cg F H (.ref p) (.nd k os) A := .nd h1 h2 h3 h4 h5 h6 h7 h8
    have hp := (h8 p).mpr (.inl rfl)
    obtain ⟨p1, p2, p3⟩ := Pts.other st h2 (own.at hp).2 (own.nn hp) (h6 j)
    refine ⟨fun q => q = p ∨ ∃ i, (if i = j then B' else L i) q, .nd (L := fun i => if i = j then B' else L i) ?_ p2 P'.len P'.ow P'.dj (fun i hi => ?_) P'.out fun _ => Iff.rfl, ?_⟩
    · cases k with
      | ins c names =>
        obtain ⟨C, dx, z, e, l⟩ := h1
        exact ⟨C, dx, z, p1.trans e, l⟩
      | dk keys => exact ⟨p1.trans h1.1, h1.2⟩
      | ls => exact p1.trans h1
      | tp => exact h1.elim
    · by_cases z : i = j
      · simp only [if_pos z] at hi
        exact p3 hi
      · simp only [if_neg z] at hi
        exact h6 i hi
    · refine ⟨fun q u hq e => st.keep q u (fun z => hq ((h8 q).mpr (.inr ⟨j, z⟩))) e, st.fr, fun q u e => (st.nw q u e).imp id fun z => z.imp id fun y => (h8 q).mpr (.inr ⟨j, y⟩), fun q hq => ?_, st.fh⟩
      rcases hq with hq | ⟨i, hi⟩
      · exact .inl ((h8 q).mpr (.inl hq))
      · by_cases z : i = j
        · simp only [if_pos z] at hi
          exact (st.fp q hi).imp (fun y => (h8 q).mpr (.inr ⟨j, y⟩)) id
        · simp only [if_neg z] at hi
          exact .inl ((h8 q).mpr (.inr ⟨i, hi⟩))
/-- a part of a node that is frozen -/
theorem Ow.partF {A : Addr → Prop} {v : V} {k : Kd} {j : Nat} {o : OD} (h : Ow K cg F H v (.fz k os) A) (hj : os[j]? = some o) : ∃ (p : Addr) (vs : List V) (w : V) (B : Addr → Prop), v = .ref p ∧ ShpF cg F p k vs ∧ vs.length = os.length ∧ vs[j]? = some w ∧ Ow K cg F H w o B ∧ (∀ q, B q → A q) ∧
    ∀ o' B' F' H', Stp B F H B' F' H' → Ow K cg F' H' w o' B' → ∃ A', Ow K cg F' H' v (.fz k (os.set j o')) A' ∧ Stp A F H A' F' H' := by
  cases h with
  | @fz p k vs os L A h1 h3 h4 h5 h7 h8 =>
    have P : Pts K cg F H vs os L := ⟨h3, h4, h5, h7⟩
    have hlt : j < os.length := (List.getElem?_eq_some_iff.mp hj).1
    have hw : vs[j]? = some (vs[j]'(by omega)) := List.getElem?_eq_getElem (by omega)
    refine ⟨p, vs, _, L j, rfl, h1, h3, hw, h4 j _ o hw hj, fun q hq => (h8 q).mpr ⟨j, hq⟩, fun o' B' F' H' st ow => ?_⟩
    have P' := P.step st hw ow
    refine ⟨fun q => ∃ i, (if i = j then B' else L i) q, .fz (L := fun i => if i = j then B' else L i) (h1.mo st.fr) P'.len P'.ow P'.dj P'.out fun _ => Iff.rfl, ?_⟩
    refine ⟨fun q u hq e => st.keep q u (fun z => hq ((h8 q).mpr ⟨j, z⟩)) e, st.fr, fun q u e => (st.nw q u e).imp id fun z => z.imp id fun y => (h8 q).mpr ⟨j, y⟩, fun q hq => ?_, st.fh⟩
    obtain ⟨i, hi⟩ := hq
    by_cases z : i = j
    · simp only [if_pos z] at hi
      exact (st.fp q hi).imp (fun y => (h8 q).mpr ⟨j, y⟩) id
    · simp only [if_neg z] at hi
      exact .inl ((h8 q).mpr ⟨i, hi⟩)
end
/-! ### places -/
inductive Pl where
  | s (i : Nat)
  | a (k : Nat)
  | f (i : Nat) (c n : Str)
  | k (i : Nat) (x : Key)
def plOd (g : Gm) : Pl → Option OD
  | .s i => (gt g i).od
  | .a k => match gt g k with
    | .al i j => match gt g i with
      | .pin (.fz _ os) => os[j]?
      | _ => none
    | _ => none
  | .f i c n => match (gt g i).od with
    | some (.nd (.ins c' names) os) => if c' = c then (match ixOf names n with
      | some j => os[j]?
      | none => none) else none
    | _ => none
  | .k i x => match (gt g i).od with
    | some (.fz (.dk keys) os) => match ixOf keys x with
      | some j => os[j]?
      | none => none
    | _ => none
def plPut (g : Gm) (o : OD) : Pl → Gm
  | .s i => st g i ((gt g i).with o)
  | .a k => match gt g k with
    | .al i j => match gt g i with
      | .pin (.fz kd os) => st g i (.pin (.fz kd (os.set j o)))
      | _ => g
    | _ => g
  | .f i _ n => match (gt g i).od with
    | some (.nd (.ins c' names) os) => match ixOf names n with
      | some j => st g i ((gt g i).with (.nd (.ins c' names) (os.set j o)))
      | none => g
    | _ => g
  | .k i x => match (gt g i).od with
    | some (.fz (.dk keys) os) => match ixOf keys x with
      | some j => st g i ((gt g i).with (.fz (.dk keys) (os.set j o)))
      | none => g
    | _ => g
/-- the value that stands in a place -/
def PlV (cg : Str → Option Value) (σ : L2.St) (H : Hp) (v : V) : Pl → Prop
  | .s i => σ[i]? = some (some v)
  | .a k => σ[k]? = some (some v)
  | .f i c n => ∃ p C dx fs, σ[i]? = some (some (.ref p)) ∧ cg c = some (.ref C) ∧ H p = some (.ins C dx fs) ∧ fs.lookup n = some v
  | .k i x => ∃ p kvs, σ[i]? = some (some (.ref p)) ∧ H p = some (.dK kvs) ∧ valV kvs x = some v
theorem PlV.keep {cg : Str → Option Value} {σ : L2.St} {H H' : Hp} {v : V} {pl : Pl} (h : PlV cg σ H v pl) (e : Same H H') : PlV cg σ H' v pl := by
  cases pl with
  | s i => exact h
  | a k => exact h
  | f i c n =>
    obtain ⟨p, C, dx, fs, h1, h2, h3, h4⟩ := h
    exact ⟨p, C, dx, fs, h1, h2, e _ _ h3, h4⟩
  | k i x =>
    obtain ⟨p, kvs, h1, h2, h3⟩ := h
    exact ⟨p, kvs, h1, e _ _ h2, h3⟩
theorem PlV.uniq {cg : Str → Option Value} {σ : L2.St} {H : Hp} {v v' : V} {pl : Pl} (h : PlV cg σ H v pl) (h' : PlV cg σ H v' pl) : v = v' := by
  cases pl with
  | s i =>
    have := (show σ[i]? = some (some v) from h).symm.trans (show σ[i]? = some (some v') from h')
    cases this
    rfl
  | a k =>
    have := (show σ[k]? = some (some v) from h).symm.trans (show σ[k]? = some (some v') from h')
    cases this
    rfl
  | f i c n =>
    obtain ⟨p, C, dx, fs, h1, h2, h3, h4⟩ := h
    obtain ⟨p', C', dx', fs', h1', h2', h3', h4'⟩ := h'
    rw [h1] at h1'
    cases h1'
    rw [h3] at h3'
    cases h3'
    rw [h4] at h4'
    cases h4'
    rfl
  | k i x =>
    obtain ⟨p, kvs, h1, h2, h3⟩ := h
    obtain ⟨p', kvs', h1', h2', h3'⟩ := h'
    rw [h1] at h1'
    cases h1'
    rw [h2] at h2'
    cases h2'
    rw [h3] at h3'
    cases h3'
    rfl
section
variable {K : PySem.W.Frag} {cg : Cg} {W : WX} {pvs : Pv} {g : Gm} {σ : L2.St} {S S1 S' A : Addr → Prop} {F F1 F' H H1 H' : Hp}
theorem Rel.takeP {pl : Pl} {o : OD} (r : Rel K cg pvs g σ S F H) (e : plOd g pl = some o) : ∃ (v : V) (A : Addr → Prop), PlV cg σ H v pl ∧ Ow K cg F H v o A ∧ (∀ q, A q → S q) ∧
    ∀ o' A' F' H', Stp A F H A' F' H' → Ow K cg F' H' v o' A' → ∃ S', Rel K cg pvs (plPut g o' pl) σ S' F' H' ∧ Stp S F H S' F' H' := by
  cases pl with
  | s i =>
    obtain ⟨v, A, S1, e1, ow, hS, hd, back⟩ := r.take e
    exact ⟨v, A, e1, ow, fun q hq => (hS q).mpr (.inl hq), fun o' A' F' H' st w => ⟨_, back o' A' F' H' st w⟩⟩
  | f i c n =>
    simp only [plOd] at e
    split at e
    · rename_i c' names os eo
      split at e
      · rename_i ec
        split at e
        · rename_i j ej
          obtain ⟨v, A, S1, e1, ow, hS, hd, back⟩ := r.take eo
          obtain ⟨p, vs, w, B, rfl, sh, hl, hw, owp, hB, _, bp⟩ := ow.part e
          obtain ⟨C, dx, z, hp, l⟩ := sh
          refine ⟨w, B, ⟨p, C, dx, _, e1, by rw [← ec]; exact z, hp, ixOf_look ej hw⟩, owp, fun q hq => (hS q).mpr (.inl (hB q hq)), fun o' A' F' H' st w' => ?_⟩
          obtain ⟨A2, ow2, st2⟩ := bp o' A' F' H' st w'
          have b := back _ A2 F' H' st2 ow2
          refine ⟨_, ?_, b.2⟩
          have eg : plPut g o' (.f i c n) = VL.st g i ((gt g i).with (.nd (.ins c' names) (os.set j o'))) := by simp only [plPut, eo, ej]
          rw [eg]
          exact b.1
        · cases e
      · cases e
    · cases e
  | k i x =>
    simp only [plOd] at e
    split at e
    · rename_i keys os eo
      split at e
      · rename_i j ej
        obtain ⟨v, A, S1, e1, ow, hS, hd, back⟩ := r.take eo
        obtain ⟨p, vs, w, B, rfl, sh, hl, hw, owp, hB, bp⟩ := ow.partF e
        obtain ⟨hp, l⟩ := sh
        refine ⟨w, B, ⟨p, _, e1, r.fh _ _ hp, ixOf_val ej hw⟩, owp, fun q hq => (hS q).mpr (.inl (hB q hq)), fun o' A' F' H' st w' => ?_⟩
        obtain ⟨A2, ow2, st2⟩ := bp o' A' F' H' st w'
        have b := back _ A2 F' H' st2 ow2
        refine ⟨_, ?_, b.2⟩
        have eg : plPut g o' (.k i x) = VL.st g i ((gt g i).with (.fz (.dk keys) (os.set j o'))) := by simp only [plPut, eo, ej]
        rw [eg]
        exact b.1
      · cases e
    · cases e
  | a k =>
    simp only [plOd] at e
    split at e
    · rename_i i j ek
      split at e
      · rename_i kd os eo
        have eo' : (gt g i).od = some (.fz kd os) := by rw [eo]; rfl
        obtain ⟨v, A, S1, e1, ow, hS, hd, back⟩ := r.take eo'
        obtain ⟨p, vs, w, B, rfl, sh, hl, hw, owp, hB, bp⟩ := ow.partF e
        obtain ⟨L, h1, h2, h3⟩ := r.ex
        have hi := h1 i
        unfold SlOk at hi
        rw [eo] at hi
        obtain ⟨v', e1', pv', _⟩ := hi
        rw [e1] at e1'
        cases e1'
        have hk := h1 k
        unfold SlOk at hk
        rw [ek] at hk
        obtain ⟨⟨u, p', k', vs', f1, f2, f3, f4⟩, _⟩ := hk
        rw [pv'] at f2
        cases f2
        have evs : u = w := by
          have key : ∀ (q1 q2 : List V), vs'[j]? = q1[j]? → vs[j]? = q2[j]? → q1 = q2 → u = w := fun q1 q2 a b c => by
            rw [f4] at a
            rw [hw] at b
            subst c
            rw [← a] at b
            cases b
            rfl
          cases kd with
          | ls =>
            cases k' with
            | ls =>
              have := (show F p = some (.lst vs) from sh).symm.trans (show F p = some (.lst vs') from f3)
              cases this
              exact key vs vs rfl rfl rfl
            | tp =>
              have := (show F p = some (.lst vs) from sh).symm.trans (show F p = some (.tup vs') from f3)
              cases this
            | dk ks =>
              have := (show F p = some (.lst vs) from sh).symm.trans f3.1
              cases this
            | ins c ns =>
              obtain ⟨C, dx, _, z, _⟩ := f3
              have := (show F p = some (.lst vs) from sh).symm.trans z
              cases this
          | tp =>
            cases k' with
            | tp =>
              have := (show F p = some (.tup vs) from sh).symm.trans (show F p = some (.tup vs') from f3)
              cases this
              exact key vs vs rfl rfl rfl
            | ls =>
              have := (show F p = some (.tup vs) from sh).symm.trans (show F p = some (.lst vs') from f3)
              cases this
            | dk ks =>
              have := (show F p = some (.tup vs) from sh).symm.trans f3.1
              cases this
            | ins c ns =>
              obtain ⟨C, dx, _, z, _⟩ := f3
              have := (show F p = some (.tup vs) from sh).symm.trans z
              cases this
          | dk keys =>
            cases k' with
            | dk ks =>
              have z := sh.1.symm.trans f3.1
              injection z with z
              injection z with z
              have a1 := congrArg (List.map Prod.snd) z
              rw [List.map_snd_zip (by rw [sh.2]; exact Nat.le_refl _), List.map_snd_zip (by rw [f3.2]; exact Nat.le_refl _)] at a1
              exact key vs' vs rfl rfl a1.symm
            | ls =>
              have := sh.1.symm.trans (show F p = some (.lst vs') from f3)
              cases this
            | tp =>
              have := sh.1.symm.trans (show F p = some (.tup vs') from f3)
              cases this
            | ins c ns =>
              obtain ⟨C, dx, _, z, _⟩ := f3
              have := sh.1.symm.trans z
              cases this
          | ins c ns =>
            obtain ⟨C, dx, _, y, yl⟩ := sh
            cases k' with
            | ins c' ns' =>
              obtain ⟨C', dx', _, z, zl⟩ := f3
              have z := y.symm.trans z
              injection z with z
              injection z with _ _ z
              have a1 := congrArg (List.map Prod.snd) z
              rw [List.map_snd_zip (by rw [yl]; exact Nat.le_refl _), List.map_snd_zip (by rw [zl]; exact Nat.le_refl _)] at a1
              exact key vs' vs rfl rfl a1.symm
            | ls =>
              have := y.symm.trans (show F p = some (.lst vs') from f3)
              cases this
            | tp =>
              have := y.symm.trans (show F p = some (.tup vs') from f3)
              cases this
            | dk ks =>
              have := y.symm.trans f3.1
              cases this
        subst evs
        refine ⟨u, B, f1, owp, fun q hq => (hS q).mpr (.inl (hB q hq)), fun o' A' F' H' st w' => ?_⟩
        obtain ⟨A2, ow2, st2⟩ := bp o' A' F' H' st w'
        have b := back _ A2 F' H' st2 ow2
        rw [eo] at b
        refine ⟨_, ?_, b.2⟩
        have eg : plPut g o' (.a k) = VL.st g i (.pin (.fz kd (os.set j o'))) := by simp only [plPut, ek, eo]
        rw [eg]
        exact b.1
      · cases e
    · cases e
/-- t reads the place -/
def RdPl (K : PySem.W.Frag) (cg : Cg) (t : TE) (pl : Pl) : Prop := ∀ σ H Q v, PlV cg σ H v pl → Q v H → t σ H Q
/-- a class of the text, for its attribute n -/
def AK (K : PySem.W.Frag) (mg : Str → Option Value) (c n : Str) : Prop := ∃ C, mg c = some (.ref C) ∧ L2.Cls K C ∧ NoAttr K C n
theorem rd_f {c n : Str} (i : Nat) (hc : AK K cg c n) : RdPl K cg (tFld K (tVar i) n) (.f i c n) := fun σ H Q v h q => by
  obtain ⟨p, C, dx, fs, h1, h2, h3, h4⟩ := h
  obtain ⟨C', z, cl, na⟩ := hc
  rw [h2] at z
  cases z
  exact ⟨_, h1, p, C, dx, fs, v, rfl, h3, cl, na, h4, q⟩
/-! ### reading -/
def wP (pl : Pl) (g : Gm) : Res PyData :=
  match plOd g pl with
  | some (.dat d) => .ok d
  | some (.lst ds) => .ok (.list ds)
  | _ => .stk
theorem rw_pl {t : TE} {pl : Pl} (rd : RdPl K cg t pl) : RW K cg W t (wP pl) := fun pvs g σ S F H Q r q => by
  unfold wP at q
  split at q
  · rename_i d e
    obtain ⟨v, A, pv, ow, _⟩ := r.takeP e
    cases ow with
    | dat hd _ => exact rd σ H Q v pv (q v F H (.refl r.fh) (hd.vw r.fh))
  · rename_i ds e
    obtain ⟨v, A, pv, ow, _⟩ := r.takeP e
    cases ow with
    | lst a1 a2 a3 a4 => exact rd σ H Q _ pv (q _ F H (.refl r.fh) ⟨_, _, rfl, a1, a3⟩)
  · exact q.elim
/-- the list in a place -/
theorem Rel.lstP {pl : Pl} {ds : List PyData} (r : Rel K cg pvs g σ S F H) (e : plOd g pl = some (.lst ds)) : ∃ p vs, PlV cg σ H (.ref p) pl ∧ H p = some (.lst vs) ∧ DqA K F vs ds ∧
    ∀ vs' ds', DqA K F vs' ds' → ∃ S', Rel K cg pvs (plPut g (.lst ds') pl) σ S' F (upd H p (.lst vs')) ∧ Stp S F H S' F (upd H p (.lst vs')) := by
  obtain ⟨v, A, pv, ow, hs, back⟩ := r.takeP e
  cases ow with
  | @lst p vs ds _ h1 h2 h3 h4 =>
    refine ⟨p, vs, pv, h1, h3, fun vs' ds' h' => ?_⟩
    have s0 := stp_upd (o := .lst vs') r.fh h2
    have s1 : Stp A F H (fun q => q = p) F (upd H p (.lst vs')) := ⟨fun b u hb hh => s0.keep b u (fun z => hb ((h4 b).mpr z)) hh, s0.fr, fun b u hh => .inl ⟨u, hh⟩, fun b hb => .inl ((h4 b).mpr hb), s0.fh⟩
    exact back (.lst ds') (fun q => q = p) F _ s1 (.lst upd_same h2 h' fun _ => Iff.rfl)
/-! ### x[i] = e -/
def sSetP (pl : Pl) (mi : Gm → Res PyData) (me : Gm → Out PyData) (g : Gm) : SOut :=
  match me g with
  | .ok d g1 => match plOd g1 pl with
    | some (.lst ds) => match mi g1 with
      | .ok (.int n) => match ixN ds.length n with
        | some j => .nx (plPut g1 (.lst (ds.set j d)) pl)
        | none => .stk
      | .err e => .err e g1
      | _ => .stk
    | _ => .stk
  | .err e g1 => .err e g1
  | .stk => .stk
theorem rs_setP {to te ti : TE} {me : Gm → Out PyData} {mi : Gm → Res PyData} {pl : Pl} (rd : RdPl K cg to pl) (he : RV K cg W te me) (hi : RW K cg W ti mi) : RS K cg W (tAsg te (gSub to ti rSetL)) (sSetP pl mi me) := fun pvs g σ S F H D r q => by
  refine he pvs g σ S F H _ r ?_
  unfold sSetP at q
  cases e1 : me g with
  | err e' g1 =>
    rw [e1] at q
    exact ErrS.p q
  | stk =>
    rw [e1] at q
    exact q.elim
  | ok d g1 =>
    rw [e1] at q
    intro v S1 F1 H1 s1 r1 d1
    simp only at q
    replace q := PoS.st q s1
    split at q
    · rename_i ds eo
      obtain ⟨p, vs, pv, h1, h2, back⟩ := r1.lstP eo
      refine rd σ H1 _ _ pv ?_
      refine hi pvs g1 σ S1 F1 H1 _ r1 ?_
      split at q
      · rename_i n em
        rw [em]
        intro iv F2 H2 p2 vi
        have ei := vi.int
        subst ei
        have eo2 : plOd g1 pl = some (.lst ds) := eo
        have r2 := r1.pst p2
        obtain ⟨p', vs', pv', h1', h2', back'⟩ := r2.lstP eo2
        have := (pv.keep p2.keep).uniq pv'
        cases this
        split at q
        · rename_i j ej
          obtain ⟨S3, r3, s3⟩ := back' _ _ (dpa_set (dp_mo d1 p2.fr) j h2')
          have hl : vs'.length = ds.length := dpa_len h2'
          exact ⟨p, vs', n, j, rfl, rfl, h1', by rw [hl]; exact ej, (PoS.st q p2.stp) σ S3 F2 _ s3 r3⟩
        · exact q.elim
      · rename_i e' em
        rw [em]
        intro C dop F' H' p2 hc hx
        exact (ErrS.p (σ := σ) q) C dop S1 F' H' p2.stp (r1.pst p2) hc hx
      · exact q.elim
    · exact q.elim
end
end VL
namespace VL
open PySem PySem.Spec PyProof.Rows L2
section
variable {K : PySem.W.Frag} {cg : Cg} {W : WX} {pvs : Pv} {g : Gm} {σ : L2.St} {S S1 S' A : Addr → Prop} {F F1 F' H H1 H' : Hp}
def sAugP (pl : Pl) (f : Int → Int → Int) (mi me : Gm → Res PyData) (g : Gm) : SOut :=
  match plOd g pl with
  | some (.lst ds) => match mi g with
    | .ok (.int n) => if 0 ≤ n then (match ds[n.toNat]? with
      | some (.int a) => match me g with
        | .ok (.int b) => .nx (plPut g (.lst (ds.set n.toNat (.int (f a b)))) pl)
        | .err e => .err e g
        | _ => .stk
      | _ => .stk) else .stk
    | .err e => .err e g
    | _ => .stk
  | _ => .stk
/-! ### x.n = e -/
theorem putF_set : ∀ {names : List Str} {vs : List V} {n : Str} {j : Nat} {y : V}, ixOf names n = some j → names.length = vs.length → putF n y (names.zip vs) = names.zip (vs.set j y)
  | [], _, _, _, _, h, _ => by cases h
  | x :: r, [], _, _, _, _, h => by simp at h
  | x :: r, w :: vs, n, j, y, h, hl => by
    unfold ixOf at h
    split at h
    · rename_i hx
      cases h
      simp [putF, hx]
    · rename_i hx
      obtain ⟨i, hi, rfl⟩ := Option.map_eq_some_iff.mp h
      have := putF_set (y := y) hi (by simpa using hl)
      simp [putF, hx, this]
theorem putF_new : ∀ {names : List Str} {vs : List V} {n : Str} {y : V}, ixOf names n = none → names.length = vs.length → putF n y (names.zip vs) = (names ++ [n]).zip (vs ++ [y])
  | [], [], _, _, _, _ => rfl
  | [], _ :: _, _, _, _, h => by simp at h
  | x :: r, [], _, _, _, h => by simp at h
  | x :: r, w :: vs, n, y, h, hl => by
    unfold ixOf at h
    split at h
    · cases h
    · rename_i hx
      have hi : ixOf r n = none := by simpa using h
      have := putF_new (y := y) hi (by simpa using hl)
      simp [putF, hx, this]
def sFldP (i : Nat) (c n : Str) (mo : Gm → Out OD) (g : Gm) : SOut :=
  match mo g with
  | .ok o g1 => match (gt g1 i).od with
    | some (.nd (.ins c' names) os) => if c' = c ∧ names.length < 900 then (match ixOf names n with
      | some j => .nx (st g1 i ((gt g1 i).with (.nd (.ins c names) (os.set j o))))
      | none => .nx (st g1 i ((gt g1 i).with (.nd (.ins c (names ++ [n])) (os ++ [o]))))) else .stk
    | _ => .stk
  | .err e g1 => .err e g1
  | .stk => .stk
/-- a new part beside the others -/
theorem Ow.newPart {B : Addr → Prop} {p : Addr} {k k' : Kd} {vs : List V} {os : List OD} {L : Nat → Addr → Prop} {w : V} {o' : OD} {u : HO} {j : Nat} (h2 : F p = none) (P : Pts K cg F H vs os L) (h6 : ∀ i, ¬ L i p) (hw : Ow K cg F H w o' B) (hB : ∀ q, B q → q ≠ p ∧ ∀ i, ¬ L i q) (e : Same F H) (hp : ∃ u, H p = some u)
    (sh : Shp cg (upd H p u) p k' (if j < vs.length then vs.set j w else vs ++ [w])) :
    Ow K cg F (upd H p u) (.ref p) (.nd k' (if j < os.length then os.set j o' else os ++ [o'])) (fun q => q = p ∨ ∃ i, (if i = (if j < os.length then j else os.length) then B else L i) q) := by
  have ne : ∀ q, q ≠ p → upd H p u q = H q := fun q hq => upd_ne hq
  have hl := P.len
  generalize hJ : (if j < os.length then j else os.length) = J
  have hval : ∀ (i : Nat) (v : V) (o : OD), (if j < vs.length then vs.set j w else vs ++ [w])[i]? = some v → (if j < os.length then os.set j o' else os ++ [o'])[i]? = some o → (i = J ∧ v = w ∧ o = o') ∨ (i ≠ J ∧ vs[i]? = some v ∧ os[i]? = some o) := by
    intro i v o e1 e2
    by_cases hj : j < os.length
    · rw [if_pos (by omega)] at e1
      rw [if_pos hj] at e2 hJ
      subst hJ
      by_cases z : i = j
      · subst z
        rw [List.getElem?_set_self (by omega)] at e1
        rw [List.getElem?_set_self hj] at e2
        cases e1
        cases e2
        exact .inl ⟨rfl, rfl, rfl⟩
      · rw [List.getElem?_set_ne (Ne.symm z)] at e1 e2
        exact .inr ⟨z, e1, e2⟩
    · rw [if_neg (by omega)] at e1
      rw [if_neg hj] at e2 hJ
      subst hJ
      by_cases z : i = os.length
      · subst z
        rw [← hl] at e1
        simp at e1
        simp at e2
        exact .inl ⟨rfl, e1.symm, e2.symm⟩
      · have hi : i < os.length + 1 := by
          have := (List.getElem?_eq_some_iff.mp e2).1
          simpa using this
        rw [List.getElem?_append_left (by omega)] at e1 e2
        exact .inr ⟨z, e1, e2⟩
  refine .nd (L := fun i => if i = J then B else L i) sh h2 ?_ (fun i v o e1 e2 => ?_) (fun i i' q hii hi hi' => ?_) (fun i hi => ?_) (fun i q hi => ?_) fun _ => Iff.rfl
  · by_cases hj : j < os.length
    · rw [if_pos hj, if_pos (by omega), List.length_set, List.length_set]
      exact hl
    · rw [if_neg hj, if_neg (by omega)]
      simp [hl]
  · rcases hval i v o e1 e2 with ⟨z, rfl, rfl⟩ | ⟨z, a1, a2⟩
    · simp only [if_pos z]
      exact hw.mo (fun _ _ h => h) (fun q hq => ne q (hB q hq).1) fun q hq => (hw.at hq).1
    · simp only [if_neg z]
      have b := P.ow i v o a1 a2
      exact b.mo (fun _ _ h => h) (fun q hq => ne q (fun y => h6 i (y ▸ hq))) fun q hq => (b.at hq).1
  · by_cases z : i = J
    · simp only [if_pos z] at hi
      by_cases y : i' = J
      · exact hii (z.trans y.symm)
      · simp only [if_neg y] at hi'
        exact (hB q hi).2 i' hi'
    · simp only [if_neg z] at hi
      by_cases y : i' = J
      · simp only [if_pos y] at hi'
        exact (hB q hi').2 i hi
      · simp only [if_neg y] at hi'
        exact P.dj i i' q hii hi hi'
  · by_cases z : i = J
    · simp only [if_pos z] at hi
      exact (hB p hi).1 rfl
    · simp only [if_neg z] at hi
      exact h6 i hi
  · by_cases z : i = J
    · exfalso
      by_cases hj : j < os.length
      · rw [if_pos hj] at hi hJ
        rw [List.length_set] at hi
        omega
      · rw [if_neg hj] at hi hJ
        simp at hi
        omega
    · simp only [if_neg z]
      refine P.out i q ?_
      by_cases hj : j < os.length
      · rw [if_pos hj, List.length_set] at hi
        exact hi
      · rw [if_neg hj] at hi
        simp at hi
        omega
/-- a slot is taken out; how something else in its place comes back -/
theorem Rel.swap {i : Nat} {o : OD} (r : Rel K cg pvs g σ S F H) (e : (gt g i).od = some o) : ∃ (v : V) (A S1 : Addr → Prop), σ[i]? = some (some v) ∧ Ow K cg F H v o A ∧ (∀ q, S q ↔ A q ∨ S1 q) ∧ (∀ q, A q → S1 q → False) ∧
    ∀ o' A' F' H', Same F F' → Same F' H' → (∀ q, S1 q → H' q = H q ∧ F' q = none) → (∀ q, A' q → S1 q → False) → Ow K cg F' H' v o' A' → Rel K cg pvs (VL.st g i ((gt g i).with o')) σ (fun q => A' q ∨ S1 q) F' H' := by
  obtain ⟨L, h1, h2, h3⟩ := r.ex
  have hi : i < g.length := gt_lt fun z => by
    rw [z] at e
    cases e
  have h := h1 i
  unfold SlOk at h
  have key : ∃ v, σ[i]? = some (some v) ∧ Ow K cg F H v o (L i) ∧ ∀ o' A' F' H', Ow K cg F' H' v o' A' → SlOk K cg F' H' pvs σ (VL.st g i ((gt g i).with o')) i A' := by
    cases q : gt g i with
    | no =>
      rw [q] at e
      cases e
    | al j n =>
      rw [q] at e
      cases e
    | xc =>
      rw [q] at e
      cases e
    | v o1 =>
      rw [q] at e h
      cases e
      obtain ⟨v, e1, h⟩ := h
      refine ⟨v, e1, h, fun o' A' F' H' w => ?_⟩
      unfold SlOk
      rw [gt_st hi]
      exact ⟨v, e1, w⟩
    | pin o1 =>
      rw [q] at e h
      cases e
      obtain ⟨v, e1, e2, h⟩ := h
      refine ⟨v, e1, h, fun o' A' F' H' w => ?_⟩
      unfold SlOk
      rw [gt_st hi]
      exact ⟨v, e1, e2, w⟩
  obtain ⟨v, e1, ow, back⟩ := key
  refine ⟨v, L i, fun q => ∃ j, j ≠ i ∧ L j q, e1, ow, fun q => ?_, fun q ha ⟨j, hj, hb⟩ => h2 j i q hj hb ha, fun o' A' F' H' eF fh' ot dj w => ?_⟩
  · refine ⟨fun hq => ?_, fun hq => ?_⟩
    · obtain ⟨j, hj⟩ := (h3 q).mp hq
      by_cases z : j = i
      · subst z
        exact .inl hj
      · exact .inr ⟨j, z, hj⟩
    · rcases hq with hq | ⟨j, _, hq⟩
      · exact (h3 q).mpr ⟨i, hq⟩
      · exact (h3 q).mpr ⟨j, hq⟩
  · refine ⟨fh', by rw [st_len]; exact r.len, r.z, fun j => if j = i then A' else L j, fun j => ?_, fun j k q hjk hj hk => ?_, fun q => ?_⟩
    · by_cases z : j = i
      · subst z
        simp only [if_true]
        exact back o' A' F' H' w
      · simp only [if_neg z]
        have b := (h1 j).mo eF (fun p hp => (ot p ⟨j, z, hp⟩).1) (fun p hp => (ot p ⟨j, z, hp⟩).2)
        unfold SlOk at b ⊢
        rw [gt_st_ne z]
        exact b
    · by_cases z : j = i
      · subst z
        simp only [if_true] at hj
        by_cases y : k = j
        · exact hjk y.symm
        · simp only [if_neg y] at hk
          exact dj q hj ⟨k, y, hk⟩
      · simp only [if_neg z] at hj
        by_cases y : k = i
        · subst y
          simp only [if_true] at hk
          exact dj q hk ⟨j, z, hj⟩
        · simp only [if_neg y] at hk
          exact h2 j k q hjk hj hk
    · refine ⟨fun hq => ?_, fun ⟨j, hj⟩ => ?_⟩
      · rcases hq with hq | ⟨j, hj, hq⟩
        · exact ⟨i, by simp only [if_true]; exact hq⟩
        · exact ⟨j, by simp only [if_neg hj]; exact hq⟩
      · by_cases z : j = i
        · subst z
          simp only [if_true] at hj
          exact .inl hj
        · simp only [if_neg z] at hj
          exact .inr ⟨j, z, hj⟩
theorem rs_fld {c n : Str} {i : Nat} {tv : TE} {mo : Gm → Out OD} (hc : AK K cg c n) (ho : RO K cg W tv mo) : RS K cg W (sFld K (tVar i) tv n) (sFldP i c n mo) := fun pvs g σ S F H D r q => by
  refine ho pvs g σ S F H _ r ?_
  unfold sFldP at q
  cases e : mo g with
  | err e' g1 =>
    rw [e] at q
    exact ErrS.p q
  | stk =>
    rw [e] at q
    exact q.elim
  | ok o g1 =>
    rw [e] at q
    intro y B S1 F1 H1 s1 r1 ow1 dj1
    simp only at q
    split at q
    · rename_i c' names os eo
      split at q
      · rename_i hcn
        obtain ⟨rfl, hlen⟩ := hcn
        obtain ⟨v, A, S2, e1, ow, hS, hd, back⟩ := r1.swap eo
        obtain ⟨C', z, cl, na⟩ := hc
        cases ow with
        | @nd p k vs os L A h1 h2 h3 h4 h5 h6 h7 h8 =>
          obtain ⟨C, dx, zc, hp, l⟩ := h1
          have ec : C' = C := by
            rw [zc] at z
            cases z
            rfl
          subst ec
          refine ⟨_, e1, p, C', dx, _, rfl, hp, cl, na, by rw [List.length_zip, l, Nat.min_self]; omega, ?_⟩
          have P : Pts K cg F1 H1 vs os L := ⟨h3, h4, h5, h7⟩
          have hB : ∀ q, B q → q ≠ p ∧ ∀ i, ¬ L i q := fun q hq => ⟨fun z => by
            subst z
            exact dj1 _ hq ((hS _).mpr (.inl ((h8 _).mpr (.inl rfl)))), fun i hi => dj1 q hq ((hS q).mpr (.inl ((h8 q).mpr (.inr ⟨i, hi⟩))))⟩
          have fin : ∀ (j : Nat) (ns : List Str) (os2 : List OD) (vs2 : List V), (if j < os.length then os.set j o else os ++ [o]) = os2 → (if j < vs.length then vs.set j y else vs ++ [y]) = vs2 → ns.length = vs2.length → putF n y (names.zip vs) = ns.zip vs2 →
              PoS K cg W pvs S F H D (.nx (st g1 i ((gt g1 i).with (.nd (.ins c' ns) os2)))) → D.nx σ (upd H1 p (.ins C' dx (putF n y (names.zip vs)))) := by
            intro j ns os2 vs2 eo2 ev2 el ep q
            have own := Ow.newPart (k' := .ins c' ns) (u := .ins C' dx (ns.zip vs2)) (j := j) (k := .ls) h2 P h6 ow1 hB r1.fh ⟨_, hp⟩ (by
              rw [ev2]
              exact ⟨C', dx, zc, upd_same, el⟩)
            rw [eo2] at own
            rw [ep]
            have u0 := stp_upd (o := .ins C' dx (ns.zip vs2)) r1.fh h2
            have pA : A p := (h8 p).mpr (.inl rfl)
            have nA : ∀ b, (b = p ∨ ∃ i, (if i = (if j < os.length then j else os.length) then B else L i) b) → A b ∨ B b := fun b hb => by
              rcases hb with hb | ⟨i', hb⟩
              · exact .inl ((h8 b).mpr (.inl hb))
              · by_cases y : i' = (if j < os.length then j else os.length)
                · rw [if_pos y] at hb
                  exact .inr hb
                · rw [if_neg y] at hb
                  exact .inl ((h8 b).mpr (.inr ⟨_, hb⟩))
            have r3 := back _ _ F1 _ (fun _ _ h => h) u0.fh (fun b hb => ⟨upd_ne fun z => hd b (z ▸ pA) hb, (r1.at ((hS b).mpr (.inr hb))).1⟩) (fun b hb hs => (nA b hb).elim (fun y => hd b y hs) fun y => dj1 b y ((hS b).mpr (.inr hs))) own
            refine q σ _ F1 _ ?_ r3
            refine s1.trans ⟨fun b u hb hh => u0.keep b u (fun z => hb (.inl ((hS b).mpr (.inl (z ▸ pA))))) hh, u0.fr, fun b u hh => .inl ⟨u, hh⟩, fun b hb => .inl ?_, u0.fh⟩
            rcases hb with hb | hb
            · rcases nA b hb with y | y
              · exact .inl ((hS b).mpr (.inl y))
              · exact .inr y
            · exact .inl ((hS b).mpr (.inr hb))
          split at q
          · rename_i j ej
            have hj := ixOf_lt ej
            exact fin j names (os.set j o) (vs.set j y) (if_pos (by omega)) (if_pos (by omega)) (by rw [List.length_set]; exact l) (putF_set ej l) q
          · rename_i ej
            exact fin os.length (names ++ [n]) (os ++ [o]) (vs ++ [y]) (if_neg (by omega)) (if_neg (by omega)) (by simp [l]) (putF_new ej l) q
      · exact q.elim
    · exact q.elim
end
end VL
namespace VL
open PySem PySem.Spec PyProof.Rows L2
/-! ### o.m(..) -/
def tMeC (C : Addr) (nm : Str) (ta : TE) (t : TA) : TA := fun σ H Q => ta σ H fun x H1 => (∃ a dx fs, x = .ref a ∧ H1 a = some (.ins C dx fs) ∧ fs.lookup nm = none) ∧ t σ H1 fun vs H2 => Q (x :: vs) H2
section
variable {X : Cx} {CX : CXT} {k : Nat} {f C : Addr} {fd : FuncData} {ps : List Str} {sp : Sp} {E : L2.St → L2.XK} {m : Str} {pos apos : Pos} {e o : Expr} {es : List Expr} {ta : TE} {t : TA}
theorem pe_methS {pl : Sem Bool} (he : PE X o ta) (c : L2.Cls X.K C) (hm : Meth X.K C m f) (F : FnOk X.prog X.w X.K X.mg X.base CX k f fd ps sp) (hr : Room k X.A) (hb : Binds X.K fd ps []) (hx : ∀ σ, PassesAt CX X σ (E σ)) (ha : PA X (e :: es) t)
    (hst : starEach (e :: es) X.env = (false, eval e X.env) :: starEach es X.env := by rfl) (hpl : (backTo pos (starEach es X.env)).any (·.1) = false := by rfl)
    (ht : eval (.Call (.Attribute o m apos) (e :: es) [] pos) X.env = (eval o X.env >>= fun ov => standAt apos.atName >>= fun _ => holding [ov] (getMethod ov m pl) >>= fun (f, first) => callWith pos f first (backTo pos (starEach (e :: es) X.env)) (backToKw pos (keywordEach [] X.env))) := by rfl) :
    PE X (.Call (.Attribute o m apos) (e :: es) [] pos) (tCallS sp E (tMeC C m ta t)) := by
  refine ⟨fun pins s σ H Q I h => ?_⟩
  refine PySem.W.methodCall_KW (pl := pl) (thn (he.run pins s σ H _ I h) fun u s1 ⟨x, H1, I1, rx, ⟨a, dx, fs, ex, ea, l⟩, q⟩ => ?_) ht
  subst ex
  cases (show u = Value.ref a from rx)
  refine getmeth_ok I1 ea c hm l ?_
  refine PySem.W.callWith_K (first := [.ref a]) (h₀ := X.base) I.ok.mod.kin hm.kp (thn (ha.run pos pins s1 σ H1 _ I1 q) fun us s2 ⟨vs, H2, I2, r, q2⟩ => ⟨I2.kIn, ?_⟩) hst hpl
  exact run_fnS (us := .ref a :: us) (vs := .ref a :: vs) F hr hb (hx σ) I2 (.cons rfl r) q2
theorem pe_methS0 {pl : Sem Bool} (he : PE X o ta) (c : L2.Cls X.K C) (hm : Meth X.K C m f) (F : FnOk X.prog X.w X.K X.mg X.base CX k f fd ps sp) (hr : Room k X.A) (hb : Binds X.K fd ps []) (hx : ∀ σ, PassesAt CX X σ (E σ))
    (ht : eval (.Call (.Attribute o m apos) [] [] pos) X.env = (eval o X.env >>= fun ov => standAt apos.atName >>= fun _ => holding [ov] (getMethod ov m pl) >>= fun (f, first) => callWith pos f first (backTo pos (starEach [] X.env)) (backToKw pos (keywordEach [] X.env))) := by rfl) :
    PE X (.Call (.Attribute o m apos) [] [] pos) (tCallS sp E (tMeC C m ta tNil)) := by
  refine ⟨fun pins s σ H Q I h => ?_⟩
  refine PySem.W.methodCall_KW (pl := pl) (thn (he.run pins s σ H _ I h) fun u s1 ⟨x, H1, I1, rx, ⟨a, dx, fs, ex, ea, l⟩, q⟩ => ?_) ht
  subst ex
  cases (show u = Value.ref a from rx)
  refine getmeth_ok I1 ea c hm l ?_
  exact PySem.W.callWith_K0 (first := [.ref a]) I1.kIn hm.kp (run_fnS (us := [.ref a]) (vs := [.ref a]) F hr hb (hx σ) I1 (.cons rfl .nil) q)
end
theorem ixOf_none : ∀ {names : List Str} {vs : List V} {n : Str}, ixOf names n = none → (names.zip vs).lookup n = none
  | [], _, _, _ => rfl
  | x :: r, [], _, _ => rfl
  | x :: r, w :: vs, n, h => by
    unfold ixOf at h
    split at h
    · cases h
    · rename_i hx
      have hi : ixOf r n = none := by simpa using h
      have hx' : (n == x) = false := by
        rw [beq_eq_false_iff_ne]
        exact fun z => hx z.symm
      simp only [List.zip_cons_cons, List.lookup, hx']
      exact ixOf_none hi
/-- the method nm of the class c keeps its mirror -/
def MK (P : Program) (w : World) (K : PySem.W.Frag) (mg : Str → Option Value) (base : Heap) (k : Nat) (c nm : Str) (ps : List Str) (m : List OD → FOut) : Prop :=
  ∃ C f fd, mg c = some (.ref C) ∧ L2.Cls K C ∧ Meth K C nm f ∧ FnOk P w K mg base (L2N.CX P w) k f fd ps (spL K mg ps.length m) ∧ Binds K fd ps []
section
variable {K : PySem.W.Frag} {cg : Cg} {W : WX} {pvs : Pv} {g : Gm} {σ : L2.St} {S S1 S' A : Addr → Prop} {F F1 F' H H1 H' : Hp}
/-- the receiver in a slot, then the arguments -/
def lLC (i : Nat) (c nm : Str) (r : Gm → Out (List Ar)) (g : Gm) : Out (List Ar) :=
  match (gt g i).od with
  | some (.nd (.ins c' names) _) => if c' = c ∧ ixOf names nm = none then lL i r g else .stk
  | _ => .stk
theorem Rel.insAt {i : Nat} {c : Str} {names : List Str} {os : List OD} {C : Addr} (r : Rel K cg pvs g σ S F H) (hc : cg c = some (.ref C)) (e : (gt g i).od = some (.nd (.ins c names) os)) : ∃ p dx vs, σ[i]? = some (some (.ref p)) ∧ H p = some (.ins C dx (names.zip vs)) := by
  obtain ⟨v, A, S1, e1, ow, _⟩ := r.take e
  cases ow with
  | @nd p k vs os L A h1 h2 h3 h4 h5 h6 h7 h8 =>
    obtain ⟨C', dx, z, hp, l⟩ := h1
    rw [hc] at z
    cases z
    exact ⟨p, dx, vs, e1, hp⟩
theorem rl_lc {i : Nat} {c nm : Str} {C : Addr} {t : TA} {mr : Gm → Out (List Ar)} (hc : cg c = some (.ref C)) (hr : RL K cg W t mr) : RL K cg W (tMeC C nm (tVar i) t) (lLC i c nm mr) := fun pvs g σ S F H Q r q => by
  unfold lLC at q
  split at q
  · rename_i c' names os eo
    split at q
    · rename_i hcn
      obtain ⟨rfl, hn⟩ := hcn
      obtain ⟨p, dx, vs, e1, hp⟩ := r.insAt hc eo
      obtain ⟨v, ev, rest⟩ := rl_l (i := i) hr pvs g σ S F H Q r q
      rw [e1] at ev
      cases ev
      exact ⟨_, e1, ⟨p, dx, _, rfl, hp, ixOf_none hn⟩, rest⟩
    · exact q.elim
  · exact q.elim
end
section
variable {X : Cx} {W : Wz} {e o : Expr} {es : List Expr} {pos p apos : Pos} {x c nm : Str} {k j : Nat} {ps : List Str} {m : List OD → FOut}
theorem do_mk {n : Nat} {ml : Gm → Out (List Ar)} {pl : Sem Bool} (i : Nat) (M : MK X.prog X.w X.K X.mg X.base k c nm ps m) (hr : Room j X.A) (hk : k ≤ j) (tk : L2N.Takes X W.x) (ha : DL X W (e :: es) ml)
    (hN : X.N[i]? = some x := by rfl) (hv : Vis X.env.scope x := by first | exact Or.inl rfl | exact Or.inr (Or.inl rfl) | exact Or.inr (Or.inr rfl)) (hd : (x == ("__debug__" : Str)) = false := by decide) (hcd : (x == ("__classdict__" : Str)) = false := by decide)
    (hst : starEach (e :: es) X.env = (false, eval e X.env) :: starEach es X.env := by rfl) (hpl : (backTo pos (starEach es X.env)).any (·.1) = false := by rfl) (hn : ps.length = n := by rfl)
    (ht : eval (.Call (.Attribute (.Name x p) nm apos) (e :: es) [] pos) X.env = (eval (.Name x p) X.env >>= fun ov => standAt apos.atName >>= fun _ => holding [ov] (getMethod ov nm pl) >>= fun (f, first) => callWith pos f first (backTo pos (starEach (e :: es) X.env)) (backToKw pos (keywordEach [] X.env))) := by rfl) :
    DO X W (.Call (.Attribute (.Name x p) nm apos) (e :: es) [] pos) (oCall n m (lLC i c nm ml)) := by
  subst hn
  obtain ⟨C, f, fd, gC, cl, me, F, b⟩ := M
  obtain ⟨t, h1, h2⟩ := ha
  exact ⟨_, pe_methS (pv i hN hv hd hcd) cl me F (hr.mono hk) b (fun σ => L2N.passAt tk σ) h1 hst hpl ht, ro_call (rl_lc (cg := cgX X W) gC h2)⟩
theorem do_mk0 {n : Nat} {pl : Sem Bool} (i : Nat) (M : MK X.prog X.w X.K X.mg X.base k c nm ps m) (hr : Room j X.A) (hk : k ≤ j) (tk : L2N.Takes X W.x)
    (hN : X.N[i]? = some x := by rfl) (hv : Vis X.env.scope x := by first | exact Or.inl rfl | exact Or.inr (Or.inl rfl) | exact Or.inr (Or.inr rfl)) (hd : (x == ("__debug__" : Str)) = false := by decide) (hcd : (x == ("__classdict__" : Str)) = false := by decide) (hn : ps.length = n := by rfl)
    (ht : eval (.Call (.Attribute (.Name x p) nm apos) [] [] pos) X.env = (eval (.Name x p) X.env >>= fun ov => standAt apos.atName >>= fun _ => holding [ov] (getMethod ov nm pl) >>= fun (f, first) => callWith pos f first (backTo pos (starEach [] X.env)) (backToKw pos (keywordEach [] X.env))) := by rfl) :
    DO X W (.Call (.Attribute (.Name x p) nm apos) [] [] pos) (oCall n m (lLC i c nm lNil)) := by
  subst hn
  obtain ⟨C, f, fd, gC, cl, me, F, b⟩ := M
  exact ⟨_, pe_methS0 (pv i hN hv hd hcd) cl me F (hr.mono hk) b (fun σ => L2N.passAt tk σ) ht, ro_call (rl_lc (cg := cgX X W) gC rl_nil)⟩
/-! ### attributes in the text -/
theorem dw_f {a1 : Pos} (i : Nat) (hc : AK X.K X.mg c nm) (hN : X.N[i]? = some x := by rfl) (hv : Vis X.env.scope x := by first | exact Or.inl rfl | exact Or.inr (Or.inl rfl) | exact Or.inr (Or.inr rfl)) (hd : (x == ("__debug__" : Str)) = false := by decide)
    (hcd : (x == ("__classdict__" : Str)) = false := by decide) (hb : attributeBase (.Name x p) nm X.env (eval (.Name x p) X.env) = eval (.Name x p) X.env := by rfl) : DW X W (.Attribute (.Name x p) nm a1) (wP (.f i c nm)) := ⟨_, pe_fld (pv i hN hv hd hcd) hb, rw_pl (cg := cgX X W) (rd_f i hc)⟩
theorem ds_fld {pos' : Pos} {value : Expr} {mo : Gm → Out OD} (i : Nat) (hc : AK X.K X.mg c nm) (ho : DO X W value mo) (hN : X.N[i]? = some x := by rfl) (hv : Vis X.env.scope x := by first | exact Or.inl rfl | exact Or.inr (Or.inl rfl) | exact Or.inr (Or.inr rfl)) (hd : (x == ("__debug__" : Str)) = false := by decide)
    (hcd : (x == ("__classdict__" : Str)) = false := by decide) (hs : swapsWith value (some (.Attribute (.Name x p) nm pos')) pos.line X.env = pure false := by rfl) : DS X W (.Assign [.Attribute (.Name x p) nm pos'] value pos) (sFldP i c nm mo) :=
  let ⟨_, h1, h2⟩ := ho; ⟨_, ps_fld (pv i hN hv hd hcd) h1 hs, rs_fld (cg := cgX X W) hc h2⟩
theorem ds_setF {ix : Expr} {p2 p3 : Pos} {mi : Gm → Res PyData} {me : Gm → Out PyData} (i : Nat) (hc : AK X.K X.mg c nm) (he : DV X W e me) (hi : DW X W ix mi) (hN : X.N[i]? = some x := by rfl) (hv : Vis X.env.scope x := by first | exact Or.inl rfl | exact Or.inr (Or.inl rfl) | exact Or.inr (Or.inr rfl)) (hd : (x == ("__debug__" : Str)) = false := by decide)
    (hcd : (x == ("__classdict__" : Str)) = false := by decide) (hb : attributeBase (.Name x p) nm X.env (eval (.Name x p) X.env) = eval (.Name x p) X.env := by rfl)
    (ha : ∀ v, assign (.Subscript (.Attribute (.Name x p) nm p2) ix p3) X.env v = (holding [v] (eval (.Attribute (.Name x p) nm p2) X.env) >>= fun ov => holding [v, ov] (eval ix X.env) >>= fun iv => standAt p3 >>= fun _ => holding [v, ov, iv] (setItem ov iv v) >>= fun _ => release [v, ov, iv] []) := by intro _; rfl)
    (hs : swapsWithSole [.Subscript (.Attribute (.Name x p) nm p2) ix p3] e pos.line X.env = pure false := by rfl) (hw : swappedStores [.Subscript (.Attribute (.Name x p) nm p2) ix p3] e X.env = pure none := by rfl) (h1 : (assignEach [.Subscript (.Attribute (.Name x p) nm p2) ix p3] X.env).map (·.2) = [assign (.Subscript (.Attribute (.Name x p) nm p2) ix p3) X.env] := by rfl) :
    DS X W (.Assign [.Subscript (.Attribute (.Name x p) nm p2) ix p3] e pos) (sSetP (.f i c nm) mi me) :=
  let ⟨_, e1, e2⟩ := he; let ⟨_, i1, i2⟩ := hi; ⟨_, ps_asg e1 (pg_sub (pe_fld (pv i hN hv hd hcd) hb) i1 set_list ha) hs hw h1, rs_setP (cg := cgX X W) (rd_f i hc) e2 i2⟩
end
/-! ### C() -/
def CMK (P : Program) (w : World) (K : PySem.W.Frag) (mg : Str → Option Value) (base : Heap) (k : Nat) (c : Str) (m : List OD → FOut) : Prop :=
  ∃ C f fd, mg c = some (.ref C) ∧ Mk K C f ∧ FnOk P w K mg base (L2N.CX P w) k f fd ["self"] (spL K mg 1 m) ∧ Binds K fd ["self"] []
def oNew (c : Str) (m : List OD → FOut) (g : Gm) : Out OD :=
  match m [.nd (.ins c []) []] with
  | .ok (.dat .none) [o] => .ok o g
  | _ => .stk
section
variable {K : PySem.W.Frag} {cg : Cg} {W : WX} {pvs : Pv} {g : Gm} {σ : L2.St} {S S1 S' A : Addr → Prop} {F F1 F' H H1 H' : Hp}
theorem ro_new {c : Str} {C : Addr} {m : List OD → FOut} (hc : cg c = some (.ref C)) : RO K cg W (tMake C (spL K cg 1 m) [] (fun _ _ _ => False) tNil) (oNew c m) := fun pvs g σ S F H Q r q => by
  intro x dx hx hdx ne
  unfold oNew at q
  have n1 := pst_own (o := .own x) r.fh hdx
  have hx1 : upd H dx (.own x) x = none := by rw [upd_ne (Ne.symm ne)]; exact hx
  have n2 := pst_own (o := .ins C dx []) n1.fh hx1
  have n := n1.trans n2
  refine ⟨rfl, [.nd (.ins c []) []], fun q => q = x, F, n.fh, ⟨rfl, fun i q => i = 0 ∧ q = x, fun i v o e1 e2 => ?_, fun i j q hij h1 h2 => hij (h1.1.trans h2.1.symm), fun i q hi h => ?_, fun q => ⟨fun h => ⟨0, rfl, h⟩, fun ⟨_, _, h⟩ => h⟩⟩, ?_⟩
  · cases i with
    | zero =>
      cases e1
      cases e2
      refine .nd (vs := []) (L := fun _ _ => False) ⟨C, dx, hc, upd_same, rfl⟩ (r.fh.free hx) rfl (fun i v o e1 e2 => (by simp at e1)) (fun _ _ _ _ h _ => h) (fun _ h => h) (fun _ _ _ h => h) fun q => ?_
      simp
    | succ i => simp at e1
  · obtain ⟨rfl, _⟩ := h
    simp at hi
  · split at q
    · rename_i o em
      rw [em]
      intro v B A' F' H' st ow owA dj
      cases ow with
      | dat hd hB =>
        cases hd
        refine ⟨rfl, ?_⟩
        obtain ⟨hl, L, l1, l2, l3, l4⟩ := owA
        have ow0 := l1 0 (.ref x) o rfl rfl
        have rr := r.pst n
        have xS : ¬ S x := fun z => by
          obtain ⟨_, u, eu⟩ := r.at z
          rw [hx] at eu
          cases eu
        have a0 : ∀ q, A' q ↔ L 0 q := fun q => by
          rw [l4 q]
          refine ⟨fun ⟨i, hi⟩ => ?_, fun h => ⟨0, h⟩⟩
          cases i with
          | zero => exact hi
          | succ i => exact absurd hi (l3 (i + 1) q (by simp))
        have st1 : Stp (fun q => q = x) F _ A' F' H' := st.sub fun p z => .inl z
        refine q (.ref x) A' S F' H' ?_ (rr.stp st1 fun p hs hp => xS (hp ▸ hs)) (ow0.iff a0) fun p hp hs => ?_
        · refine ⟨fun p u hs e => st1.keep p u (fun z => (by rw [z, hx] at e; cases e)) (n.keep p u e), st1.fr, fun p u e => ?_, fun p hp => ?_, st1.fh⟩
          · rcases st1.nw p u e with z | z | z
            · exact .inl z
            · exact .inr (.inl (z.back fun u => n.keep p u))
            · exact .inr (.inl (.inl (by rw [z]; exact hx)))
          · rcases hp with hp | hp
            · exact .inl hp
            · rcases st1.fp p hp with z | z
              · exact .inr (by rw [z]; exact hx)
              · exact .inr (n.keep.free z)
        · obtain ⟨_, u, eu⟩ := r.at hs
          rcases st1.fp p hp with z | z
          · exact xS (z ▸ hs)
          · rw [n.keep p u eu] at z
            cases z
    · exact q.elim
end
section
variable {X : Cx} {W : Wz} {pos p : Pos} {x : Str} {k j : Nat} {m : List OD → FOut}
theorem do_new (M : CMK X.prog X.w X.K X.mg X.base k x m) (hr : Room (j + 1) X.A) (hk : k ≤ j) (hg : Gl X x := by rfl) (hdb : (x == ("__debug__" : Str)) = false := by decide) : DO X W (.Call (.Name x p) [] [] pos) (oNew x m) := by
  obtain ⟨C, f, fd, gC, mk, F, b⟩ := M
  refine ⟨_, pe_make0 mk F (hr.mono (Nat.succ_le_succ hk)) hg gC b (.nil) (fun pins σ H s e s' I h => ?_) hdb, ro_new (cg := cgX X W) gC⟩
  obtain ⟨_, _, _, _, _, _, _, _, _, _, _, _, z⟩ := h
  exact z.elim
end
end VL
namespace VL
open PySem PySem.Spec PyProof.Rows L2
section
variable (K : PySem.W.Frag) (cg : Cg) (W : WX)
def PoAO (pvs : Pv) (σ : L2.St) (S : Addr → Prop) (F H : Hp) (Q : List V → Hp → Prop) : Out (List OD) → Prop
  | .ok os g => ∀ vs A S' F' H', Stp S F H (fun p => S' p ∨ A p) F' H' → Rel K cg pvs g σ S' F' H' → OwA K cg F' H' vs os A → (∀ q, A q → S' q → False) → Q vs H'
  | .err e g => ErrP K cg W pvs σ S F H e g
  | .stk => False
end
section
variable {K : PySem.W.Frag} {cg : Cg} {W : WX} {pvs : Pv} {g : Gm} {σ : L2.St} {S S1 S' A : Addr → Prop} {F F1 F' H H1 H' : Hp}
theorem PoAO.st {Q : List V → Hp → Prop} {x : Out (List OD)} (h : PoAO K cg W pvs σ S F H Q x) (a : Stp S F H S1 F1 H1) : PoAO K cg W pvs σ S1 F1 H1 Q x := by
  cases x with
  | ok d g => exact fun v A S' F' H' b r c => h v A S' F' H' (a.trans b) r c
  | err e g => exact ErrP.st h a
  | stk => exact h
/-- what is owned apart from a step stays -/
theorem Ow.apart {v : V} {o : OD} {B B' : Addr → Prop} (h : Ow K cg F H v o A) (st : Stp B F H B' F' H') (dj : ∀ q, A q → B q → False) : Ow K cg F' H' v o A ∧ ∀ q, A q → ¬ B' q := by
  have ot : ∀ q, A q → H' q = H q ∧ F' q = none ∧ ¬ B' q := fun q hq => Pts.other st (h.at hq).1 (h.at hq).2 (h.nn hq) fun z => dj q hq z
  exact ⟨h.mo st.fr (fun q hq => (ot q hq).1) fun q hq => (ot q hq).2.1, fun q hq => (ot q hq).2.2⟩
end
section
variable {X : Cx} {W : Wz} {e o : Expr} {es : List Expr} {pos p apos : Pos} {x c nm : Str} {k j : Nat} {ps : List Str} {m : List OD → FOut}
end
end VL
namespace VL
open PySem PySem.Spec PyProof.Rows L2
section
variable {P : Program} {w : World} {A : Around} {E : Value → Shared → Prop} {s : Shared}
end
section
variable {K : PySem.W.Frag} {cg : Cg} {W : WX} {pvs : Pv} {g : Gm} {σ : L2.St} {S : Addr → Prop} {F H : Hp}
end
end VL
namespace VL
open PySem PySem.Spec PyProof.Rows L2
/-- a method of the text -/
def DfM (K : PySem.W.Frag) (mg : Str → Option Value) (c nm qual : Str) (st : Stmt) : Prop := ∃ C f fd, mg c = some (.ref C) ∧ L2.Cls K C ∧ Meth K C nm f ∧ FunD K nm qual (defArgs st) (defBody st) (defScope st) [] [] f fd
/-- the __init__ of a class of the text -/
def DfI (K : PySem.W.Frag) (mg : Str → Option Value) (c qual : Str) (st : Stmt) : Prop := ∃ C f fd, mg c = some (.ref C) ∧ Mk K C f ∧ FunD K "__init__" qual (defArgs st) (defBody st) (defScope st) [] [] f fd
section
variable {P : Program} {w : World} {K : PySem.W.Frag} {mg : Str → Option Value} {base : Heap} {h : Heap}
theorem mk_mk {c nm qual : Str} {st : Stmt} {N ps : List Str} {k kk : Nat} {ls : List Bool} {mb : Gm → SOut} (D : DfM K mg c nm qual st) (S : FnScope N ps (defScope st)) (hl : ls.length = ps.length) (hN : N.length = ls.length + kk)
    (hbd : ∀ (kV doc pm : Value) (an : Option Addr) (cdv ct : Value) (us : List Value), us.length = ps.length → bindArgs (PySem.W.fnOf nm qual (defArgs st) (defBody st) (defScope st) .none kV doc pm an cdv ct) ⟨us, []⟩ = pure (ps.zip us))
    (hb : ∀ (f : Addr) (cdv : Value) (A : Around) (outer : List Env) (s : Shared) (H : Hp) (E : L2.XK), Room k (A.deeper (envOfC qual (defScope st) s.heap.objs.size f cdv)) →
      DSs (cxOf (L2N.CX P w) P w K mg base N qual (defScope st) f cdv A outer s H E) ⟨fun cls d _ H' => E cls d H', fun _ => True⟩ (defBody st) mb) : MK P w K mg base (k + 1) c nm ps (fnM ls kk mb) := by
  obtain ⟨C, f, fd, g, cl, me, F⟩ := D
  exact ⟨C, f, fd, g, cl, me, fn_ok F S hl hN (fun cdv A outer s H E hr => hb f cdv A outer s H E hr), F.bindsN hbd⟩
theorem ci_mk {c qual : Str} {st : Stmt} {N : List Str} {k kk : Nat} {mb : Gm → SOut} (D : DfI K mg c qual st) (S : FnScope N ["self"] (defScope st)) (hN : N.length = 1 + kk)
    (hbd : ∀ (kV doc pm : Value) (an : Option Addr) (cdv ct : Value) (us : List Value), us.length = 1 → bindArgs (PySem.W.fnOf "__init__" qual (defArgs st) (defBody st) (defScope st) .none kV doc pm an cdv ct) ⟨us, []⟩ = pure ((["self"] : List Str).zip us))
    (hb : ∀ (f : Addr) (cdv : Value) (A : Around) (outer : List Env) (s : Shared) (H : Hp) (E : L2.XK), Room k (A.deeper (envOfC qual (defScope st) s.heap.objs.size f cdv)) →
      DSs (cxOf (L2N.CX P w) P w K mg base N qual (defScope st) f cdv A outer s H E) ⟨fun cls d _ H' => E cls d H', fun _ => True⟩ (defBody st) mb) : CMK P w K mg base (k + 1) c (fnM [true] kk mb) := by
  obtain ⟨C, f, fd, g, mk, F⟩ := D
  exact ⟨C, f, fd, g, mk, fn_ok (ls := [true]) F S rfl hN (fun cdv A outer s H E hr => hb f cdv A outer s H E hr), F.bindsN hbd⟩
theorem ak_of (X : K.In h) (G : h.Ns mainGlobals mg) {c n : Str} (c1 : (He.Fa.glo c).ok K = true) (c2 : (He.Fa.cls c).ok K = true) (c3 : (He.Fa.noat c n).ok K = true) : AK K mg c n := ⟨_, He.glo_ok X G c1, He.cls_ok c2, He.noat_ok c3⟩
/-- the def behind a name keeps its mirror; its last parameters may lack -/
def FKD (P : Program) (w : World) (K : PySem.W.Frag) (mg : Str → Option Value) (base : Heap) (k : Nat) (x : Str) (ps : List Str) (dvs : List V) (m : List OD → FOut) : Prop :=
  ∃ f fd, FnOk P w K mg base (L2N.CX P w) k f fd ps (spL K mg ps.length m) ∧ mg x = some (.ref f) ∧ PySem.W.keepIn K (.ref f) = true ∧ Binds K fd ps [] ∧ ∃ ds, Vals dvs ds ∧ Binds K fd ps ds
theorem FKD.all {k : Nat} {x : Str} {ps : List Str} {dvs : List V} {m : List OD → FOut} (h : FKD P w K mg base k x ps dvs m) : FK P w K mg base k x ps m := let ⟨f, fd, a, b, c, d, _⟩ := h; ⟨f, fd, a, b, c, d⟩
theorem FK.al {k : Nat} {x y : Str} {ps : List Str} {m : List OD → FOut} (F : FK P w K mg base k y ps m) (e : mg x = mg y) : FK P w K mg base k x ps m := let ⟨f, fd, a, b, c, d⟩ := F; ⟨f, fd, a, e.trans b, c, d⟩
theorem FKD.al {k : Nat} {x y : Str} {ps : List Str} {dvs : List V} {m : List OD → FOut} (F : FKD P w K mg base k y ps dvs m) (e : mg x = mg y) : FKD P w K mg base k x ps dvs m := let ⟨f, fd, a, b, c, d⟩ := F; ⟨f, fd, a, e.trans b, c, d⟩
end
section
variable {K : PySem.W.Frag} {cg : Cg} {W : WX}
end
section
variable {X : Cx} {W : Wz} {e : Expr} {es : List Expr} {pos p : Pos} {x : Str} {k j : Nat} {ps : List Str} {m : List OD → FOut}
end
end VL
namespace VL
open PySem PySem.Spec PyProof.Rows L2
section
variable {K : PySem.W.Frag} {cg : Cg} {W : WX}
end
section
variable {X : Cx} {W : Wz} {e : Expr} {es : List Expr} {pos : Pos}
end
end VL
namespace VL
open PySem PySem.W PySem.Calls PyProof.Rows
def RunC (r : OpenRow) (n M : Nat) (fa : List He.Fa) (fn : List He.DefD) (ex : PySem.W.Frag → Bool) (w : World) : Prop := ∀ os : OsState, (topEnd r M w os).map (fun s => obsM n fa fn ex (HandSHeadRun.getT s)) = some (He.valD fn, true)
theorem obs_app {n : Nat} {fa1 fa2 : List He.Fa} {fn1 fn2 : List He.DefD} {ex1 ex2 : PySem.W.Frag → Bool} {g : Addr → Option Obj} (h1 : obsM n fa1 fn1 ex1 g = (He.valD fn1, true)) (h2 : obsM n fa2 fn2 ex2 g = (He.valD fn2, true)) :
    obsM n (fa1 ++ fa2) (fn1 ++ fn2) (fun K => ex1 K && ex2 K) g = (He.valD (fn1 ++ fn2), true) := by
  unfold obsM He.obsD He.valD at *
  generalize He.frG g (He.asD g n) = K at *
  simp only [Prod.mk.injEq, Bool.and_eq_true] at h1 h2
  obtain ⟨⟨⟨a1, a2⟩, a3⟩, a4⟩ := h1
  obtain ⟨⟨⟨b1, b2⟩, b3⟩, b4⟩ := h2
  show (((fa1 ++ fa2).all _ && (fn1 ++ fn2).all _, (fn1 ++ fn2).map _), ex1 K && ex2 K) = _
  rw [List.all_append, List.all_append, List.map_append, List.map_append, a1, a2, a3, a4, b1, b2, b3, b4]
  rfl
theorem RunC.app {r : OpenRow} {n M : Nat} {fa1 fa2 : List He.Fa} {fn1 fn2 : List He.DefD} {ex1 ex2 : PySem.W.Frag → Bool} {w : World} (h1 : RunC r n M fa1 fn1 ex1 w) (h2 : RunC r n M fa2 fn2 ex2 w) : RunC r n M (fa1 ++ fa2) (fn1 ++ fn2) (fun K => ex1 K && ex2 K) w := fun os => by
  obtain ⟨s, e, v1⟩ := Option.map_eq_some_iff.mp (h1 os)
  have v2 := h2 os
  rw [e] at v2 ⊢
  exact congrArg some (obs_app v1 (Option.some.inj v2))
end VL
namespace VL
open PySem PySem.Spec PyProof.Rows L2
theorem dss_bar {X : Cx} {W : Wz} {l : List Stmt} {m : Gm → SOut} (h : DSs X W l m) : DSs X W l (fun g => cIf True (m g) .stk) := by
  have e : (fun g => cIf True (m g) .stk) = m := funext fun g => cIf_true
  rw [e]
  exact h
end VL
namespace VL
open PySem PySem.Spec PyProof.Rows L2
def stL : List PyData → Option (List Str)
  | [] => some []
  | .str x :: r => (stL r).map (x :: ·)
  | _ :: _ => none
def fInT : PyData → PyData → Option OD
  | .str a, .tuple ds => match stL ds with
    | some xs => ob (xs.any fun z => z == a)
    | none => none
  | _, _ => none
def fNotInT : PyData → PyData → Option OD
  | .str a, .tuple ds => match stL ds with
    | some xs => ob (!xs.any fun z => z == a)
    | none => none
  | _, _ => none
section
variable {K : PySem.W.Frag} {cg : Str → Option Value} {F H : Hp}
theorem stL_v : ∀ {ds : List PyData} {xs : List Str} {vs : List V}, stL ds = some xs → DqA K F vs ds → vs = xs.map V.str
  | [], xs, vs, h, d => by
    cases d
    cases h
    rfl
  | .str x :: r, xs, vs, h, d => by
    unfold stL at h
    obtain ⟨ys, e1, rfl⟩ := Option.map_eq_some_iff.mp h
    cases d with
    | cons d1 d2 =>
      cases d1
      rw [stL_v e1 d2]
      rfl
  | .none :: _, _, _, h, _ => by cases h
  | .bool _ :: _, _, _, h, _ => by cases h
  | .int _ :: _, _, _, h, _ => by cases h
  | .list _ :: _, _, _, h, _ => by cases h
  | .tuple _ :: _, _, _, h, _ => by cases h
  | .dict _ :: _, _, _, h, _ => by cases h
theorem flat_strs (xs : List Str) : (xs.map V.str).all flatV = true := by
  rw [List.all_map]
  simp [flatV]
theorem in_strs (a : Str) (xs : List Str) : inV (.str a) (xs.map V.str) = xs.any fun z => z == a := by
  unfold inV
  rw [List.any_map]
  rfl
theorem g_inT : OpG K cg (rIn K false) fInT := fun F H x y a b o Q e hx hy hf k => by
  unfold fInT at hf
  split at hf
  · rename_i s ds
    split at hf
    · rename_i xs e1
      cases hf
      obtain ⟨p, vs, rfl, h1, h2⟩ := hy.tup
      rw [hx.str]
      have ev := stL_v e1 h2
      subst ev
      refine ⟨p, _, rfl, .inr (sqt_mono e h1), rfl, flat_strs xs, ?_⟩
      rw [in_strs]
      exact fin_s k e (.bl _)
    · cases hf
  · cases hf
theorem g_notInT : OpG K cg (rIn K true) fNotInT := fun F H x y a b o Q e hx hy hf k => by
  unfold fNotInT at hf
  split at hf
  · rename_i s ds
    split at hf
    · rename_i xs e1
      cases hf
      obtain ⟨p, vs, rfl, h1, h2⟩ := hy.tup
      rw [hx.str]
      have ev := stL_v e1 h2
      subst ev
      refine ⟨p, _, rfl, .inr (sqt_mono e h1), rfl, flat_strs xs, ?_⟩
      rw [in_strs]
      exact fin_s k e (.bl _)
    · cases hf
  · cases hf
end
end VL
namespace VL
open PySem L2
variable {K : PySem.W.Frag} {cg : Cg}
def gL (n : Nat) (m : List PyData → Gm → Option Gm) : Tg := fun d g => match d with
  | .list ds => if ds.length = n then m ds g else none
  | _ => none
end VL
namespace VL
open PySem PySem.W PySem.Calls PyProof.Rows L2
end VL
namespace VL
open PySem L2
def vDGetK (i : Nat) (me mx : Gm → Out PyData) (g : Gm) : Out PyData :=
  match (gt g i).od with
  | some (.dk _) => (me g).bind fun d g1 => (mx g1).bind fun z g2 => match (gt g2 i).od, keyOf d with
    | some (.dk kvs), some k => .ok ((valD kvs k).getD z) g2
    | _, _ => .stk
  | _ => .stk
def vDIxK (i : Nat) (me : Gm → Out PyData) (g : Gm) : Out PyData :=
  match (gt g i).od with
  | some (.dk _) => (me g).bind fun d g1 => match (gt g1 i).od, keyOf d with
    | some (.dk kvs), some k => match valD kvs k with
      | some z => .ok z g1
      | none => .stk
    | _, _ => .stk
  | _ => .stk
def vDInK (i : Nat) (me : Gm → Out PyData) (g : Gm) : Out PyData := (me g).bind fun d g1 => match (gt g1 i).od, keyOf d with
  | some (.dk kvs), some k => .ok (.bool (valD kvs k).isSome) g1
  | _, _ => .stk
def vDNotInK (i : Nat) (me : Gm → Out PyData) (g : Gm) : Out PyData := (me g).bind fun d g1 => match (gt g1 i).od, keyOf d with
  | some (.dk kvs), some k => .ok (.bool (!(valD kvs k).isSome)) g1
  | _, _ => .stk
def sDPutK (i : Nat) (mk : Gm → Out PyData) (me : Gm → Out PyData) (g : Gm) : SOut :=
  match me g with
  | .ok d g1 => match (gt g1 i).od with
    | some (.dk _) => match mk g1 with
      | .ok kd g2 => match (gt g2 i).od, keyOf kd with
        | some (.dk kvs), some k => if kvs.length < zl then .nx (st g2 i ((gt g2 i).with (.dk (putD kvs k d)))) else .stk
        | _, _ => .stk
      | .err e g2 => .err e g2
      | .stk => .stk
    | _ => .stk
  | .err e g1 => .err e g1
  | .stk => .stk
def oDNewK (g : Gm) : Out OD := .ok (.dk []) g
def keyInts : List (Key × PyData) → Option (List Int)
  | [] => some []
  | (.inl i, _) :: r => (keyInts r).map (i :: ·)
  | _ => none
def sortI (l : List Int) : List Int := l.mergeSort fun a b => decide (a ≤ b)
def oSortDK (i : Nat) (g : Gm) : Out OD :=
  match (gt g i).od with
  | some (.dk kvs) => match keyInts kvs with
    | some ks => if ks.length < 64 then .ok (.lst ((sortI ks).map PyData.int)) g else .stk
    | none => .stk
  | _ => .stk
section
variable {K : PySem.W.Frag} {cg : Cg} {W : WX} {pvs : Pv} {g : Gm} {σ : L2.St} {S S1 S' A : Addr → Prop} {F F1 F' H H1 H' : Hp}
end
section
variable {X : Cx} {W : Wz} {e f : Expr} {pos apos cpos p p2 pos' : Pos} {x : Str}
end
end VL
namespace VL
open PySem L2
variable {K : PySem.W.Frag} {cg : Cg} {W : WX}
def oLR2 (m n : Gm → Out PyData) (g : Gm) : Out OD := (m g).bind fun d g1 => (n g1).bind fun e g2 => match d, e with
  | .int i, .int j => if 0 ≤ i ∧ i ≤ j ∧ j ≤ gz then .ok (.lst (rng i (j - i).toNat)) g2 else .stk
  | _, _ => .stk
section
variable {X : Cx} {W : Wz} {a b : Expr} {pos p p2 p3 : Pos}
end
end VL
namespace VL
open PySem L2
variable {K : PySem.W.Frag} {cg : Str → Option Value}
end VL
namespace VL
open PySem PySem.Spec PyProof.Rows L2
def SaysN (fa : List He.Fa) (fn : List He.DefD) (ex : PySem.W.Frag → Bool) (ts : List TabD) (w : World) (K : PySem.W.Frag) : Prop := SaysM fa fn ex K ∧ tabsO ts K = tabsV ts w
/-! ### a table by its name -/
/-- the table's keys; what is known of its values -/
def TabK (K : PySem.W.Frag) (w : World) (mg : Str → Option Value) (x : Str) (kvs : List (Str × He.Dv)) : Prop :=
  ∃ d es n, mg x = some (.ref d) ∧ KDict K w d es n ∧ ∀ z, ∃ r, PySem.W.nsIn K d z = some r ∧ r.isSome = (kvs.lookup z).isSome ∧ ∀ dv, kvs.lookup z = some dv → ∃ u, r = some u ∧ RelV (dv.v K) u
theorem lookup_mem' : ∀ {l : List (Str × He.Dv)} {z : Str} {b : He.Dv}, l.lookup z = some b → (z, b) ∈ l
  | [], _, _, h => by cases h
  | (y, c) :: r, z, b, h => by
    unfold List.lookup at h
    split at h
    · rename_i e
      cases h
      rw [eq_of_beq e]
      exact List.mem_cons_self
    · exact List.mem_cons_of_mem _ (lookup_mem' h)
theorem lookup_none' : ∀ {l : List (Str × He.Dv)} {z : Str}, l.lookup z = none → ∀ k ∈ l.map (·.1), k ≠ z
  | [], _, _, _, hk => by cases hk
  | (y, c) :: r, z, h, k, hk => by
    unfold List.lookup at h
    split at h
    · cases h
    · rename_i e
      rcases List.mem_cons.mp hk with rfl | hk
      · intro ez
        rw [ez] at e
        simp at e
      · exact lookup_none' h k hk
theorem keys_of : ∀ {l : List DictEntry} {P : Params} {ks : List Str}, l.map He.keyOf = He.keysIn P ks → ∀ e ∈ l, ∃ k t, e.key = .str k t ∧ k ∈ ks
  | [], _, _, _, _, he => by cases he
  | e0 :: l, P, [], h, _, _ => by cases h
  | e0 :: l, P, k :: ks, h, e, he => by
    have h1 : He.keyOf e0 :: l.map He.keyOf = some (k, PyData.keyHash P k) :: He.keysIn P ks := h
    injection h1 with h2 h3
    rcases List.mem_cons.mp he with rfl | he
    · unfold He.keyOf at h2
      split at h2
      · rename_i x t q
        have h4 := (Prod.mk.inj (Option.some.inj h2)).1
        exact ⟨x, t, q, by rw [h4]; exact List.mem_cons_self⟩
      · cases h2
    · obtain ⟨k', t, a, b⟩ := keys_of h3 e he
      exact ⟨k', t, a, List.mem_cons_of_mem _ b⟩
theorem tabK_ok {K : PySem.W.Frag} {w : World} {h : Heap} {mg : Str → Option Value} {x : Str} {kvs : List (Str × He.Dv)} (X : K.In h) (G : h.Ns mainGlobals mg) (c1 : (He.Fa.glo x).ok K = true)
    (hd : He.dicW K (He.ga K x) = some (He.keysIn w.params (kvs.map (·.1)))) (hv : He.valsB K (He.ga K x) kvs = true) : TabK K w mg x kvs := by
  obtain ⟨es, n, D⟩ := He.dicW_ok hd
  refine ⟨_, es, n, He.glo_ok X G c1, D, fun z => ?_⟩
  have hkeys : es.toList.map He.keyOf = He.keysIn w.params (kvs.map (·.1)) := by
    unfold He.dicW at hd
    rw [D.at_] at hd
    have e : (decide (("dict" : String) = "dict") && ((#[] : Array (Option Value)).isEmpty && !(He.ga K x == sysModules))) = true := by
      rw [D.low]
      rfl
    have hd2 : (match decide (("dict" : String) = "dict") && ((#[] : Array (Option Value)).isEmpty && !(He.ga K x == sysModules)) with
      | true => some (es.toList.map He.keyOf)
      | false => none) = some (He.keysIn w.params (kvs.map (·.1))) := hd
    rw [e] at hd2
    exact Option.some.inj hd2
  cases ez : kvs.lookup z with
  | some dv =>
    obtain ⟨u, e1, r1⟩ := He.valsB_ok hv (lookup_mem' ez)
    refine ⟨some u, e1, rfl, fun dv' h' => ?_⟩
    cases h'
    exact ⟨u, rfl, r1⟩
  | none =>
    refine ⟨none, ?_, rfl, fun dv' h' => by cases h'⟩
    have hn := lookup_none' ez
    unfold PySem.W.nsIn
    rw [D.at_]
    dsimp only
    have f : es.toList.find? (·.key.isStr z) = none := List.find?_eq_none.mpr fun e he => by
      obtain ⟨k, t, a, b⟩ := keys_of hkeys e he
      rw [a]
      have : k ≠ z := hn k b
      simp [Value.isStr, this]
    rw [f]
    have g : es.toList.any (·.refKey) = false := by
      rw [List.any_eq_false]
      intro e he
      obtain ⟨k, t, a, b⟩ := keys_of hkeys e he
      simp [DictEntry.refKey, a]
    rw [g]
    rfl
/-! ### asking a table -/
def vTabIn (ks : List Str) (m : Gm → Out PyData) (g : Gm) : Out PyData := (m g).bind fun d g1 => match d with
  | .str z => .ok (.bool (ks.contains z)) g1
  | _ => .stk
def vTabNotIn (ks : List Str) (m : Gm → Out PyData) (g : Gm) : Out PyData := (m g).bind fun d g1 => match d with
  | .str z => .ok (.bool (!ks.contains z)) g1
  | _ => .stk
def oTabIx (t : List (Str × Int)) (m : Gm → Out PyData) (g : Gm) : Out OD := (m g).bind fun d g1 => match d with
  | .str z => match t.lookup z with
    | some i => .ok (.dat (.int i)) g1
    | none => .stk
  | _ => .stk
theorem lookup_contains : ∀ (kvs : List (Str × He.Dv)) (z : Str), (kvs.lookup z).isSome = (kvs.map (·.1)).contains z
  | [], _ => rfl
  | (y, c) :: r, z => by
    unfold List.lookup
    rw [List.map_cons, List.contains_cons]
    cases e : z == y with
    | true => rfl
    | false =>
      rw [Bool.false_or]
      exact lookup_contains r z
theorem tabI_look : ∀ (t : List (Str × Int)) (z : Str), (tabI t).lookup z = (t.lookup z).map He.Dv.int
  | [], _ => rfl
  | (y, c) :: r, z => by
    show ((y, He.Dv.int c) :: tabI r).lookup z = _
    unfold List.lookup
    cases e : z == y with
    | true => rfl
    | false => exact tabI_look r z
section
variable {X : Cx} {W : Wz} {a ix : Expr} {x : Str} {p pos : Pos} {kvs : List (Str × He.Dv)} {ks : List Str} {m : Gm → Out PyData}
theorem rv_tabNotIn {d : Addr} {es : Array DictEntry} {n : Nat} {t : TE} (hz : ∀ z, ∃ r, PySem.W.nsIn X.K d z = some r ∧ r.isSome = ks.contains z) (h : RV X.K (cgX X W) W.x t m) :
    RV X.K (cgX X W) W.x (tOp (fun x y H Q => ∃ (z : Str) (r : Option Value), x = .str z ∧ y = .ref d ∧ PySem.W.nsIn X.K d z = some r ∧ Q (.bl (!r.isSome)) H) t (tC (.ref d))) (vTabNotIn ks m) := fun pvs g σ S F H Q r q => by
  refine h pvs g σ S F H _ r ?_
  unfold vTabNotIn at q
  cases e : m g with
  | err e' g1 =>
    rw [e] at q
    exact q
  | stk =>
    rw [e] at q
    exact q.elim
  | ok d' g1 =>
    rw [e] at q
    intro v S1 F1 H1 s1 r1 d1
    simp only [Out.bind] at q
    replace q := PoV.st q s1
    cases d1 <;> try exact q.elim
    rename_i z
    obtain ⟨r0, h1, h2⟩ := hz z
    refine ⟨z, r0, rfl, rfl, h1, ?_⟩
    rw [h2]
    exact q (.bl _) S1 F1 H1 (.refl r1.fh) r1 (.bl _)
theorem TabK.keys (T : TabK X.K X.w X.mg x kvs) (hk : kvs.map (·.1) = ks) : ∃ d es n, X.mg x = some (.ref d) ∧ KDict X.K X.w d es n ∧ ∀ z, ∃ r, PySem.W.nsIn X.K d z = some r ∧ r.isSome = ks.contains z := by
  obtain ⟨d, es, n, g, D, hz⟩ := T
  refine ⟨d, es, n, g, D, fun z => ?_⟩
  obtain ⟨r, h1, h2, _⟩ := hz z
  exact ⟨r, h1, by rw [h2, lookup_contains, hk]⟩
theorem dt_tabNotIn (T : TabK X.K X.w X.mg x kvs) (h : DV X W a m) (hk : kvs.map (·.1) = ks := by rfl) (hg : Gl X x := by rfl) (hd : (x == ("__debug__" : Str)) = false := by decide) (hm : behindInMarks .NotIn (.Name x p) = false := by first | exact nomark _ | with_unfolding_all rfl) :
    DT X W (.Compare a [.NotIn] [.Name x p] pos) (tV (vTabNotIn ks m)) := by
  obtain ⟨d, es, n, g, D, hz⟩ := T.keys hk
  obtain ⟨t, h1, h2⟩ := h
  exact ⟨_, pt_cmpR (op_notIn_kd D) h1 (pe_glob hg g (v := .ref d) rfl hd) hm, rt_test (rv_tabNotIn (es := es) (n := n) hz h2)⟩
theorem do_tabIx {l : List (Str × Int)} (T : TabK X.K X.w X.mg x (tabI l)) (h : DV X W ix m) (hg : Gl X x := by rfl) (hd : (x == ("__debug__" : Str)) = false := by decide) (hs : PlainIx ix := by exact fun _ _ => rfl) : DO X W (.Subscript (.Name x p) ix pos) (oTabIx l m) := by
  obtain ⟨d, es, n, g, D, hz⟩ := T
  obtain ⟨t, h1, h2⟩ := h
  refine ⟨_, pe_ix ix_kdict (pe_glob hg g (v := .ref d) rfl hd) h1 hs, fun pvs g σ S F H Q r q => ?_⟩
  refine h2 pvs g σ S F H _ r ?_
  unfold oTabIx at q
  cases e : m g with
  | err e' g1 =>
    rw [e] at q
    exact q
  | stk =>
    rw [e] at q
    exact q.elim
  | ok d' g1 =>
    rw [e] at q
    intro v S1 F1 H1 s1 r1 d1
    simp only [Out.bind] at q
    replace q := PoO.st q s1
    cases d1 <;> try exact q.elim
    rename_i z
    simp only at q
    cases ez : l.lookup z with
    | none =>
      rw [ez] at q
      exact q.elim
    | some i =>
      rw [ez] at q
      obtain ⟨r0, e1, _, e3⟩ := hz z
      obtain ⟨u, rfl, ru⟩ := e3 (.int i) (by rw [tabI_look, ez]; rfl)
      refine ⟨d, z, .int i, rfl, rfl, ⟨es, n, u, D.at_, D.lit, e1, ru⟩, ?_⟩
      exact q (.int i) (fun _ => False) S1 F1 H1 ((Stp.refl r1.fh).sub fun p z => z.elim id False.elim) r1 (.dat (.int i) fun _ z => z) fun _ z _ => z
end
/-! ### look = TABLE[word]; look(e, ..) -/
/-- the table's defs and their mirrors -/
inductive LkOk (P : Program) (w : World) (K : PySem.W.Frag) (mg : Str → Option Value) (base : Heap) (j n : Nat) : List (Str × He.Dv) → List (Str × (List OD → FOut)) → Prop
  | nil : LkOk P w K mg base j n [] []
  | cons {k : Nat} {z nm : Str} {ps : List Str} {m : List OD → FOut} {l : List (Str × He.Dv)} {t : List (Str × (List OD → FOut))} : FK P w K mg base k nm ps m → mg nm = some (.ref (He.ga K nm)) → k ≤ j → ps.length = n → LkOk P w K mg base j n l t → LkOk P w K mg base j n ((z, .glo nm) :: l) ((z, m) :: t)
def LkA (P : Program) (w : World) (K : PySem.W.Frag) (mg : Str → Option Value) (base : Heap) (j n : Nat) (f : Addr) (m : List OD → FOut) : Prop :=
  ∃ fd ps, FnOk P w K mg base (L2N.CX P w) j f fd ps (spL K mg n m) ∧ PySem.W.keepIn K (.ref f) = true ∧ Binds K fd ps []
theorem LkOk.at {P : Program} {w : World} {K : PySem.W.Frag} {mg : Str → Option Value} {base : Heap} {j n : Nat} {l : List (Str × He.Dv)} {t : List (Str × (List OD → FOut))} (h : LkOk P w K mg base j n l t) {z : Str} {m : List OD → FOut} (e : t.lookup z = some m) :
    ∃ f dv, l.lookup z = some dv ∧ dv.v K = .ref f ∧ LkA P w K mg base j n f m := by
  induction h with
  | nil => cases e
  | @cons k z' nm ps m' l t F g hk hn r ih =>
    unfold List.lookup at e ⊢
    split at e
    · rename_i ez
      cases e
      obtain ⟨f, fd, a, b, c, d⟩ := F
      have e2 := b.symm.trans g
      cases e2
      subst hn
      exact ⟨_, _, rfl, rfl, fd, ps, a.mono hk, c, d⟩
    · exact ih e
def tCallR (i : Nat) (S : Addr → Sp → Prop) (E : L2.St → L2.XK) (t : TA) : TE := fun σ H Q => ∃ f sp, σ[i]? = some (some (.ref f)) ∧ S f sp ∧ t σ H fun vs H1 => sp vs H1 Q (E σ)
def sLook (i n : Nat) (tab : List (Str × (List OD → FOut))) (mi : Gm → Out PyData) (ml : Gm → Out (List Ar)) (g : Gm) : SOut :=
  match mi g with
  | .ok d g1 => match d with
    | .str z => match tab.lookup z with
      | some m => if i < g1.length then sDrop (oCall n m ml) (st g1 i (.v .exc)) else .stk
      | none => .stk
    | _ => .stk
  | .err e g1 => .err e g1
  | .stk => .stk
section
variable {X : Cx} {W : Wz} {e ix : Expr} {es : List Expr} {pos py p pE pA pS pT : Pos} {y T : Str} {i j n : Nat} {l : List (Str × He.Dv)} {tab : List (Str × (List OD → FOut))} {mi : Gm → Out PyData} {ml : Gm → Out (List Ar)}
theorem pe_callR {S : Addr → Sp → Prop} {E : L2.St → L2.XK} {t : TA} (A : ∀ f sp, S f sp → ∃ m, sp = spL X.K X.mg n m ∧ LkA X.prog X.w X.K X.mg X.base j n f m) (hr : Room j X.A) (hN : X.N[i]? = some y) (hv : Vis X.env.scope y) (hx : ∀ σ, PassesAt (L2N.CX X.prog X.w) X σ (E σ)) (ha : PA X (e :: es) t)
    (hd : (y == ("__debug__" : Str)) = false) (hcd : (y == ("__classdict__" : Str)) = false) (hs : starEach (e :: es) X.env = (false, eval e X.env) :: starEach es X.env) (hpl : (backTo pos (starEach es X.env)).any (·.1) = false) : PE X (.Call (.Name y p) (e :: es) [] pos) (tCallR i S E t) := by
  refine ⟨fun pins s σ H Q I h => ?_⟩
  obtain ⟨f, sp, hf, hS, ht⟩ := h
  obtain ⟨m, rfl, fd, ps, F, kp, b⟩ := A f sp hS
  refine wpAny_Call_Name_kw (thn ((pe_var (pos := p) hN hv hd hcd).run pins s σ H (fun v H1 => v = .ref f ∧ H1 = H) I ⟨_, hf, rfl, rfl⟩) fun u s1 ⟨v, H1, I1, r1, q1⟩ => ?_)
  obtain ⟨rfl, rfl⟩ := q1
  cases r1
  exact PySem.W.callWith_K (h₀ := X.base) I.ok.mod.kin kp (thn (ha.run pos pins s1 σ _ _ I1 ht) fun us s2 ⟨vs, H2, I2, r, q⟩ => ⟨I2.kIn, run_fnS F hr b (hx σ) I2 r q⟩) hs hpl
theorem dss_look {rest : List Stmt} {mr : Gm → SOut} (TB : TabK X.K X.w X.mg T l) (L : LkOk X.prog X.w X.K X.mg X.base j n l tab) (hr : Room j X.A) (tk : L2N.Takes X W.x) (hN : X.N.Nodup) (hix : DV X W ix mi) (ha : DL X W (e :: es) ml) (hrest : DSs X W rest mr)
    (hi : X.N[i]? = some y := by rfl) (hlo : Loc X.env.scope y := by first | exact Or.inl rfl | exact Or.inr rfl) (hv : Vis X.env.scope y := by first | exact Or.inl rfl | exact Or.inr (Or.inl rfl) | exact Or.inr (Or.inr rfl)) (hf : X.fn y = true ∨ X.env.scope.names.lookup y = some .local := by first | exact .inl rfl | exact .inr rfl)
    (hg : Gl X T := by rfl) (hdT : (T == ("__debug__" : Str)) = false := by decide) (hd : (y == ("__debug__" : Str)) = false := by decide) (hcd : (y == ("__classdict__" : Str)) = false := by decide) (hpi : PlainIx ix := by exact fun _ _ => rfl)
    (hs : starEach (e :: es) X.env = (false, eval e X.env) :: starEach es X.env := by rfl) (hpl : (backTo pos (starEach es X.env)).any (·.1) = false := by rfl)
    (hw : swapsWith (.Subscript (.Name T pT) ix pS) (some (.Name y py)) pA.line X.env = pure false := by rfl) (hw2 : swapsWith (.Call (.Name y p) (e :: es) [] pos) none pE.line X.env = pure false := by rfl) :
    DSs X W (.Assign [.Name y py] (.Subscript (.Name T pT) ix pS) pA :: .Expr (.Call (.Name y p) (e :: es) [] pos) pE :: rest) (sSeq (sLook i n tab mi ml) mr) := by
  obtain ⟨d, ds, dn, g, D, hz⟩ := TB
  obtain ⟨ti, i1, i2⟩ := hix
  obtain ⟨ta, a1, a2⟩ := ha
  obtain ⟨tr, r1, r2⟩ := hrest
  have p1 := ps_set (pos := pA) (pos' := py) hN hi hlo (pe_ix (pos := pS) ix_kdict (pe_glob (pos := pT) hg g (v := .ref d) rfl hdT) i1 hpi) hw hf
  have p2 := ps_expr (pos := pE) (pe_callR (p := p) (pos := pos) (n := n) (S := fun f sp => ∃ m, sp = spL X.K X.mg n m ∧ LkA X.prog X.w X.K X.mg X.base j n f m) (E := WE W.x) (fun _ _ h => h) hr hi hv (fun σ => L2N.passAt tk σ) a1 hd hcd hs hpl) hw2
  refine ⟨_, pss_cons p1 (pss_cons p2 r1), ?_⟩
  have key := rs_seq (K := X.K) (cg := cgX X W) (W := W.x) (m := sLook i n tab mi ml) (t := tSeq (tAsg (tOp (rIxD X.K X.w) (tC (.ref d)) ti) (gName i)) (tDrop (tCallR i (fun f sp => ∃ m, sp = spL X.K X.mg n m ∧ LkA X.prog X.w X.K X.mg X.base j n f m) (WE W.x) ta))) ?_ r2
  · exact key
  · intro pvs g σ S F H E r q
    refine i2 pvs g σ S F H _ r ?_
    unfold sLook at q
    cases em : mi g with
    | err e' g1 =>
      rw [em] at q
      exact ErrS.p q
    | stk =>
      rw [em] at q
      exact q.elim
    | ok d' g1 =>
      rw [em] at q
      intro v S1 F1 H1 s1 rr d1
      simp only at q
      replace q := PoS.st q s1
      cases d1 <;> try exact q.elim
      rename_i z
      simp only at q
      cases ez : tab.lookup z with
      | none =>
        rw [ez] at q
        exact q.elim
      | some m =>
        rw [ez] at q
        simp only at q
        by_cases hl : i < g1.length
        · rw [if_pos hl] at q
          obtain ⟨f, dv, l1, l2, lk⟩ := L.at ez
          obtain ⟨r0, e1, _, e3⟩ := hz z
          obtain ⟨u, rfl, ru⟩ := e3 dv l1
          refine ⟨d, z, dv.v X.K, rfl, rfl, ⟨ds, dn, u, D.at_, D.lit, e1, ru⟩, ?_⟩
          rw [l2]
          obtain ⟨S2, rr2, h2⟩ := rr.asg (i := i) (v := .ref f) (o := .exc) (A := fun _ => False) (.exc fun _ z => z) (fun _ z _ => z)
          have hset : (σ.set i (some (V.ref f)))[i]? = some (some (.ref f)) := List.getElem?_set_self (by rw [← rr.len]; exact hl)
          refine ⟨f, _, hset, ⟨m, rfl, lk⟩, ?_⟩
          have k2 := rs_drop (ro_call (K := X.K) (cg := cgX X W) (W := W.x) (n := n) (m := m) a2) pvs (st g1 i (.v .exc)) (σ.set i (some (.ref f))) S2 F1 H1 E rr2
          have s2 : Stp S1 F1 H1 S2 F1 H1 := (Stp.refl rr.fh).sub fun p z => (h2 p z).elim id False.elim
          exact k2 (PoS.st q s2)
        · rw [if_neg hl] at q
          exact q.elim
end
end VL
namespace VL
open PySem L2
/-! ### pure arguments -/
def PoPA (K : PySem.W.Frag) (cg : Cg) (W : WX) (σ : L2.St) (F H : Hp) (Q : List V → Hp → Prop) : Res (List PyData) → Prop
  | .ok ds => ∀ vs F' H', Pst F H F' H' → DqA K F' vs ds → Q vs H'
  | .err e => ErrQ K cg W σ F H e
  | .stk => False
def RPA (K : PySem.W.Frag) (cg : Cg) (W : WX) (t : TA) (m : Gm → Res (List PyData)) : Prop := ∀ pvs g σ S F H Q, Rel K cg pvs g σ S F H → PoPA K cg W σ F H Q (m g) → t σ H Q
def DPA (X : Cx) (W : Wz) (es : List Expr) (m : Gm → Res (List PyData)) : Prop := ∃ t, PA X es t ∧ RPA X.K (cgX X W) W.x t m
def paNil (_ : Gm) : Res (List PyData) := .ok []
def paCons (m : Gm → Res PyData) (r : Gm → Res (List PyData)) (g : Gm) : Res (List PyData) := (m g).bind fun a => (r g).bind fun as => .ok (a :: as)
def rTup (m : Gm → Res (List PyData)) (g : Gm) : Res OD := (m g).bind fun ds => if ds.length ≤ zl then .ok (.dat (.tuple ds)) else .stk
section
variable {K : PySem.W.Frag} {cg : Cg} {W : WX} {pvs : Pv} {g : Gm} {σ : L2.St} {S S1 S' A : Addr → Prop} {F F1 F' H H1 H' : Hp}
theorem ErrQ.pst {e : Er} (h : ErrQ K cg W σ F H e) (a : Pst F H F1 H1) : ErrQ K cg W σ F1 H1 e := fun C dop F' H' b c x => h C dop F' H' (a.trans b) c x
theorem rpa_nil : RPA K cg W tNil paNil := fun pvs g σ S F H Q r q => q [] F H (.refl r.fh) .nil
theorem rpa_cons {ta : TE} {tr : TA} {m : Gm → Res PyData} {mr : Gm → Res (List PyData)} (ha : RP K cg W ta m) (hr : RPA K cg W tr mr) : RPA K cg W (tCons ta tr) (paCons m mr) := fun pvs g σ S F H Q r q => by
  refine ha pvs g σ S F H _ r ?_
  unfold paCons at q
  cases e : m g with
  | err e' =>
    rw [e] at q
    exact q
  | stk =>
    rw [e] at q
    exact q.elim
  | ok d =>
    rw [e] at q
    intro v F1 H1 p1 d1
    refine hr pvs g σ S F1 H1 _ (r.pst p1) ?_
    simp only [Res.bind] at q
    cases e2 : mr g with
    | err e' =>
      rw [e2] at q
      exact ErrQ.pst q p1
    | stk =>
      rw [e2] at q
      exact q.elim
    | ok ds =>
      rw [e2] at q
      exact fun vs F2 H2 p2 d2 => q (v :: vs) F2 H2 (p1.trans p2) (.cons (dp_mo d1 p2.fr) d2)
theorem rr_tup {t : TA} {m : Gm → Res (List PyData)} (h : RPA K cg W t m) : RR K cg W (tTup t) (rTup m) := fun pvs g σ S F H Q r q => by
  refine h pvs g σ S F H _ r ?_
  unfold rTup at q
  cases e : m g with
  | err e' =>
    rw [e] at q
    exact q
  | stk =>
    rw [e] at q
    exact q.elim
  | ok ds =>
    rw [e] at q
    simp only [Res.bind] at q
    intro vs F1 H1 p1 d1
    split at q
    · rename_i hz
      refine ⟨by rw [dpa_len d1]; exact zl_le hz, fun p hp => ?_⟩
      exact fin_t (fun v A F' H' p3 ow fr => q v A F' H' (p1.trans p3) ow fun x hx => p1.keep.free (fr x hx)) p1.fh hp d1
    · exact q.elim
/-- a new empty list, looked at -/
theorem rw_nil : RW K cg W (tLst tNil) (fun _ => .ok (.list [])) := fun pvs g σ S F H Q r q => by
  refine ⟨Nat.zero_le _, fun p hp => ?_⟩
  exact q (.ref p) F _ (pst_own r.fh hp) ⟨p, [], rfl, upd_same, .nil⟩
/-! ### methods of a place's list -/
def vMutP (pl : Pl) (f : List PyData → List PyData → Option (PyData × List PyData)) (m : Gm → Res (List PyData)) (g : Gm) : Out PyData :=
  match plOd g pl with
  | some (.lst ds) => match m g with
    | .ok as => match f ds as with
      | some (d, ds') => .ok d (plPut g (.lst ds') pl)
      | none => .stk
    | .err e => .err e g
    | .stk => .stk
  | _ => .stk
theorem rv_mutP {to : TE} {ta : TA} {pl : Pl} {r : V → List V → Hp → VK → Prop} {f : List PyData → List PyData → Option (PyData × List PyData)} {m : Gm → Res (List PyData)} (rd : RdPl K cg to pl) (hf : MuG K r f) (ha : RPA K cg W ta m) : RV K cg W (tBM K "list" r to ta) (vMutP pl f m) := fun pvs g σ S F H Q rl q => by
  unfold vMutP at q
  split at q
  · rename_i ds eo
    obtain ⟨p, vs, pv, h1, h2, _⟩ := rl.lstP eo
    refine rd σ H _ _ pv ⟨.inl ⟨rfl, _, .of h1⟩, ?_⟩
    refine ha pvs g σ S F H _ rl ?_
    cases e : m g with
    | err e' =>
      rw [e] at q
      intro C dop F' H' p2 hc hx
      exact q C dop S F' H' p2.stp (rl.pst p2) hc hx
    | stk =>
      rw [e] at q
      exact q.elim
    | ok as =>
      rw [e] at q
      intro xs F1 H1 p1 d1
      simp only at q
      cases e2 : f ds as with
      | none =>
        rw [e2] at q
        exact q.elim
      | some y =>
        obtain ⟨d, ds'⟩ := y
        rw [e2] at q
        obtain ⟨p', vs', pv', h1', h2', back'⟩ := (rl.pst p1).lstP eo
        have ep := (pv.keep p1.keep).uniq pv'
        cases ep
        refine hf F1 H1 _ vs' ds xs as d ds' Q h1' h2' d1 e2 fun v vs'' hv h' => ?_
        obtain ⟨S3, r3, s3⟩ := back' _ _ h'
        exact q v S3 F1 _ (p1.stp.trans s3) r3 hv
  · exact q.elim
theorem rv_mutP0 {to : TE} {pl : Pl} {r : V → List V → Hp → VK → Prop} {f : List PyData → List PyData → Option (PyData × List PyData)} (rd : RdPl K cg to pl) (hf : MuG K r f) : RV K cg W (tBM0 K "list" r to) (vMutP pl f paNil) := fun pvs g σ S F H Q rl q => by
  have z := rv_mutP (W := W) (ta := tNil) rd hf rpa_nil pvs g σ S F H Q rl q
  exact z
def fPop : List PyData → List PyData → Option (PyData × List PyData)
  | ds, [] => match ds[ds.length - 1]? with
    | some d => some (d, ds.dropLast)
    | none => none
  | _, _ => none
theorem dpa_dropLast : ∀ {vs : List V} {ds : List PyData}, DqA K F vs ds → DqA K F vs.dropLast ds.dropLast
  | _, [], h => by
    cases h
    exact .nil
  | _, [d], h => by
    cases h with
    | cons h1 h2 =>
      cases h2
      exact .nil
  | _, d :: d' :: ds, h => by
    cases h with
    | cons h1 h2 =>
      cases h2 with
      | cons h3 h4 => exact .cons h1 (dpa_dropLast (.cons h3 h4))
theorem u_pop : MuG K rPop fPop := fun F H p vs ds xs as d ds' Q h1 h2 h3 hf k => by
  unfold fPop at hf
  split at hf
  · split at hf
    · rename_i d0 e0
      cases hf
      cases h3
      obtain ⟨v, ev, hv⟩ := dpa_get' h2 e0
      exact ⟨p, vs, v, rfl, rfl, h1, by rw [dpa_len h2]; exact ev, k v _ hv (dpa_dropLast h2)⟩
    · cases hf
  · cases hf
mutual
def lfD : PyData → Bool
  | .list _ => false
  | .dict _ => false
  | .tuple ds => lfA ds
  | _ => true
def lfA : List PyData → Bool
  | [] => true
  | d :: ds => lfD d && lfA ds
end
def lfO : OD → Bool
  | .dat d => lfD d
  | .lst ds => lfA ds
  | _ => false
def lfS : Sl → Sl
  | .v o => if lfO o = true then .v o else .no
  | .pin o => if lfO o = true then .pin o else .no
  | _ => .no
def frzI : OD → Option OD
  | .nd (.ins c names) os => (frzAll os).map fun ds => .fz (.ins c names) (ds.map OD.dat)
  | .fz (.dk keys) os => (frzAll os).map fun ds => .fz (.dk keys) (ds.map OD.dat)
  | _ => none
def NoTup (H : Hp) (p : Addr) : Prop := ∃ u, H p = some u ∧ (∀ vs, u ≠ .tup vs) ∧ ∀ o vs, u ≠ .frz o vs
theorem Ow.noTup {v : V} {o : OD} {p : Addr} (h : Ow K cg F H v o A) (hp : A p) : NoTup H p := by
  induction h with
  | dat h1 h2 => exact absurd hp (h2 p)
  | lst h1 h2 h3 h4 =>
    have e := (h4 p).mp hp
    subst e
    exact ⟨_, h1, (fun _ z => nomatch z), (fun _ _ z => nomatch z)⟩
  | dk h1 h2 hl h3 h4 =>
    have e := (h4 p).mp hp
    subst e
    exact ⟨_, h1, (fun _ z => nomatch z), (fun _ _ z => nomatch z)⟩
  | dt h1 h2 hl h3 h4 =>
    have e := (h4 p).mp hp
    subst e
    exact ⟨_, h1, (fun _ z => nomatch z), (fun _ _ z => nomatch z)⟩
  | @nd p' k vs os L A h1 h2 h3 h4 h5 h6 h7 h8 ih =>
    rcases (h8 p).mp hp with e | ⟨i, hi⟩
    · subst e
      cases k with
      | ins c names =>
        obtain ⟨C, dx, _, e, _⟩ := h1
        exact ⟨_, e, (fun _ z => nomatch z), (fun _ _ z => nomatch z)⟩
      | dk keys => exact ⟨_, h1.1, (fun _ z => nomatch z), (fun _ _ z => nomatch z)⟩
      | ls => exact ⟨_, h1, (fun _ z => nomatch z), (fun _ _ z => nomatch z)⟩
      | tp => exact h1.elim
    · have hlt : i < os.length := by
        rcases Nat.lt_or_ge i os.length with z | z
        · exact z
        · exact absurd hi (h7 i p z)
      exact ih i (vs[i]'(by omega)) (os[i]) (List.getElem?_eq_getElem (by omega)) (List.getElem?_eq_getElem hlt) hi
  | scr h1 h2 => exact absurd hp (h2 p)
  | exc h2 => exact absurd hp (h2 p)
  | tk h1 h2 => exact absurd hp (h2 p)
  | @fz p' k vs os L A h1 h3 h4 h5 h7 h8 ih =>
    obtain ⟨i, hi⟩ := (h8 p).mp hp
    have hlt : i < os.length := by
      rcases Nat.lt_or_ge i os.length with z | z
      · exact z
      · exact absurd hi (h7 i p z)
    exact ih i (vs[i]'(by omega)) (os[i]) (List.getElem?_eq_getElem (by omega)) (List.getElem?_eq_getElem hlt) hi
open Classical in
/-- the frozen part without A -/
noncomputable def lessF (F : Hp) (A : Addr → Prop) : Hp := fun p => if A p then none else F p
theorem lessF_in {p : Addr} (h : A p) : lessF F A p = none := by
  unfold lessF
  rw [if_pos h]
theorem lessF_out {p : Addr} (h : ¬ A p) : lessF F A p = F p := by
  unfold lessF
  rw [if_neg h]
theorem lessF_some {p : Addr} {u : HO} (h : lessF F A p = some u) : ¬ A p ∧ F p = some u := by
  by_cases z : A p
  · rw [lessF_in z] at h
    cases h
  · rw [lessF_out z] at h
    exact ⟨z, h⟩
mutual
theorem dq_lf (hA : ∀ p, A p → ∀ u, F p = some u → (∀ vs, u ≠ .tup vs) ∧ ∀ o vs, u ≠ .frz o vs) : ∀ (d : PyData) {v : V}, lfD d = true → Dq K F v d → Dq K (lessF F A) v d
  | .none, _, _, h => by
    cases h
    exact .non
  | .bool b, _, _, h => by
    cases h
    exact .bl b
  | .int i, _, _, h => by
    cases h
    exact .int i
  | .str x, _, _, h => by
    cases h
    exact .str x
  | .list ds, _, e, _ => by simp [lfD] at e
  | .dict ds, _, e, _ => by simp [lfD] at e
  | .tuple ds, _, e, h => by
    have e : lfA ds = true := by simpa [lfD] using e
    cases h with
    | tup h1 h2 =>
      refine .tup ?_ (dqa_lf hA ds e h2)
      rcases h1 with h1 | h1
      · left
        rcases h1 with h1 | ⟨o, h1⟩
        · exact .inl (by rw [lessF_out fun z => (hA _ z _ h1).1 _ rfl]; exact h1)
        · exact .inr ⟨o, by rw [lessF_out fun z => (hA _ z _ h1).2 _ _ rfl]; exact h1⟩
      · exact .inr h1
theorem dqa_lf (hA : ∀ p, A p → ∀ u, F p = some u → (∀ vs, u ≠ .tup vs) ∧ ∀ o vs, u ≠ .frz o vs) : ∀ (ds : List PyData) {vs : List V}, lfA ds = true → DqA K F vs ds → DqA K (lessF F A) vs ds
  | [], _, _, h => by
    cases h
    exact .nil
  | d :: ds, _, e, h => by
    have e : (lfD d && lfA ds) = true := by simpa [lfA] using e
    obtain ⟨e1, e2⟩ := Bool.and_eq_true_iff.mp e
    cases h with
    | cons h1 h2 => exact .cons (dq_lf hA d e1 h1) (dqa_lf hA ds e2 h2)
end
theorem Ow.lf {B : Addr → Prop} {v : V} {o : OD} (h : Ow K cg F H v o A) (e : lfO o = true) (hB : ∀ p, B p → ∀ u, F p = some u → (∀ vs, u ≠ .tup vs) ∧ ∀ o vs, u ≠ .frz o vs) : Ow K cg (lessF F B) H v o A := by
  cases h with
  | dat h1 h2 => exact .dat (dq_lf hB _ (by simpa [lfO] using e) h1) h2
  | lst h1 h2 h3 h4 =>
    refine .lst h1 ?_ (dqa_lf hB _ (by simpa [lfO] using e) h3) h4
    by_cases z : B (by assumption)
    all_goals first
      | exact lessF_in z
      | (rw [lessF_out z]; exact h2)
  | dk _ _ _ _ _ => simp [lfO] at e
  | dt _ _ _ _ _ => simp [lfO] at e
  | nd _ _ _ _ _ _ _ _ => simp [lfO] at e
  | scr _ _ => simp [lfO] at e
  | exc _ => simp [lfO] at e
  | tk _ _ => simp [lfO] at e
  | fz _ _ _ _ _ _ => simp [lfO] at e
theorem Ow.fzI {v : V} {o o' : OD} (h : Ow K cg F H v o A) (e : frzI o = some o') : Ow K cg (more F H A) H v o' (fun _ => False) := by
  have hA : ∀ p, A p → F p = none := fun p hp => (h.at hp).1
  cases h with
  | @nd p k vs os L A h1 h2 h3 h4 h5 h6 h7 h8 =>
    cases k with
    | ins c names =>
      unfold frzI at e
      obtain ⟨ds, hs, rfl⟩ := Option.map_eq_some_iff.mp e
      obtain ⟨C, dx, g, hp, hl⟩ := h1
      have len := frzAll_len hs
      refine .fz (vs := vs) (L := fun _ _ => False) ⟨C, dx, g, ?_, hl⟩ (by rw [List.length_map, len]; exact h3) (fun i v o e1 e2 => ?_) (fun _ _ _ _ z => z.elim) (fun _ _ _ z => z) fun q => ⟨False.elim, fun ⟨_, z⟩ => z⟩
      · rw [more_in ((h8 p).mpr (.inl rfl))]
        exact hp
      · obtain ⟨d, e3, rfl⟩ := List.getElem?_map ▸ e2 |> Option.map_eq_some_iff.mp
        have hi : i < os.length := by
          have := (List.getElem?_eq_some_iff.mp e3).1
          omega
        obtain ⟨d', f1, f2⟩ := frzAll_get hs (List.getElem?_eq_getElem hi)
        rw [e3] at f2
        cases f2
        exact .dat ((h4 i v _ e1 (List.getElem?_eq_getElem hi)).freeze f1 (more_same hA) fun q hq => more_in ((h8 q).mpr (.inr ⟨i, hq⟩))) fun _ z => z
    | dk keys => cases e
    | ls => cases e
    | tp => cases e
  | @fz p k vs os L A h1 h3 h4 h5 h7 h8 =>
    cases k with
    | dk keys =>
      unfold frzI at e
      obtain ⟨ds, hs, rfl⟩ := Option.map_eq_some_iff.mp e
      have len := frzAll_len hs
      refine .fz (vs := vs) (L := fun _ _ => False) (h1.mo (more_same hA)) (by rw [List.length_map, len]; exact h3) (fun i v o e1 e2 => ?_) (fun _ _ _ _ z => z.elim) (fun _ _ _ z => z) fun q => ⟨False.elim, fun ⟨_, z⟩ => z⟩
      obtain ⟨d, e3, rfl⟩ := List.getElem?_map ▸ e2 |> Option.map_eq_some_iff.mp
      have hi : i < os.length := by
        have := (List.getElem?_eq_some_iff.mp e3).1
        omega
      obtain ⟨d', f1, f2⟩ := frzAll_get hs (List.getElem?_eq_getElem hi)
      rw [e3] at f2
      cases f2
      exact .dat ((h4 i v _ e1 (List.getElem?_eq_getElem hi)).freeze f1 (more_same hA) fun q hq => more_in ((h8 q).mpr ⟨i, hq⟩)) fun _ z => z
    | ins c names => cases e
    | ls => cases e
    | tp => cases e
  | _ => cases e
theorem gt_map (f : Sl → Sl) (h : f .no = .no) : ∀ (g : Gm) (i : Nat), gt (g.map f) i = f (gt g i)
  | [], _ => h.symm
  | _ :: _, 0 => rfl
  | _ :: r, n + 1 => gt_map f h r n
def sRo (i : Nat) (ms : Gm → SOut) (g : Gm) : SOut :=
  match gt g i with
  | .pin o => match frzI o with
    | some o' => match ms (st g i (.pin o')) with
      | .rt u g1 => match gt g1 i with
        | .pin _ => if lfO u = true then .rt u (st (g1.map lfS) i (.pin o)) else .stk
        | _ => .stk
      | _ => .stk
    | none => .stk
  | _ => .stk
theorem rs_ro {t : TS} {ms : Gm → SOut} (i : Nat) (h : RS K cg W t ms) : RS K cg W t (sRo i ms) := fun pvs g σ S F H D r q => by
  unfold sRo at q
  cases eg : gt g i with
  | pin o =>
    rw [eg] at q
    simp only at q
    cases ef : frzI o with
    | none =>
      rw [ef] at q
      exact q.elim
    | some o' =>
      rw [ef] at q
      simp only at q
      obtain ⟨L, h1, h2, h3⟩ := r.ex
      have hi : i < g.length := gt_lt fun z => by
        rw [z] at eg
        cases eg
      have hs := h1 i
      unfold SlOk at hs
      rw [eg] at hs
      obtain ⟨v, sv, pv, ow⟩ := hs
      have hA0 : ∀ p, L i p → F p = none := fun p hp => (ow.at hp).1
      have sm : Same F (more F H (L i)) := more_same hA0
      have r0 : Rel K cg pvs (VL.st g i (.pin o')) σ (fun p => ∃ j, j ≠ i ∧ L j p) (more F H (L i)) H := by
        refine ⟨more_heap r.fh, by rw [st_len]; exact r.len, r.z, fun j => if j = i then fun _ => False else L j, fun j => ?_, fun j k p hjk hj hk => ?_, fun p => ?_⟩
        · by_cases z : j = i
          · subst z
            simp only [if_true]
            unfold SlOk
            rw [gt_st hi]
            exact ⟨v, sv, pv, ow.fzI ef⟩
          · simp only [if_neg z]
            have b := (h1 j).mo (F' := more F H (L i)) (H' := H) sm (fun _ _ => rfl) fun p hp => by
              rw [more_out fun y => h2 j i p z hp y]
              exact ((h1 j).at hp).1
            unfold SlOk at b ⊢
            rw [gt_st_ne z]
            exact b
        · by_cases z : j = i
          · simp only [if_pos z] at hj
          · by_cases y : k = i
            · simp only [if_pos y] at hk
            · simp only [if_neg z] at hj
              simp only [if_neg y] at hk
              exact h2 j k p hjk hj hk
        · refine ⟨fun ⟨j, hj, hp⟩ => ⟨j, by simp only [if_neg hj]; exact hp⟩, fun ⟨j, hj⟩ => ?_⟩
          by_cases z : j = i
          · simp only [if_pos z] at hj
          · simp only [if_neg z] at hj
            exact ⟨j, z, hj⟩
      refine h pvs _ σ _ _ H D r0 ?_
      cases em : ms (VL.st g i (.pin o')) with
      | rt u g1 =>
        rw [em] at q
        simp only at q
        cases eg1 : gt g1 i with
        | pin o1 =>
          rw [eg1] at q
          simp only at q
          split at q
          · rename_i hlf
            intro vu Au σ' S' F' H' st1 r1 owu dj
            obtain ⟨L1, k1, k2, k3⟩ := r1.ex
            have hi1 : i < g1.length := gt_lt fun z => by
              rw [z] at eg1
              cases eg1
            have aH : ∀ p, L i p → F' p = H p ∧ H' p = H p ∧ (∀ u, F' p = some u → (∀ vs, u ≠ .tup vs) ∧ ∀ o vs, u ≠ .frz o vs) := fun p hp => by
              obtain ⟨u0, e0, e1, e2⟩ := ow.noTup hp
              have f0 : more F H (L i) p = some u0 := by
                rw [more_in hp]
                exact e0
              have f1 := st1.fr p u0 f0
              refine ⟨f1.trans e0.symm, (st1.fh p u0 f1).trans e0.symm, fun u eu => ?_⟩
              rw [f1] at eu
              cases eu
              exact ⟨e1, e2⟩
            have aS : ∀ p, L i p → ¬ S' p := fun p hp hs => by
              obtain ⟨u0, e0, _⟩ := ow.noTup hp
              have := (r1.at hs).1
              rw [(aH p hp).1, e0] at this
              cases this
            have aU : ∀ p, L i p → ¬ Au p := fun p hp hs => by
              obtain ⟨u0, e0, _⟩ := ow.noTup hp
              have := (owu.at hs).1
              rw [(aH p hp).1, e0] at this
              cases this
            have hB : ∀ p, L i p → ∀ u, F' p = some u → (∀ vs, u ≠ .tup vs) ∧ ∀ o vs, u ≠ .frz o vs := fun p hp => (aH p hp).2.2
            have smF : Same F (lessF F' (L i)) := fun p u e => by
              have np : ¬ L i p := fun z => by
                rw [hA0 p z] at e
                cases e
              rw [lessF_out np]
              exact st1.fr p u (by rw [more_out np]; exact e)
            have fh' : Same (lessF F' (L i)) H' := fun p u e => st1.fh p u (lessF_some e).2
            have ks := k1 i
            unfold SlOk at ks
            rw [eg1] at ks
            obtain ⟨v1, sv1, pv1, _⟩ := ks
            rw [pv] at pv1
            cases pv1
            have low : ∀ j p, (match lfS (gt g1 j) with | .no => False | _ => L1 j p) → L1 j p := fun j p hp => by
              split at hp
              · exact hp.elim
              · exact hp
            refine q vu Au σ' (fun p => L i p ∨ ∃ j, j ≠ i ∧ (match lfS (gt g1 j) with | .no => False | _ => L1 j p)) (lessF F' (L i)) H' ?_ ?_ (owu.lf hlf hB) ?_
            · refine ⟨fun p u hp e => st1.keep p u (fun ⟨j, _, z⟩ => hp ((h3 p).mpr ⟨j, z⟩)) e, smF, fun p u e => ?_, fun p hp => ?_, fh'⟩
              · obtain ⟨np, e'⟩ := lessF_some e
                rcases st1.nw p u e' with ⟨z, hz⟩ | hz | ⟨j, _, hz⟩
                · rw [more_out np] at hz
                  exact .inl ⟨z, hz⟩
                · exact .inr (.inl hz)
                · exact .inr (.inr ((h3 p).mpr ⟨j, hz⟩))
              · rcases hp with (hp | ⟨j, _, hp⟩) | hp
                · exact .inl ((h3 p).mpr ⟨i, hp⟩)
                · exact (st1.fp p (.inl ((k3 p).mpr ⟨j, low j p hp⟩))).imp (fun ⟨j, _, z⟩ => (h3 p).mpr ⟨j, z⟩) id
                · exact (st1.fp p (.inr hp)).imp (fun ⟨j, _, z⟩ => (h3 p).mpr ⟨j, z⟩) id
            · refine ⟨fh', by rw [st_len, List.length_map]; exact r1.len, r1.z, fun j p => if j = i then L i p else (match lfS (gt g1 j) with | .no => False | _ => L1 j p), fun j => ?_, fun j k p hjk hj hk => ?_, fun p => ?_⟩
              · by_cases z : j = i
                · subst z
                  simp only [if_true]
                  unfold SlOk
                  rw [gt_st (by rw [List.length_map]; exact hi1)]
                  exact ⟨v, sv1, pv, ow.mo smF (fun p hp => (aH p hp).2.1) fun p hp => lessF_in hp⟩
                · simp only [if_neg z]
                  have b := k1 j
                  unfold SlOk at b ⊢
                  rw [gt_st_ne z, gt_map lfS rfl]
                  cases e1 : gt g1 j with
                  | no => exact fun _ z => z
                  | v o2 =>
                    rw [e1] at b
                    by_cases hl : lfO o2 = true
                    · have el : lfS (.v o2) = .v o2 := if_pos hl
                      rw [el]
                      obtain ⟨w, w1, w2⟩ := b
                      exact ⟨w, w1, w2.lf hl hB⟩
                    · have el : lfS (.v o2) = .no := if_neg hl
                      rw [el]
                      exact fun _ z => z
                  | pin o2 =>
                    rw [e1] at b
                    by_cases hl : lfO o2 = true
                    · have el : lfS (.pin o2) = .pin o2 := if_pos hl
                      rw [el]
                      obtain ⟨w, w1, w2, w3⟩ := b
                      exact ⟨w, w1, w2, w3.lf hl hB⟩
                    · have el : lfS (.pin o2) = .no := if_neg hl
                      rw [el]
                      exact fun _ z => z
                  | al a b => exact fun _ z => z
                  | xc => exact fun _ z => z
              · by_cases z : j = i
                · simp only [if_pos z] at hj
                  by_cases y : k = i
                  · exact hjk (z.trans y.symm)
                  · simp only [if_neg y] at hk
                    exact aS p hj ((k3 p).mpr ⟨k, low k p hk⟩)
                · simp only [if_neg z] at hj
                  by_cases y : k = i
                  · simp only [if_pos y] at hk
                    exact aS p hk ((k3 p).mpr ⟨j, low j p hj⟩)
                  · simp only [if_neg y] at hk
                    exact k2 j k p hjk (low j p hj) (low k p hk)
              · refine ⟨fun hp => ?_, fun ⟨j, hj⟩ => ?_⟩
                · rcases hp with hp | ⟨j, hj, hp⟩
                  · exact ⟨i, by simp only [if_true]; exact hp⟩
                  · exact ⟨j, by simp only [if_neg hj]; exact hp⟩
                · by_cases z : j = i
                  · simp only [if_pos z] at hj
                    exact .inl hj
                  · simp only [if_neg z] at hj
                    exact .inr ⟨j, z, hj⟩
            · intro p hu hp
              rcases hp with hp | ⟨j, _, hp⟩
              · exact aU p hp hu
              · exact dj p hu ((k3 p).mpr ⟨j, low j p hp⟩)
          · exact q.elim
        | no =>
          rw [eg1] at q
          exact q.elim
        | v o1 =>
          rw [eg1] at q
          exact q.elim
        | al a b =>
          rw [eg1] at q
          exact q.elim
        | xc =>
          rw [eg1] at q
          exact q.elim
      | nx g1 =>
        rw [em] at q
        exact q.elim
      | br g1 =>
        rw [em] at q
        exact q.elim
      | ct g1 =>
        rw [em] at q
        exact q.elim
      | err e g1 =>
        rw [em] at q
        exact q.elim
      | stk =>
        rw [em] at q
        exact q.elim
  | no =>
    rw [eg] at q
    exact q.elim
  | v o =>
    rw [eg] at q
    exact q.elim
  | al a b =>
    rw [eg] at q
    exact q.elim
  | xc =>
    rw [eg] at q
    exact q.elim
/-- an attribute of an instance that is only looked at -/
def vFa (i : Nat) (c n : Str) (g : Gm) : Res PyData :=
  match (gt g i).od with
  | some (.fz (.ins c' names) os) => if c' = c then (match ixOf names n with
    | some j => match os[j]? with
      | some (.dat d) => .ok d
      | _ => .stk
    | none => .stk) else .stk
  | _ => .stk
theorem rp_fa {i : Nat} {c n : Str} (hc : AK K cg c n) : RP K cg W (tFld K (tVar i) n) (vFa i c n) := fun pvs g σ S F H Q r q => by
  unfold vFa at q
  split at q
  · rename_i c' names os eo
    split at q
    · rename_i ec
      split at q
      · rename_i j ej
        split at q
        · rename_i d ed
          obtain ⟨v, A, S1, e1, ow, _⟩ := r.take eo
          obtain ⟨p, vs, w, B, rfl, sh, hl, hw, owp, _⟩ := ow.partF ed
          obtain ⟨C, dx, z, hp, l⟩ := sh
          cases owp with
          | dat hd _ => exact rd_f i hc σ H Q w ⟨p, C, dx, _, e1, by rw [← ec]; exact z, r.fh _ _ hp, ixOf_look ej hw⟩ (q w F H (.refl r.fh) hd)
        · exact q.elim
      · exact q.elim
    · exact q.elim
  · exact q.elim
end
section
variable {X : Cx} {W : Wz} {e o a : Expr} {es : List Expr} {pos p apos cpos a1 : Pos} {x c n nm name : Str} {k j : Nat} {ps : List Str} {m : List OD → FOut}
theorem dpa_nil : DPA X W [] paNil := ⟨_, pa_nil, rpa_nil⟩
theorem dpa_cons {m : Gm → Res PyData} {mr : Gm → Res (List PyData)} (h : DP X W e m) (hr : DPA X W es mr) (hs : starEach (e :: es) X.env = (false, eval e X.env) :: starEach es X.env := by rfl) : DPA X W (e :: es) (paCons m mr) :=
  let ⟨_, h1, h2⟩ := h; let ⟨_, k1, k2⟩ := hr; ⟨_, pa_cons h1 k1 hs, rpa_cons h2 k2⟩
theorem dr_tup {m : Gm → Res (List PyData)} {x1} (h : DPA X W es m) : DR X W (.Tuple es x1 pos) (rTup m) := let ⟨_, h1, h2⟩ := h; ⟨_, pe_tup h1, rr_tup h2⟩
theorem dw_nil : DW X W (.List [] pos) (fun _ => .ok (.list [])) := ⟨_, pe_lst pa_nil, rw_nil⟩
theorem dp_fa (i : Nat) (hc : AK X.K X.mg c nm) (hN : X.N[i]? = some x := by rfl) (hv : Vis X.env.scope x := by first | exact Or.inl rfl | exact Or.inr (Or.inl rfl) | exact Or.inr (Or.inr rfl)) (hd : (x == ("__debug__" : Str)) = false := by decide)
    (hcd : (x == ("__classdict__" : Str)) = false := by decide) (hb : attributeBase (.Name x p) nm X.env (eval (.Name x p) X.env) = eval (.Name x p) X.env := by rfl) : DP X W (.Attribute (.Name x p) nm a1) (vFa i c nm) := ⟨_, pe_fld (pv i hN hv hd hcd) hb, rp_fa (cg := cgX X W) hc⟩
theorem dss_ro {l : List Stmt} {ms : Gm → SOut} (i : Nat) (h : DSs X W l ms) : DSs X W l (sRo i ms) := let ⟨_, h1, h2⟩ := h; ⟨_, h1, rs_ro i h2⟩
/-- x.at.method(e, ..) -/
theorem dv_mutF {id : String} {r : V → List V → Hp → VK → Prop} {f : List PyData → List PyData → Option (PyData × List PyData)} {ma : Gm → Res (List PyData)} {p2 : Pos} (i : Nat) (hc : AK X.K X.mg c nm) (slot : Slot "list" name id) (hty : typeOf (.builtin id) = pure (.type "method_descriptor")) (hm : MtR X id r) (hf : MuG X.K r f) (ha : DPA X W (e :: es) ma)
    (hN : X.N[i]? = some x := by rfl) (hv : Vis X.env.scope x := by first | exact Or.inl rfl | exact Or.inr (Or.inl rfl) | exact Or.inr (Or.inr rfl)) (hd : (x == ("__debug__" : Str)) = false := by decide) (hcd : (x == ("__classdict__" : Str)) = false := by decide)
    (hb : attributeBase (.Name x p) nm X.env (eval (.Name x p) X.env) = eval (.Name x p) X.env := by rfl)
    (hbase : attributeBase (.Attribute (.Name x p) nm p2) name X.env (eval (.Attribute (.Name x p) nm p2) X.env) = eval (.Attribute (.Name x p) nm p2) X.env := by rfl)
    (hfew : ((backTo cpos (starEach (e :: es) X.env)).all (fun x => !x.1) && (backToKw cpos (keywordEach [] X.env)).all (fun x => x.1.isSome)
      && decide ((e :: es).length + ([] : List Keyword).length + (if ([] : List Keyword).isEmpty then 0 else 1) < 30)) = true := by rfl)
    (hline : (apos.endLine == cpos.line) = true := by rfl) (hs : starEach (e :: es) X.env = (false, eval e X.env) :: starEach es X.env := by rfl) (hplain : (backTo cpos (starEach es X.env)).any (·.1) = false := by rfl) :
    DV X W (.Call (.Attribute (.Attribute (.Name x p) nm p2) name apos) (e :: es) [] cpos) (vMutP (.f i c nm) f ma) :=
  let ⟨_, h1, h2⟩ := ha; ⟨_, pe_bm PySem.F.plainAttrs_list slot hty hm (pe_fld (pv i hN hv hd hcd) hb) h1 hbase hfew hline hs hplain, rv_mutP (cg := cgX X W) (rd_f i hc) hf h2⟩
theorem dv_mutF0 {id : String} {r : V → List V → Hp → VK → Prop} {f : List PyData → List PyData → Option (PyData × List PyData)} {p2 : Pos} (i : Nat) (hc : AK X.K X.mg c nm) (slot : Slot "list" name id) (hty : typeOf (.builtin id) = pure (.type "method_descriptor")) (hm : MtR X id r) (hf : MuG X.K r f)
    (hN : X.N[i]? = some x := by rfl) (hv : Vis X.env.scope x := by first | exact Or.inl rfl | exact Or.inr (Or.inl rfl) | exact Or.inr (Or.inr rfl)) (hd : (x == ("__debug__" : Str)) = false := by decide) (hcd : (x == ("__classdict__" : Str)) = false := by decide)
    (hb : attributeBase (.Name x p) nm X.env (eval (.Name x p) X.env) = eval (.Name x p) X.env := by rfl)
    (hbase : attributeBase (.Attribute (.Name x p) nm p2) name X.env (eval (.Attribute (.Name x p) nm p2) X.env) = eval (.Attribute (.Name x p) nm p2) X.env := by rfl)
    (hline : (apos.endLine == cpos.line) = true := by rfl) :
    DV X W (.Call (.Attribute (.Attribute (.Name x p) nm p2) name apos) [] [] cpos) (vMutP (.f i c nm) f paNil) :=
  ⟨_, pe_bm0 PySem.F.plainAttrs_list slot hty hm (pe_fld (pv i hN hv hd hcd) hb) hbase hline, rv_mutP0 (cg := cgX X W) (rd_f i hc) hf⟩
end
end VL
namespace VL
open PySem L2
/-- the pairs that enumerate gives -/
def enumD : Nat → List PyData → List PyData
  | _, [] => []
  | k, d :: ds => .tuple [.int k, d] :: enumD (k + 1) ds
def sForE (is : List Nat) (tg : Tg) (ms : Gm → Out PyData) (mb : Gm → SOut) (g : Gm) : SOut :=
  match ms g with
  | .ok d g1 => match d with
    | .list ds => forM is tg mb (enumD 0 ds) (kl is g1)
    | _ => .stk
  | .err e g1 => .err e g1
  | .stk => .stk
def oCompE (is : List Nat) (tg : Tg) (mt : Gm → Out Bool) (me ms : Gm → Out PyData) (g : Gm) : Out OD :=
  match ms g with
  | .ok d g1 => match d with
    | .list ds => cEnd is g1 (cmpM is tg mt me (enumD 0 ds) [] (kl is g1))
    | _ => .stk
  | .err e g1 => .err e g1
  | .stk => .stk
section
variable {K : PySem.W.Frag} {cg : Cg} {W : WX} {pvs : Pv} {g : Gm} {σ : L2.St} {S S1 S' A : Addr → Prop} {F F1 F' H H1 H' : Hp} {D : Ends}
end
section
variable {X : Cx} {W : Wz} {a e : Expr} {es elts : List Expr} {pos p p2 tpos : Pos} {kk : Nat} {ts : List Nat} {n : Tg} {ms : Gm → Out PyData}
end
/-- the method nm of the class c keeps its mirror; its last parameters may lack -/
def MKD (P : Program) (w : World) (K : PySem.W.Frag) (mg : Str → Option Value) (base : Heap) (k : Nat) (c nm : Str) (ps : List Str) (dvs : List V) (m : List OD → FOut) : Prop :=
  ∃ C f fd, mg c = some (.ref C) ∧ L2.Cls K C ∧ Meth K C nm f ∧ FnOk P w K mg base (L2N.CX P w) k f fd ps (spL K mg ps.length m) ∧ Binds K fd ps [] ∧ ∃ ds, Vals dvs ds ∧ Binds K fd ps ds
section
variable {P : Program} {w : World} {K : PySem.W.Frag} {mg : Str → Option Value} {base : Heap} {h : Heap}
theorem MKD.all {k : Nat} {c nm : Str} {ps : List Str} {dvs : List V} {m : List OD → FOut} (h : MKD P w K mg base k c nm ps dvs m) : MK P w K mg base k c nm ps m := let ⟨C, f, fd, a, b, c, d, e, _⟩ := h; ⟨C, f, fd, a, b, c, d, e⟩
end
section
variable {X : Cx} {W : Wz} {e : Expr} {es : List Expr} {pos p apos : Pos} {x c nm : Str} {k j : Nat} {ps : List Str} {m : List OD → FOut}
end
end VL
namespace VL
open PySem L2
theorem tabs_at {ts : List TabD} {K : PySem.W.Frag} {w : World} (c : tabsO ts K = tabsV ts w) (i : Nat) {x : Str} {ks : List Str} (h : ts[i]? = some (x, ks) := by rfl) : He.dicW K (He.ga K x) = some (He.keysIn w.params ks) := by
  have e : (ts.map fun t => He.dicW K (He.ga K t.1))[i]? = (ts.map fun t => some (He.keysIn w.params t.2))[i]? := congrArg (fun l : TabO => l[i]?) c
  rw [List.getElem?_map, List.getElem?_map, h] at e
  exact Option.some.inj e
end VL
namespace VL
open PySem PySem.W PySem.Calls PyProof.Rows
def hookP (fa : List He.Fa) (fn : List He.DefD) (ex : Frag → Bool) (ts : List TabD) : Hook where
  α := (He.AlD × Bool) × TabO
  obs := fun s => (obsP fa fn ex s.heap.get?, tabsP ts s.heap.get?)
  val := fun w => ((He.valD fn, true), tabsV ts w)
  says := fun w h => ∃ K : Frag, K.In h ∧ SaysN fa fn ex ts w K
  of := fun _ _ e => ⟨_, He.frG_in, ⟨congrArg (fun z : (He.AlD × Bool) × TabO => z.1.1) e, congrArg (fun z : (He.AlD × Bool) × TabO => z.1.2) e⟩, congrArg (fun z : (He.AlD × Bool) × TabO => z.2) e⟩
  keeps := fun _ _ _ ⟨K, hK, c⟩ k => ⟨K, Frag.In.keeps hK k, c⟩
theorem obsP_eq {fa : List He.Fa} {fn : List He.DefD} {ex : Frag → Bool} {ts : List TabD} {g : Addr → Option Obj} {s : Shared} (h : ∀ a, g a = s.heap.get? a) : (obsP fa fn ex g, tabsP ts g) = (hookP fa fn ex ts).obs s := by
  have e : g = s.heap.get? := funext h
  rw [e]
  rfl
/-! the parts -/
theorem obsP_app {fa1 fa2 : List He.Fa} {fn1 fn2 : List He.DefD} {ex1 ex2 : Frag → Bool} {g : Addr → Option Obj} (h1 : obsP fa1 fn1 ex1 g = (He.valD fn1, true)) (h2 : obsP fa2 fn2 ex2 g = (He.valD fn2, true)) :
    obsP (fa1 ++ fa2) (fn1 ++ fn2) (fun K => ex1 K && ex2 K) g = (He.valD (fn1 ++ fn2), true) := by
  unfold obsP He.obsD He.valD at *
  generalize fragP g = K at *
  simp only [Prod.mk.injEq, Bool.and_eq_true] at h1 h2
  obtain ⟨⟨⟨a1, a2⟩, a3⟩, a4⟩ := h1
  obtain ⟨⟨⟨b1, b2⟩, b3⟩, b4⟩ := h2
  show (((fa1 ++ fa2).all _ && (fn1 ++ fn2).all _, (fn1 ++ fn2).map _), ex1 K && ex2 K) = _
  rw [List.all_append, List.all_append, List.map_append, List.map_append, a1, a2, a3, a4, b1, b2, b3, b4]
  rfl
theorem RunP.app {r : OpenRow} {M : Nat} {fa1 fa2 : List He.Fa} {fn1 fn2 : List He.DefD} {ex1 ex2 : Frag → Bool} {w : World} (h1 : RunP r M fa1 fn1 ex1 w) (h2 : RunP r M fa2 fn2 ex2 w) : RunP r M (fa1 ++ fa2) (fn1 ++ fn2) (fun K => ex1 K && ex2 K) w := fun os => by
  obtain ⟨s, e, v1⟩ := Option.map_eq_some_iff.mp (h1 os)
  have v2 := h2 os
  rw [e] at v2 ⊢
  exact congrArg some (obsP_app v1 (Option.some.inj v2))
theorem RunA.l {r : OpenRow} {q : Program} {M : Nat} {loose : List PySem.Str} {ts : List TabD} {w : World} (h : RunA r q M loose ts w) : RunL r M w := fun os => by
  obtain ⟨s, e, v⟩ := Option.map_eq_some_iff.mp (h os)
  rw [e]
  exact congrArg (fun z : (Bool × _) × TabO => some z.1.1) v
theorem RunA.s {r : OpenRow} {q : Program} {M : Nat} {loose : List PySem.Str} {ts : List TabD} {w : World} (h : RunA r q M loose ts w) : RunS r q M loose w := fun os => by
  obtain ⟨s, e, v⟩ := Option.map_eq_some_iff.mp (h os)
  rw [e]
  exact congrArg (fun z : (Bool × _) × TabO => some z.1.2) v
theorem RunA.q {r : OpenRow} {q : Program} {M : Nat} {loose : List PySem.Str} {ts : List TabD} {w : World} (h : RunA r q M loose ts w) : RunQ r M ts w := fun os => by
  obtain ⟨s, e, v⟩ := Option.map_eq_some_iff.mp (h os)
  rw [e]
  exact congrArg (fun z : (Bool × _) × TabO => some z.2) v
theorem run_ofP {r : OpenRow} {q : Program} {M : Nat} {fa : List He.Fa} {fn : List He.DefD} {ex : Frag → Bool} {ts : List TabD} {loose : List PySem.Str} {w : World} (h0 : RunL r M w) (h1 : RunS r q M loose w) (h2 : RunP r M fa fn ex w) (h3 : RunQ r M ts w) : HandSHeadRun.RunEq r q (hookP fa fn ex ts) (fun s => (obsP fa fn ex (HandSHeadRun.getT s), tabsP ts (HandSHeadRun.getT s))) M loose w := fun os => by
  obtain ⟨s, e, v0⟩ := Option.map_eq_some_iff.mp (h0 os)
  have v1 := h1 os
  have v2 := h2 os
  have v3 := h3 os
  rw [e] at v1 v2 v3
  have v1 := Option.some.inj v1
  have v2 := Option.some.inj v2
  have v3 := Option.some.inj v3
  show (topEnd r M w os).map _ = _
  rw [e]
  exact congrArg some (Prod.ext v0 (Prod.ext v1 (Prod.ext v2 v3)))
theorem RunU.s {r : OpenRow} {q : Program} {M : Nat} {loose : List PySem.Str} {ts : List TabD} {w : World} (h : RunU r q M loose ts w) : RunS r q M loose w := fun os => by
  obtain ⟨s, e, v⟩ := Option.map_eq_some_iff.mp (h os)
  rw [e]
  exact congrArg (fun z : _ × TabO => some z.1) v
theorem RunU.q {r : OpenRow} {q : Program} {M : Nat} {loose : List PySem.Str} {ts : List TabD} {w : World} (h : RunU r q M loose ts w) : RunQ r M ts w := fun os => by
  obtain ⟨s, e, v⟩ := Option.map_eq_some_iff.mp (h os)
  rw [e]
  exact congrArg (fun z : _ × TabO => some z.2) v
end VL
namespace VL
open PySem L2
variable {K : PySem.W.Frag} {cg : Cg} {W : WX}
section

variable {X : Cx} {W : Wz} {e : Expr} {k : Nat} {p1 p2 p3 pos : Pos}
end
end VL
namespace VL
open PySem L2
variable {K : PySem.W.Frag} {F : Hp}
/-! a number in a tuple of numbers -/
def itL : List PyData → Option (List Int)
  | [] => some []
  | .int x :: r => (itL r).map (x :: ·)
  | _ :: _ => none
def fInTI : PyData → PyData → Option OD
  | .int a, .tuple ds => match itL ds with
    | some xs => ob (xs.any fun z => z == a)
    | none => none
  | _, _ => none
theorem itL_v : ∀ {ds : List PyData} {xs : List Int} {vs : List V}, itL ds = some xs → DqA K F vs ds → vs = xs.map V.int
  | [], xs, vs, h, d => by
    cases d
    cases h
    rfl
  | .int x :: r, xs, vs, h, d => by
    unfold itL at h
    obtain ⟨ys, e1, rfl⟩ := Option.map_eq_some_iff.mp h
    cases d with
    | cons d1 d2 =>
      cases d1
      rw [itL_v e1 d2]
      rfl
  | .none :: _, _, _, h, _ => by cases h
  | .bool _ :: _, _, _, h, _ => by cases h
  | .str _ :: _, _, _, h, _ => by cases h
  | .list _ :: _, _, _, h, _ => by cases h
  | .tuple _ :: _, _, _, h, _ => by cases h
  | .dict _ :: _, _, _, h, _ => by cases h
theorem flat_ints (xs : List Int) : (xs.map V.int).all flatV = true := by
  rw [List.all_map]
  simp [flatV]
theorem in_ints (a : Int) (xs : List Int) : inV (.int a) (xs.map V.int) = xs.any fun z => z == a := by
  unfold inV
  rw [List.any_map]
  rfl
section
variable {cg : Str → Option Value}
theorem g_inTI : OpG K cg (rIn K false) fInTI := fun F H x y a b o Q e hx hy hf k => by
  unfold fInTI at hf
  split at hf
  · rename_i s ds
    split at hf
    · rename_i xs e1
      cases hf
      obtain ⟨p, vs, rfl, h1, h2⟩ := hy.tup
      rw [hx.int]
      have ev := itL_v e1 h2
      subst ev
      refine ⟨p, _, rfl, .inr (sqt_mono e h1), rfl, flat_ints xs, ?_⟩
      rw [in_ints]
      exact fin_s k e (.bl _)
    · cases hf
  · cases hf
end
end VL
namespace VL
open PySem PySem.Spec PyProof.Rows L2
section
variable {K : PySem.W.Frag} {cg : Cg} {W : WX} {pvs : Pv} {g : Gm} {σ : L2.St} {S S1 S' A : Addr → Prop} {F F1 F' H H1 H' : Hp}
end
section
variable {X : Cx} {W : Wz} {e f ix : Expr} {es : List Expr} {pos p p2 p3 p4 apos cpos : Pos} {x y name : Str} {k j : Nat}
end
end VL
namespace VL
open PySem PySem.Spec PyProof.Rows L2 L2H
/-- a comprehension's block, with the handled exception p -/
abbrev blkP (X : Cx) (p : Addr × Obj) (s : Shared) (H : Hp) (scope : Scope) (cenv : Env) (fp : List Addr) : Cx := { X.blk s H scope cenv fp with pn := [p] }
section
variable {X : Cx} {p : Addr × Obj} {pins : List (Addr × Obj)} {σ : L2.St} {H H' : Hp} {s s' : Shared}
/-- p among what is pinned -/
def PinAt (X : Cx) (p : Addr × Obj) (H : Hp) (s : Shared) : Prop := s.heap.get? p.1 = some p.2 ∧ H p.1 = none ∧ p.1 ≠ X.env.locals ∧ p.1 ∉ X.fs ∧ ∀ v, p.2.data ≠ .cell v
theorem toP {scope : Scope} {cenv : Env} {fp : List Addr} {t : Shared} {G : Hp} (J : Inv (X.blk t G scope cenv fp) pins σ H s) (z : PinAt (X.blk t G scope cenv fp) p H s) : Inv (blkP X p t G scope cenv fp) pins σ H s := by
  obtain ⟨a1, a2, a3, a4, a5, a6, a7, a8, a9, a10, a11⟩ := J
  refine ⟨⟨a1.mod, a1.kind, a1.glob, a1.blt, a1.above, a1.inj, a1.has, a1.cab, a1.hd, a1.frames, a1.stk, a1.exf, a1.bs, a1.bsz, a1.noex, a1.exfs, a1.funs, a1.frf⟩, a2, a3, a4, a5, a6, a7, a8, fun q hq => ?_, a10, a11⟩
  rcases List.mem_append.mp hq with hq | hq
  · rw [List.mem_singleton.mp hq]
    exact z
  · exact a9 q (List.mem_append.mpr (.inr hq))
theorem ofP {scope : Scope} {cenv : Env} {fp : List Addr} {t : Shared} {G : Hp} (J : Inv (blkP X p t G scope cenv fp) pins σ H s) : Inv (X.blk t G scope cenv fp) pins σ H s := by
  obtain ⟨a1, a2, a3, a4, a5, a6, a7, a8, a9, a10, a11⟩ := J
  exact ⟨⟨a1.mod, a1.kind, a1.glob, a1.blt, a1.above, a1.inj, a1.has, a1.cab, a1.hd, a1.frames, a1.stk, a1.exf, a1.bs, a1.bsz, a1.noex, a1.exfs, a1.funs, a1.frf⟩, a2, a3, a4, a5, a6, a7, a8, fun q hq => a9 q (List.mem_append.mpr (.inr ((List.mem_append.mp hq).elim (fun y => absurd y (by simp)) id))), a10, a11⟩
end
section
variable {X : Cx} {p : Addr × Obj} {elt tg iter : Expr} {ifs : List Expr} {scope : Scope} {own : List (Str × Nat)} {wi : TI} {g : TG} {tt : TT} {te : TE}
/-- what is known of the parts of a comprehension's block -/
structure HotB (X : Cx) (p : Addr × Obj) (elt tg iter : Expr) (ifs : List Expr) (scope : Scope) (own : List (Str × Nat)) (wi : TI) (g : TG) (tt : TT) (te : TE) : Prop where
  at_ : p ∈ X.pn
  hot : Hot1 X.A p
  nd : X.N.Nodup
  it : PIH X tg iter wi
  ok : BlkOk X.N X.env.scope scope own
  dg : ∀ (s : Shared) (H : Hp) (C : Addr) (cl : List (Str × Addr)) (fp : List Addr), PG (blkP X p s H scope (compEnvC scope cl C X.env) fp) tg g
  dt : ∀ (s : Shared) (H : Hp) (C : Addr) (cl : List (Str × Addr)) (fp : List Addr), PTs (blkP X p s H scope (compEnvC scope cl C X.env) fp) ifs tt
  de : ∀ (s : Shared) (H : Hp) (C : Addr) (cl : List (Str × Addr)) (fp : List Addr), PE (blkP X p s H scope (compEnvC scope cl C X.env) fp) elt te
  fs : ∀ x, foldedSetIterable iter X.env x = pure x
theorem HotB.core (B : HotB X p elt tg iter ifs scope own wi g tt te) {pins : List (Addr × Obj)} {s : Shared} {σ : L2.St} {H : Hp} {Q : VK} {pos pos' : Pos} {use : Option (Value → Sem Unit)} {Qf : Value → Shared → Prop} (J : Inv X pins σ H s) (w : tLc wi g tt te (own.map (·.2)) σ H Q)
    (fin : ∀ D C s' m H', Inv X pins σ H' s' → Q (.ref D) H' → s'.heap.Ns C m → FpOk X pins H' C → compPost (model X.prog X.w) X.A X.xe use Qf (.ref D) C (.ok .next) s') :
    wpAny (model X.prog X.w) X.A (comprehension (.ListComp elt [⟨tg, iter, ifs, 0⟩] scope pos) scope X.env pos' (newList []) false (eval iter X.env) use) Qf X.xe s := by
  have cells : ∀ y ∈ scope.names, y.2 = .free → ∃ c, X.env.cells.lookup y.1 = some c := fun y hy z => (B.ok.free y hy z).elim (fun k => J.ok.has _ (.inl k)) fun k => J.ok.has _ (.inr k)
  refine wpAny_comprehension_free (use := use) rfl B.fs (closure_ok cells) B.ok.kind (fun y hy z => by rw [B.ok.uniq y hy, z]) ?_
  refine thn (B.it.run pins s σ H _ J w) fun src t1 h1 => thn h1 fun itv t2 h2 => ?_
  obtain ⟨i0, fp, tn, I0, G, rfl, J2, T, z2, hf2, q⟩ := h2
  refine wpAny_newObj_type (newEnv_comp ?_) (by show 0 ≤ sizeLine; decide)
  obtain ⟨L, eL⟩ : ∃ L, L = t2.heap.objs.size := ⟨_, rfl⟩
  have hL : G L = none := J2.hok.fresh (Nat.le_of_eq eL.symm)
  obtain ⟨W, ⟨m0, w0⟩, step⟩ := q L hL
  rw [← eL]
  -- the state with the new list
  obtain ⟨t3, e3⟩ : ∃ t3 : Shared, t3 = { t2 with heap := t2.heap.push { cls := .type "list", data := .seq ([] : List Value).toArray } } := ⟨_, rfl⟩
  rw [← e3]
  have hp3 : t3.heap = t2.heap.push { cls := .type "list", data := .seq ([] : List Value).toArray } := by rw [e3]
  have J3 : Inv X pins σ (upd G L (.lst [])) t3 := by
    rw [e3]
    refine J2.laid (t' := t2.toks) (fun _ _ z => Heap.get?_push_of_some _ z) (Nat.le_of_eq eL.symm) ⟨Nat.zero_le _, [], 0, .nil, ?_⟩
    rw [eL]
    exact Heap.get?_push_size _ rfl
  have small : ∀ b ∈ fp, b < t2.heap.objs.size := fun b hb => (T.obj _ _ z2 b hb).elim fun o ho => Heap.lt_size ho.1
  have hf3 : ∀ b ∈ fp, FpOk X pins (upd G L (.lst [])) b ∧ b < t3.heap.objs.size := fun b hb => by
    have lt := small b hb
    refine ⟨⟨?_, (hf2 b hb).2⟩, by rw [hp3, Heap.size_push]; exact Nat.lt_succ_of_lt lt⟩
    rw [upd_ne (by rw [eL]; exact Nat.ne_of_lt lt)]
    exact (hf2 b hb).1
  have z3 : tn 0 t3.heap := T.keep _ _ _ z2 fun b _ o z => by rw [hp3]; exact Heap.get?_push_of_some _ z
  have J4 := block_start J3 B.ok B.nd hf3
  have bg := B.dg t3 (upd G L (.lst [])) t3.heap.objs.size (cellsFrom (t3.heap.objs.size + 1) scope.names (cloFrom X.env.cells scope.names [])) fp
  have bt := B.dt t3 (upd G L (.lst [])) t3.heap.objs.size (cellsFrom (t3.heap.objs.size + 1) scope.names (cloFrom X.env.cells scope.names [])) fp
  have be := B.de t3 (upd G L (.lst [])) t3.heap.objs.size (cellsFrom (t3.heap.objs.size + 1) scope.names (cloFrom X.env.cells scope.names [])) fp
  have pin3 : PinAt X p (upd G L (.lst [])) t3 := J3.pin p (List.mem_append.mpr (.inl B.at_))
  have lt3 : p.1 < t3.heap.objs.size := Heap.lt_size pin3.1
  show codeAny _ _ (.compStart (.ListComp elt [⟨tg, iter, ifs, 0⟩] scope pos) 0 (.ref i0) (.ref L) (compEnvC scope (cellsFrom (t3.heap.objs.size + 1) scope.names (cloFrom X.env.cells scope.names [])) t3.heap.objs.size X.env)) (compPost (model X.prog X.w) X.A X.xe use Qf (.ref L) t3.heap.objs.size) { t3 with heap := pushCells (t3.heap.push { cls := .type "dict", data := .dict #[] }) scope.names }
  have zero : ∀ b ∈ fp, (upd G L (.lst [])) b = none := fun b hb => (hf3 b hb).1.1
  obtain ⟨ce, ece⟩ : ∃ ce, ce = compEnvC scope (cellsFrom (t3.heap.objs.size + 1) scope.names (cloFrom X.env.cells scope.names [])) t3.heap.objs.size X.env := ⟨_, rfl⟩
  rw [← ece] at J4 bg bt be ⊢
  have locs : ce.locals = t3.heap.objs.size := by rw [ece]; rfl
  obtain ⟨t4, e4⟩ : ∃ t4 : Shared, t4 = { t3 with heap := pushCells (t3.heap.push { cls := .type "dict", data := .dict #[] }) scope.names } := ⟨_, rfl⟩
  rw [← e4] at J4 ⊢
  have kp4 : ∀ b o, t3.heap.get? b = some o → t4.heap.get? b = some o := fun b o z => by rw [e4]; exact pushCells_keeps _ _ _ _ (Heap.get?_push_of_some _ z)
  have z4 : tn 0 t4.heap := T.keep _ _ _ z3 fun b _ o z => kp4 b o z
  obtain ⟨G3, eG⟩ : ∃ G3, G3 = upd G L (.lst []) := ⟨_, rfl⟩
  rw [← eG] at J3 J4 bg bt be w0 zero hf3 pin3
  -- p outside the block's own things
  have notFs : p.1 ∉ (X.blk t3 G3 scope ce fp).fs := fun hm => by
    have : p.1 ∈ frs X.stack := hm
    rcases List.mem_cons.mp (J3.stkSub p.1 this) with y | y
    · exact pin3.2.2.1 y
    · exact pin3.2.2.2.1 y
  have pinB : ∀ {H' : Hp} {s' : Shared}, s'.heap.get? p.1 = some p.2 → H' p.1 = none → PinAt (X.blk t3 G3 scope ce fp) p H' s' := fun {H' s'} y1 y2 => ⟨y1, y2, fun y => by
    have : p.1 = ce.locals := y
    rw [locs] at this
    exact absurd lt3 (by rw [this]; exact Nat.lt_irrefl _), notFs, pin3.2.2.2.2⟩
  have J5 : Inv (blkP X p t3 G3 scope ce fp) [] (wipe σ (own.map (·.2))) G3 t4 := toP J4 (pinB (kp4 _ _ pin3.1) pin3.2.1)
  have hotB : HotC (blkP X p t3 G3 scope ce fp) := ⟨p, B.hot, List.mem_singleton.mpr rfl⟩
  have pfp : ∀ b ∈ fp, b ≠ p.1 := fun b hb y => (hf3 b hb).1.2.2.2.2.2 p (List.mem_append.mpr (.inl B.at_)) y.symm
  have still : ∀ {σ' : L2.St} {H' : Hp} {s' : Shared}, Inv (blkP X p t3 G3 scope ce fp) [] σ' H' s' → (∀ b ∈ fp, H' b = none) → ∀ b ∈ fp, FpOk (blkP X p t3 G3 scope ce fp) [] H' b := fun {σ' H' s'} J' n b hb => by
    refine ⟨n b hb, (J'.ok.exf b hb).1, J'.ok.exfs b hb, .inl hb, fun x c z => (J'.ok.exf b hb).2 x c z, fun q hq => ?_⟩
    have eq : q = p := by simpa using (show q ∈ [p] ++ ([] : List (Addr × Obj)) from hq)
    rw [eq]
    exact fun y => pfp b hb y.symm
  have run : codeAny (model X.prog X.w) X.A (.compLoop (.ListComp elt [⟨tg, iter, ifs, 0⟩] scope pos) 0 (.ref i0) (.ref L) ce) (compPost (model X.prog X.w) X.A X.xe use Qf (.ref L) t3.heap.objs.size) t4 := by
    refine compLoop_any (fun n s' => ∃ j H', Inv (blkP X p t3 G3 scope ce fp) [] (wipe σ (own.map (·.2))) H' s' ∧ tn j s'.heap ∧ (∀ b ∈ fp, H' b = none) ∧ W j n H') ?_ m0 ⟨0, G3, J5, z4, zero, w0⟩
    rintro n t5 ⟨j, G5, K5, z5, n5, w5⟩
    rcases step j n G5 w5 with ⟨halt, qe⟩ | ⟨more, Nx, hNx, body⟩
    · have dn := T.done (blkP X p t3 G3 scope ce fp) rfl rfl rfl hotB j [] t5 _ G5 (fun _ _ => False) K5 (still K5 n5) z5 halt
      refine thnF dn fun r t6 hr => ?_
      obtain ⟨rfl, K6⟩ := hr
      -- the def's own context again
      have B6 := ofP K6
      have out : Inv X pins σ G5 t6 := J3.call' (ch := fp) B6.os B6.base B6.hok B6.bare fun b hb => ⟨(hf3 b hb).1.2.2.2.1, (hf3 b hb).1.2.1, (hf3 b hb).1.2.2.2.2.1, (hf3 b hb).1.2.2.2.2.2⟩
      have gone : G5 t3.heap.objs.size = none := by
        have y : G5 ce.locals = none := K6.free
        rw [locs] at y
        exact y
      obtain ⟨mm, hn, _⟩ := K6.loc
      have hn : t6.heap.Ns ce.locals mm := hn
      rw [locs] at hn
      exact fin L t3.heap.objs.size t6 mm G5 out qe hn (J3.fpOk (Nat.le_refl _) gone)
    · have it := T.item (blkP X p t3 G3 scope ce fp) rfl rfl rfl hotB j [] t5 _ G5 (fun _ _ => False) K5 (still K5 n5) z5 more
      refine thnF it fun r t6 hr => ?_
      obtain ⟨u, rfl, h6⟩ := hr
      refine thnF h6 fun _ t7 hx => ?_
      obtain ⟨x, G7, K7, r7, y7, z7, n7⟩ := hx
      have K7' := K7.pinned (still K7 n7) (T.obj _ _ z7)
      refine thnF (bg.run _ t7 _ G7 x u _ K7' r7 (body x G7 y7)) fun _ t8 hx => ?_
      obtain ⟨σ8, G8, K8, hw8, q8⟩ := hx
      refine thnF (bt.run _ t8 σ8 G8 _ K8 q8) fun yes t9 hx => ?_
      obtain ⟨G9, K9, q9⟩ := hx
      have turn : ∀ {s' : Shared} {H' : Hp}, Inv (blkP X p t3 G3 scope ce fp) ([] ++ pinsAt fp t7.heap) σ8 H' s' → Nx H' → ∃ m, m < n ∧ ∃ j H', Inv (blkP X p t3 G3 scope ce fp) [] (wipe σ (own.map (·.2))) H' s' ∧ tn j s'.heap ∧ (∀ b ∈ fp, H' b = none) ∧ W j m H' := fun {s' H'} K' nx => by
        obtain ⟨m', lt, w'⟩ := hNx H' nx
        have pinned : ∀ b ∈ fp, ∀ o, t7.heap.get? b = some o → s'.heap.get? b = some o ∧ H' b = none := fun b hb o y =>
          have all := K'.pin (b, o) (List.mem_append_right _ (List.mem_append_right _ (mem_pinsAt hb y)))
          ⟨all.1, all.2.1⟩
        have len : (wipe σ (own.map (·.2))).length = σ8.length := by rw [← hw8, wipe_length]
        refine ⟨m', lt, j + 1, H', (K'.unpinned (pins := [])).weak len (fun i v y => ?_), T.keep _ _ _ z7 fun b hb o y => (pinned b hb o y).1, fun b hb => ?_, w'⟩
        · rw [← hw8] at y
          exact (wipe_some y).1
        · obtain ⟨o, y, _⟩ := T.obj _ _ z7 b hb
          exact (pinned b hb o y).2
      cases yes with
      | false =>
        simp only [Bool.false_eq_true, if_false] at q9 ⊢
        exact turn K9 q9
      | true =>
        simp only [if_true] at q9 ⊢
        refine thnF (be.run _ t9 σ8 G9 _ K9 q9) fun v t10 hx => ?_
        obtain ⟨yv, G10, K10, r10, acc, hD, hz, nx⟩ := hx
        exact app_ok (X := blkP X p t3 G3 scope ce fp) K10 hD hz r10 fun t11 K11 => turn K11 nx
  exact codeAny_compStart_list run (T.self X.A 0 _ _ _ z4 run)
end
end VL
namespace VL
open PySem PySem.Spec PyProof.Rows L2 L2H
section
variable {X : Cx} {W : Wz} {pos : Pos}
theorem dv_isH {i : Nat} {n y : Str} {p p2 p3 : Pos} {l : List (Str × Bool)} {e : Er} {q0 : Addr × Obj} {C : Addr} {d : Option Addr} {c : V} {cv : Value} {tc : TE} (I : IK X.K X.mg cv l) (hp : q0 ∈ X.pn) (hZ : ∀ pv, W.Z pv → pv.x i = some (.ref q0.1)) (hm : X.mg "isinstance" = none) (hC : X.mg e.c = some (.ref C)) (hdn : e.xs = [] → d = none) (hz : L2N.Zn (.ref C) d q0.2) (hf : ∃ vs, q0.2.data = .fields vs)
    (hcv : ∀ u, RelV c u → u = cv) (hc : PE X (.Name y p3) (tC c))
    (hN : X.N[i]? = some n := by rfl) (hv : Vis X.env.scope n := by first | exact Or.inl rfl | exact Or.inr (Or.inl rfl) | exact Or.inr (Or.inr rfl)) (hd : (n == ("__debug__" : Str)) = false := by decide) (hcd : (n == ("__classdict__" : Str)) = false := by decide) (hg : Gl X "isinstance" := by rfl)
    (hs : starEach [.Name n p2, .Name y p3] X.env = (false, eval (.Name n p2) X.env) :: starEach [.Name y p3] X.env := by rfl) (hs2 : starEach [.Name y p3] X.env = (false, eval (.Name y p3) X.env) :: starEach [] X.env := by rfl) (hpl : (backTo pos (starEach [.Name y p3] X.env)).any (·.1) = false := by rfl) :
    DV X W (.Call (.Name "isinstance" p) [.Name n p2, .Name y p3] [] pos) (vIsE i l e) := by
  have no : (∀ g, vIsE i l e g = .stk) → DV X W (.Call (.Name "isinstance" p) [.Name n p2, .Name y p3] [] pos) (vIsE i l e) := fun h => ⟨_, pe_no, fun pvs g σ S F H Q r q => by
    rw [h g] at q
    exact q.elim⟩
  cases eb : clsF l e.c with
  | none =>
    refine no fun g => ?_
    unfold vIsE
    rw [eb]
    split <;> simp_all
  | some b =>
    obtain ⟨D, hD, exc, kit⟩ := I _ (mem_of_lookup' eb)
    have e1 := hC.symm.trans hD
    cases e1
    refine ⟨_, pe_callB (call_isC hp exc hz.zc) hg hm (by decide +kernel) (pa_cons (pv i hN hv hd hcd) (pa_cons hc pa_nil hs2) hs) (by decide) (by decide) hs hpl, fun pvs g σ S F H Q r q => ?_⟩
    unfold vIsE at q
    cases eg : gt g i with
    | xc =>
      rw [eg] at q
      simp only [eb] at q
      obtain ⟨L, h1, _, _⟩ := r.ex
      have h := h1 i
      unfold SlOk at h
      rw [eg] at h
      obtain ⟨⟨v, s1, s2⟩, _⟩ := h
      have z := hZ pvs r.z
      rw [s2] at z
      cases z
      exact ⟨_, s1, c, cv, b, rfl, hcv, kit, q (.bl b) S F H (.refl r.fh) r (.bl b)⟩
    | _ => simp_all [PoV]
theorem dv_isHO {i : Nat} {n y : Str} {p p2 p3 : Pos} {l : List (Str × Bool)} {e : Er} {q0 : Addr × Obj} {C : Addr} {d : Option Addr} (I : IO X.K X.mg y l) (hp : q0 ∈ X.pn) (hZ : ∀ pv, W.Z pv → pv.x i = some (.ref q0.1)) (hm : X.mg "isinstance" = none) (hC : X.mg e.c = some (.ref C)) (hdn : e.xs = [] → d = none) (hz : L2N.Zn (.ref C) d q0.2) (hf : ∃ vs, q0.2.data = .fields vs)
    (hN : X.N[i]? = some n := by rfl) (hv : Vis X.env.scope n := by first | exact Or.inl rfl | exact Or.inr (Or.inl rfl) | exact Or.inr (Or.inr rfl)) (hd : (n == ("__debug__" : Str)) = false := by decide) (hcd : (n == ("__classdict__" : Str)) = false := by decide) (hg : Gl X "isinstance" := by rfl) (hgy : Gl X y := by rfl) (hdy : (y == ("__debug__" : Str)) = false := by decide)
    (hs : starEach [.Name n p2, .Name y p3] X.env = (false, eval (.Name n p2) X.env) :: starEach [.Name y p3] X.env := by rfl) (hs2 : starEach [.Name y p3] X.env = (false, eval (.Name y p3) X.env) :: starEach [] X.env := by rfl) (hpl : (backTo pos (starEach [.Name y p3] X.env)).any (·.1) = false := by rfl) :
    DV X W (.Call (.Name "isinstance" p) [.Name n p2, .Name y p3] [] pos) (vIsE i l e) := by
  obtain ⟨D, hD, I⟩ := I
  exact dv_isH (tc := tC (.ref D)) (c := .ref D) I hp hZ hm hC hdn hz hf (fun u h => h) (isE_own hD hgy hdy) hN hv hd hcd hg hs hs2 hpl
theorem dv_isHB {i : Nat} {n y : Str} {T : String} {p p2 p3 : Pos} {l : List (Str × Bool)} {e : Er} {q0 : Addr × Obj} {C : Addr} {d : Option Addr} (I : IB X.K X.mg y T l) (hp : q0 ∈ X.pn) (hZ : ∀ pv, W.Z pv → pv.x i = some (.ref q0.1)) (hm : X.mg "isinstance" = none) (hC : X.mg e.c = some (.ref C)) (hdn : e.xs = [] → d = none) (hz : L2N.Zn (.ref C) d q0.2) (hf : ∃ vs, q0.2.data = .fields vs)
    (hN : X.N[i]? = some n := by rfl) (hv : Vis X.env.scope n := by first | exact Or.inl rfl | exact Or.inr (Or.inl rfl) | exact Or.inr (Or.inr rfl)) (hd : (n == ("__debug__" : Str)) = false := by decide) (hcd : (n == ("__classdict__" : Str)) = false := by decide) (hg : Gl X "isinstance" := by rfl) (hgy : Gl X y := by rfl) (hny : y ≠ "__name__" := by decide) (hdy : (y == ("__debug__" : Str)) = false := by decide)
    (hs : starEach [.Name n p2, .Name y p3] X.env = (false, eval (.Name n p2) X.env) :: starEach [.Name y p3] X.env := by rfl) (hs2 : starEach [.Name y p3] X.env = (false, eval (.Name y p3) X.env) :: starEach [] X.env := by rfl) (hpl : (backTo pos (starEach [.Name y p3] X.env)).any (·.1) = false := by rfl) :
    DV X W (.Call (.Name "isinstance" p) [.Name n p2, .Name y p3] [] pos) (vIsE i l e) := by
  obtain ⟨hm2, hb, I⟩ := I
  exact dv_isH (tc := tC (.ty T)) (c := .ty T) I hp hZ hm hC hdn hz hf (fun u h => h) (isE_blt hm2 hb hgy hny hdy) hN hv hd hcd hg hs hs2 hpl
end
section
variable {P : Program} {w : World} {K : PySem.W.Frag} {mg : Str → Option Value} {base : Heap}
/-- what is known of the exception q0 at the error e -/
structure ExAt (mg : Str → Option Value) (e : Er) (q0 : Addr × Obj) : Prop where
  ex : ∃ (C : Addr) (d : Option Addr), mg e.c = some (.ref C) ∧ (e.xs = [] → d = none) ∧ L2N.Zn (.ref C) d q0.2 ∧ ∃ vs, q0.2.data = .fields vs
/-- a def of one name, called with the exception that is handled: m e = what it gives back -/
def HotFn (P : Program) (w : World) (K : PySem.W.Frag) (mg : Str → Option Value) (base : Heap) (k : Nat) (f : Addr) (fd : FuncData) (y : Str) (m : Er → Option OD) : Prop :=
  ∀ (A : Around) (outer : List Env) (s : Shared) (H F : Hp) (args : Args) (q0 : Addr × Obj) (e : Er) (o : OD) (Q : VK) (E : L2.XK),
    RoomH k A → Hot1 A q0 → PinOk outer H s q0 → Env0 P w K mg base A outer s H → BindsTo s fd args [(y, .ref q0.1)] → ExAt mg e q0 → m e = some o → Same F H →
    (∀ v B F' H', Stp (fun _ => False) F H B F' H' → Ow K mg F' H' v o B → Q v H') → codeAny (model P w) A (.call (.ref f) args) (CR (L2N.CX P w) outer P w H s Q E) s
/-- its mirror, from the body's -/
noncomputable def hotM (kk : Nat) (mb : Gm → SOut) : Option OD := cIf True (match mb (.xc :: List.replicate kk .no) with
  | .nx _ => some (.dat .none)
  | .rt o _ => some o
  | _ => none) none
/-- the start: the exception alone -/
theorem rel_hot {F H : Hp} {a : Addr} {kk : Nat} {N : List Str} (hF : Same F H) (hN : N.length = 1 + kk) : Rel K ⟨mg, fun pv => pv.x 0 = some (.ref a)⟩ ⟨fun _ => none, fun i => if i = 0 then some (.ref a) else none⟩ (.xc :: List.replicate kk .no) (L2.start N [.ref a]) (fun _ => False) F H := by
  have hs : L2.start N [V.ref a] = some (.ref a) :: List.replicate kk none := by
    unfold L2.start
    rw [hN]
    simp
  rw [hs]
  refine ⟨hF, by simp, by simp, fun _ _ => False, fun i => ?_, fun _ _ _ _ z => z.elim, fun q => ⟨fun z => z.elim, fun ⟨_, z⟩ => z⟩⟩
  unfold SlOk
  cases i with
  | zero => exact ⟨⟨.ref a, rfl, by simp⟩, fun _ z => z⟩
  | succ j =>
    have e : gt (.xc :: List.replicate kk .no) (j + 1) = .no := by
      rw [gt_get]
      simp only [List.getElem?_cons_succ, List.getElem?_replicate]
      split <;> rfl
    rw [e]
    exact fun _ z => z
theorem hot_ok {k kk : Nat} {f : Addr} {fd : FuncData} {x qual y : Str} {params : Arguments} {body : List Stmt} {scope : Scope} {dvs : List V} {kws : List (Str × V)} {N : List Str} {mb : Er → Gm → SOut} (F0 : FunD K x qual params body scope dvs kws f fd) (S : FnScope N [y] scope) (hN : N.length = 1 + kk)
    (hb : ∀ (cdv : Value) (A : Around) (outer : List Env) (s : Shared) (H : Hp) (E : L2.XK) (q0 : Addr × Obj) (e : Er), Hot1 A q0 → ExAt mg e q0 → RoomH k (A.deeper (PyProof.Rows.envOfC qual scope s.heap.objs.size f cdv)) →
      DSs (cxH (L2N.CX P w) P w K mg base N qual scope f cdv A outer s H E q0) (wS 0 q0.1) body (mb e)) : HotFn P w K mg base (k + 1) f fd y (fun e => hotM kk (mb e)) := by
  intro A outer s H F args q0 e o Q E hr hot hpin e0 hbd hx hm hF hq
  obtain ⟨oc, od, dV, kV, doc, pm, an, cdv, ct, osl, rfl, lk, hcd, _, _⟩ := F0.ex
  have KX : K.In s.heap := e0.mod.kin.keeps fun b o e => (e0.bs b o e).1
  have lim : s.heap.NoLimit := e0.mod.nolimit.keeps fun b o e => (e0.bs b o e).1
  have rv : Vals [V.ref q0.1] [Value.ref q0.1] := .cons rfl .nil
  have par := S.par y (List.mem_singleton.mpr rfl)
  have hk : ∀ z ∈ ([y].zip [Value.ref q0.1]), scope.names.lookup z.1 = some .local ∨ (scope.names.lookup z.1 = some .cell ∧ ((cellsFrom (s.heap.objs.size + 1) scope.names []).lookup z.1).isSome = true) := fun z hz => by
    have : z = (y, Value.ref q0.1) := by simpa using hz
    subst this
    exact par.imp id fun c => ⟨c, PySem.W.cellsFrom_some _ _ _ (.inl c)⟩
  have hl : [V.ref q0.1].length = [y].length := rfl
  refine codeAny_call_function hr.depth (KX _ _ lk) rfl S.co S.gen rfl (PySem.W.codeRec_of KX hcd) (hbd _ _ _ _ (wpAny_newFunctionEnv_cells S.kind hk fun env he s1 x => ?_))
  subst he
  have I : Inv (cxH (L2N.CX P w) P w K mg base N qual scope f cdv A outer s H E q0) [] (L2.start N [V.ref q0.1]) H s1 := inv_startH S hpin e0 hl rv x
  obtain ⟨t, t1, t2⟩ := hb cdv A outer s H E q0 e hot hx (hr.deeper _)
  refine ⟨lim.keeps x.toInCall.keep, codeAny_func (wpAny_mono (t1.run [] s1 _ H { nx := fun _ H' => Q .non H', rt := Q } I (t2 _ _ _ (fun _ => False) F H _ (rel_hot hF hN) ?_)) (fun fl s' hs => ?_) fun _ _ z => z)⟩
  · have hm : hotM kk (mb e) = some o := hm
    unfold hotM at hm
    rw [cIf_true] at hm
    cases eb : mb e (.xc :: List.replicate kk .no) with
    | nx g' =>
      rw [eb] at hm
      cases hm
      exact fun σ' S' F' H' st r => hq .non (fun _ => False) F' H' (st.sub fun _ z => z.elim) (.dat .non fun _ z => z)
    | rt o' g' =>
      rw [eb] at hm
      cases hm
      exact fun v B σ' S' F' H' st r ow dj => hq v B F' H' (st.sub fun _ z => .inr z) ow
    | br g' => rw [eb] at hm; cases hm
    | ct g' => rw [eb] at hm; cases hm
    | err e' g' => rw [eb] at hm; cases hm
    | stk => rw [eb] at hm; cases hm
  · cases fl with
    | ret u =>
      obtain ⟨v, σ', H', J, r, q⟩ := hs
      exact ⟨v, H', J.os, J.bare, J.base, J.hok, r, q⟩
    | next =>
      obtain ⟨σ', H', J, q⟩ := hs
      exact ⟨.non, H', J.os, J.bare, J.base, J.hok, rfl, q⟩
    | brk => exact (let ⟨_, _, _, q⟩ := hs; q).elim
    | cont => exact (let ⟨_, _, _, q⟩ := hs; q).elim
/-- by its name -/
def HK (P : Program) (w : World) (K : PySem.W.Frag) (mg : Str → Option Value) (base : Heap) (k : Nat) (x y : Str) (m : Er → Option OD) : Prop :=
  ∃ f fd, HotFn P w K mg base k f fd y m ∧ mg x = some (.ref f) ∧ PySem.W.keepIn K (.ref f) = true ∧ Binds K fd [y] []
theorem hk_mk {x y : Str} {st : Stmt} {N : List Str} {k kk : Nat} {mb : Er → Gm → SOut} (D : Df K mg x st) (S : FnScope N [y] (defScope st)) (hN : N.length = 1 + kk)
    (hbd : ∀ (kV doc pm : Value) (an : Option Addr) (cdv ct : Value) (us : List Value), us.length = [y].length → bindArgs (PySem.W.fnOf x x (defArgs st) (defBody st) (defScope st) .none kV doc pm an cdv ct) ⟨us, []⟩ = pure ([y].zip us))
    (hb : ∀ (f : Addr) (cdv : Value) (A : Around) (outer : List Env) (s : Shared) (H : Hp) (E : L2.XK) (q0 : Addr × Obj) (e : Er), Hot1 A q0 → ExAt mg e q0 → RoomH k (A.deeper (PyProof.Rows.envOfC x (defScope st) s.heap.objs.size f cdv)) →
      DSs (cxH (L2N.CX P w) P w K mg base N x (defScope st) f cdv A outer s H E q0) (wS 0 q0.1) (defBody st) (mb e)) : HK P w K mg base (k + 1) x y (fun e => hotM kk (mb e)) := by
  obtain ⟨f, fd, F, g⟩ := D
  exact ⟨f, fd, hot_ok F S hN (fun cdv A outer s H E q0 e h1 h2 h3 => hb f cdv A outer s H E q0 e h1 h2 h3), g, F.kp, F.bindsN hbd⟩
end
section
variable {X : Cx} {W : Wz} {pos p p2 : Pos} {x y n : Str} {k j i : Nat} {m : Er → Option OD} {e : Er} {q0 : Addr × Obj}
noncomputable def oHot (i : Nat) (m : Er → Option OD) (e : Er) (g : Gm) : Out OD :=
  match gt g i with
  | .xc => match m e with
    | some o => .ok o g
    | none => .stk
  | _ => .stk
/-- what such a call asks -/
def tHot (i : Nat) (K : PySem.W.Frag) (mg : Str → Option Value) (a : Addr) (o : OD) : TE := fun σ H Q => σ[i]? = some (some (.ref a)) ∧ ∃ F, Same F H ∧ ∀ v B F' H', Stp (fun _ => False) F H B F' H' → Ow K mg F' H' v o B → Q v H'
theorem pe_hot {o : OD} (D : HK X.prog X.w X.K X.mg X.base k x y m) (hr : RoomH k X.A) (hot : Hot1 X.A q0) (hp : q0 ∈ X.pn) (hx : ExAt X.mg e q0) (tk : L2N.Takes X W0) (hm : m e = some o)
    (hN : X.N[i]? = some n) (hv : Vis X.env.scope n) (hd : (n == ("__debug__" : Str)) = false) (hcd : (n == ("__classdict__" : Str)) = false) (hg : Gl X x) (hdb : (x == ("__debug__" : Str)) = false)
    (he : starEach [.Name n p2] X.env = (false, eval (.Name n p2) X.env) :: starEach [] X.env) (hpl : (backTo pos (starEach [] X.env)).any (·.1) = false) :
    PE X (.Call (.Name x p) [.Name n p2] [] pos) (tHot i X.K X.mg q0.1 o) := by
  obtain ⟨f, fd, F0, g, kp, b⟩ := D
  refine ⟨fun pins s σ H Q I ⟨hs, F, hF, hq⟩ => ?_⟩
  refine wpAny_Call_Name_kw (ld_glob I hg g ?_ hdb)
  refine PySem.W.callWith_K (h₀ := X.base) I.ok.mod.kin kp (thn ((pa_cons (pv i hN hv hd hcd) pa_nil he).run pos pins s σ H (fun vs H1 => vs = [.ref q0.1] ∧ H1 = H) I ⟨.ref q0.1, hs, rfl, rfl⟩) fun us s1 ⟨vs, H1, I1, r, hvs, hH⟩ => ⟨I1.kIn, ?_⟩) he hpl
  subst hvs hH
  have eu : us = [Value.ref q0.1] := by
    cases r with
    | cons r1 r =>
      cases r
      cases r1
      rfl
  subst eu
  have bb := b s1 [Value.ref q0.1] I1.kIn rfl
  have at_ := I1.pin q0 (List.mem_append_left _ hp)
  have ok : PinOk X.stack H1 s1 q0 := ⟨at_.1, at_.2.1, fun z => (List.mem_cons.mp (I1.stkSub q0.1 z)).elim at_.2.2.1 at_.2.2.2.1, at_.2.2.2.2⟩
  refine wpAny_call (codeAny_mono (F0 X.A X.stack s1 H1 F ⟨[Value.ref q0.1], []⟩ q0 e o Q (WE W0 σ) hr hot ok I1.env0 (by simpa using bb) hx hm hF hq) fun r s' h => ?_)
  cases r with
  | error u => exact L2N.passAt tk σ pins H1 s1 u s' I1 h
  | ok fl =>
    cases fl with
    | ret u => exact I1.after h
    | next => exact h.elim
    | brk => exact h.elim
    | cont => exact h.elim
theorem do_hot (i : Nat) (D : HK X.prog X.w X.K X.mg X.base k x y m) (hr : RoomH j X.A) (hk : k ≤ j) (hot : Hot1 X.A q0) (hp : q0 ∈ X.pn) (hZ : ∀ pv, W.Z pv → pv.x i = some (.ref q0.1)) (hx : ExAt X.mg e q0) (tk : L2N.Takes X W0)
    (hN : X.N[i]? = some n := by rfl) (hv : Vis X.env.scope n := by first | exact Or.inl rfl | exact Or.inr (Or.inl rfl) | exact Or.inr (Or.inr rfl)) (hd : (n == ("__debug__" : Str)) = false := by decide) (hcd : (n == ("__classdict__" : Str)) = false := by decide) (hg : Gl X x := by rfl) (hdb : (x == ("__debug__" : Str)) = false := by decide)
    (he : starEach [.Name n p2] X.env = (false, eval (.Name n p2) X.env) :: starEach [] X.env := by rfl) (hpl : (backTo pos (starEach [] X.env)).any (·.1) = false := by rfl) :
    DO X W (.Call (.Name x p) [.Name n p2] [] pos) (oHot i m e) := by
  cases em : m e with
  | none =>
    refine ⟨_, pe_no, fun pvs g σ S F H Q r q => ?_⟩
    unfold oHot at q
    rw [em] at q
    split at q <;> exact q.elim
  | some o =>
    refine ⟨_, pe_hot D (hr.mono hk) hot hp hx tk em hN hv hd hcd hg hdb he hpl, fun pvs g σ S F H Q r q => ?_⟩
    unfold oHot at q
    cases eg : gt g i with
    | xc =>
      rw [eg, em] at q
      obtain ⟨L, h1, _, _⟩ := r.ex
      have h := h1 i
      unfold SlOk at h
      rw [eg] at h
      obtain ⟨⟨v, s1, s2⟩, _⟩ := h
      have z := hZ pvs r.z
      rw [s2] at z
      cases z
      refine ⟨s1, F, r.fh, fun v B F' H' st ow => ?_⟩
      have np : ∀ p, S p → ¬ B p := fun p hs hb => by
        obtain ⟨_, u, e1⟩ := r.at hs
        rcases st.fp p hb with z | z
        · exact z
        · rw [e1] at z
          cases z
      have st2 : Stp S F H (fun p => S p ∨ B p) F' H' := by
        refine ⟨fun p u hs e => st.keep p u (fun z => z) e, st.fr, fun p u e => (st.nw p u e).imp id fun z => z.imp id fun z => z.elim, fun p z => ?_, st.fh⟩
        rcases z with z | z
        · exact .inl z
        · rcases st.fp p z with z | z
          · exact z.elim
          · exact .inr z
      exact q v B S F' H' st2 (r.stp st fun _ _ z => z) ow fun p hb hs => np p hs hb
    | _ => simp_all [PoO]
end
end VL
namespace VL
open PySem PySem.Spec PyProof.Rows L2 L2H
section
variable {X : Cx} {W : Wz} {elt tg iter a c : Expr} {ifs : List Expr} {scope : Scope} {pos p p2 : Pos} {n : Tg} {ts : List Nat} {mt : Gm → Out Bool} {me ma : Gm → Out PyData} {q0 : Addr × Obj}
end
section
variable {K : PySem.W.Frag} {cg : Cg} {W : WX} {F H : Hp}
theorem dqa_strs : ∀ (ys : List Str), DqA K F (ys.map V.str) (ys.map PyData.str)
  | [] => .nil
  | y :: ys => .cons (.str y) (dqa_strs ys)
def oSplit (mo me : Gm → Out PyData) (g : Gm) : Out OD := (mo g).bind fun x g1 => match x with
  | .str a => (me g1).bind fun y g2 => match y with
    | .str b => if (b.length == 0) = false ∧ a.length ≤ zl ∧ (Txt.split a b).length ≤ zl then .ok (.lst ((Txt.split a b).map .str)) g2 else .stk
    | _ => .stk
  | _ => .stk
abbrev rSplt : V → List V → Hp → VK → Prop := fun x xs H Q => ∃ a b, x = .str a ∧ xs = [.str b] ∧ (b.length == 0) = false ∧ a.length + 2 ≤ sizeLine ∧ rNewStrs (Txt.split a b) H Q
theorem zl_2 {n : Nat} (h : n ≤ zl) : n + 2 ≤ sizeLine := by
  rw [sizeLine_eq]
  unfold zl at h
  omega
theorem ro_split {to te : TE} {mo me : Gm → Out PyData} (ho : RV K cg W to mo) (he : RV K cg W te me) : RO K cg W (tM1 rSplt to te) (oSplit mo me) := fun pvs g σ S F H Q r q => by
  refine ho pvs g σ S F H _ r ?_
  unfold oSplit at q
  cases e : mo g with
  | ok x g1 =>
    rw [e] at q
    intro v S1 F1 H1 s1 r1 d1
    simp only [Out.bind] at q
    have q := PoO.st q s1
    cases x with
    | str a =>
      cases d1
      refine ⟨⟨a, rfl⟩, he pvs g1 σ S1 F1 H1 _ r1 ?_⟩
      cases e2 : me g1 with
      | ok y g2 =>
        rw [e2] at q
        intro v2 S2 F2 H2 s2 r2 d2
        have q := PoO.st q s2
        cases y with
        | str b =>
          cases d2
          simp only at q
          split at q
          · rename_i hc
            refine ⟨a, b, rfl, rfl, hc.1, zl_2 hc.2.1, fun p hp => ?_⟩
            exact fin_l (ds := (Txt.split a b).map .str) (fun v A F' H' p3 ow fr => q v A S2 F' H' (p3.stpA fr) (r2.pst p3) ow (r2.apart fr)) r2.fh hp (dqa_strs _)
          · exact q.elim
        | _ => exact q.elim
      | err e' g2 =>
        rw [e2] at q
        exact q
      | stk =>
        rw [e2] at q
        exact q.elim
    | _ => exact q.elim
  | err e' g1 =>
    rw [e] at q
    exact q
  | stk =>
    rw [e] at q
    exact q.elim
end
section
variable {X : Cx} {W : Wz} {o e : Expr} {apos pos p p2 : Pos} {x : Str}
theorem do_split {mo me : Gm → Out PyData} (ho : DV X W o mo) (he : DV X W e me) (hs : starEach [e] X.env = [(false, eval e X.env)] := by rfl) (hbase : attributeBase o "split" X.env (eval o X.env) = eval o X.env := by rfl) (hline : (apos.endLine == pos.line) = true := by rfl) :
    DO X W (.Call (.Attribute o "split" apos) [e] [] pos) (oSplit mo me) :=
  let ⟨_, o1, o2⟩ := ho; let ⟨_, e1, e2⟩ := he; ⟨_, pe_split o1 e1 hs hbase hline, ro_split o2 e2⟩
end
section
variable {X : Cx} {pos p p2 : Pos} {x y n : Str} {k j : Nat} {m : Er → Option OD} {e : Er} {a C : Addr} {oe : Obj} {d : Option Addr} {pn : List (Addr × Obj)}
theorem do_hotS (i : Nat) (D : HK X.prog X.w X.K X.mg X.base k x y m) (hr : Room j X.A) (hk : k ≤ j) (hC : X.mg e.c = some (.ref C)) (hdn : e.xs = [] → d = none) (hz : L2N.Zn (.ref C) d oe) (hv0 : ∃ vs, oe.data = .fields vs)
    (hN : X.N[i]? = some n := by rfl) (hv : Vis X.env.scope n := by first | exact Or.inl rfl | exact Or.inr (Or.inl rfl) | exact Or.inr (Or.inr rfl)) (hd : (n == ("__debug__" : Str)) = false := by decide) (hcd : (n == ("__classdict__" : Str)) = false := by decide) (hg : Gl (X.suite a ((a, oe) :: pn)) x := by rfl) (hdb : (x == ("__debug__" : Str)) = false := by decide)
    (he : starEach [.Name n p2] X.env = (false, eval (.Name n p2) X.env) :: starEach [] X.env := by rfl) (hpl : (backTo pos (starEach [] X.env)).any (·.1) = false := by rfl) :
    DO (X.suite a ((a, oe) :: pn)) (wS i a) (.Call (.Name x p) [.Name n p2] [] pos) (oHot i m e) := by
  obtain ⟨vs, hvs⟩ := hv0
  have hot : Hot1 (X.suite a ((a, oe) :: pn)).A (a, oe) := ⟨rfl, vs, hvs, hz.2.2 vs hvs⟩
  exact do_hot (X := X.suite a ((a, oe) :: pn)) (q0 := (a, oe)) i D ⟨hr.dp, hr.un⟩ hk hot List.mem_cons_self (fun _ z => z) ⟨⟨C, d, hC, hdn, hz, vs, hvs⟩⟩ takes0N hN hv hd hcd hg hdb he hpl
end
end VL
namespace VL
open PySem PySem.Spec PyProof.Rows L2
section
variable {K : PySem.W.Frag} {cg : Cg} {W : WX} {pvs : Pv} {σ : L2.St}
/-! ### a text's signs -/
def sof : PyData → Option (List PyData)
  | .str x => some (x.cps.toList.map fun c => .str ⟨#[c]⟩)
  | _ => none
theorem for_strS {x : Str} {g : TG} {tb : TS} {D : Ends} {H : Hp} (Pv : Nat → L2.St → Hp → Prop) (h0 : Pv 0 σ H)
    (hs : ∀ i c σ H, x.cps.toList[i]? = some c → Pv i σ H → g (.str ⟨#[c]⟩) σ H fun σ2 H2 => tb { D with nx := Pv (i + 1), ct := Pv (i + 1), bk := D.nx } σ2 H2) (hd : ∀ σ H, Pv x.cps.toList.length σ H → D.nx σ H) :
    ∃ W : Nat → Nat → L2.St → Hp → Prop, (∃ m, W 0 m σ H) ∧ ∀ i m σ H, W i m σ H →
      ((Its x).stop i H ∧ D.nx σ H) ∨ ((Its x).go i H ∧ ∃ N : L2.St → Hp → Prop, (∀ σ' H', N σ' H' → ∃ m', m' < m ∧ W (i + 1) m' σ' H') ∧ ∀ v H', (Its x).yld i H v H' → g v σ H' fun σ2 H2 => tb { D with nx := N, ct := N, bk := D.nx } σ2 H2) := by
  have len : x.cps.toList.length = x.cps.size := Array.length_toList
  refine ⟨fun i m σ H => m + i = x.cps.size ∧ Pv i σ H, ⟨x.cps.size, rfl, h0⟩, fun i m σ H ⟨e, p⟩ => ?_⟩
  rcases Nat.lt_or_ge i x.cps.size with lt | ge
  · refine .inr ⟨lt, Pv (i + 1), fun σ' H' p' => ⟨m - 1, by omega, by omega, p'⟩, ?_⟩
    rintro v H' ⟨rfl, c, hc, rfl⟩
    exact hs i c σ _ (by rw [Array.getElem?_toList]; exact hc) p
  · have ei : i = x.cps.toList.length := by omega
    rw [ei] at p
    exact .inl ⟨ge, hd σ H p⟩
theorem rs_forS {tl : TE} {tb : TS} {tg : TG} {m : Tg} {ms : Gm → Out PyData} {mb : Gm → SOut} {is ts : List Nat} (hs : RV K cg W tl ms) (hg : RG K cg ts tg m) (hb : RS K cg W tb mb) : RS K cg W (tFor (iStr tl) tg tb) (sFor sof is m ms mb) := fun pvs g σ S F H D r q => by
  refine hs pvs g σ S F H _ r ?_
  unfold sFor at q
  cases e : ms g with
  | ok d g1 =>
    rw [e] at q
    intro v S1 F1 H1 s1 r1 d1
    have q1 := PoS.st q s1
    cases d1 with
    | str x =>
      simp only [sof] at q1
      refine ⟨x, rfl, ?_⟩
      have ll : (x.cps.toList.map fun c => PyData.str ⟨#[c]⟩).length = x.cps.toList.length := List.length_map ..
      refine for_strS (x := x) (fun i σ' H' => ∃ g' S' F', Rel K cg pvs g' σ' S' F' H' ∧ PoS K cg W pvs S' F' H' D (forM is m mb ((x.cps.toList.map fun c => PyData.str ⟨#[c]⟩).drop i) g')) ?_ ?_ ?_
      · obtain ⟨S2, r2, s2⟩ := r1.klS is
        exact ⟨_, S2, F1, r2, PoS.st q1 s2⟩
      · rintro i c σ' H' hc ⟨g', S', F', r', q'⟩
        have ed : (x.cps.toList.map fun c => PyData.str ⟨#[c]⟩)[i]? = some (.str ⟨#[c]⟩) := by
          rw [List.getElem?_map, hc]
          rfl
        rw [drop_get ed] at q'
        exact for_turn hg hb r' (.str _) q' _ fun g2 σ2 S2 F2 H2 s2 r2 q2 => ⟨g2, S2, F2, r2, q2⟩
      · rintro σ' H' ⟨g', S', F', r', q'⟩
        rw [← ll, List.drop_length] at q'
        exact q' σ' S' F' H' (.refl r'.fh) r'
    | _ => exact q1.elim
  | err e' g1 =>
    rw [e] at q
    exact ErrS.p q
  | stk =>
    rw [e] at q
    exact q.elim
def fIntS : List PyData → Option OD
  | [.str a] => match PySem.intText? a with
    | some n => if a.length ≤ 640 then some (.dat (.int n)) else none
    | none => none
  | _ => none
theorem g_intS {cg : Str → Option Value} : CaG K cg (fun xs H Q => ∃ a n, xs = [.str a] ∧ PySem.intText? a = some n ∧ a.length ≤ 640 ∧ Q (.int n) H) fIntS := fun F H xs as o Q e hx hf k => by
  unfold fIntS at hf
  split at hf
  · rename_i a
    split at hf
    · rename_i n hn
      split at hf
      · rename_i hz
        cases hf
        cases hx with
        | cons h t =>
          cases t
          rw [h.str]
          exact ⟨_, _, rfl, hn, hz, fin_s k e (.int _)⟩
      · cases hf
    · cases hf
  · cases hf
/-- a text in a text -/
def inS (a b : Str) : Bool := !(Builtin.Str.occurrences b a 0 b.length 1).isEmpty
def fNotInS : PyData → PyData → Option OD
  | .str a, .str b => some (.dat (.bool (!inS a b)))
  | _, _ => none
theorem g_notInS {cg : Str → Option Value} : OpG K cg (fun x y H Q => ∃ i j, x = .str i ∧ y = .str j ∧ Q (.bl (!(!(Builtin.Str.occurrences j i 0 j.length 1).isEmpty))) H) fNotInS := fun F H x y a b o Q e hx hy hf k => by
  unfold fNotInS at hf
  split at hf
  · cases hf
    rw [hx.str, hy.str]
    exact ⟨_, _, rfl, rfl, fin_s k e (.bl _)⟩
  · cases hf
end
section
variable {X : Cx} {W : Wz} {e : Expr} {es : List Expr} {cpos apos p p2 pos : Pos} {x name : Str} {id : String} {r : V → List V → Hp → VK → Prop}
theorem ds_forS {tg iter : Expr} {ts : List Nat} {n : Tg} {ms : Gm → Out PyData} {mb : Gm → SOut} {body : List Stmt} (is : List Nat) (hp : PassesOwn (model X.prog X.w) X.A X.env X.xe) (hi : DV X W iter ms) (hg : DG X W ts tg n) (hb : DSs X W body mb) (hc : X.calm = true := by rfl) (hs : ∀ x, foldedSetIterable iter X.env x = pure x := by intro _; rfl) :
    DS X W (.For tg iter body [] pos) (sFor sof is n ms mb) := let ⟨_, i1, i2⟩ := hi; let ⟨_, g1, g2⟩ := hg; let ⟨_, b1, b2⟩ := hb; ⟨_, ps_for hp hc (pi_str i1) g1 b1 hs, rs_forS i2 g2 b2⟩
end
end VL
namespace VL
open PySem PySem.Spec PyProof.Rows L2 L2H
section
variable {X : Cx} {C fI : Addr} {k : Nat} {fd : FuncData} {ps : List Str} {sp : Sp}
/-- what the new object leaves behind -/
abbrev MadeO (C : Addr) (H1 : Hp) (a : Addr) (Q : L2.XK) : VK := fun y H2 => y = .non ∧ ∃ (d : Addr) (fs : List (Str × V)), H2 a = some (exo a C (some d)) ∧ H2 d = some (exd d fs) ∧ H1 d = none ∧ Q (.ref C) (some d) (upd (L2.del H2 a) d (.xd fs))
theorem cx_no {P : Program} {w : World} {outer : List Env} {H : Hp} {s s' : Shared} {e : Value} (h : L2N.CX P w outer H s (fun _ _ _ => False) e s') : False := by
  obtain ⟨_, _, _, _, _, _, _, _, _, _, _, _, z⟩ := h
  exact z
theorem call_made {pins : List (Addr × Obj)} {σ : L2.St} {H : Hp} {s : Shared} {Q : L2.XK} {v : V} {u : Value} (T : OexC X.K C) (iC : PySem.W.findIn X.K (.ref C) "__init__" = some (some (.ref fI))) (tI : PySem.W.typeIn X.K (.ref fI) = some (.type "function"))
    (F1 : FnOk X.prog X.w X.K X.mg X.base (L2N.CX X.prog X.w) k fI fd ps sp) (hr : Room (k + 1) X.A) (hb : Binds X.K fd ps []) (I : Inv X pins σ H s) (r : RelV v u)
    (h : ∀ a, H a = none → sp [.ref a, v] (upd H a (exo a C none)) (MadeO C H a Q) (fun _ _ _ => False)) : wpAny (model X.prog X.w) X.A (call (.ref C) [u]) (L2N.MkP X pins σ Q) X.xe s := by
  obtain ⟨nm, qn, N, bs, bm, sn, sub, ab, col, dd, k0, k1, k2, k3, k5, hC, hbm⟩ := T.cls
  obtain ⟨hp, gn, dr, tk, os⟩ := s
  -- the new object stands behind its args tuple
  obtain ⟨a, ea⟩ : ∃ a, a = hp.objs.size + 1 := ⟨_, rfl⟩
  obtain ⟨h1, eh⟩ : ∃ h1, h1 = (hp.push (PySem.W.kdv_tup [u])).push (PySem.HandSPX.excO C hp.objs.size) := ⟨_, rfl⟩
  have stay : ∀ b o, hp.get? b = some o → h1.get? b = some o := fun b o e => by
    rw [eh]
    exact Heap.get?_push_of_some _ (Heap.get?_push_of_some _ e)
  have at_ : h1.get? a = some (PySem.HandSPX.excO C hp.objs.size) := by
    rw [eh, ea]
    heap_get
  have up : hp.objs.size ≤ a := by omega
  have nw : H a = none := I.hok.fresh up
  have J : Inv X pins σ (upd H a (exo a C none)) ⟨h1, gn, dr, tk, os⟩ := I.laid (t' := tk) stay up (exo_ok at_)
  have hq := h a nw
  have rr : Vals [V.ref a, v] [Value.ref a, u] := .cons rfl (.cons r .nil)
  have hl : ([Value.ref a, u] ++ []).length = ps.length := (F1.len _ _ _ _ hq).symm ▸ rfl
  have bb := hb _ [Value.ref a, u] J.kIn (by rw [List.append_nil] at hl; exact hl)
  rw [List.append_nil] at bb
  have run := F1.run _ X.stack _ _ ⟨[Value.ref a, u], []⟩ [Value.ref a, u] [V.ref a, v] _ (fun _ _ _ => False) (hr.make C [u] []) (J.env0.make C [u] []) bb rr hq
  subst ea eh
  refine wpAny_call (PySem.HandSPX.call_own F.excBase_ValueError (fun Y => PySem.HandSPX.refsVE_contains Y bm hbm) (I.kIn _ _ hC) (PySem.W.looks_findIn I.kIn iC) (fun self => PySem.W.bind_fn I.kIn self tI) (by rw [sizeLine_eq]; simp) (codeAny_mono run fun res s' hres => ?_))
  cases res with
  | error er => exact (cx_no hres).elim
  | ok fl =>
    cases fl with
    | ret y =>
      obtain ⟨yv, H2, os2, bare2, un2, hok2, ry, rfl, d, fs, e1, e2, nd, q2⟩ := hres
      obtain ⟨h2, g2, d2, t2, os'⟩ := s'
      obtain ⟨t0, G, J2, kG, ge, hoe, na⟩ := mk_end0 (d2 := d2) (t2 := t2) I up stay un2 hok2 os2 bare2 e1 e2 nd
      exact ⟨ry, _, _, _, ⟨G, g2, d2, t2, os'⟩, _, .ref C, some d, rfl, J2, kG, ge, hoe, ⟨rfl, rfl, fun vs hv => by cases hv; rfl⟩, rfl, rfl, na, rfl, bare2, raises_own T.exC T.tyC, q2⟩
    | next => exact hres.elim
    | brk => exact hres.elim
    | cont => exact hres.elim
end
section
variable {X : Cx} {x : Str} {CT : Addr} {mc : Value} {e : Expr} {es : List Expr} {ta : TA} {p1 p2 pos : Pos}
theorem pe_cinit {pl : Sem Bool} (gC : X.mg x = some (.ref CT)) (sg : PySem.W.specialIn X.K (.ref CT) "__getattribute__" = some (some (.builtin "type.__getattribute__"))) (rd : PySem.W.readsIn X.K CT mc = true)
    (fc : PySem.W.findCls X.K (.ref CT) mc "__init__" = some (.val (.builtin "ValueError.__init__"))) (ha : PA X (e :: es) ta) (hg : Gl X x := by rfl) (hdb : (x == ("__debug__" : Str)) = false := by decide)
    (hc : eval (.Call (.Attribute (.Name x p1) "__init__" p2) (e :: es) [] pos) X.env = (do
      let ov ← eval (.Name x p1) X.env
      standAt p2.atName
      let (f, first) ← holding [ov] (getMethod ov "__init__" pl)
      callWith pos f first (backTo pos (starEach (e :: es) X.env)) (backToKw pos (keywordEach [] X.env))) := by rfl)
    (he : starEach (e :: es) X.env = (false, eval e X.env) :: starEach es X.env := by rfl) (hpl : (backTo pos (starEach es X.env)).any (·.1) = false := by rfl) :
    PE X (.Call (.Attribute (.Name x p1) "__init__" p2) (e :: es) [] pos) (tVeI X.K ta) := by
  refine ⟨fun pins s σ H Q I h => PySem.W.methodCall_KW (ld_glob I hg gC ?_ hdb) hc⟩
  have run := ha.run pos pins { s with toks := s.toks + 1 } σ H _ (I.tok _) h
  refine PySem.W.method_cls I.kIn sg (PySem.W.cls_value I.kIn rd fc (by decide +kernel) ?_)
  show wpAny _ _ (callWith pos (Value.builtin "ValueError.__init__") [] (backTo pos (starEach (e :: es) X.env)) []) _ _ _
  refine PyProof.Rows.callWith_method1 (thn run fun us s1 got => ?_) he hpl
  obtain ⟨vs, H1, I1, r1, a, C, ws, ev, hl, T, ea, q⟩ := got
  subst ev
  cases r1 with
  | cons ra rw1 =>
    cases ra
    have len := Paired.length rw1
    exact oinit_ok T I1 ea (by rw [sizeLine_eq]; omega) fun s2 J => ⟨.non, H1, J, rfl, q⟩
end
section
variable {P : Program} {w : World} {K : PySem.W.Frag} {mg : Str → Option Value} {base : Heap} {CX : CXT}
/-- what such an __init__ does -/
def spI (K : PySem.W.Frag) (fld : Str) : Sp := fun vs H Q _ => ∃ (a C : Addr) (v : V), vs = [.ref a, v] ∧ OexC K C ∧ PySem.W.findIn K (.ref C) fld = some none ∧ H a = some (exo a C none) ∧ ∀ dx, H dx = none → dx ≠ a → Q .non (upd (upd H dx (exd dx [(fld, v)])) a (exo a C (some dx)))
end
/-! ### raise C(e), C with such an __init__ -/
/-- what is known of such a class: its own __init__ keeps the field fld -/
def IKc (P : Program) (w : World) (K : PySem.W.Frag) (mg : Str → Option Value) (base : Heap) (k : Nat) (x fld : Str) : Prop :=
  ∃ C fI fd ps, mg x = some (.ref C) ∧ OexC K C ∧ PySem.W.findIn K (.ref C) "__init__" = some (some (.ref fI)) ∧ PySem.W.typeIn K (.ref fI) = some (.type "function") ∧ PySem.W.findIn K (.ref C) fld = some none ∧
    FnOk P w K mg base (L2N.CX P w) k fI fd ps (spI K fld) ∧ Binds K fd ps []
def sErrI (c fld : Str) (m : Gm → Out PyData) (g : Gm) : SOut := match m g with
  | .ok d g1 => .err ⟨c, [(fld, d)]⟩ g1
  | .err e g1 => .err e g1
  | .stk => .stk
def tMadeI (C : Addr) (fld : Str) (te : TE) : L2.St → Hp → L2.XK → Prop := fun σ H Q => te σ H fun v H1 => ∀ dx, H1 dx = none → Q (.ref C) (some dx) (upd H1 dx (.xd [(fld, v)]))
section
variable {X : Cx} {W : Wz} {x fld : Str} {C : Addr} {e : Expr} {te : TE} {p pos pos2 : Pos} {k j : Nat}
theorem pmk_init {fI : Addr} {fd : FuncData} {ps : List Str} (gC : X.mg x = some (.ref C)) (T : OexC X.K C) (iC : PySem.W.findIn X.K (.ref C) "__init__" = some (some (.ref fI))) (tI : PySem.W.typeIn X.K (.ref fI) = some (.type "function")) (hno : PySem.W.findIn X.K (.ref C) fld = some none)
    (F1 : FnOk X.prog X.w X.K X.mg X.base (L2N.CX X.prog X.w) k fI fd ps (spI X.K fld)) (hb : Binds X.K fd ps []) (hr : Room (k + 1) X.A) (he : PE X e te) (hg : Gl X x) (hdb : (x == ("__debug__" : Str)) = false)
    (hs : starEach [e] X.env = (false, eval e X.env) :: starEach [] X.env) (hpl : (backTo pos (starEach [] X.env)).any (·.1) = false) : L2N.PMk X (.Call (.Name x p) [e] [] pos) (tMadeI C fld te) := by
  intro pins s σ H Q I h
  refine wpAny_Call_Name_kw (ld_glob I hg gC ?_ hdb)
  refine PySem.W.callWith_K (h₀ := X.base) I.ok.mod.kin T.kC (thn ((pa_cons he pa_nil hs).run pos pins s σ H (fun vs H1 => ∃ v, vs = [v] ∧ ∀ dx, H1 dx = none → Q (.ref C) (some dx) (upd H1 dx (.xd [(fld, v)]))) I (show te σ H _ from ?_)) fun us s1 got => ?_) hs hpl
  · have h : te σ H fun v H1 => ∀ dx, H1 dx = none → Q (.ref C) (some dx) (upd H1 dx (.xd [(fld, v)])) := h
    refine (show (fun v H1 => _) = (fun v H1 => _) from ?_) ▸ h
    funext v H1
    apply propext
    exact ⟨fun q => ⟨v, rfl, q⟩, fun ⟨_, z, q⟩ => by cases z; exact q⟩
  · obtain ⟨vs, H1, I1, r1, v, rfl, q⟩ := got
    refine ⟨I1.kIn, ?_⟩
    cases r1 with
    | cons rv rr =>
      cases rr
      refine call_made T iC tI F1 hr hb I1 rv fun a na => ⟨a, C, v, rfl, T, hno, upd_same, fun dx n ne => ⟨rfl, dx, [(fld, v)], upd_same, by rw [upd_ne ne, upd_same], by rw [upd_ne ne] at n; exact n, ?_⟩⟩
      have n1 : H1 dx = none := by rw [upd_ne ne] at n; exact n
      have eq : upd (L2.del (upd (upd (upd H1 a (exo a C none)) dx (exd dx [(fld, v)])) a (exo a C (some dx))) a) dx (.xd [(fld, v)]) = upd H1 dx (.xd [(fld, v)]) := by
        funext b
        by_cases b1 : b = dx
        · rw [b1, upd_same, upd_same]
        · rw [upd_ne b1, upd_ne b1]
          by_cases b2 : b = a
          · rw [b2, L2.del_same, na]
          · rw [L2.del_ne b2, upd_ne b2, upd_ne b1, upd_ne b2]
      rw [eq]
      exact q dx n1
theorem ds_raiseI {me : Gm → Out PyData} (D : IKc X.prog X.w X.K X.mg X.base k x fld) (hr : Room j X.A) (hk : k + 1 ≤ j) (tk : L2N.Takes X W.x) (he : DV X W e me) (hc : X.calm = true := by rfl) (hg : Gl X x := by rfl) (hdb : (x == ("__debug__" : Str)) = false := by decide)
    (hs : starEach [e] X.env = (false, eval e X.env) :: starEach [] X.env := by rfl) (hpl : (backTo pos (starEach [] X.env)).any (·.1) = false := by rfl) : DS X W (.Raise (some (.Call (.Name x p) [e] [] pos)) none pos2) (sErrI x fld me) := by
  obtain ⟨C, fI, fd, ps, gC, T, iC, tI, hno, F1, hb⟩ := D
  obtain ⟨t, h1, h2⟩ := he
  refine ⟨_, L2N.ps_raise hc tk (pmk_init gC T iC tI hno F1 hb (hr.mono hk) h1 hg hdb hs hpl), fun pvs g σ S F H D r q => ?_⟩
  refine h2 pvs g σ S F H _ r ?_
  unfold sErrI at q
  cases em : me g with
  | ok d g1 =>
    rw [em] at q
    intro v S1 F1 H1 s1 r1 d1 dx n
    have p := pst_new (o := .xd [(fld, v)]) r1.fh n
    refine q C (some dx) σ S1 _ _ (s1.trans p.stp) (r1.pst p) gC ⟨dx, [v], rfl, by rw [upd_same]; rfl, .cons (dp_mo d1 p.fr) .nil⟩
  | err e' g1 =>
    rw [em] at q
    intro C' dop S' F' H' b r' hc' hx
    exact q C' dop σ S' F' H' b r' hc' hx
  | stk =>
    rw [em] at q
    exact q.elim
end
end VL
namespace VL
open PySem PySem.Spec PyProof.Rows L2 L2H
theorem oexB_ok {K : PySem.W.Frag} {C : Addr} (h : oexB K C = true) : OexC K C := by
  unfold oexB at h
  simp only [Bool.and_eq_true, decide_eq_true_eq] at h
  obtain ⟨h1, h2, h3, h4, h5⟩ := h
  refine ⟨?_, h2, h3, h4, h5⟩
  cases eo : K.lookup C with
  | none =>
    rw [eo] at h1
    cases h1
  | some o =>
    rw [eo] at h1
    have h1 : oexO C o = true := h1
    unfold oexO at h1
    split at h1
    · rename_i dd cd sl hh
      split at h1
      · rename_i C' bm k0 k1 k2 k3 n k5 hm hs
        simp only [Bool.and_eq_true, beq_iff_eq, Bool.not_eq_true'] at h1
        obtain ⟨⟨⟨⟨rfl, rfl⟩, hdel⟩, hdict⟩, hr⟩ := h1
        obtain ⟨nm, bs, mro, ns, qn, hd, sn, sub, ab, col, del⟩ := cd
        try dsimp only at hm
        subst hm hdel hdict
        obtain ⟨sl⟩ := sl
        simp only at hs
        subst hs
        exact ⟨nm, qn, ns, bs, bm, sn, sub, ab, col, dd, k0, k1, k2, k3, k5, rfl, hr⟩
      · cases h1
    · cases h1
end VL
namespace VL
open PySem PySem.Spec PyProof.Rows L2 L2H
section
variable {X : Cx} {W : Wz} {pos : Pos}
end
end VL
namespace VL
open PySem PySem.Spec PyProof.Rows L2 L2H
theorem isIni_ok {r : Option PySem.W.CFound} (h : isIni r = true) : r = some (.val (.builtin "ValueError.__init__")) := by
  unfold isIni at h
  split at h
  · rename_i n
    rw [eq_of_beq h]
  · cases h
theorem ikcB_ok {K : PySem.W.Frag} {h : Heap} {mg : Str → Option Value} {x sup fld : Str} (X : K.In h) (G : h.Ns mainGlobals mg) (c : ikcB K x sup fld = true) :
    ∃ C CT, mg x = some (.ref C) ∧ mg sup = some (.ref CT) ∧ OexC K C ∧ PySem.W.findIn K (.ref C) "__init__" = some (some (.ref (He.fAd K (x, some "__init__")))) ∧ PySem.W.typeIn K (.ref (He.fAd K (x, some "__init__"))) = some (.type "function") ∧ PySem.W.findIn K (.ref C) fld = some none ∧
      PySem.W.specialIn K (.ref CT) "__getattribute__" = some (some (.builtin "type.__getattribute__")) ∧ PySem.W.readsIn K CT (.type "type") = true ∧ PySem.W.findCls K (.ref CT) (.type "type") "__init__" = some (.val (.builtin "ValueError.__init__")) ∧ XfC K C := by
  unfold ikcB at c
  split at c
  · rename_i C CT e1 e2
    simp only [Bool.and_eq_true, decide_eq_true_eq] at c
    obtain ⟨c1, c2, c3, c4, c5, c6, c7, c8⟩ := c
    exact ⟨C, CT, PySem.W.mg_of X G e1, PySem.W.mg_of X G e2, oexB_ok c1, c2, c3, c4, c5, c6, isIni_ok c7, xfB_ok c8⟩
  · cases c
end VL
namespace VL
open PySem L2
/-- a step into a list (a position) or into a dict (a key) -/
inductive Sg where
  | i (j : Nat) | k (x : Key)
/-- the value one step further -/
def StepV (H : Hp) (v : V) (s : Sg) (w : V) : Prop :=
  match s with
  | .i j => ∃ p vs, v = .ref p ∧ H p = some (.lst vs) ∧ vs[j]? = some w
  | .k x => ∃ p kvs, v = .ref p ∧ H p = some (.dK kvs) ∧ valV kvs x = some w
def ChV (H : Hp) : List Sg → V → V → Prop
  | [], v, w => v = w
  | s :: js, v, w => ∃ u, StepV H v s u ∧ ChV H js u w
theorem StepV.uniq {H : Hp} {v w w' : V} {s : Sg} (h : StepV H v s w) (h' : StepV H v s w') : w = w' := by
  cases s with
  | i j =>
    obtain ⟨p, vs, rfl, h1, h2⟩ := h
    obtain ⟨p', vs', e, h1', h2'⟩ := h'
    cases e
    rw [h1] at h1'
    cases h1'
    rw [h2] at h2'
    cases h2'
    rfl
  | k x =>
    obtain ⟨p, vs, rfl, h1, h2⟩ := h
    obtain ⟨p', vs', e, h1', h2'⟩ := h'
    cases e
    rw [h1] at h1'
    cases h1'
    rw [h2] at h2'
    cases h2'
    rfl
theorem StepV.keep {H H' : Hp} {v w : V} {s : Sg} (h : StepV H v s w) (e : Same H H') : StepV H' v s w := by
  cases s with
  | i j =>
    obtain ⟨p, vs, rfl, h1, h2⟩ := h
    exact ⟨p, vs, rfl, e _ _ h1, h2⟩
  | k x =>
    obtain ⟨p, vs, rfl, h1, h2⟩ := h
    exact ⟨p, vs, rfl, e _ _ h1, h2⟩
theorem ChV.uniq {H : Hp} : ∀ {js : List Sg} {v w w' : V}, ChV H js v w → ChV H js v w' → w = w'
  | [], _, _, _, h, h' => (show _ = _ from h).symm.trans h'
  | s :: js, _, _, _, ⟨u, a, b⟩, ⟨u', a', b'⟩ => by
    have := a.uniq a'
    subst this
    exact ChV.uniq b b'
theorem ChV.keep {H H' : Hp} : ∀ {js : List Sg} {v w : V}, ChV H js v w → Same H H' → ChV H' js v w
  | [], _, _, h, _ => h
  | s :: js, _, _, ⟨u, a, b⟩, e => ⟨u, a.keep e, ChV.keep b e⟩
theorem ChV.app {H : Hp} : ∀ {js : List Sg} {v u w : V} {s : Sg}, ChV H js v u → StepV H u s w → ChV H (js ++ [s]) v w
  | [], _, _, w, _, h, h' => by
    cases (show _ = _ from h)
    exact ⟨w, h', rfl⟩
  | t :: js, _, _, _, _, ⟨x, a, b⟩, h' => ⟨x, a, ChV.app b h'⟩
section
variable {K : PySem.W.Frag} {cg : Str → Option Value} {F F' H H' : Hp} {vs : List V} {os : List OD} {L : Nat → Addr → Prop}
end
/-! ### places in slots -/
abbrev Sp2 := Nat × List Sg
def SpV (σ : L2.St) (H : Hp) (v : V) (sp : Sp2) : Prop := ∃ v0, σ[sp.1]? = some (some v0) ∧ ChV H sp.2 v0 v
theorem SpV.uniq {σ : L2.St} {H : Hp} {v w : V} {sp : Sp2} (h : SpV σ H v sp) (h' : SpV σ H w sp) : v = w := by
  obtain ⟨a, a1, a2⟩ := h
  obtain ⟨b, b1, b2⟩ := h'
  rw [a1] at b1
  cases b1
  exact a2.uniq b2
theorem SpV.keep {σ : L2.St} {H H' : Hp} {v : V} {sp : Sp2} (h : SpV σ H v sp) (e : Same H H') : SpV σ H' v sp := let ⟨a, a1, a2⟩ := h; ⟨a, a1, a2.keep e⟩
section
variable {K : PySem.W.Frag} {cg : Cg} {W : WX} {pvs : Pv} {g : Gm} {σ : L2.St} {S S1 S' A : Addr → Prop} {F F1 F' H H1 H' : Hp}
/-! ### a place is read -/
abbrev Pm := Gm → Res Sp2
end
end VL
namespace VL
open PySem L2
inductive Aq where
  | d (x : PyData) | p (sp : Sp2)
inductive ArQ (K : PySem.W.Frag) (F H : Hp) (σ : L2.St) : List V → List Aq → Prop
  | nil : ArQ K F H σ [] []
  | d {v : V} {x : PyData} {vs : List V} {as : List Aq} : Dq K F v x → ArQ K F H σ vs as → ArQ K F H σ (v :: vs) (.d x :: as)
  | p {v : V} {sp : Sp2} {vs : List V} {as : List Aq} : SpV σ H v sp → ArQ K F H σ vs as → ArQ K F H σ (v :: vs) (.p sp :: as)
section
variable {K : PySem.W.Frag} {cg : Cg} {W : WX} {pvs : Pv} {g : Gm} {σ : L2.St} {S S1 S' A : Addr → Prop} {F F1 F' H H1 H' : Hp}
theorem ArQ.mo : ∀ {vs : List V} {as : List Aq}, ArQ K F H σ vs as → Same F F' → Same H H' → ArQ K F' H' σ vs as
  | _, _, .nil, _, _ => .nil
  | _, _, .d h t, e, f => .d (dp_mo h e) (ArQ.mo t e f)
  | _, _, .p h t, e, f => .p (h.keep f) (ArQ.mo t e f)
theorem ArQ.len : ∀ {vs : List V} {as : List Aq}, ArQ K F H σ vs as → vs.length = as.length
  | _, _, .nil => rfl
  | _, _, .d _ t => congrArg Nat.succ (ArQ.len t)
  | _, _, .p _ t => congrArg Nat.succ (ArQ.len t)
end
end VL
namespace VL
open PySem PySem.Spec PyProof.Rows L2
section
variable {K : PySem.W.Frag} {cg : Cg} {W : WX} {pvs : Pv} {g : Gm} {σ : L2.St} {S S1 S' A : Addr → Prop} {F F1 F' H H1 H' : Hp}
def PoCO (K : PySem.W.Frag) (cg : Cg) (pvs : Pv) (σ : L2.St) (L : Addr) (S X : Addr → Prop) (F H : Hp) (Q : Hp → Prop) (x : Out (List OD)) : Prop :=
  match x with
  | .ok acc g => ∀ S' X' F' H', Stp (fun p => S p ∨ X p) F H (fun p => S' p ∨ X' p) F' H' → Rel K cg pvs g σ S' F' H' → Ow K cg F' H' (.ref L) (.nd .ls acc) X' → (∀ q, X' q → S' q → False) → Q H'
  | _ => False
theorem PoCO.st {L : Addr} {X X1 : Addr → Prop} {Q : Hp → Prop} {x : Out (List OD)} (h : PoCO K cg pvs σ L S X F H Q x) (a : Stp (fun p => S p ∨ X p) F H (fun p => S1 p ∨ X1 p) F1 H1) : PoCO K cg pvs σ L S1 X1 F1 H1 Q x := by
  cases x with
  | ok acc g => exact fun S' X' F' H' b => h S' X' F' H' (a.trans b)
  | err e g => exact h
  | stk => exact h
end
section
variable {X : Cx} {W : Wz} {e o ix b : Expr} {es : List Expr} {pos p p2 p3 p4 apos cpos : Pos} {x y name : Str} {k j : Nat} {mp : Pm} {mi : Gm → Res PyData}
variable {elt tg iter a c : Expr} {scope : Scope} {n : Tg} {ts : List Nat} {me : Gm → Out OD} {ma : Gm → Out PyData}
end
end VL
namespace VL
open PySem PySem.W PySem.Calls PyProof.Rows L2
end VL
namespace VL
open PySem L2
variable {K : PySem.W.Frag} {F : Hp}
end VL
namespace VL
open PySem PySem.Spec PyProof.Rows L2 L2H
section
variable {P : Program} {w : World} {K : PySem.W.Frag} {mg : Str → Option Value} {base h : Heap} {CX : CXT}
theorem init_fn' {k : Nat} {f : Addr} {fd : FuncData} {x qual y fld m : Str} {params : Arguments} {body : List Stmt} {scope : Scope} {dvs : List V} {kws : List (Str × V)}
    (F : FunD K x qual params body scope dvs kws f fd) (S : FnScope ["self", y] ["self", y] scope)
    (hb : ∀ (cdv : Value) (A : Around) (outer : List Env) (s : Shared) (H : Hp) (E : L2.XK),
      PSs (cxOf CX P w K mg base ["self", y] qual scope f cdv A outer s H E) body (tSeq (tDrop (tVeI K (tCons (tVar 0) (tCons (tC (.str m)) tNil)))) (tOst K fld (tVar 0) (tVar 1)))) : FnOk P w K mg base CX (k + 1) f fd ["self", y] (spI K fld) := by
  refine F.ok S (fun vs H Q E ⟨_, _, _, e, _⟩ => by rw [e]; rfl) fun cdv A outer s H vs Q E hr h => ⟨_, hb cdv A outer s H E, ?_⟩
  obtain ⟨a, C, v, rfl, T, hno, ha, q⟩ := h
  refine ⟨.ref a, rfl, ⟨a, C, [.str m], rfl, by simp, T, ha, ?_⟩⟩
  exact ⟨v, rfl, .ref a, rfl, a, C, rfl, T, hno, .inl ⟨ha, fun dx n ne => q dx n ne⟩⟩
/-- the __init__ of the text -/
def DfX (K : PySem.W.Frag) (x qual : Str) (st : Stmt) : Prop := ∃ fd, FunD K "__init__" qual (defArgs st) (defBody st) (defScope st) [] [] (He.fAd K (x, some "__init__")) fd
theorem ikc_mk {x sup fld qual y m : Str} {st : Stmt} (X : K.In h) (G : h.Ns mainGlobals mg) (c : ikcB K x sup fld = true) (D : DfX K x qual st) (S : FnScope ["self", y] ["self", y] (defScope st))
    (hbd : ∀ (kV doc pm : Value) (an : Option Addr) (cdv ct : Value) (us : List Value), us.length = 2 → bindArgs (PySem.W.fnOf "__init__" qual (defArgs st) (defBody st) (defScope st) .none kV doc pm an cdv ct) ⟨us, []⟩ = pure ((["self", y] : List Str).zip us))
    (hb : ∀ (CT : Addr), mg sup = some (.ref CT) → PySem.W.specialIn K (.ref CT) "__getattribute__" = some (some (.builtin "type.__getattribute__")) → PySem.W.readsIn K CT (.type "type") = true → PySem.W.findCls K (.ref CT) (.type "type") "__init__" = some (.val (.builtin "ValueError.__init__")) →
      ∀ (f : Addr) (cdv : Value) (A : Around) (outer : List Env) (s : Shared) (H : Hp) (E : L2.XK),
      PSs (cxOf (L2N.CX P w) P w K mg base ["self", y] qual (defScope st) f cdv A outer s H E) (defBody st) (tSeq (tDrop (tVeI K (tCons (tVar 0) (tCons (tC (.str m)) tNil)))) (tOst K fld (tVar 0) (tVar 1)))) :
    IKc P w K mg base 1 x fld := by
  obtain ⟨C, CT, g1, g2, o, e1, e2, e3, e4, e5, e6, xf⟩ := ikcB_ok X G c
  obtain ⟨fd, F⟩ := D
  exact ⟨C, _, fd, _, g1, o, e1, e2, e3, init_fn' F S fun cdv A outer s H E => hb CT g2 e4 e5 e6 _ cdv A outer s H E, F.bindsN hbd⟩
end
end VL
namespace VL
open PySem PySem.Spec PyProof.Rows L2
section
variable {X : Cx} {o e : Expr} {apos cpos : Pos} {td ty : TE}
end
section
variable {K : PySem.W.Frag} {cg : Cg} {W : WX} {pvs : Pv} {g : Gm} {σ : L2.St} {S S1 S' A : Addr → Prop} {F F1 F' H H1 H' : Hp}
end
section
variable {X : Cx} {W : Wz} {e : Expr} {pos apos cpos p dpos : Pos} {x y : Str}
variable {ks : List (Option Expr)} {vs : List Expr} {keys : List Str} {m : Gm → Out (List PyData)}
end
end VL
namespace VL
open PySem PySem.Spec PyProof.Rows L2
section
variable {M : Model} {A : Around} {E : Value → Shared → Prop} {s : Shared} {env : Env}
/-- what is wanted behind a comprehension's block; an exception goes on from the frame fr -/
def compX (M : Model) (A : Around) (E : Value → Shared → Prop) (Q : Value → Shared → Prop) (acc : Value) (C : Addr) (fr : Option Addr) (r : Result) (t : Shared) : Prop :=
  match r with
  | .ok _ => ∃ ns, t.heap.Ns C ns ∧ ∀ g, Heap.SameBut C t.heap g → Q acc { t with heap := g }
  | .error u => ∃ ns, t.heap.Ns C ns ∧ ∀ g, Heap.SameBut C t.heap g → ∀ ce : Env, ce.locals = C → ce.frame = fr → wpAny M A (PySem.passOn "comprehension.variables-let-go" u ce : Sem Value) (fun _ _ => False) E { t with heap := g }
theorem comp_free_x {e : Expr} {scope : Scope} {pos : Pos} {newAcc first : Sem Value} {c0 : Comprehension} {cr : List Comprehension} {cl : List (Str × Addr)} {Q : Value → Shared → Prop}
    (k1 : clausesOf e = c0 :: cr) (k2 : ∀ x, foldedSetIterable c0.iter env x = pure x) (k3 : closureFor scope env = pure cl) (k4 : scope.kind = .function) (k5 : ∀ x ∈ scope.names, x.2 = .local → scope.names.lookup x.1 = some .local)
    (h : wpAny M A first (fun v t1 => wpAny M A (pyIter v) (fun it t2 => wpAny M A newAcc (fun acc t3 => wpAny M A (newFunctionEnv scope env.globals cl [] env.qual none .none (some env)) (fun ce t4 =>
      codeAny M A (.compStart e 0 it acc { ce with scope := relabel scope env }) (compX M A E Q acc ce.locals ce.frame) t4) E t3) E t2) E t1) E s) : wpAny M A (comprehension e scope env pos newAcc false first none) Q E s := by
  unfold comprehension
  rw [k3, k1]
  refine wpAny_bind (wpAny_mono h (fun v t1 h1 => ?_) fun _ _ z => z)
  refine wpAny_bind (wpAny_standAt (wpAny_bind (wpAny_of_eq (k2 v) (wpAny_bind (wpAny_holding (wpAny_mono h1 (fun it t2 h2 => ?_) fun _ _ z => z))))))
  refine wpAny_standIf (wpAny_bind (wpAny_mono h2 (fun acc t3 h3 => ?_) fun _ _ z => z))
  refine wpAny_bind (wpAny_pure (wpAny_bind (wpAny_mono h3 (fun ce t4 h4 => ?_) fun _ _ z => z)))
  dsimp only
  have hv : ∀ x ∈ (scope.names.filter fun y => (y.2 == .local || y.2 == .cell) && y.1 != (".0" : Str)).reverse, x.2 = .local → Env.kindOf { ce with scope := relabel scope env } x.1 = some .local := fun x hx hl =>
    lookup_relabel_local (k5 x (List.mem_filter.mp (List.mem_reverse.mp hx)).1 hl)
  refine wpAny_holding (wpAny_bind (wpAny_attempt (wpAny_holding (wpAny_run (codeAny_mono h4 fun r t hr => ?_)))))
  cases r with
  | ok f =>
    obtain ⟨m, hn, hr⟩ := hr
    exact wpAny_bind (wpAny_holding (wpAny_comp_letGo (cenv := { ce with scope := relabel scope env }) k4 _ t m hv hn fun g m' _ k => wpAny_pure (hr g k)))
  | error x =>
    obtain ⟨m, hn, hr⟩ := hr
    exact wpAny_bind (wpAny_holding (wpAny_comp_letGo (cenv := { ce with scope := relabel scope env }) k4 _ t m hv hn fun g m' _ k => wpAny_mono (hr g k _ rfl rfl) (fun _ _ f => f.elim) fun _ _ y => y))
theorem note_congr {u : Value} {env' : Env} (h : env.frame = env'.frame) : noteFrame u env = noteFrame u env' := by
  unfold noteFrame PySem.frameOf
  rw [h]
theorem raw_ne {a b : Addr} (h : a ≠ b) : ¬ ((rawInt a == rawInt b) = true) := fun z => by
  have : rawInt a = rawInt b := eq_of_beq z
  have e : (a : Int) = (b : Int) := by simpa [rawInt] using this
  exact h (Int.ofNat.inj e)
theorem sky_held {B : Heap} {outer : List Env} {L C a : Addr} {Z : Obj → Prop} {Q : Unit → Shared → Prop} (hZ : PXN.Steady1 Z) (hfr : A.frames = some (env :: outer)) (hf : env.frame = some L)
    (x : Sky B (env :: outer) a Z C s.heap) (hQ : ∀ g, HandSPX.HeldZ B (env :: outer) a Z L g → s.heap.UpToSlots g → Q () { s with heap := g }) : wpAny M A (noteFrame (.ref a) env) Q E s := by
  rcases x with ⟨b1, b2, b3, oe, vs, b4, b5, b6, b7⟩ | fl | hh
  · exact PXN.look_newZ hZ hfr b3 hf b4 b1 b2 b6 b7 b5 hQ
  · exact PXN.looks_onZ hZ hfr hf fl hQ
  · by_cases q : C = L
    · subst q
      exact HandSPX.againZ hf hh.2.2.2 (hQ s.heap hh (Heap.UpToSlots.refl _))
    · obtain ⟨c1, c2, c3, oe, vs, T, oT, ts, d1, d2, d3, d4, d5, d6, d7, d8, d9⟩ := hh
      unfold noteFrame
      simp only [hf]
      refine wpAny_bind (wpAny_field d1 d3 d4 ?_)
      rw [if_pos (show (Value.ref T != Value.none) = true by simp)]
      refine wpAny_bind (wpAny_field d7 d8 d9 ?_)
      rw [if_neg (raw_ne q)]
      refine wpAny_bind (wpAny_setField d7 d8 (Array.getElem?_eq_some_iff.mp d9).1 ?_)
      have rest : ∀ b, b ≠ T → (s.heap.update T (Obj.mapFields (·.setIfInBounds 3 Value.none))).get? b = s.heap.get? b := fun b hb => Heap.get?_update_other _ _ fun z => hb z.symm
      have plain : ∀ b o, s.heap.get? b = some o → (∀ xs, o.data ≠ .fields xs) → b ≠ T := fun b o hb nf z => by
        subst z
        rw [d7] at hb
        cases hb
        exact nf _ d8
      refine PXN.wpAny_entryZ hZ hfr (c3.of_keeps fun b o hb nf => ⟨o, (rest b (plain b o hb nf)).trans hb, rfl⟩) hf ((rest a fun z => d6 z.symm).trans d1) (fun b o hb => (rest b fun z => by
        subst z
        rw [d5] at hb
        cases hb).trans (c1 b o hb)) c2 d3 (Array.getElem?_eq_some_iff.mp d4).1 d2 fun g hg => ?_
      obtain ⟨y1, y2, y3, y4⟩ := hg
      exact hQ g ⟨y1, c2, y2, y3⟩ fun b o hb nf => y4 b o ((rest b (plain b o hb nf)).trans hb) nf
theorem ns_slots {h g : Heap} {C : Addr} {m : Str → Option Value} (hn : h.Ns C m) (u : h.UpToSlots g) : g.Ns C m := by
  obtain ⟨o, es, ep, a1, a2, a3, a4⟩ := hn
  obtain ⟨sl, e⟩ := u C o a1 fun vs z => by
    rw [a2] at z
    cases z
  exact ⟨_, es, ep, e, a2, a3, a4⟩
theorem frames_but {B h g : Heap} {C : Addr} (sb : Heap.SameBut C h g) : ∀ {l : List Env}, C ∉ frs l → h.FunFrames B l → g.FunFrames B l
  | [], _, _ => trivial
  | ev :: r, hn, ⟨e1, ⟨L, o, e2, e3, e4, e5⟩, e6⟩ => by
    have m : L ∈ frs (ev :: r) := List.mem_filterMap.mpr ⟨ev, List.mem_cons_self, e2⟩
    refine ⟨e1, ⟨L, o, e2, e3, (sb.2 L fun z => hn (by rw [← z]; exact m)).trans e4, e5⟩, frames_but sb (fun z => hn ?_) e6⟩
    obtain ⟨x, hx, ex⟩ := List.mem_filterMap.mp z
    exact List.mem_filterMap.mpr ⟨x, List.mem_cons_of_mem _ hx, ex⟩
/-- held, one object (no record) changed and put out of the ground -/
theorem held_but {B h g : Heap} {l : List Env} {a L C : Addr} {Z : Obj → Prop} {m : Str → Option Value} (hh : HandSPX.HeldZ B l a Z L h) (sb : Heap.SameBut C h g) (hC : C ∉ frs l) (hn : h.Ns C m) : HandSPX.HeldZ (PySem.W.hideAll B [C]) l a Z L g := by
  obtain ⟨c1, c2, c3, oe, vs, T, oT, ts, d1, d2, d3, d4, d5, d6, d7, d8, d9⟩ := hh
  obtain ⟨o, es, ep, a1, a2, _⟩ := hn
  have off : ∀ {b : Addr} {w : Obj} {xs : Array Value}, h.get? b = some w → w.data = .fields xs → b ≠ C := fun {b w xs} e1 e2 z => by
    subst z
    rw [a1] at e1
    cases e1
    rw [a2] at e2
    cases e2
  have low : ∀ {b : Addr}, B.get? b = none → (PySem.W.hideAll B [C]).get? b = none := fun {b} e => by
    cases q : (PySem.W.hideAll B [C]).get? b with
    | none => rfl
    | some w =>
      rw [PySem.W.of_hideAll _ q] at e
      cases e
  refine ⟨fun b w e => ?_, low c2, ?_, oe, vs, T, oT, ts, (sb.2 a (off d1 d3)).trans d1, d2, d3, d4, low d5, d6, (sb.2 T (off d7 d8)).trans d7, d8, d9⟩
  · have nb : b ≠ C := fun z => by
      rw [z, PySem.W.hideAll_none _ List.mem_cons_self] at e
      cases e
    exact (sb.2 b nb).trans (c1 b w (PySem.W.of_hideAll _ e))
  · refine funFrames_none (frames_but sb hC c3) fun b hb => low ?_
    exact (c3.mem hb).1
end
/-- a comprehension's block, its exceptions taken by xe -/
abbrev blkW (X : Cx) (xe : Value → Shared → Prop) (s : Shared) (H : Hp) (scope : Scope) (cenv : Env) (fp : List Addr) : Cx := { X.blk s H scope cenv fp with xe := xe }
section
variable {X : Cx} {xe xe' : Value → Shared → Prop} {pins : List (Addr × Obj)} {σ : L2.St} {H H' : Hp} {s s' : Shared}
theorem inW {scope : Scope} {cenv : Env} {fp : List Addr} {t : Shared} {G : Hp} (J : Inv (blkW X xe t G scope cenv fp) pins σ H s) : Inv (blkW X xe' t G scope cenv fp) pins σ H s := by
  obtain ⟨a1, a2, a3, a4, a5, a6, a7, a8, a9, a10, a11⟩ := J
  exact ⟨⟨a1.mod, a1.kind, a1.glob, a1.blt, a1.above, a1.inj, a1.has, a1.cab, a1.hd, a1.frames, a1.stk, a1.exf, a1.bs, a1.bsz, a1.noex, a1.exfs, a1.funs, a1.frf⟩, a2, a3, a4, a5, a6, a7, a8, a9, a10, a11⟩
end
section
variable {X : Cx} {W : WX} {elt tg iter : Expr} {ifs : List Expr} {scope : Scope} {own : List (Str × Nat)} {wi : TI} {g : TG} {tt : TT} {te : WX → TE}
/-- what is known of the parts of a comprehension's block that may raise -/
structure ErrB (X : Cx) (W : WX) (elt tg iter : Expr) (ifs : List Expr) (scope : Scope) (own : List (Str × Nat)) (wi : TI) (g : TG) (tt : TT) (te : WX → TE) : Prop where
  calm : X.calm = true
  tk : L2N.Takes X W
  hs : X.stack = X.env :: X.outer
  hf : X.env.frame = some X.env.locals
  nd : X.N.Nodup
  it : PI X tg iter wi
  ok : BlkOk X.N X.env.scope scope own
  dg : ∀ (s : Shared) (H : Hp) (C : Addr) (cl : List (Str × Addr)) (fp : List Addr) (xe : Value → Shared → Prop), PG (blkW X xe s H scope (compEnvC scope cl C X.env) fp) tg g
  dt : ∀ (s : Shared) (H : Hp) (C : Addr) (cl : List (Str × Addr)) (fp : List Addr) (xe : Value → Shared → Prop), PTs (blkW X xe s H scope (compEnvC scope cl C X.env) fp) ifs tt
  de : ∀ (s : Shared) (H : Hp) (C : Addr) (cl : List (Str × Addr)) (fp : List Addr) (xe : Value → Shared → Prop) (W' : WX), L2N.Takes (blkW X xe s H scope (compEnvC scope cl C X.env) fp) W' → PE (blkW X xe s H scope (compEnvC scope cl C X.env) fp) elt (te W')
  fs : ∀ x, foldedSetIterable iter X.env x = pure x
/-- an exception of the block goes on -/
theorem ErrB.pass {pins : List (Addr × Obj)} {σ : L2.St} {H3 : Hp} {s3 : Shared} {fp : List Addr} {Qf : Value → Shared → Prop} {acc : Value} {ce : Env} {xe : Value → Shared → Prop} {u : Value} {t : Shared} (B : ErrB X W elt tg iter ifs scope own wi g tt te)
    (J3 : Inv X pins σ H3 s3) (hfp : ∀ b ∈ fp, FpOk X pins H3 b) (hl : ce.locals = s3.heap.objs.size) (hfr : ce.frame = X.env.frame)
    (x : L2N.XE (blkW X xe s3 H3 scope ce fp) (fun c d _ H' => W c d σ H') u t) :
    notedBy (model X.prog X.w) X.A ce (fun u s' => compX (model X.prog X.w) X.A X.xe Qf acc s3.heap.objs.size X.env.frame (.error u) s') u t := by
  obtain ⟨a, Bs, sI, ps, σ', H', cls, d, rfl, I, nb, up, sky, na, os, ag, w⟩ := x
  show wpAny _ _ (noteFrame (.ref a) ce) _ _ t
  rw [note_congr hfr]
  have afr : X.A.frames = some (X.env :: X.outer) := by
    rw [J3.ok.frames, B.hs]
  have sky2 : Sky Bs (X.env :: X.outer) a (L2N.Zn cls d) ce.locals t.heap := by
    rw [← B.hs]
    exact sky
  refine sky_held L2N.Zn.steady afr B.hf sky2 fun h1 hh up1 => ?_
  obtain ⟨m, hn, _⟩ := I.loc
  have hn : sI.heap.Ns ce.locals m := hn
  rw [hl] at hn
  have hn1 := ns_slots (ns_slots hn up) up1
  have gone : H' s3.heap.objs.size = none := by
    have y : H' ce.locals = none := I.free
    rw [hl] at y
    exact y
  have fC := J3.fpOk (b := s3.heap.objs.size) (H' := H') (Nat.le_refl _) gone
  have notin : s3.heap.objs.size ∉ frs (X.env :: X.outer) := fun z => by
    rw [← B.hs] at z
    rcases List.mem_cons.mp (J3.stkSub _ z) with y | y
    · exact fC.2.1 y
    · exact fC.2.2.1 y
  refine ⟨m, hn1, fun h2 sb ce' e1 e2 => ?_⟩
  have hh2 := held_but hh sb notin hn1
  have hh3 := hh2
  obtain ⟨_, _, _, oe, vs, T, oT, ts, d1, d2, d3, d4, _⟩ := hh3
  unfold PySem.passOn
  refine wpAny_bind (wpAny_field d1 d3 d4 ?_)
  rw [if_neg (show ¬ ((Value.ref T == Value.none) = true) by simp)]
  have fin : wpAny (model X.prog X.w) X.A (setFlight (.ref a) ce'.frame) (fun _ s4 => wpAny (model X.prog X.w) X.A (throw (.ref a) : Sem Value) (fun _ _ => False) X.xe s4) X.xe { t with heap := h2 } := by
    rw [e2, B.hf]
    refine HandSPX.setFlight_onZ (s := { t with heap := h2 }) hh2 fun h4 hh4 up4 => wpAny_throw (B.tk _ _ ?_)
    have out : Inv X pins σ H' sI := J3.call' (ch := fp) I.os I.base I.hok I.bare fun b hb => ⟨(hfp b hb).2.2.2.1, (hfp b hb).2.1, (hfp b hb).2.2.2.2.1, (hfp b hb).2.2.2.2.2⟩
    obtain ⟨c0, c1, c2, c3, c4, c5⟩ := fC
    have out2 := out.turned (h' := PySem.W.hideAll sI.heap [s3.heap.objs.size]) (t' := sI.toks) (it := s3.heap.objs.size) (fun b o hb z => PySem.W.hideAll_get _ z (by simpa using hb)) c0 c1 c3 c4 c5
    have big : (PySem.W.hideAll sI.heap [s3.heap.objs.size]).UpToSlots h4 := fun b o e nf => by
      have nbC : b ≠ s3.heap.objs.size := fun z => by
        rw [z, PySem.W.hideAll_none _ List.mem_cons_self] at e
        cases e
      obtain ⟨sl, e5⟩ := (up.trans up1) b o (PySem.W.of_hideAll _ e) nf
      exact up4.trans (Heap.UpToSlots.refl _) |> fun z => by
        obtain ⟨sl2, e6⟩ := z b _ ((sb.2 b nbC).trans e5) nf
        exact ⟨sl2, e6⟩
    refine ⟨a, PySem.W.hideAll Bs [s3.heap.objs.size], _, pins, σ, H', cls, d, rfl, out2, fun b o e hb => ?_, big, .inr (.inr (by rw [B.hs]; exact hh4)), na, os, ag, w⟩
    have nbC : b ≠ s3.heap.objs.size := fun z => by
      have e : (PySem.W.hideAll sI.heap [s3.heap.objs.size]).get? b = some o := e
      rw [z, PySem.W.hideAll_none _ List.mem_cons_self] at e
      cases e
    exact PySem.W.hideAll_get _ (nb b o (PySem.W.of_hideAll _ e) hb) (by simpa using nbC)
  first
    | exact wpAny_bind (wpAny_pure (wpAny_bind fin))
    | exact wpAny_bind fin
theorem ErrB.core (B : ErrB X W elt tg iter ifs scope own wi g tt te) {pins : List (Addr × Obj)} {s : Shared} {σ : L2.St} {H : Hp} {Q : VK} {pos pos' : Pos} {Qf : Value → Shared → Prop} (J : Inv X pins σ H s) (w : tLc wi g tt (te fun c d _ H' => W c d σ H') (own.map (·.2)) σ H Q)
    (fin : ∀ D C s' m H', Inv X pins σ H' s' → Q (.ref D) H' → s'.heap.Ns C m → FpOk X pins H' C → ∀ g', Heap.SameBut C s'.heap g' → Qf (.ref D) { s' with heap := g' }) :
    wpAny (model X.prog X.w) X.A (comprehension (.ListComp elt [⟨tg, iter, ifs, 0⟩] scope pos) scope X.env pos' (newList []) false (eval iter X.env) none) Qf X.xe s := by
  have cells : ∀ y ∈ scope.names, y.2 = .free → ∃ c, X.env.cells.lookup y.1 = some c := fun y hy z => (B.ok.free y hy z).elim (fun k => J.ok.has _ (.inl k)) fun k => J.ok.has _ (.inr k)
  refine comp_free_x rfl B.fs (closure_ok cells) B.ok.kind (fun y hy z => by rw [B.ok.uniq y hy, z]) ?_
  refine thn (B.it.run pins s σ H _ J w) fun src t1 h1 => thn h1 fun itv t2 h2 => ?_
  obtain ⟨i0, fp, tn, I0, G, rfl, J2, T, z2, hf2, q⟩ := h2
  refine wpAny_newObj_type (newEnv_comp ?_) (by show 0 ≤ sizeLine; decide)
  obtain ⟨L, eL⟩ : ∃ L, L = t2.heap.objs.size := ⟨_, rfl⟩
  have hL : G L = none := J2.hok.fresh (Nat.le_of_eq eL.symm)
  obtain ⟨W1, ⟨m0, w0⟩, step⟩ := q L hL
  rw [← eL]
  obtain ⟨t3, e3⟩ : ∃ t3 : Shared, t3 = { t2 with heap := t2.heap.push { cls := .type "list", data := .seq ([] : List Value).toArray } } := ⟨_, rfl⟩
  rw [← e3]
  have hp3 : t3.heap = t2.heap.push { cls := .type "list", data := .seq ([] : List Value).toArray } := by rw [e3]
  have J3 : Inv X pins σ (upd G L (.lst [])) t3 := by
    rw [e3]
    refine J2.laid (t' := t2.toks) (fun _ _ z => Heap.get?_push_of_some _ z) (Nat.le_of_eq eL.symm) ⟨Nat.zero_le _, [], 0, .nil, ?_⟩
    rw [eL]
    exact Heap.get?_push_size _ rfl
  have small : ∀ b ∈ fp, b < t2.heap.objs.size := fun b hb => (T.obj _ _ z2 b hb).elim fun o ho => Heap.lt_size ho.1
  have hf3 : ∀ b ∈ fp, FpOk X pins (upd G L (.lst [])) b ∧ b < t3.heap.objs.size := fun b hb => by
    have lt := small b hb
    refine ⟨⟨?_, (hf2 b hb).2⟩, by rw [hp3, Heap.size_push]; exact Nat.lt_succ_of_lt lt⟩
    rw [upd_ne (by rw [eL]; exact Nat.ne_of_lt lt)]
    exact (hf2 b hb).1
  have z3 : tn 0 t3.heap := T.keep _ _ _ z2 fun b _ o z => by rw [hp3]; exact Heap.get?_push_of_some _ z
  have J4 := block_start J3 B.ok B.nd hf3
  obtain ⟨G3, eG⟩ : ∃ G3, G3 = upd G L (.lst []) := ⟨_, rfl⟩
  rw [← eG] at J3 J4 w0 hf3
  obtain ⟨ce, ece⟩ : ∃ ce, ce = compEnvC scope (cellsFrom (t3.heap.objs.size + 1) scope.names (cloFrom X.env.cells scope.names [])) t3.heap.objs.size X.env := ⟨_, rfl⟩
  -- exceptions of the block
  obtain ⟨xe0, exe⟩ : ∃ xe0 : Value → Shared → Prop, xe0 = L2N.XE (blkW X (fun _ _ => False) t3 G3 scope ce fp) (fun c d _ H' => W c d σ H') := ⟨_, rfl⟩
  have tk0 : L2N.Takes (blkW X xe0 t3 G3 scope ce fp) (fun c d _ H' => W c d σ H') := fun u s' ⟨a, Bs, sI, ps, σ', H', cls, d, e, I, r⟩ => by
    show xe0 u s'
    rw [exe]
    exact ⟨a, Bs, sI, ps, σ', H', cls, d, e, inW I, r⟩
  have bg := B.dg t3 G3 t3.heap.objs.size (cellsFrom (t3.heap.objs.size + 1) scope.names (cloFrom X.env.cells scope.names [])) fp xe0
  have bt := B.dt t3 G3 t3.heap.objs.size (cellsFrom (t3.heap.objs.size + 1) scope.names (cloFrom X.env.cells scope.names [])) fp xe0
  have be := B.de t3 G3 t3.heap.objs.size (cellsFrom (t3.heap.objs.size + 1) scope.names (cloFrom X.env.cells scope.names [])) fp xe0 (fun c d _ H' => W c d σ H') (by rw [← ece]; exact tk0)
  show codeAny _ _ (.compStart (.ListComp elt [⟨tg, iter, ifs, 0⟩] scope pos) 0 (.ref i0) (.ref L) (compEnvC scope (cellsFrom (t3.heap.objs.size + 1) scope.names (cloFrom X.env.cells scope.names [])) t3.heap.objs.size X.env)) (compX (model X.prog X.w) X.A X.xe Qf (.ref L) t3.heap.objs.size X.env.frame) { t3 with heap := pushCells (t3.heap.push { cls := .type "dict", data := .dict #[] }) scope.names }
  have zero : ∀ b ∈ fp, G3 b = none := fun b hb => (hf3 b hb).1.1
  rw [← ece] at J4 bg bt be ⊢
  have locs : ce.locals = t3.heap.objs.size := by rw [ece]; rfl
  have cfr : ce.frame = X.env.frame := by rw [ece]; rfl
  obtain ⟨t4, e4⟩ : ∃ t4 : Shared, t4 = { t3 with heap := pushCells (t3.heap.push { cls := .type "dict", data := .dict #[] }) scope.names } := ⟨_, rfl⟩
  rw [← e4] at J4 ⊢
  have kp4 : ∀ b o, t3.heap.get? b = some o → t4.heap.get? b = some o := fun b o z => by rw [e4]; exact pushCells_keeps _ _ _ _ (Heap.get?_push_of_some _ z)
  have z4 : tn 0 t4.heap := T.keep _ _ _ z3 fun b _ o z => kp4 b o z
  have J5 : Inv (blkW X xe0 t3 G3 scope ce fp) [] (wipe σ (own.map (·.2))) G3 t4 := inW (xe := fun _ _ => False) J4
  have still : ∀ {σ' : L2.St} {H' : Hp} {s' : Shared}, Inv (blkW X xe0 t3 G3 scope ce fp) [] σ' H' s' → (∀ b ∈ fp, H' b = none) → ∀ b ∈ fp, FpOk (blkW X xe0 t3 G3 scope ce fp) [] H' b := fun {σ' H' s'} J' n b hb =>
    ⟨n b hb, (J'.ok.exf b hb).1, J'.ok.exfs b hb, .inl hb, fun x c z => (J'.ok.exf b hb).2 x c z, fun q hq => absurd (show q ∈ ([] : List (Addr × Obj)) ++ [] from hq) (by simp)⟩
  have run : codeAny (model X.prog X.w) X.A (.compLoop (.ListComp elt [⟨tg, iter, ifs, 0⟩] scope pos) 0 (.ref i0) (.ref L) ce) (compX (model X.prog X.w) X.A X.xe Qf (.ref L) t3.heap.objs.size X.env.frame) t4 := by
    refine compLoop_any (fun n s' => ∃ j H', Inv (blkW X xe0 t3 G3 scope ce fp) [] (wipe σ (own.map (·.2))) H' s' ∧ tn j s'.heap ∧ (∀ b ∈ fp, H' b = none) ∧ W1 j n H') ?_ m0 ⟨0, G3, J5, z4, zero, w0⟩
    rintro n t5 ⟨j, G5, K5, z5, n5, w5⟩
    rcases step j n G5 w5 with ⟨halt, qe⟩ | ⟨more, Nx, hNx, body⟩
    · have dn := T.done (blkW X xe0 t3 G3 scope ce fp) rfl rfl rfl B.calm j [] t5 _ G5 (fun _ _ => False) K5 (still K5 n5) z5 halt
      refine thnF dn fun r t6 hr => ?_
      obtain ⟨rfl, K6⟩ := hr
      have out : Inv X pins σ G5 t6 := J3.call' (ch := fp) K6.os K6.base K6.hok K6.bare fun b hb => ⟨(hf3 b hb).1.2.2.2.1, (hf3 b hb).1.2.1, (hf3 b hb).1.2.2.2.2.1, (hf3 b hb).1.2.2.2.2.2⟩
      have gone : G5 t3.heap.objs.size = none := by
        have y : G5 ce.locals = none := K6.free
        rw [locs] at y
        exact y
      obtain ⟨mm, hn, _⟩ := K6.loc
      have hn : t6.heap.Ns ce.locals mm := hn
      rw [locs] at hn
      exact ⟨mm, hn, fin L t3.heap.objs.size t6 mm G5 out qe hn (J3.fpOk (Nat.le_refl _) gone)⟩
    · have it := T.item (blkW X xe0 t3 G3 scope ce fp) rfl rfl rfl B.calm j [] t5 _ G5 (fun _ _ => False) K5 (still K5 n5) z5 more
      refine thnF it fun r t6 hr => ?_
      obtain ⟨u, rfl, h6⟩ := hr
      refine thnF h6 fun _ t7 hx => ?_
      obtain ⟨x, G7, K7, r7, y7, z7, n7⟩ := hx
      have K7' := K7.pinned (still K7 n7) (T.obj _ _ z7)
      have up : ∀ {α : Type} {p : Sem α} {P : α → Shared → Prop} {P' : α → Shared → Prop} {t : Shared}, wpAny (model X.prog X.w) X.A p P xe0 t → (∀ a t', P a t' → P' a t') → wpAny (model X.prog X.w) X.A p P' (notedBy (model X.prog X.w) X.A ce fun u s' => compX (model X.prog X.w) X.A X.xe Qf (.ref L) t3.heap.objs.size X.env.frame (.error u) s') t := fun {α p P P' t} hw hP => by
        refine wpAny_mono hw hP fun u s' hx => ?_
        rw [exe] at hx
        exact B.pass J3 (fun b hb => (hf3 b hb).1) locs cfr hx
      refine up (bg.run _ t7 _ G7 x u _ K7' r7 (body x G7 y7)) fun _ t8 hx => ?_
      obtain ⟨σ8, G8, K8, hw8, q8⟩ := hx
      refine up (bt.run _ t8 σ8 G8 _ K8 q8) fun yes t9 hx => ?_
      obtain ⟨G9, K9, q9⟩ := hx
      have turn : ∀ {s' : Shared} {H' : Hp}, Inv (blkW X xe0 t3 G3 scope ce fp) ([] ++ pinsAt fp t7.heap) σ8 H' s' → Nx H' → ∃ m, m < n ∧ ∃ j H', Inv (blkW X xe0 t3 G3 scope ce fp) [] (wipe σ (own.map (·.2))) H' s' ∧ tn j s'.heap ∧ (∀ b ∈ fp, H' b = none) ∧ W1 j m H' := fun {s' H'} K' nx => by
        obtain ⟨m', lt, w'⟩ := hNx H' nx
        have pinned : ∀ b ∈ fp, ∀ o, t7.heap.get? b = some o → s'.heap.get? b = some o ∧ H' b = none := fun b hb o y =>
          have all := K'.pin (b, o) (List.mem_append_right _ (List.mem_append_right _ (mem_pinsAt hb y)))
          ⟨all.1, all.2.1⟩
        have len : (wipe σ (own.map (·.2))).length = σ8.length := by rw [← hw8, wipe_length]
        refine ⟨m', lt, j + 1, H', (K'.unpinned (pins := [])).weak len (fun i v y => ?_), T.keep _ _ _ z7 fun b hb o y => (pinned b hb o y).1, fun b hb => ?_, w'⟩
        · rw [← hw8] at y
          exact (wipe_some y).1
        · obtain ⟨o, y, _⟩ := T.obj _ _ z7 b hb
          exact (pinned b hb o y).2
      cases yes with
      | false =>
        simp only [Bool.false_eq_true, if_false] at q9 ⊢
        exact turn K9 q9
      | true =>
        simp only [if_true] at q9 ⊢
        refine up (be.run _ t9 σ8 G9 _ K9 q9) fun v t10 hx => ?_
        obtain ⟨yv, G10, K10, r10, acc, hD, hz, nx⟩ := hx
        exact app_ok (X := blkW X xe0 t3 G3 scope ce fp) K10 hD hz r10 fun t11 K11 => turn K11 nx
  exact codeAny_compStart_list run (T.self X.A 0 _ _ _ z4 run)
/-- the comprehension, its element's wish by the store ahead of it -/
def tLcX (W : WX) (wi : TI) (g : TG) (tt : TT) (te : WX → TE) (vs : List Nat) : TE := fun σ H Q => tLc wi g tt (te fun c d _ H' => W c d σ H') vs σ H Q
theorem pe_lcX (B : ErrB X W elt tg iter ifs scope own wi g tt te) {pos : Pos} : PE X (.ListComp elt [⟨tg, iter, ifs, 0⟩] scope pos) (tLcX W wi g tt te (own.map (·.2))) := by
  refine ⟨fun pins s σ H Q J w => ?_⟩
  rw [eval_ListComp]
  refine B.core J w fun D C s' m H' J' q hn f g' sb => ?_
  obtain ⟨c0, c1, c2, c3, c4, c5⟩ := f
  exact ⟨.ref D, H', J'.turned (t' := s'.toks) (fun b o hb z => (sb.2 b hb).trans z) c0 c1 c3 c4 c5, rfl, q⟩
end
/-! ### the mirror -/
def cmpX (is : List Nat) (tg : Tg) (mt : Gm → Out Bool) (me : Gm → Out PyData) : List PyData → List PyData → Gm → Out (List PyData)
  | [], acc, g => .ok acc g
  | d :: ds, acc, g => match tg d g with
    | none => .stk
    | some g1 => match mt g1 with
      | .ok true g2 => match me g2 with
        | .ok y g3 => if acc.length < zl then cmpX is tg mt me ds (acc ++ [y]) (VL.kl is g3) else .stk
        | .err e g3 => .err e (VL.kl is g3)
        | .stk => .stk
      | .ok false g2 => cmpX is tg mt me ds acc (VL.kl is g2)
      | _ => .stk
def cEndX (is : List Nat) (g1 : Gm) (x : Out (List PyData)) : Out OD :=
  match x with
  | .ok acc g2 => .ok (.lst acc) (VL.rst is g1 g2)
  | .err e g2 => .err e (VL.rst is g1 g2)
  | .stk => .stk
def oCompX (of : PyData → Option (List PyData)) (is : List Nat) (tg : Tg) (mt : Gm → Out Bool) (me ms : Gm → Out PyData) (g : Gm) : Out OD :=
  match ms g with
  | .ok d g1 => match of d with
    | some ds => cEndX is g1 (cmpX is tg mt me ds [] (VL.kl is g1))
    | none => .stk
  | .err e g1 => .err e g1
  | .stk => .stk
section
variable {K : PySem.W.Frag} {cg : Cg} {W : WX} {pvs : Pv} {g : Gm} {σ σ0 : L2.St} {S S1 S' A : Addr → Prop} {F F1 F' H H1 H' : Hp}
/-- what is wanted behind a comprehension whose list lies at L; of an exception, with the store σ0 -/
def PoX (K : PySem.W.Frag) (cg : Cg) (W : WX) (pvs : Pv) (σ σ0 : L2.St) (L : Addr) (S : Addr → Prop) (F H : Hp) (Q : Hp → Prop) (x : Out (List PyData)) : Prop :=
  match x with
  | .ok acc g => ∀ S' F' H' vs, Stp (fun p => S p ∨ p = L) F H (fun p => S' p ∨ p = L) F' H' → Rel K cg pvs g σ S' F' H' → H' L = some (.lst vs) → F' L = none → ¬ S' L → DqA K F' vs acc → Q H'
  | .err e g => ∀ C dop S' F' H', Stp (fun p => S p ∨ p = L) F H (fun p => S' p ∨ p = L) F' H' → Rel K cg pvs g σ S' F' H' → cg e.c = some (.ref C) → XOk K F' e.xs dop → W (.ref C) dop σ0 H'
  | .stk => False
theorem PoX.st {L : Addr} {Q : Hp → Prop} {x : Out (List PyData)} (h : PoX K cg W pvs σ σ0 L S F H Q x) (a : Stp (fun p => S p ∨ p = L) F H (fun p => S1 p ∨ p = L) F1 H1) : PoX K cg W pvs σ σ0 L S1 F1 H1 Q x := by
  cases x with
  | ok acc g => exact fun S' F' H' vs b => h S' F' H' vs (a.trans b)
  | err e g => exact fun C dop S' F' H' b => h C dop S' F' H' (a.trans b)
  | stk => exact h
theorem cmpX_turn {tg : TG} {tt : TT} {m : Tg} {mt : Gm → Out Bool} {me : Gm → Out PyData} {is ts : List Nat} {d : PyData} {ds acc : List PyData} {x : V} {L : Addr} {vs : List V} {Q : Hp → Prop} {Nx : Hp → Prop}
    (hg : RG K cg ts tg m) (hts : ∀ j ∈ ts, j ∈ is) (ht : RT K cg W0 tt mt) (r : Rel K cg pvs g (L2.wipe σ is) S F H) (hL : H L = some (.lst vs)) (hF : F L = none) (hS : ¬ S L) (ha : DqA K F vs acc) (hd : Dq K F x d)
    (q : PoX K cg W pvs (L2.wipe σ is) σ0 L S F H Q (cmpX is m mt me (d :: ds) acc g))
    (hN : ∀ g' S' F' H' vs' acc', Stp (fun p => S p ∨ p = L) F H (fun p => S' p ∨ p = L) F' H' → Rel K cg pvs (VL.kl is g') (L2.wipe σ is) S' F' H' → H' L = some (.lst vs') → F' L = none → ¬ S' L → DqA K F' vs' acc' → PoX K cg W pvs (L2.wipe σ is) σ0 L S' F' H' Q (cmpX is m mt me ds acc' (VL.kl is g')) → Nx H') :
    tg x (L2.wipe σ is) H fun σ2 H2 => L2.wipe σ2 is = L2.wipe σ is ∧ tt σ2 H2 fun b H3 => if b = true then cV K cg (fun c d _ H' => W c d σ0 H') me σ2 H3 fun y H4 => ∃ acc, H4 L = some (.lst acc) ∧ acc.length < sizeLine ∧ Nx (upd H4 L (.lst (acc ++ [y]))) else Nx H3 := by
  unfold cmpX at q
  cases e : m d g with
  | none =>
    simp only [e] at q
    exact q.elim
  | some g1 =>
    simp only [e] at q
    refine hg pvs g g1 _ S F H x d _ r hd e fun σ2 S2 r2 h2 t2 => ?_
    have ew : L2.wipe σ2 is = L2.wipe σ is := by
      rw [wipe_eq t2 hts]
      refine List.ext_getElem? fun j => ?_
      rw [wipe_get, wipe_get]
      by_cases z : j ∈ is
      · simp only [if_pos z]
        cases σ[j]? <;> rfl
      · simp only [if_neg z]
    refine ⟨ew, ht pvs g1 σ2 S2 F H _ r2 ?_⟩
    have s2 : Stp S F H S2 F H := (Stp.refl r.fh).sub h2
    obtain ⟨b2, hL2, hS2, hF2⟩ := stp_beside s2 hL hS hF
    have q2 := PoX.st q b2
    have back : ∀ {g' : Gm} {S' : Addr → Prop} {F' H' : Hp}, Rel K cg pvs g' σ2 S' F' H' → ∃ S'', Rel K cg pvs (VL.kl is g') (L2.wipe σ is) S'' F' H' ∧ ∀ p, S'' p → S' p := fun {g' S' F' H'} rr => by
      obtain ⟨S'', rk, hk⟩ := rr.kl is
      have rw1 := rk.wipe
      rw [ew] at rw1
      exact ⟨S'', rw1, hk⟩
    cases e2 : mt g1 with
    | err e' g2 =>
      simp only [e2] at q2
      exact q2.elim
    | stk =>
      simp only [e2] at q2
      exact q2.elim
    | ok b g2 =>
      intro S3 F3 H3 s3 r3
      obtain ⟨b3, hL3, hS3, hF3⟩ := stp_beside s3 hL2 hS2 hF2
      cases b with
      | false =>
        simp only [e2] at q2
        show Nx H3
        obtain ⟨S4, r4, h4⟩ := back r3
        have b4 : Stp (fun p => S3 p ∨ p = L) F3 H3 (fun p => S4 p ∨ p = L) F3 H3 := (Stp.refl r3.fh).sub fun p hp => hp.imp (h4 p) id
        exact hN g2 S4 F3 H3 vs acc ((b2.trans b3).trans b4) r4 hL3 hF3 (fun z => hS3 (h4 L z)) (dpa_mo ha s3.fr) (PoX.st (PoX.st q2 b3) b4)
      | true =>
        simp only [e2] at q2
        show cV K cg (fun c d _ H' => W c d σ0 H') me σ2 H3 _
        refine ⟨pvs, g2, S3, F3, r3, ?_⟩
        cases e3 : me g2 with
        | err e' g3 =>
          simp only [e3] at q2
          intro C dop S4 F4 H4 s4 r4 hc hx
          obtain ⟨b4, hL4, hS4, hF4⟩ := stp_beside s4 hL3 hS3 hF3
          obtain ⟨S5, r5, h5⟩ := back r4
          have b5 : Stp (fun p => S4 p ∨ p = L) F4 H4 (fun p => S5 p ∨ p = L) F4 H4 := (Stp.refl r4.fh).sub fun p hp => hp.imp (h5 p) id
          exact (PoX.st (PoX.st q2 b3) b4 : PoX K cg W pvs (L2.wipe σ is) σ0 L S4 F4 H4 Q (.err e' (VL.kl is g3))) C dop S5 F4 H4 b5 r5 hc hx
        | stk =>
          simp only [e3] at q2
          exact q2.elim
        | ok y g3 =>
          simp only [e3] at q2
          intro v S4 F4 H4 s4 r4 d4
          obtain ⟨b4, hL4, hS4, hF4⟩ := stp_beside s4 hL3 hS3 hF3
          split at q2
          · rename_i hz
            have ha4 := dpa_mo (dpa_mo ha s3.fr) s4.fr
            refine ⟨vs, hL4, by rw [dpa_len ha]; exact zl_lt hz, ?_⟩
            obtain ⟨S5, r5, h5⟩ := back r4
            have nS5 : ¬ S5 L := fun z => hS4 (h5 L z)
            have u := stp_upd (o := .lst (vs ++ [v])) r4.fh hF4
            have b5 : Stp (fun p => S4 p ∨ p = L) F4 H4 (fun p => S5 p ∨ p = L) F4 (upd H4 L (.lst (vs ++ [v]))) :=
              ⟨fun p w hp e => u.keep p w (fun z => hp (.inr z)) e, u.fr, fun p w e => .inl ⟨w, e⟩, fun p hp => .inl (hp.imp (h5 p) id), u.fh⟩
            have r6 : Rel K cg pvs (VL.kl is g3) (L2.wipe σ is) S5 F4 (upd H4 L (.lst (vs ++ [v]))) := r5.stp u fun p hp z => nS5 (z ▸ hp)
            exact hN g3 S5 F4 _ (vs ++ [v]) (acc ++ [y]) (((b2.trans b3).trans b4).trans b5) r6 upd_same hF4 nS5 (dpa_app ha4 (.cons d4 .nil)) (PoX.st (PoX.st (PoX.st q2 b3) b4) b5)
          · exact q2.elim
theorem cmpX_no {is : List Nat} {tg : Tg} {mt : Gm → Out Bool} {me : Gm → Out PyData} : ∀ (ds acc : List PyData) (g : Gm), (∀ acc' g', cmpX is tg mt me ds acc (VL.kl is g) = .ok acc' g' → ∃ g2, g' = VL.kl is g2) ∧ ∀ e g', cmpX is tg mt me ds acc (VL.kl is g) = .err e g' → ∃ g2, g' = VL.kl is g2
  | [], acc, g => ⟨fun acc' g' h => (by cases h; exact ⟨g, rfl⟩), fun e g' h => (by cases h)⟩
  | d :: ds, acc, g => by
    unfold cmpX
    split
    · exact ⟨fun _ _ h => (by cases h), fun _ _ h => (by cases h)⟩
    · split
      · split
        · split
          · exact cmpX_no ds _ _
          · exact ⟨fun _ _ h => (by cases h), fun _ _ h => (by cases h)⟩
        · exact ⟨fun _ _ h => (by cases h), fun _ _ h => (by cases h; exact ⟨_, rfl⟩)⟩
        · exact ⟨fun _ _ h => (by cases h), fun _ _ h => (by cases h)⟩
      · exact cmpX_no ds _ _
      · exact ⟨fun _ _ h => (by cases h), fun _ _ h => (by cases h)⟩
theorem cmpX_end {is : List Nat} {L : Addr} {Q : VK} {x : Out (List PyData)} (hnd : is.Nodup) (r1 : Rel K cg pvs g σ S F H) (hx : (∀ acc g', x = .ok acc g' → ∃ g2, g' = VL.kl is g2) ∧ ∀ e g', x = .err e g' → ∃ g2, g' = VL.kl is g2) (q : PoO K cg W pvs σ S F H Q (cEndX is g x)) (hL : H L = none) :
    PoX K cg W pvs (L2.wipe σ is) σ L S F (upd H L (.lst [])) (Q (.ref L)) x := by
  have u := pst_own (o := .lst []) r1.fh hL
  have s1 : Stp S F H (fun p => S p ∨ p = L) F (upd H L (.lst [])) := u.stpA fun p hp => by
    rw [hp]
    exact hL
  cases x with
  | err e g' =>
    obtain ⟨g2, eg⟩ := hx.2 e g' rfl
    subst eg
    intro C dop S' F' H' b r' hc hxx
    have s2 := s1.trans b
    exact q C dop S' F' H' (s2.sub fun p z => .inl z) (Rel.rst r1 s2.fr is hnd _ r'.unwipe (kl_no is g2)) hc hxx
  | stk => exact q.elim
  | ok acc g' =>
    obtain ⟨g2, eg⟩ := hx.1 acc g' rfl
    subst eg
    intro S' F' H' vs b r' h1 h2 h3 h4
    have s2 := s1.trans b
    exact q (.ref L) (fun p => p = L) S' F' H' s2 (Rel.rst r1 s2.fr is hnd _ r'.unwipe (kl_no is g2)) (.lst h1 h2 h4 fun _ => Iff.rfl) fun p hp hs => h3 (hp ▸ hs)
theorem ro_compXL {tl : TE} {tg : TG} {tt : TT} {m : Tg} {ms me : Gm → Out PyData} {mt : Gm → Out Bool} {is ts : List Nat} (hs : RV K cg W tl ms) (hg : RG K cg ts tg m) (ht : RT K cg W0 tt mt) (hts : ∀ j ∈ ts, j ∈ is) (hnd : is.Nodup) :
    RO K cg W (tLcX W (iList K tl) tg tt (fun W' => cV K cg W' me) is) (oCompX lof is m mt me ms) := fun pvs g σ S F H Q r q => by
  refine hs pvs g σ S F H _ r ?_
  unfold oCompX at q
  cases e : ms g with
  | ok d g1 =>
    rw [e] at q
    intro v S1 F1 H1 s1 r1 d1
    have q1 := PoO.st q s1
    cases d1 with
    | lst h1 h2 =>
      rename_i a vs ds
      simp only [lof] at q1
      refine ⟨a, rfl, ⟨vs, .of (r1.fh _ _ h1)⟩, fun L hL => ?_⟩
      obtain ⟨Sk, rk, hk⟩ := r1.kl is
      have u := pst_own (o := .lst []) r1.fh hL
      have q2 := cmpX_end hnd r1 (cmpX_no _ _ _) q1 hL
      have b0 : Stp (fun p => S1 p ∨ p = L) F1 (upd H1 L (.lst [])) (fun p => Sk p ∨ p = L) F1 (upd H1 L (.lst [])) := (Stp.refl u.fh).sub fun p hp => hp.imp (hk p) id
      have nSk : ¬ Sk L := fun z => by
        obtain ⟨_, w, ew⟩ := r1.at (hk L z)
        rw [hL] at ew
        cases ew
      refine lc_list (K := K) (a := a) (xs := vs) (fun i H' => ∃ g' S' F' vs' acc, Rel K cg pvs (VL.kl is g') (L2.wipe σ is) S' F' H' ∧ F' a = some (.lst vs) ∧ DqA K F' vs ds ∧ H' L = some (.lst vs') ∧ F' L = none ∧ ¬ S' L ∧ DqA K F' vs' acc ∧ PoX K cg W pvs (L2.wipe σ is) σ L S' F' H' (Q (.ref L)) (cmpX is m mt me (ds.drop i) acc (VL.kl is g'))) ?_ ?_ ?_ ?_
      · exact ⟨g1, Sk, F1, [], [], (rk.pst u).wipe, h1, h2, upd_same, r1.fh.free hL, nSk, .nil, PoX.st q2 b0⟩
      · rintro i H' _ ⟨g', S', F', vs', acc, r', h1', _⟩
        exact .of (r'.fh _ _ h1')
      · rintro i x H' hx ⟨g', S', F', vs', acc, r', h1', h2', a1, a2, a3, a4, q'⟩
        obtain ⟨d, ed, hd⟩ := dpa_get h2' hx
        rw [drop_get ed] at q'
        exact cmpX_turn hg hts ht r' a1 a2 a3 a4 hd q' fun g2 S2 F2 H2 vs2 acc2 b2 r2 c1 c2 c3 c4 q2 => ⟨g2, S2, F2, vs2, acc2, r2, b2.fr _ _ h1', dpa_mo h2' b2.fr, c1, c2, c3, c4, q2⟩
      · rintro H' ⟨g', S', F', vs', acc, r', _, h2', a1, a2, a3, a4, q'⟩
        rw [dpa_len h2', List.drop_length] at q'
        exact q' S' F' H' vs' (.refl r'.fh) r' a1 a2 a3 a4
    | non => exact q1.elim
    | bl b => exact q1.elim
    | int i => exact q1.elim
    | str x => exact q1.elim
    | tup h1 h2 => exact q1.elim
  | err e' g1 =>
    rw [e] at q
    exact q
  | stk =>
    rw [e] at q
    exact q.elim
end
section
variable {X : Cx} {W : Wz} {elt tg iter : Expr} {ifs : List Expr} {scope : Scope} {ts : List Nat} {n : Tg} {ms me : Gm → Out PyData} {mt : Gm → Out Bool} {pos : Pos}
abbrev BlkX (X : Cx) (scope : Scope) (P : Cx → Prop) : Prop := ∀ (s : Shared) (H : Hp) (C : Addr) (cl : List (Str × Addr)) (fp : List Addr) (xe : Value → Shared → Prop), P (blkW X xe s H scope (compEnvC scope cl C X.env) fp)
theorem do_compXL (own : List (Str × Nat)) (hN : X.N.Nodup) (tk : L2N.Takes X W.x) (hi : DV X W iter ms) (ok : BlkOk X.N X.env.scope scope own) (hg : BlkX X scope fun X' => DG X' (w0 W) ts tg n) (ht : BlkX X scope fun X' => DTs X' (w0 W) ifs mt)
    (he : BlkX X scope fun X' => ∀ W' : WX, L2N.Takes X' W' → DV X' ⟨W', W.Z⟩ elt me)
    (hts : ∀ j ∈ ts, j ∈ own.map (·.2) := by decide) (hnd : (own.map (·.2)).Nodup := by decide) (hc : X.calm = true := by rfl) (hst : X.stack = X.env :: X.outer := by rfl) (hfr : X.env.frame = some X.env.locals := by rfl) (hs : ∀ x, foldedSetIterable iter X.env x = pure x := by intro _; rfl) :
    DO X W (.ListComp elt [⟨tg, iter, ifs, 0⟩] scope pos) (oCompX lof (own.map (·.2)) n mt me ms) := by
  obtain ⟨t, i1, i2⟩ := hi
  exact ⟨_, pe_lcX (te := fun W' => cV X.K (cgX X W) W' me) ⟨hc, tk, hst, hfr, hN, pi_list i1, ok, fun s H C cl fp xe => (hg s H C cl fp xe).pg, fun s H C cl fp xe => show PTs _ _ (cT X.K (cgX X W) W0 mt) from ht s H C cl fp xe, fun s H C cl fp xe W' tk' => (he s H C cl fp xe W' tk').pe, hs⟩, ro_compXL i2 rg_c rt_c hts hnd⟩
end
end VL
namespace VL
open PySem PySem.Spec PyProof.Rows L2
section
variable {K : PySem.W.Frag} {cg : Str → Option Value} {F H : Hp}
end
section
variable {K : PySem.W.Frag} {cg : Cg} {W : WX} {pvs : Pv} {g : Gm} {σ : L2.St} {S S1 S' A : Addr → Prop} {F F1 F' H H1 H' : Hp}
end
section
variable {X : Cx} {W : Wz} {e : Expr} {pos p2 : Pos}
end
end VL
namespace VL
open PySem PySem.Spec PyProof.Rows L2
section
variable {K : PySem.W.Frag} {cg : Cg} {W : WX} {pvs : Pv} {g : Gm} {σ : L2.St} {S S1 S' A : Addr → Prop} {F F1 F' H H1 H' : Hp}
end
section
variable {X : Cx} {W : Wz} {e o : Expr} {x : Str} {p p2 apos cpos : Pos}
end
end VL
namespace VL
open PySem PySem.Spec PyProof.Rows L2
section
variable {K : PySem.W.Frag} {cg : Cg} {W : WX} {pvs : Pv} {g : Gm} {σ : L2.St} {S S1 S' A B : Addr → Prop} {F F1 F' H H1 H' : Hp}
theorem gt_app_lt {g : Gm} {s : Sl} {i : Nat} (h : i < g.length) : gt (g ++ [s]) i = gt g i := by
  rw [gt_get, gt_get, List.getElem?_append_left h]
theorem gt_app_eq {g : Gm} {s : Sl} : gt (g ++ [s]) g.length = s := by
  rw [gt_get, List.getElem?_append_right (Nat.le_refl _)]
  simp
theorem gt_app_gt {g : Gm} {s : Sl} {i : Nat} (h : g.length < i) : gt (g ++ [s]) i = .no := by
  rw [gt_get, List.getElem?_eq_none (by simp; omega)]
  rfl
theorem gt_out {g : Gm} {i : Nat} (h : g.length ≤ i) : gt g i = .no := by
  rw [gt_get, List.getElem?_eq_none h]
  rfl
theorem sl_sig {cg : Str → Option Value} {pv : Pv} {σ σ' : L2.St} {g g' : Gm} {i : Nat} (h : SlOk K cg F H pv σ g i A) (e : gt g' i = gt g i) (es : σ'[i]? = σ[i]?) : SlOk K cg F H pv σ' g' i A := by
  unfold SlOk at h ⊢
  rw [e, es]
  exact h
theorem Rel.snoc {v : V} {o : OD} (r : Rel K cg pvs g σ S F H) (ow : Ow K cg F H v o B) (dj : ∀ q, B q → S q → False) : Rel K cg pvs (g ++ [.v o]) (σ ++ [some v]) (fun q => S q ∨ B q) F H := by
  obtain ⟨L, h1, h2, h3⟩ := r.ex
  have hl := r.len
  have none : ∀ i, g.length ≤ i → ∀ q, ¬ L i q := fun i hi => by
    have h := h1 i
    unfold SlOk at h
    rw [gt_out hi] at h
    exact h
  refine ⟨r.fh, by simp [hl], r.z, fun i => if i = g.length then B else L i, fun i => ?_, fun i j q hij hi hj => ?_, fun q => ?_⟩
  · by_cases z : i = g.length
    · subst z
      simp only [if_true]
      unfold SlOk
      rw [gt_app_eq]
      refine ⟨v, ?_, ow⟩
      rw [hl, List.getElem?_append_right (Nat.le_refl _)]
      simp
    · simp only [if_neg z]
      by_cases y : i < g.length
      · exact sl_sig (h1 i) (gt_app_lt y) (List.getElem?_append_left (by omega))
      · unfold SlOk
        rw [gt_app_gt (by omega)]
        exact none i (by omega)
  · by_cases z : i = g.length
    · by_cases y : j = g.length
      · exact hij (z.trans y.symm)
      · simp only [if_pos z] at hi
        simp only [if_neg y] at hj
        exact dj q hi ((h3 q).mpr ⟨j, hj⟩)
    · simp only [if_neg z] at hi
      by_cases y : j = g.length
      · simp only [if_pos y] at hj
        exact dj q hj ((h3 q).mpr ⟨i, hi⟩)
      · simp only [if_neg y] at hj
        exact h2 i j q hij hi hj
  · constructor
    · rintro (z | z)
      · obtain ⟨i, y⟩ := (h3 q).mp z
        refine ⟨i, ?_⟩
        have : i ≠ g.length := fun w => none i (by omega) q y
        simp only [if_neg this]
        exact y
      · exact ⟨g.length, by simp only [if_true]; exact z⟩
    · rintro ⟨i, z⟩
      by_cases y : i = g.length
      · simp only [if_pos y] at z
        exact .inr z
      · simp only [if_neg y] at z
        exact .inl ((h3 q).mpr ⟨i, z⟩)
theorem ArOk.snoc {v : V} : ∀ {vs : List V} {as : List Ar}, ArOk K F σ vs as → ArOk K F (σ ++ [some v]) (vs ++ [v]) (as ++ [.l σ.length])
  | _, _, .nil => .l (by rw [List.getElem?_append_right (Nat.le_refl _)]; simp) .nil
  | _, _, .d h t => .d h t.snoc
  | _, _, .l (i := i) h t => .l (by
      have : i < σ.length := (List.getElem?_eq_some_iff.mp h).1
      rw [List.getElem?_append_left this]
      exact h) t.snoc
section
variable (K : PySem.W.Frag) (cg : Cg) (W : WX)
end
end
section
variable {X : Cx} {W : Wz} {e : Expr} {es : List Expr} {x : Str} {p pos : Pos} {k j : Nat}
end
end VL
namespace VL
open PySem PySem.Spec PyProof.Rows L2
section
variable {K : PySem.W.Frag} {cg : Cg} {W : WX} {pvs : Pv} {g : Gm} {σ : L2.St} {S S1 S' A : Addr → Prop} {F F1 F' H H1 H' : Hp} {D : Ends}
end
section
variable {X : Cx} {W : Wz} {a : Expr} {elts : List Expr} {kk : Nat} {tpos p p2 pos : Pos} {ms : Gm → Out PyData} {ts : List Nat} {n : Tg}
end
end VL
namespace VL
open PySem L2
noncomputable section
def k_LOOKS : List Str := ["lies", "held", "free", "custom", "takers", "cut", "born", "driven", "pass", "render", "paid", "claim"]
def k_CUSTOMS : List Str := ["kind", "odd", "fixed", "none"]
def k_FORMS : List Str := ["lies", "held", "free", "takers", "cut", "born", "driven", "pass", "render", "paid", "claim"]
def b__law_bag_1 (g : Gm) : SOut := (sAsg 2 (oV (vP (pR (rOp fMod (pR (rOp fAdd (pR (rOp fMul (pVar 2) (pC (.int 1543)))) (pVar 3))) (pC (.int 2147483629))))))) g
def m__law_bag : List OD → FOut := fnM [true] 3 (sSeq (sAsg 1 (oV (vO (oCa fList (aCons (vO (oSlS 0 63)) aNil))))) (sSeq (sAsg 2 (oV (vP (pR (rOp fAdd (pC (.int 17)) (pR (rCa fLen (waCons (pVar 1) waNil)))))))) (sSeq (sFor lof [3] (gN 3) (vP (pVar 1)) b__law_bag_1) (sRet (oLst (aCons (vP (pVar 1)) (aCons (vP (pC (.int 0))) (aCons (vP (pC (.int 0))) (aCons (vP (pVar 2)) aNil)))))))))
def r__law_pull_1 (g : Gm) : SOut := (sSeq (sIf (tOrM (tV (vP (pR (rOp fGt (pR (rOp fIx (wVar 0) (pC (.int 1)))) (pR (rCa fLen (waCons (pR (rOp fIx (wVar 0) (pC (.int 0)))) waNil))))))) (tV (vP (pR (rOp fLt (pVar 3) (pR (rOp fPow (pC (.int 10)) (pC (.int 18))))))))) (sSeq (sAsg 4 (oV (vP (pR (rOp fMod (pR (rOp fAdd (pR (rOp fAdd (pR (rOp fMul (pVar 3) (pC (.int 48271)))) (pR (rOp fMul (pR (rOp fIx (wVar 0) (pC (.int 1)))) (pC (.int 40692)))))) (pR (rOp fIx (wVar 0) (pC (.int 3)))))) (pC (.int 2147483647))))))) (sSeq (sAsg 5 (oV (vP (pR (rOp fMod (pR (rOp fAdd (pR (rOp fMul (pVar 4) (pVar 4))) (pR (rOp fIx (wVar 0) (pC (.int 1)))))) (pC (.int 998244353))))))) (sRet (oR (rOp fMod (pR (rOp fFdiv (pR (rOp fMod (pR (rOp fAdd (pR (rOp fMul (pVar 5) (pC (.int 69621)))) (pVar 4))) (pC (.int 2147483629)))) (pC (.int 7)))) (pVar 1)))))) sNx) (sSet 0 (vP (pC (.int 2))) (vP (pVar 3)))) g
def r__law_pull_2 (g : Gm) : SOut := (sSeq (sAsg 2 (oV (vP (pR (rOp fMod (pR (rOp fIx (wVar 0) (pC (.int 2)))) (pVar 1)))))) (sSeq (sSet 0 (vP (pC (.int 2))) (vP (pR (rOp fFdiv (pR (rOp fIx (wVar 0) (pC (.int 2)))) (pVar 1))))) (sRet (oV (vP (pVar 2)))))) g
def m__law_pull : List OD → FOut := fnM [true, true] 4 (sSeq (sIf (tV (vP (pR (rOp fLt (pR (rOp fIx (wVar 0) (pC (.int 2)))) (pC (.int 2)))))) (sSeq (sSet 0 (vP (pC (.int 1))) (vP (pR (rOp fAdd (pR (rOp fIx (wVar 0) (pC (.int 1)))) (pC (.int 1)))))) (sSeq (sAsg 3 (oV (vP (pR (rOp fAdd (pR (rOp fIx (wVar 0) (pC (.int 3)))) (pR (rOp fMul (pR (rOp fIx (wVar 0) (pC (.int 1)))) (pC (.int 7919))))))))) (sSeq (sIf (tV (vP (pR (rOp fLe (pR (rOp fIx (wVar 0) (pC (.int 1)))) (pR (rCa fLen (waCons (pR (rOp fIx (wVar 0) (pC (.int 0)))) waNil))))))) (sAsg 3 (oV (vP (pR (rOp fIx (pR (rOp fIx (wVar 0) (pC (.int 0)))) (pR (rOp fSub (pR (rOp fIx (wVar 0) (pC (.int 1)))) (pC (.int 1))))))))) sNx) r__law_pull_1))) sNx) r__law_pull_2)
def m_need_day : List OD → FOut := fnM [true] 0 (sIf (tNotM (tV (vO (vChain fLe fLe (vP (pC (.int 0))) (vP (pVar 0)) (vP (pC c_LAST_DAY)))))) (sErr ⟨"BadDay", []⟩) sNx)
def m_need_field : List OD → FOut := fnM [true] 0 (sIf (tNotM (tV (vO (vChain fLe fLe (vP (pC (.int 1))) (vP (pVar 0)) (vP (pC c_FIELDS)))))) (sErr ⟨"BadField", []⟩) sNx)
def m_need_parish : List OD → FOut := fnM [true] 0 (sIf (tNotM (tV (vO (vChain fLe fLe (vP (pC (.int 1))) (vP (pVar 0)) (vP (pC c_PARISHES)))))) (sErr ⟨"BadParish", []⟩) sNx)
def m_need_lies : List OD → FOut := fnM [true] 0 (sSeq (sDrop (oCall 1 m_need_field (lD (vP (pR (rOp fIx (pVar 0) (pC (.int 1))))) lNil))) (sSeq (sDrop (oCall 1 m_need_parish (lD (vP (pR (rOp fIx (pVar 0) (pC (.int 2))))) lNil))) (sDrop (oCall 1 m_need_day (lD (vP (pR (rOp fIx (pVar 0) (pC (.int 3))))) lNil)))))
def m_need_held : List OD → FOut := fnM [true] 0 (sSeq (sDrop (oCall 1 m_need_field (lD (vP (pR (rOp fIx (pVar 0) (pC (.int 1))))) lNil))) (sSeq (sIf (tNotM (tV (vO (vChain fLe fLe (vP (pC (.int 0))) (vP (pR (rOp fIx (pVar 0) (pC (.int 2))))) (vP (pC c_HOLDERS)))))) (sErr ⟨"BadHolder", []⟩) sNx) (sDrop (oCall 1 m_need_day (lD (vP (pR (rOp fIx (pVar 0) (pC (.int 3))))) lNil)))))
def m_need_free : List OD → FOut := fnM [true] 0 (sSeq (sDrop (oCall 1 m_need_field (lD (vP (pR (rOp fIx (pVar 0) (pC (.int 1))))) lNil))) (sSeq (sDrop (oCall 1 m_need_day (lD (vP (pR (rOp fIx (pVar 0) (pC (.int 2))))) lNil))) (sSeq (sDrop (oCall 1 m_need_day (lD (vP (pR (rOp fIx (pVar 0) (pC (.int 3))))) lNil))) (sIf (tV (vP (pR (rOp fLt (pR (rOp fIx (pVar 0) (pC (.int 3)))) (pR (rOp fIx (pVar 0) (pC (.int 2)))))))) (sErr ⟨"Backward", []⟩) sNx))))
def m_need_year : List OD → FOut := fnM [true] 0 (sIf (tNotM (tV (vO (vChain fLe fLe (vP (pC (.int 0))) (vP (pVar 0)) (vP (pC c_LAST_YEAR)))))) (sErr ⟨"BadYear", []⟩) sNx)
def m_need_kind : List OD → FOut := fnM [true] 0 (sIf (tNotM (tV (vO (vChain fLe fLe (vP (pC (.int 1))) (vP (pVar 0)) (vP (pC c_KINDS)))))) (sErr ⟨"BadKind", []⟩) sNx)
def m_need_pence : List OD → FOut := fnM [true] 0 (sIf (tNotM (tV (vO (vChain fLe fLe (vP (pC (.int 0))) (vP (pVar 0)) (vP (pC c_MOST_PENCE)))))) (sErr ⟨"BadPence", []⟩) sNx)
def r_need_custom_1 (g : Gm) : SOut := (sSeq (sIf (tV (vP (pR (rOp fEq (pR (rOp fIx (pVar 0) (pC (.int 0)))) (pC (.str "odd")))))) (sSeq (sIf (tNotM (tV (vO (vChain fLe fLe (vP (pC (.int 1))) (vP (pR (rOp fIx (pVar 0) (pC (.int 1))))) (vP (pC c_MOST_ASIDE)))))) (sErr ⟨"BadAside", []⟩) sNx) (sDrop (oCall 1 m_need_pence (lD (vP (pR (rOp fIx (pVar 0) (pC (.int 2))))) lNil)))) sNx) (sIf (tV (vP (pR (rOp fEq (pR (rOp fIx (pVar 0) (pC (.int 0)))) (pC (.str "fixed")))))) (sDrop (oCall 1 m_need_pence (lD (vP (pR (rOp fIx (pVar 0) (pC (.int 1))))) lNil))) sNx)) g
def r_need_custom_2 (g : Gm) : SOut := (sSeq (sIf (tAndM (tV (vP (pR (rOp fEq (pR (rOp fIx (pVar 0) (pC (.int 0)))) (pC (.str "kind")))))) (tNotM (tV (vO (vChain fLe fLe (vP (pC (.int 0))) (vP (pR (rOp fIx (pVar 0) (pC (.int 1))))) (vP (pC c_MOST_ASIDE))))))) (sErr ⟨"BadAside", []⟩) sNx) r_need_custom_1) g
def m_need_custom : List OD → FOut := fnM [true] 0 (sSeq (sIf (tV (vO (oOp fNotInT (vP (pR (rOp fIx (pVar 0) (pC (.int 0))))) (vO (oTup (aCons (vP (pC (.str "kind"))) (aCons (vP (pC (.str "odd"))) (aCons (vP (pC (.str "fixed"))) (aCons (vP (pC (.str "none"))) aNil))))))))) (sErr ⟨"BadCustom", []⟩) sNx) r_need_custom_2)
def m_need_custom_fact : List OD → FOut := fnM [true] 0 (sSeq (sDrop (oCall 1 m_need_parish (lD (vP (pR (rOp fIx (pVar 0) (pC (.int 1))))) lNil))) (sSeq (sDrop (oCall 1 m_need_kind (lD (vP (pR (rOp fIx (pVar 0) (pC (.int 2))))) lNil))) (sSeq (sDrop (oCall 1 m_need_year (lD (vP (pR (rOp fIx (pVar 0) (pC (.int 3))))) lNil))) (sDrop (oCall 1 m_need_custom (lD (vP (pR (rOp fIx (pVar 0) (pC (.int 4))))) lNil))))))
def t_divisor_1 (g : Gm) : Out Bool := (tV (vP (pR (rOp fGt (pVar 0) (pC (.int 0)))))) g
def b_divisor_2 (g : Gm) : SOut := (sPar 0 1 (aCons (vP (pR (rOp fMod (pVar 1) (pVar 0)))) (aCons (vP (pVar 0)) aNil))) g
def m_divisor : List OD → FOut := fnM [false, false] 0 (sSeq (sWhl [] (fuN 0) t_divisor_1 b_divisor_2) (sRet (oV (vP (pVar 1)))))
def m_is_part : List OD → FOut := fnM [true] 0 (sRet (oV (vAnd (vP (pR (rOp fGe (pR (rOp fIx (pVar 0) (pC (.int 0)))) (pC (.int 0))))) (vAnd (vP (pR (rOp fGe (pR (rOp fIx (pVar 0) (pC (.int 1)))) (pC (.int 1))))) (vO (oOp fEq (vO (oCall 2 m_divisor (lD (vP (pR (rOp fIx (pVar 0) (pC (.int 0))))) (lD (vP (pR (rOp fIx (pVar 0) (pC (.int 1))))) lNil)))) (vP (pC (.int 1)))))))))
def m_below : List OD → FOut := fnM [true, true] 0 (sRet (oR (rOp fLt (pR (rOp fMul (pR (rOp fIx (pVar 0) (pC (.int 0)))) (pR (rOp fIx (pVar 1) (pC (.int 1)))))) (pR (rOp fMul (pR (rOp fIx (pVar 1) (pC (.int 0)))) (pR (rOp fIx (pVar 0) (pC (.int 1)))))))))
def m_need_taker : List OD → FOut := fnM [true] 0 (sIf (tNotM (tV (vO (vChain fLe fLe (vP (pC (.int 1))) (vP (pVar 0)) (vP (pC c_TAKERS)))))) (sErr ⟨"BadTaker", []⟩) sNx)
def r_need_two_1 (g : Gm) : SOut := (sSeq (sDrop (oCall 1 m_need_taker (lD (vP (pVar 2)) lNil))) (sIf (tV (vP (pR (rOp fEq (pVar 0) (pVar 2))))) (sErr ⟨"Same", []⟩) sNx)) g
def m_need_two : List OD → FOut := fnM [true, true, true] 0 (sSeq (sDrop (oCall 1 m_need_taker (lD (vP (pVar 0)) lNil))) (sSeq (sIf (tOrM (tNotM (tV (vO (oCall 1 m_is_part (lD (vP (pVar 1)) lNil))))) (tV (vO (oCall 2 m_below (lD (vP (pC c_ALL)) (lD (vP (pVar 1)) lNil)))))) (sErr ⟨"BadPart", []⟩) sNx) r_need_two_1))
def m_need_takers_fact : List OD → FOut := fnM [true] 0 (sSeq (sDrop (oCall 1 m_need_parish (lD (vP (pR (rOp fIx (pVar 0) (pC (.int 1))))) lNil))) (sSeq (sDrop (oCall 1 m_need_kind (lD (vP (pR (rOp fIx (pVar 0) (pC (.int 2))))) lNil))) (sSeq (sDrop (oCall 1 m_need_year (lD (vP (pR (rOp fIx (pVar 0) (pC (.int 3))))) lNil))) (sDrop (oCall 3 m_need_two (lD (vP (pR (rOp fIx (pVar 0) (pC (.int 4))))) (lD (vP (pR (rOp fIx (pVar 0) (pC (.int 5))))) (lD (vP (pR (rOp fIx (pVar 0) (pC (.int 6))))) lNil))))))))
def m_need_count : List OD → FOut := fnM [true] 0 (sIf (tNotM (tV (vO (vChain fLe fLe (vP (pC (.int 1))) (vP (pVar 0)) (vP (pC c_MOST_COUNT)))))) (sErr ⟨"BadCount", []⟩) sNx)
def m_need_cut : List OD → FOut := fnM [true] 0 (sSeq (sDrop (oCall 1 m_need_field (lD (vP (pR (rOp fIx (pVar 0) (pC (.int 1))))) lNil))) (sSeq (sDrop (oCall 1 m_need_kind (lD (vP (pR (rOp fIx (pVar 0) (pC (.int 2))))) lNil))) (sSeq (sDrop (oCall 1 m_need_day (lD (vP (pR (rOp fIx (pVar 0) (pC (.int 3))))) lNil))) (sDrop (oCall 1 m_need_count (lD (vP (pR (rOp fIx (pVar 0) (pC (.int 4))))) lNil))))))
def m_need_born : List OD → FOut := fnM [true] 0 (sSeq (sDrop (oCall 1 m_need_field (lD (vP (pR (rOp fIx (pVar 0) (pC (.int 1))))) lNil))) (sSeq (sDrop (oCall 1 m_need_kind (lD (vP (pR (rOp fIx (pVar 0) (pC (.int 2))))) lNil))) (sSeq (sDrop (oCall 1 m_need_day (lD (vP (pR (rOp fIx (pVar 0) (pC (.int 3))))) lNil))) (sSeq (sIf (tOrM (tNotM (tV (vO (vChain fLe fLe (vP (pC (.int 1))) (vP (pR (rOp fIx (pVar 0) (pC (.int 4))))) (vP (pC c_MOST_SPAN)))))) (tV (vP (pR (rOp fGt (pR (rOp fAdd (pR (rOp fIx (pVar 0) (pC (.int 3)))) (pR (rOp fIx (pVar 0) (pC (.int 4)))))) (pC c_LAST_DAY)))))) (sErr ⟨"BadSpan", []⟩) sNx) (sIf (tNotM (tV (vO (vChain fLe fLe (vP (pC (.int 0))) (vP (pR (rOp fIx (pVar 0) (pC (.int 5))))) (vP (pC c_MOST_WORTH)))))) (sErr ⟨"BadWorth", []⟩) sNx)))))
def m_need_driven : List OD → FOut := fnM [true] 0 (sSeq (sDrop (oCall 1 m_need_field (lD (vP (pR (rOp fIx (pVar 0) (pC (.int 2))))) lNil))) (sDrop (oCall 1 m_need_day (lD (vP (pR (rOp fIx (pVar 0) (pC (.int 3))))) lNil))))
def m_need_holder : List OD → FOut := fnM [true] 0 (sIf (tNotM (tV (vO (vChain fLe fLe (vP (pC (.int 1))) (vP (pVar 0)) (vP (pC c_HOLDERS)))))) (sErr ⟨"BadHolder", []⟩) sNx)
def m_need_pass : List OD → FOut := fnM [true] 0 (sSeq (sDrop (oCall 1 m_need_holder (lD (vP (pR (rOp fIx (pVar 0) (pC (.int 1))))) lNil))) (sSeq (sDrop (oCall 1 m_need_holder (lD (vP (pR (rOp fIx (pVar 0) (pC (.int 2))))) lNil))) (sSeq (sIf (tV (vP (pR (rOp fEq (pR (rOp fIx (pVar 0) (pC (.int 1)))) (pR (rOp fIx (pVar 0) (pC (.int 2)))))))) (sErr ⟨"Same", []⟩) sNx) (sDrop (oCall 1 m_need_day (lD (vP (pR (rOp fIx (pVar 0) (pC (.int 3))))) lNil))))))
def m_need_laid : List OD → FOut := fnM [true] 0 (sSeq (sDrop (oCall 1 m_need_holder (lD (vP (pR (rOp fIx (pVar 0) (pC (.int 1))))) lNil))) (sSeq (sDrop (oCall 1 m_need_parish (lD (vP (pR (rOp fIx (pVar 0) (pC (.int 2))))) lNil))) (sSeq (sDrop (oCall 1 m_need_kind (lD (vP (pR (rOp fIx (pVar 0) (pC (.int 3))))) lNil))) (sSeq (sDrop (oCall 1 m_need_day (lD (vP (pR (rOp fIx (pVar 0) (pC (.int 4))))) lNil))) (sIf (tV (vP (pR (rOp fEq (pR (rOp fIx (pVar 0) (pC (.int 0)))) (pC (.str "paid")))))) (sDrop (oCall 1 m_need_pence (lD (vP (pR (rOp fIx (pVar 0) (pC (.int 5))))) lNil))) (sDrop (oCall 1 m_need_count (lD (vP (pR (rOp fIx (pVar 0) (pC (.int 5))))) lNil))))))))
def m_need_claim : List OD → FOut := fnM [true] 0 (sSeq (sDrop (oCall 1 m_need_field (lD (vP (pR (rOp fIx (pVar 0) (pC (.int 1))))) lNil))) (sDrop (oCall 1 m_need_parish (lD (vP (pR (rOp fIx (pVar 0) (pC (.int 2))))) lNil))))
def f_LOOKS : List (Str × (List OD → FOut)) := [("lies", m_need_lies), ("held", m_need_held), ("free", m_need_free), ("custom", m_need_custom_fact), ("takers", m_need_takers_fact), ("cut", m_need_cut), ("born", m_need_born), ("driven", m_need_driven), ("pass", m_need_pass), ("render", m_need_laid), ("paid", m_need_laid), ("claim", m_need_claim)]
def m_need_fact : List OD → FOut := fnM [true] 1 (sSeq (sIf (tV (vTabNotIn k_LOOKS (vP (pR (rOp fIx (pVar 0) (pC (.int 0))))))) (sErr ⟨"BadWord", []⟩) sNx) (sSeq (sLook 1 1 f_LOOKS (vP (pR (rOp fIx (pVar 0) (pC (.int 0))))) (lD (vP (pVar 0)) lNil)) sNx))
def m_Book___init__ : List OD → FOut := fnM [true] 0 (sSeq (sFldP 0 "Book" "kept" (oLst aNil)) (sSeq (sFldP 0 "Book" "past_rows" (oLst aNil)) (sFldP 0 "Book" "future_rows" (oLst aNil))))
def m_Book_remember : List OD → FOut := fnM [true, true] 0 (sSeq (sDrop (oV (vMutP (.f 0 "Book" "past_rows") fApp (paCons (pR (rTup (paCons (pVar 1) (paCons (pR (rCa fList (waCons (wP (.f 0 "Book" "kept")) waNil))) paNil)))) paNil)))) (sFldP 0 "Book" "future_rows" (oLst aNil)))
def e_Book_many_of_1 (g : Gm) : Out PyData := (vP (pVar 2)) g
def t_Book_many_of_2 (g : Gm) : Out Bool := (tV (vP (pR (rOp fEq (pR (rOp fIx (pVar 2) (pC (.int 0)))) (pVar 1))))) g
def m_Book_many_of : List OD → FOut := fnM [true, true] 2 (sRo 0 (sRet (oCa fLen (aCons (vO (oComp lof [2, 3] (gT 2 (gsCons (gN 2) (gsCons (gN 3) gsNil))) t_Book_many_of_2 e_Book_many_of_1 (vP (vFa 0 "Book" "kept")))) aNil))))
def r_Book_need_room_1 (g : Gm) : SOut := (sSeq (sIf (tAndM (tV (vP (pR (rOp fEq (pR (rOp fIx (pVar 1) (pC (.int 0)))) (pC (.str "born")))))) (tV (vO (oOp fGe (vO (oCall 2 m_Book_many_of (lLC 0 "Book" "many_of" (lD (vP (pC (.str "born"))) lNil)))) (vP (pC c_MOST_BIRTHS)))))) (sErr ⟨"Full", []⟩) sNx) (sIf (tAndM (tV (vP (pR (rOp fEq (pR (rOp fIx (pVar 1) (pC (.int 0)))) (pC (.str "claim")))))) (tV (vO (oOp fGe (vO (oCall 2 m_Book_many_of (lLC 0 "Book" "many_of" (lD (vP (pC (.str "claim"))) lNil)))) (vP (pC c_MOST_CLAIMS)))))) (sErr ⟨"Full", []⟩) sNx)) g
def m_Book_need_room : List OD → FOut := fnM [true, true] 0 (sSeq (sIf (tV (vP (pR (rOp fGe (pR (rCa fLen (waCons (wP (.f 0 "Book" "kept")) waNil))) (pC c_MOST_FACTS))))) (sErr ⟨"Full", []⟩) sNx) r_Book_need_room_1)
def m_Book_need_beast : List OD → FOut := fnM [true, true] 0 (sIf (tOrM (tNotM (tV (vO (vChain fLe fLe (vP (pC (.int 1))) (vP (pVar 1)) (vP (pR (rCa fLen (waCons (wP (.f 0 "Book" "kept")) waNil)))))))) (tV (vP (pR (rOp fNe (pR (rOp fIx (pR (rOp fIx (pR (rOp fIx (wP (.f 0 "Book" "kept")) (pR (rOp fSub (pVar 1) (pC (.int 1)))))) (pC (.int 0)))) (pC (.int 0)))) (pC (.str "born"))))))) (sErr ⟨"NoBeast", []⟩) sNx)
def r_Book_tell_1 (g : Gm) : SOut := (sSeq (sDrop (oCall 1 m_need_fact (lD (vP (pVar 1)) lNil))) (sSeq (sDrop (oCall 2 m_Book_need_room (lLC 0 "Book" "need_room" (lD (vP (pVar 1)) lNil)))) (sSeq (sDrop (oCall 2 m_Book_remember (lLC 0 "Book" "remember" (lD (vO (oTup (aCons (vP (pC (.str "tell"))) (aCons (vP (pVar 1)) aNil)))) lNil)))) (sSeq (sDrop (oV (vMutP (.f 0 "Book" "kept") fApp (paCons (pR (rTup (paCons (pVar 1) (paCons (pC (.bool true)) paNil)))) paNil)))) (sRet (oR (rCa fLen (waCons (wP (.f 0 "Book" "kept")) waNil)))))))) g
def m_Book_tell : List OD → FOut := fnM [true, true] 0 (sSeq (sIf (tV (vP (pR (rOp fEq (pR (rOp fIx (pVar 1) (pC (.int 0)))) (pC (.str "driven")))))) (sDrop (oCall 2 m_Book_need_beast (lLC 0 "Book" "need_beast" (lD (vP (pR (rOp fIx (pVar 1) (pC (.int 1))))) lNil)))) sNx) r_Book_tell_1)
def m_Book_need_number : List OD → FOut := fnM [true, true] 0 (sIf (tNotM (tV (vO (vChain fLe fLe (vP (pC (.int 1))) (vP (pVar 1)) (vP (pR (rCa fLen (waCons (wP (.f 0 "Book" "kept")) waNil)))))))) (sErr ⟨"NoFact", []⟩) sNx)
def r_Book_strike_1 (g : Gm) : SOut := (sSeq (sDrop (oCall 2 m_Book_remember (lLC 0 "Book" "remember" (lD (vO (oTup (aCons (vP (pC (.str "strike"))) (aCons (vP (pVar 1)) aNil)))) lNil)))) (sSetP (.f 0 "Book" "kept") (pR (rOp fSub (pVar 1) (pC (.int 1)))) (vO (oTup (aCons (vP (pR (rOp fIx (pR (rOp fIx (wP (.f 0 "Book" "kept")) (pR (rOp fSub (pVar 1) (pC (.int 1)))))) (pC (.int 0))))) (aCons (vP (pC (.bool false))) aNil)))))) g
def m_Book_strike : List OD → FOut := fnM [true, true] 0 (sSeq (sDrop (oCall 2 m_Book_need_number (lLC 0 "Book" "need_number" (lD (vP (pVar 1)) lNil)))) (sSeq (sIf (tNotM (tV (vP (pR (rOp fIx (pR (rOp fIx (wP (.f 0 "Book" "kept")) (pR (rOp fSub (pVar 1) (pC (.int 1)))))) (pC (.int 1))))))) (sErr ⟨"Struck", []⟩) sNx) r_Book_strike_1))
def r_Book_keep_1 (g : Gm) : SOut := (sSeq (sDrop (oCall 2 m_Book_remember (lLC 0 "Book" "remember" (lD (vO (oTup (aCons (vP (pC (.str "keep"))) (aCons (vP (pVar 1)) aNil)))) lNil)))) (sSetP (.f 0 "Book" "kept") (pR (rOp fSub (pVar 1) (pC (.int 1)))) (vO (oTup (aCons (vP (pR (rOp fIx (pR (rOp fIx (wP (.f 0 "Book" "kept")) (pR (rOp fSub (pVar 1) (pC (.int 1)))))) (pC (.int 0))))) (aCons (vP (pC (.bool true))) aNil)))))) g
def m_Book_keep : List OD → FOut := fnM [true, true] 0 (sSeq (sDrop (oCall 2 m_Book_need_number (lLC 0 "Book" "need_number" (lD (vP (pVar 1)) lNil)))) (sSeq (sIf (tV (vP (pR (rOp fIx (pR (rOp fIx (wP (.f 0 "Book" "kept")) (pR (rOp fSub (pVar 1) (pC (.int 1)))))) (pC (.int 1)))))) (sErr ⟨"Kept", []⟩) sNx) r_Book_keep_1))
def r_Book_undo_1 (g : Gm) : SOut := (sSeq (sUnp (gT 2 (gsCons (gN 1) (gsCons (gN 2) gsNil))) (vMutP (.f 0 "Book" "past_rows") fPop paNil)) (sSeq (sDrop (oV (vMutP (.f 0 "Book" "future_rows") fApp (paCons (pR (rTup (paCons (pVar 1) (paCons (pR (rCa fList (waCons (wP (.f 0 "Book" "kept")) waNil))) paNil)))) paNil)))) (sSeq (sFldP 0 "Book" "kept" (oR (rCa fList (waCons (pVar 2) waNil)))) (sRet (oV (vP (pVar 1))))))) g
def m_Book_undo : List OD → FOut := fnM [true] 2 (sSeq (sIf (tV (vP (pR (rOp fEq (wP (.f 0 "Book" "past_rows")) (fun _ => .ok (.list [])))))) (sErr ⟨"NoBack", []⟩) sNx) r_Book_undo_1)
def r_Book_redo_1 (g : Gm) : SOut := (sSeq (sUnp (gT 2 (gsCons (gN 1) (gsCons (gN 2) gsNil))) (vMutP (.f 0 "Book" "future_rows") fPop paNil)) (sSeq (sDrop (oV (vMutP (.f 0 "Book" "past_rows") fApp (paCons (pR (rTup (paCons (pVar 1) (paCons (pR (rCa fList (waCons (wP (.f 0 "Book" "kept")) waNil))) paNil)))) paNil)))) (sSeq (sFldP 0 "Book" "kept" (oR (rCa fList (waCons (pVar 2) waNil)))) (sRet (oV (vP (pVar 1))))))) g
def m_Book_redo : List OD → FOut := fnM [true] 2 (sSeq (sIf (tV (vP (pR (rOp fEq (wP (.f 0 "Book" "future_rows")) (fun _ => .ok (.list [])))))) (sErr ⟨"NoForth", []⟩) sNx) r_Book_redo_1)
def b_read_number_1 (g : Gm) : SOut := (sIf (tV (vP (pR (rOp fNotInS (pVar 1) (pC c_FIGURES))))) (sErrI "BadText" "at" (vP (pC (.int 0)))) sNx) g
def r_read_number_2 (g : Gm) : SOut := (sSeq (sIf (tAndM (tV (vP (pR (rOp fEq (pR (rOp fIx (pVar 0) (pC (.int 0)))) (pC (.str "0")))))) (tV (vP (pR (rOp fGt (pR (rCa fLen (waCons (pVar 0) waNil))) (pC (.int 1))))))) (sErrI "BadText" "at" (vP (pC (.int 0)))) sNx) (sRet (oR (rCa fIntS (waCons (pVar 0) waNil))))) g
def r_read_number_3 (g : Gm) : SOut := (sSeq (sFor sof [1] (gN 1) (vP (pVar 0)) b_read_number_1) r_read_number_2) g
def m_read_number : List OD → FOut := fnM [true] 1 (sSeq (sIf (tNotM (tV (vO (vChain fLe fLe (vP (pC (.int 1))) (vP (pR (rCa fLen (waCons (pVar 0) waNil)))) (vP (pC c_MOST_FIGURES)))))) (sErrI "BadText" "at" (vP (pC (.int 0)))) sNx) r_read_number_3)
def e_read_numbers_1 (g : Gm) : Out PyData := (vO (oCall 1 m_read_number (lD (vP (pVar 2)) lNil))) g
def m_read_numbers : List OD → FOut := fnM [true, true] 1 (sSeq (sIf (tV (vP (pR (rOp fNe (pR (rCa fLen (waCons (pVar 0) waNil))) (pVar 1))))) (sErrI "BadText" "at" (vP (pC (.int 0)))) sNx) (sRet (oCa fTuple (aCons (vO (oCompX lof [2] (gN 2) tYesM e_read_numbers_1 (vP (pVar 0)))) aNil))))
def m_read_custom : List OD → FOut := fnM [true] 0 (sSeq (sIf (tOrM (tV (vO (oOp fEq (vP (pVar 0)) (vO (oLst aNil))))) (tV (vTabNotIn k_CUSTOMS (vP (pR (rOp fIx (pVar 0) (pC (.int 0)))))))) (sErrI "BadText" "at" (vP (pC (.int 0)))) sNx) (sRet (oOp fAdd (vO (oTup (aCons (vP (pR (rOp fIx (pVar 0) (pC (.int 0))))) aNil))) (vO (oCall 2 m_read_numbers (lD (vO (oSl (vP (pVar 0)) (nSome (vP (pC (.int 1)))) nNone)) (lD (vO (oTabIx t_CUSTOMS (vP (pR (rOp fIx (pVar 0) (pC (.int 0))))))) lNil)))))))
def r_read_fact_1 (g : Gm) : SOut := (sSeq (sAsg 2 (oV (vO (oCall 2 m_read_numbers (lD (vO (oSl (vP (pVar 1)) (nSome (vP (pC (.int 1)))) nNone)) (lD (vO (oTabIx t_FORMS (vP (pR (rOp fIx (pVar 1) (pC (.int 0))))))) lNil)))))) (sSeq (sIf (tV (vP (pR (rOp fEq (pR (rOp fIx (pVar 1) (pC (.int 0)))) (pC (.str "takers")))))) (sAsg 2 (oV (vO (oOp fAdd (vO (oSl (vP (pVar 2)) nNone (nSome (vP (pC (.int 4)))))) (vO (oTup (aCons (vO (oSl (vP (pVar 2)) (nSome (vP (pC (.int 4)))) (nSome (vP (pC (.int 6)))))) (aCons (vP (pR (rOp fIx (pVar 2) (pC (.int 6))))) aNil)))))))) sNx) (sRet (oOp fAdd (vO (oTup (aCons (vP (pR (rOp fIx (pVar 1) (pC (.int 0))))) aNil))) (vP (pVar 2)))))) g
def r_read_fact_2 (g : Gm) : SOut := (sSeq (sIf (tV (vTabNotIn k_FORMS (vP (pR (rOp fIx (pVar 1) (pC (.int 0))))))) (sErrI "BadText" "at" (vP (pC (.int 0)))) sNx) r_read_fact_1) g
def m_read_fact : List OD → FOut := fnM [true] 2 (sSeq (sAsg 1 (oV (vO (oSplit (vP (pVar 0)) (vP (pC (.str " "))))))) (sSeq (sIf (tV (vP (pR (rOp fEq (pR (rOp fIx (pVar 1) (pC (.int 0)))) (pC (.str "custom")))))) (sRet (oOp fAdd (vO (oOp fAdd (vO (oTup (aCons (vP (pC (.str "custom"))) aNil))) (vO (oCall 2 m_read_numbers (lD (vO (oSl (vP (pVar 1)) (nSome (vP (pC (.int 1)))) (nSome (vP (pC (.int 4)))))) (lD (vP (pC (.int 3))) lNil)))))) (vO (oTup (aCons (vO (oCall 1 m_read_custom (lD (vO (oSl (vP (pVar 1)) (nSome (vP (pC (.int 4)))) nNone)) lNil))) aNil))))) sNx) r_read_fact_2))
def m_read_deed : List OD → FOut := fnM [true] 1 (sSeq (sAsg 1 (oV (vO (oSplit (vP (pVar 0)) (vP (pC (.str " "))))))) (sSeq (sIf (tV (vO (oOp fInT (vP (pR (rOp fIx (pVar 1) (pC (.int 0))))) (vO (oTup (aCons (vP (pC (.str "strike"))) (aCons (vP (pC (.str "keep"))) aNil))))))) (sRet (oOp fAdd (vO (oTup (aCons (vP (pR (rOp fIx (pVar 1) (pC (.int 0))))) aNil))) (vO (oCall 2 m_read_numbers (lD (vO (oSl (vP (pVar 1)) (nSome (vP (pC (.int 1)))) nNone)) (lD (vP (pC (.int 1))) lNil)))))) sNx) (sRet (oTup (aCons (vP (pC (.str "tell"))) (aCons (vO (oCall 1 m_read_fact (lD (vP (pVar 0)) lNil))) aNil))))))
def m__law_facts_wrong : List OD → FOut := fnM [true, true] 1 (sSeq (sAsg 2 (oV (vO (oLst (aCons (vO (oTup (aCons (vP (pC (.str "word"))) (aCons (vP (pC (.int 1))) aNil)))) (aCons (vO (oTup (aCons (vP (pC (.str "lies"))) (aCons (vP (pR (rOp fAdd (pC (.int 13)) (pVar 1)))) (aCons (vP (pC (.int 1))) (aCons (vP (pC (.int 1))) aNil)))))) (aCons (vO (oTup (aCons (vP (pC (.str "lies"))) (aCons (vP (pC (.int 1))) (aCons (vP (pR (rOp fAdd (pC (.int 9)) (pVar 1)))) (aCons (vP (pC (.int 1))) aNil)))))) (aCons (vO (oTup (aCons (vP (pC (.str "held"))) (aCons (vP (pC (.int 1))) (aCons (vP (pR (rOp fAdd (pC (.int 9)) (pVar 1)))) (aCons (vP (pC (.int 1))) aNil)))))) aNil)))))))) (sSeq (sAsg 2 (oV (vO (oOp fAdd (vP (pVar 2)) (vO (oLst (aCons (vO (oTup (aCons (vP (pC (.str "cut"))) (aCons (vP (pC (.int 1))) (aCons (vP (pR (rOp fAdd (pC (.int 7)) (pVar 1)))) (aCons (vP (pC (.int 1))) (aCons (vP (pC (.int 1))) aNil))))))) (aCons (vO (oTup (aCons (vP (pC (.str "takers"))) (aCons (vP (pC (.int 1))) (aCons (vP (pC (.int 1))) (aCons (vP (pC (.int 1))) (aCons (vP (pR (rOp fAdd (pC (.int 7)) (pVar 1)))) (aCons (vO (oTup (aCons (vP (pC (.int 1))) (aCons (vP (pC (.int 2))) aNil)))) (aCons (vP (pC (.int 1))) aNil))))))))) (aCons (vO (oTup (aCons (vP (pC (.str "lies"))) (aCons (vP (pC (.int 1))) (aCons (vP (pC (.int 1))) (aCons (vP (pR (rOp fAdd (pC (.int 4000)) (pVar 1)))) aNil)))))) aNil))))))))) (sSeq (sAsg 2 (oV (vO (oOp fAdd (vP (pVar 2)) (vO (oLst (aCons (vO (oTup (aCons (vP (pC (.str "custom"))) (aCons (vP (pC (.int 1))) (aCons (vP (pC (.int 1))) (aCons (vP (pR (rOp fAdd (pC (.int 40)) (pVar 1)))) (aCons (vO (oTup (aCons (vP (pC (.str "none"))) aNil))) aNil))))))) (aCons (vO (oTup (aCons (vP (pC (.str "cut"))) (aCons (vP (pC (.int 1))) (aCons (vP (pC (.int 1))) (aCons (vP (pC (.int 1))) (aCons (vP (pR (rOp fAdd (pC (.int 10001)) (pVar 1)))) aNil))))))) (aCons (vO (oTup (aCons (vP (pC (.str "born"))) (aCons (vP (pC (.int 1))) (aCons (vP (pC (.int 1))) (aCons (vP (pC (.int 1))) (aCons (vP (pR (rOp fAdd (pC (.int 61)) (pVar 1)))) (aCons (vP (pC (.int 1))) aNil)))))))) aNil))))))))) (sSeq (sAsg 2 (oV (vO (oOp fAdd (vP (pVar 2)) (vO (oLst (aCons (vO (oTup (aCons (vP (pC (.str "born"))) (aCons (vP (pC (.int 1))) (aCons (vP (pC (.int 1))) (aCons (vP (pC (.int 1))) (aCons (vP (pC (.int 1))) (aCons (vP (pR (rOp fAdd (pC (.int 1001)) (pVar 1)))) aNil)))))))) (aCons (vO (oTup (aCons (vP (pC (.str "custom"))) (aCons (vP (pC (.int 1))) (aCons (vP (pC (.int 1))) (aCons (vP (pC (.int 1))) (aCons (vO (oTup (aCons (vP (pC (.str "kinds"))) (aCons (vP (pC (.int 1))) aNil)))) aNil))))))) aNil)))))))) (sSeq (sAsg 2 (oV (vO (oOp fAdd (vP (pVar 2)) (vO (oLst (aCons (vO (oTup (aCons (vP (pC (.str "custom"))) (aCons (vP (pC (.int 1))) (aCons (vP (pC (.int 1))) (aCons (vP (pC (.int 1))) (aCons (vO (oTup (aCons (vP (pC (.str "kind"))) (aCons (vP (pR (rOp fAdd (pC (.int 10)) (pVar 1)))) aNil)))) aNil))))))) (aCons (vO (oTup (aCons (vP (pC (.str "custom"))) (aCons (vP (pC (.int 1))) (aCons (vP (pC (.int 1))) (aCons (vP (pC (.int 1))) (aCons (vO (oTup (aCons (vP (pC (.str "fixed"))) (aCons (vP (pR (rOp fAdd (pC (.int 1001)) (pVar 1)))) aNil)))) aNil))))))) aNil)))))))) (sSeq (sAsg 2 (oV (vO (oOp fAdd (vP (pVar 2)) (vO (oLst (aCons (vO (oTup (aCons (vP (pC (.str "takers"))) (aCons (vP (pC (.int 1))) (aCons (vP (pC (.int 1))) (aCons (vP (pC (.int 1))) (aCons (vP (pC (.int 1))) (aCons (vO (oTup (aCons (vP (pC (.int 2))) (aCons (vP (pC (.int 4))) aNil)))) (aCons (vP (pC (.int 2))) aNil))))))))) (aCons (vO (oTup (aCons (vP (pC (.str "free"))) (aCons (vP (pC (.int 1))) (aCons (vP (pR (rOp fAdd (pC (.int 5)) (pR (rOp fMod (pVar 1) (pC (.int 3000))))))) (aCons (vP (pC (.int 4))) aNil)))))) (aCons (vO (oTup (aCons (vP (pC (.str "pass"))) (aCons (vP (pC (.int 1))) (aCons (vP (pC (.int 1))) (aCons (vP (pC (.int 1))) aNil)))))) aNil))))))))) (sRet (oR (rOp fIx (pVar 2) (pVar 0))))))))))
def b__law_raise_1 (g : Gm) : SOut := (sDrop (oCall 2 m_Book_tell (lLC 2 "Book" "tell" (lD (vO (oTup (aCons (vP (pC (.str "claim"))) (aCons (vP (pC (.int 1))) (aCons (vP (pC (.int 1))) aNil))))) lNil)))) g
def b__law_raise_2 (g : Gm) : SOut := (sDrop (oCall 1 m_Book_undo (lLC 2 "Book" "undo" lNil))) g
def r__law_raise_3 (g : Gm) : SOut := (sSeq (sIf (tV (vP (pR (rOp fEq (pVar 0) (pC (.int 23)))))) (sDrop (oCall 1 m_Book_redo (lLC 2 "Book" "redo" lNil))) sNx) (sIf (tV (vP (pR (rOp fEq (pVar 0) (pC (.int 24)))))) (sDrop (oCall 1 m_read_deed (lD (vP (pC (.str "cut"))) lNil))) sNx)) g
def r__law_raise_4 (g : Gm) : SOut := (sSeq (sIf (tV (vP (pR (rOp fEq (pVar 0) (pC (.int 22)))))) (sForR [3] (gN 3) (aCons (vP (pC (.int 3))) aNil) b__law_raise_2) sNx) r__law_raise_3) g
def r__law_raise_5 (g : Gm) : SOut := (sSeq (sIf (tV (vP (pR (rOp fEq (pVar 0) (pC (.int 21)))))) (sForR [3] (gN 3) (aCons (vP (pC (.int 6))) aNil) b__law_raise_1) sNx) r__law_raise_4) g
def r__law_raise_6 (g : Gm) : SOut := (sSeq (sIf (tV (vP (pR (rOp fEq (pVar 0) (pC (.int 20)))))) (sSeq (sDrop (oCall 2 m_Book_keep (lLC 2 "Book" "keep" (lD (vP (pC (.int 1))) lNil)))) (sDrop (oCall 2 m_Book_keep (lLC 2 "Book" "keep" (lD (vP (pC (.int 1))) lNil))))) sNx) r__law_raise_5) g
def r__law_raise_7 (g : Gm) : SOut := (sSeq (sIf (tV (vP (pR (rOp fEq (pVar 0) (pC (.int 19)))))) (sDrop (oCall 2 m_Book_strike (lLC 2 "Book" "strike" (lD (vP (pC (.int 1))) lNil)))) sNx) r__law_raise_6) g
def r__law_raise_8 (g : Gm) : SOut := (sSeq (sIf (tV (vO (oOp fInTI (vP (pVar 0)) (vO (oTup (aCons (vP (pC (.int 19))) (aCons (vP (pC (.int 20))) aNil))))))) (sDrop (oCall 2 m_Book_strike (lLC 2 "Book" "strike" (lD (vP (pC (.int 1))) lNil)))) sNx) r__law_raise_7) g
def r__law_raise_9 (g : Gm) : SOut := (sSeq (sIf (tV (vP (pR (rOp fEq (pVar 0) (pC (.int 18)))))) (sDrop (oCall 2 m_Book_strike (lLC 2 "Book" "strike" (lD (vP (pR (rOp fAdd (pC (.int 3)) (pVar 1)))) lNil)))) sNx) r__law_raise_8) g
def r__law_raise_10 (g : Gm) : SOut := (sSeq (sIf (tV (vP (pR (rOp fEq (pVar 0) (pC (.int 17)))))) (sDrop (oCall 2 m_Book_tell (lLC 2 "Book" "tell" (lD (vO (oTup (aCons (vP (pC (.str "driven"))) (aCons (vP (pR (rOp fAdd (pC (.int 1)) (pVar 1)))) (aCons (vP (pC (.int 1))) (aCons (vP (pC (.int 1))) aNil)))))) lNil)))) sNx) r__law_raise_9) g
def m__law_raise : List OD → FOut := fnM [true, true] 2 (sSeq (sAsg 2 (oNew "Book" m_Book___init__)) (sSeq (sDrop (oCall 2 m_Book_tell (lLC 2 "Book" "tell" (lD (vO (oTup (aCons (vP (pC (.str "claim"))) (aCons (vP (pC (.int 1))) (aCons (vP (pC (.int 1))) aNil))))) lNil)))) (sSeq (sDrop (oCall 2 m_Book_tell (lLC 2 "Book" "tell" (lD (vO (oTup (aCons (vP (pC (.str "free"))) (aCons (vP (pC (.int 1))) (aCons (vP (pC (.int 1))) (aCons (vP (pC (.int 2))) aNil)))))) lNil)))) (sSeq (sIf (tV (vP (pR (rOp fLt (pVar 0) (pC (.int 17)))))) (sDrop (oCall 1 m_need_fact (lD (vO (oCall 2 m__law_facts_wrong (lD (vP (pVar 0)) (lD (vP (pVar 1)) lNil)))) lNil))) sNx) r__law_raise_10))))
def m__law_row (e : Er) : Option OD := hotM 1 (sSeq (sAsg 1 (oV (vO (oLst (aCons (vIsE 0 xl_BadWord e) (aCons (vIsE 0 xl_BadField e) (aCons (vIsE 0 xl_BadParish e) (aCons (vIsE 0 xl_BadHolder e) aNil)))))))) (sSeq (sAsg 1 (oV (vO (oOp fAdd (vP (pVar 1)) (vO (oLst (aCons (vIsE 0 xl_BadKind e) (aCons (vIsE 0 xl_BadTaker e) (aCons (vIsE 0 xl_BadDay e) (aCons (vIsE 0 xl_BadYear e) aNil)))))))))) (sSeq (sAsg 1 (oV (vO (oOp fAdd (vP (pVar 1)) (vO (oLst (aCons (vIsE 0 xl_BadCount e) (aCons (vIsE 0 xl_BadSpan e) (aCons (vIsE 0 xl_BadWorth e) aNil))))))))) (sSeq (sAsg 1 (oV (vO (oOp fAdd (vP (pVar 1)) (vO (oLst (aCons (vIsE 0 xl_BadCustom e) (aCons (vIsE 0 xl_BadAside e) (aCons (vIsE 0 xl_BadPence e) aNil))))))))) (sSeq (sAsg 1 (oV (vO (oOp fAdd (vP (pVar 1)) (vO (oLst (aCons (vIsE 0 xl_BadPart e) (aCons (vIsE 0 xl_Backward e) (aCons (vIsE 0 xl_Same e) (aCons (vIsE 0 xl_NoBeast e) aNil)))))))))) (sSeq (sAsg 1 (oV (vO (oOp fAdd (vP (pVar 1)) (vO (oLst (aCons (vIsE 0 xl_NoFact e) (aCons (vIsE 0 xl_Struck e) (aCons (vIsE 0 xl_Kept e) (aCons (vIsE 0 xl_Full e) aNil)))))))))) (sSeq (sAsg 1 (oV (vO (oOp fAdd (vP (pVar 1)) (vO (oLst (aCons (vIsE 0 xl_NoBack e) (aCons (vIsE 0 xl_NoForth e) (aCons (vIsE 0 xl_BadText e) aNil))))))))) (sRet (oOp fAdd (vP (pVar 1)) (vO (oLst (aCons (vIsE 0 xl_ValueError e) aNil))))))))))))
def h_law_1 (e : Er) (g : Gm) : SOut := (sAsg 4 (oV (vO (oHot 5 m__law_row e)))) g
def e_law_2 (g : Gm) : Out PyData := (vOr (vP (pR (rOp fEq (pVar 6) (pVar 3)))) (vP (pR (rOp fEq (pVar 6) (pC (.int 25)))))) g
def b_law_3 (g : Gm) : SOut := (sSeq (sAsg 4 (oV (vO (oLst aNil)))) (sSeq (sTry (sDrop (oCall 2 m__law_raise (lD (vP (pVar 3)) (lD (vP (pVar 2)) lNil)))) [(clsF xl_TitheError, fun e g => asE 5 ((h_law_1 e) (st g 5 .xc)))]) (sIf (tV (vO (oOp fNe (vP (pVar 4)) (vO (oCompR [6] (gN 6) tYesM e_law_2 (aCons (vP (pC (.int 26))) aNil)))))) (sRet (oV (vP (pC (.bool false))))) sNx))) g
def r_law_4 (g : Gm) : SOut := cIf True ((sSeq (sAsg 2 (oV (vO (oCall 2 m__law_pull (lL 1 (lD (vO (oOp fIx (vO (oLst (aCons (vP (pC (.int 1))) (aCons (vP (pR (rOp fPow (pC (.int 10)) (pC (.int 9))))) aNil)))) (vO (oCall 2 m__law_pull (lL 1 (lD (vP (pC (.int 2))) lNil)))))) lNil)))))) (sSeq (sForR [3, 4] (gN 3) (aCons (vP (pC (.int 25))) aNil) b_law_3) (sRet (oV (vP (pC (.bool true))))))) g) .stk
def m_law : List OD → FOut := fnM [true] 6 (sSeq (sAsg 1 (oCall 1 m__law_bag (lL 0 lNil))) r_law_4)
end
end VL
namespace VL
open PySem L2
local macro_rules | `(tactic| simp! [$ls,*]) => `(tactic| simp only [fnM, cIf_true, cIf_false, ini, ini1, finA, sSeq, sbind_nx, sbind_rt, sbind_br, sbind_ct, sbind_err, sIf, sAsg, sRet, sRetN, sDrop, sPar, sSet, sUnp, sAug, sNx, sErr, sTry, caught, noE, oV, vP, vO, oR, pR, rP, up_ok, obind_ok, obind_err, oof_some, rbind_ok, rof_some, rOp, oOp, rCa, oCa, pVar_eq, pSl_v, pSl_pin, wVar_eq, wSl_v, wSl_vl, wSl_pin, wSl_pl, pC, gt, st, Sl.od, Sl.with, frz_dat, frz_lst, aNil, aCons, waNil, waCons, tV, tst_b, tAndM, tOrM, tNotM, vAnd, vOr, vNot, vIf, vIs, oTup, oLst, fAdd_i, fAdd_l, fAdd_t, fSub_i, fMul_i, fFdiv_i, fMod_i, fPow9, fPow18, fPow29, fLt_i, fLe_i, fGt_i, fGe_i, fEq_int, fNe_int, fEq_bool, fNe_bool, tYesM, cEnd, rst, fIsN_n, fNotN_n, isNone_n, isNone_i, isNone_b, isNone_s, isNone_l, isNone_t, fIx_l, fIx_t, fLen_l, fLen_t, fAbs_i, fMax2_i, fMin2_i, fInt_i, fInt_b, fList_l, fList_t, fTuple_l, fTuple_t, oi, ob, od_some, oCall, lNil, lD, lL, osOf, lends, putA, gN, gT, gL, gsNil, gsCons, kl, lp, sFor, lof, tof, vMut, vFrz, oMov, oSl, nNone, nSome, fSl, vChain, sFrz, frz1, fApp, is_int_int, is_int_bool, is_bool_bool, is_bool_int, is_tup_tup, is_tup_none, is_int_none, is_bool_none, is_int_tup, is_bool_tup, is_int_str, is_int_list, is_list_list, is_list_tup, is_tup_list, is_tup_int, is_str_str, is_str_int, is_str_none, atI_0, atI_1, atI_2, atI_3, atI_4, atI_5, atI_6, atI_7, ixN_1_0, ixN_2_0, ixN_2_1, ixN_3_0, ixN_3_1, ixN_3_2, ixN_4_0, ixN_4_1, ixN_4_2, ixN_4_3, ixN_5_0, ixN_5_1, ixN_5_2, ixN_5_3, ixN_5_4, ixN_6_0, ixN_6_1, ixN_6_2, ixN_6_3, ixN_6_4, ixN_6_5, ixN_7_0, ixN_7_1, ixN_7_2, ixN_7_3, ixN_7_4, ixN_7_5, ixN_7_6, Nat.reduceAdd, Nat.reduceLeDiff, Nat.reduceLT, Nat.reduceEqDiff, Int.reduceLT, Int.reduceLE, Int.reduceAdd, Int.reduceSub, Int.reduceNeg, Int.reduceEq, Int.cast_ofNat_Int, Nat.cast_zero_i, Nat.cast_one_i, List.length_cons, List.length_nil, List.zipWith, List.replicate, List.cons_append, List.nil_append, List.map_cons, List.map_nil, List.getElem?_cons_zero, List.getElem?_cons_succ, List.getElem?_nil, Option.map, Option.bind, Option.map_some, Option.bind_some, List.set_cons_zero, List.set_cons_succ, List.set_nil, if_true, if_false, ite_true, ite_false, decide_true, decide_false, decide_eq_true_eq, decide_eq_false_iff_not, Bool.false_eq_true, Bool.true_eq_false, Bool.not_true, Bool.not_false, Bool.and_true, Bool.true_and, Bool.and_false, Bool.false_and, Bool.or_true, Bool.or_false, Bool.not_eq_true', Bool.not_eq_true, Bool.decide_coe, and_self, and_true, true_and, and_false, false_and, not_true_eq_false, not_false_eq_true, reduceCtorEq, zl, List.nodup_nil_t, nodup_one, Bool.not_not, decide_not, sForR_ok, oCompR_ok, sForC_ok, oCompC_ok, oComp, asE, vIsE, oCallT, frzAll, scal, List.isEmpty_nil, vOrT, tru_n, tru_i, tru_b, tru_t, tru_l, List.isEmpty_cons, oCompW, rNeg, vDGetK, vDIxK, vDInK, vDNotInK, sDPutK, oDNewK, oSortDK, keyOf, oLR2, vTabIn, vTabNotIn, oTabIx, sLook, rTup, paNil, paCons, vMutP, sForE, oCompE, oCompX, cEndX, $ls,*])
local macro_rules | `(tactic| simp! only [$ls,*]) => `(tactic| simp only [fnM, cIf_true, cIf_false, ini, ini1, finA, sSeq, sbind_nx, sbind_rt, sbind_br, sbind_ct, sbind_err, sIf, sAsg, sRet, sRetN, sDrop, sPar, sSet, sUnp, sAug, sNx, sErr, sTry, caught, noE, oV, vP, vO, oR, pR, rP, up_ok, obind_ok, obind_err, oof_some, rbind_ok, rof_some, rOp, oOp, rCa, oCa, pVar_eq, pSl_v, pSl_pin, wVar_eq, wSl_v, wSl_vl, wSl_pin, wSl_pl, pC, gt, st, Sl.od, Sl.with, frz_dat, frz_lst, aNil, aCons, waNil, waCons, tV, tst_b, tAndM, tOrM, tNotM, vAnd, vOr, vNot, vIf, vIs, oTup, oLst, fAdd_i, fAdd_l, fAdd_t, fSub_i, fMul_i, fFdiv_i, fMod_i, fPow9, fPow18, fPow29, fLt_i, fLe_i, fGt_i, fGe_i, fEq_int, fNe_int, fEq_bool, fNe_bool, tYesM, cEnd, rst, fIsN_n, fNotN_n, isNone_n, isNone_i, isNone_b, isNone_s, isNone_l, isNone_t, fIx_l, fIx_t, fLen_l, fLen_t, fAbs_i, fMax2_i, fMin2_i, fInt_i, fInt_b, fList_l, fList_t, fTuple_l, fTuple_t, oi, ob, od_some, oCall, lNil, lD, lL, osOf, lends, putA, gN, gT, gL, gsNil, gsCons, kl, lp, sFor, sForR, lof, tof, vMut, vFrz, oMov, oSl, nNone, nSome, fSl, vChain, sFrz, frz1, fApp, is_int_int, is_int_bool, is_bool_bool, is_bool_int, is_tup_tup, is_tup_none, is_int_none, is_bool_none, is_int_tup, is_bool_tup, is_int_str, is_int_list, is_list_list, is_list_tup, is_tup_list, is_tup_int, is_str_str, is_str_int, is_str_none, atI_0, atI_1, atI_2, atI_3, atI_4, atI_5, atI_6, atI_7, ixN_1_0, ixN_2_0, ixN_2_1, ixN_3_0, ixN_3_1, ixN_3_2, ixN_4_0, ixN_4_1, ixN_4_2, ixN_4_3, ixN_5_0, ixN_5_1, ixN_5_2, ixN_5_3, ixN_5_4, ixN_6_0, ixN_6_1, ixN_6_2, ixN_6_3, ixN_6_4, ixN_6_5, ixN_7_0, ixN_7_1, ixN_7_2, ixN_7_3, ixN_7_4, ixN_7_5, ixN_7_6, Nat.reduceAdd, Nat.reduceLeDiff, Nat.reduceLT, Nat.reduceEqDiff, Int.reduceLT, Int.reduceLE, Int.reduceAdd, Int.reduceSub, Int.reduceNeg, Int.reduceEq, Int.cast_ofNat_Int, Nat.cast_zero_i, Nat.cast_one_i, List.length_cons, List.length_nil, List.zipWith, List.replicate, List.cons_append, List.nil_append, List.map_cons, List.map_nil, List.getElem?_cons_zero, List.getElem?_cons_succ, List.getElem?_nil, Option.map, Option.bind, Option.map_some, Option.bind_some, List.set_cons_zero, List.set_cons_succ, List.set_nil, if_true, if_false, ite_true, ite_false, decide_true, decide_false, decide_eq_true_eq, decide_eq_false_iff_not, Bool.false_eq_true, Bool.true_eq_false, Bool.not_true, Bool.not_false, Bool.and_true, Bool.true_and, Bool.and_false, Bool.false_and, Bool.or_true, Bool.or_false, Bool.not_eq_true', Bool.not_eq_true, Bool.decide_coe, and_self, and_true, true_and, and_false, false_and, not_true_eq_false, not_false_eq_true, reduceCtorEq, zl, List.nodup_nil_t, nodup_one, Bool.not_not, decide_not, $ls,*])
-- needs: 
def bagD (cells : List Int) (i s m : Int) : List PyData := [.list (cells.map PyData.int), .int i, .int s, .int m]
def BagOk (b : List PyData) : Prop := ∃ cells i s m, b = bagD cells i s m ∧ 0 ≤ i
theorem pull_ok {b : List PyData} (hb : BagOk b) {n : Int} (h0 : 0 < n) (h1 : n.natAbs.log2 < 9000) : ∃ r b', BagOk b' ∧ 0 ≤ r ∧ r < n ∧ m__law_pull [.lst b, .dat (.int n)] = .ok (.dat (.int r)) [.lst b', .dat (.int n)] := by
  obtain ⟨cells, i, s, m, rfl, hi⟩ := hb
  have hn : n ≠ 0 := by omega
  have m1 : ∀ x : Int, mulOk x 7919 = true := fun x => mul_small (by decide) (by decide)
  have m2 : ∀ x : Int, mulOk x 48271 = true := fun x => mul_small (by decide) (by decide)
  have m3 : ∀ x : Int, mulOk x 40692 = true := fun x => mul_small (by decide) (by decide)
  have m4 : ∀ x : Int, mulOk x 69621 = true := fun x => mul_small (by decide) (by decide)
  have m5 : ∀ x : Int, mulOk (x % 2147483647) (x % 2147483647) = true := fun x => mul_small (by omega) (by omega)
  have l7 : (7 : Int).natAbs.log2 < 9000 := by decide
  have e1 : i + 1 - 1 = i := by omega
  have ar : ∀ (ds : List PyData), (ds.length : Int) = ((ds.length : Nat) : Int) := fun _ => rfl
  by_cases hs : s < 2
  · by_cases hc : i + 1 ≤ (cells.length : Int)
    · have hlt : i.toNat < cells.length := by omega
      have eg : atI (cells.map PyData.int) i = some (.int cells[i.toNat]) := by
        have e := atI_nat (cells.map PyData.int) i.toNat
        rw [Int.toNat_of_nonneg hi] at e
        rw [e, List.getElem?_map, List.getElem?_eq_getElem hlt]
        rfl
      have hn1 : ¬ ((cells.length : Int) < i + 1) := by omega
      by_cases h18 : cells[i.toNat] < 1000000000000000000
      · refine ⟨?r1, bagD cells (i + 1) s m, ⟨cells, i + 1, s, m, rfl, by omega⟩, ?_, ?_, ?e1⟩
        case e1 =>
          simp! only [r__law_pull_1, r__law_pull_2, m__law_pull, bagD, hs, hc, e1, eg, m1, m2, m3, m4, m5, l7, h0, h18, hn1, List.length_map]
          rfl
        · exact Int.emod_nonneg _ hn
        · exact Int.emod_lt_of_pos _ h0
      · refine ⟨?r2, bagD cells (i + 1) ?s2 m, ⟨cells, i + 1, ?s2, m, rfl, by omega⟩, ?_, ?_, ?e2⟩
        case e2 =>
          simp! only [r__law_pull_1, r__law_pull_2, m__law_pull, bagD, hs, hc, e1, eg, m1, m2, m3, m4, m5, l7, h0, h1, h18, hn1, List.length_map]
          rfl
        · exact Int.emod_nonneg _ hn
        · exact Int.emod_lt_of_pos _ h0
    · have hn1 : (cells.length : Int) < i + 1 := by omega
      refine ⟨?r3, bagD cells (i + 1) s m, ⟨cells, i + 1, s, m, rfl, by omega⟩, ?_, ?_, ?e3⟩
      case e3 =>
        simp! only [r__law_pull_1, r__law_pull_2, m__law_pull, bagD, hs, hc, e1, m1, m2, m3, m4, m5, l7, h0, hn1, List.length_map]
        rfl
      · exact Int.emod_nonneg _ hn
      · exact Int.emod_lt_of_pos _ h0
  · refine ⟨?r4, bagD cells i ?s4 m, ⟨cells, i, ?s4, m, rfl, hi⟩, ?_, ?_, ?e4⟩
    case e4 =>
      simp! only [r__law_pull_1, r__law_pull_2, m__law_pull, bagD, hs, h0, h1, List.length_map]
      rfl
    · exact Int.emod_nonneg _ hn
    · exact Int.emod_lt_of_pos _ h0
-- needs: _law_pull
theorem for_bag : ∀ (l : List Int) (m : Int) (g0 g1 : Sl), ∃ m', forM [3] (gN 3) b__law_bag_1 (l.map PyData.int) [g0, g1, .v (.dat (.int m)), .no] = .nx [g0, g1, .v (.dat (.int m')), .no]
  | [], m, g0, g1 => ⟨m, rfl⟩
  | x :: l, m, g0, g1 => by
    obtain ⟨m', hm⟩ := for_bag l ((m * 1543 + x) % 2147483629) g0 g1
    refine ⟨m', ?_⟩
    have m1 : ∀ x : Int, mulOk x 1543 = true := fun x => mul_small (by decide) (by decide)
    rw [List.map_cons]
    unfold forM
    simp! only [b__law_bag_1, m1, hm]
theorem bag_ok (ns : List Int) : ∃ b, BagOk b ∧ m__law_bag [.scr ns] = .ok (.lst b) [.scr ns] := by
  obtain ⟨m', hm⟩ := for_bag (cutD ns none (some 63)) (17 + (cutD ns none (some 63)).length) (.pin (.scr ns)) (.v (.dat (.list ((cutD ns none (some 63)).map PyData.int))))
  refine ⟨bagD (cutD ns none (some 63)) 0 0 m', ⟨_, 0, 0, m', rfl, by decide⟩, ?_⟩
  have e : cutD (ns.map PyData.int) none (some 63) = (cutD ns none (some 63)).map PyData.int := cut_map _ _ _ _
  simp! only [m__law_bag, oSlS, e, hm, List.length_map, bagD]
/-- a part of at most n bits -/
structure Pt (n : Nat) (a b : Int) : Prop where
  a0 : 0 ≤ a
  b1 : 1 ≤ b
  an : a ≤ 2 ^ n
  bn : b ≤ 2 ^ n
  g : Int.gcd a b = 1
theorem sm_of {n : Nat} {a : Int} (h0 : 0 ≤ a) (h : a ≤ 2 ^ n) (hn : n ≤ 8000) : Sm a := by
  refine Sm.of (n := n) (by have := Int.natCast_nonneg (2 ^ n : Nat); omega) ?_ hn
  have e : ((2 ^ n : Nat) : Int) = 2 ^ n := by
    rw [Int.natCast_pow]
    rfl
  rw [e]
  exact h
theorem Pt.sa {n : Nat} {a b : Int} (h : Pt n a b) (hn : n ≤ 8000) : Sm a := sm_of h.a0 h.an hn
theorem Pt.sb {n : Nat} {a b : Int} (h : Pt n a b) (hn : n ≤ 8000) : Sm b := sm_of (by have := h.b1; omega) h.bn hn
abbrev pp (a b : Int) : PyData := .tuple [.int a, .int b]
theorem Pt.mul {n m : Nat} {a b c d : Int} (h : Pt n a b) (h' : Pt m c d) (hn : n ≤ 8000) (hm : m ≤ 8000) : mulOk a d = true ∧ mulOk c b = true ∧ mulOk b d = true ∧ mulOk a c = true := ⟨(h.sa hn).mul (h'.sb hm), (h'.sa hm).mul (h.sb hn), (h.sb hn).mul (h'.sb hm), (h.sa hn).mul (h'.sa hm)⟩
-- needs: 
theorem fEq_s {a b : Str} (r : Bool) (h : (SeqAt.shaped (.str a) && (SeqAt.shaped (.str b) && (PyData.eqv (.str a) (.str b) == r))) = true) : fEq (.str a) (.str b) = some (.dat (.bool r)) := by
  simp only [Bool.and_eq_true, beq_iff_eq] at h
  unfold fEq
  rw [if_pos ⟨h.1, h.2.1⟩, h.2.2]
  rfl
theorem fNe_s {a b : Str} (r : Bool) (h : (SeqAt.shaped (.str a) && (SeqAt.shaped (.str b) && (PyData.eqv (.str a) (.str b) == r))) = true) : fNe (.str a) (.str b) = some (.dat (.bool (!r))) := by
  simp only [Bool.and_eq_true, beq_iff_eq] at h
  unfold fNe
  rw [if_pos ⟨h.1, h.2.1⟩, h.2.2]
  rfl
theorem fw_lies : fEq (.str "lies") (.str "lies") = some (.dat (.bool true)) ∧ fEq (.str "lies") (.str "held") = some (.dat (.bool false)) ∧ fEq (.str "lies") (.str "free") = some (.dat (.bool false)) ∧ fEq (.str "lies") (.str "custom") = some (.dat (.bool false)) ∧ fEq (.str "lies") (.str "takers") = some (.dat (.bool false)) ∧ fEq (.str "lies") (.str "cut") = some (.dat (.bool false)) ∧ fEq (.str "lies") (.str "born") = some (.dat (.bool false)) ∧ fEq (.str "lies") (.str "driven") = some (.dat (.bool false)) ∧ fEq (.str "lies") (.str "pass") = some (.dat (.bool false)) ∧ fEq (.str "lies") (.str "render") = some (.dat (.bool false)) ∧ fEq (.str "lies") (.str "paid") = some (.dat (.bool false)) ∧ fEq (.str "lies") (.str "claim") = some (.dat (.bool false)) := ⟨fEq_s true (by decide +kernel), fEq_s false (by decide +kernel), fEq_s false (by decide +kernel), fEq_s false (by decide +kernel), fEq_s false (by decide +kernel), fEq_s false (by decide +kernel), fEq_s false (by decide +kernel), fEq_s false (by decide +kernel), fEq_s false (by decide +kernel), fEq_s false (by decide +kernel), fEq_s false (by decide +kernel), fEq_s false (by decide +kernel)⟩
theorem fw_held : fEq (.str "held") (.str "lies") = some (.dat (.bool false)) ∧ fEq (.str "held") (.str "held") = some (.dat (.bool true)) ∧ fEq (.str "held") (.str "free") = some (.dat (.bool false)) ∧ fEq (.str "held") (.str "custom") = some (.dat (.bool false)) ∧ fEq (.str "held") (.str "takers") = some (.dat (.bool false)) ∧ fEq (.str "held") (.str "cut") = some (.dat (.bool false)) ∧ fEq (.str "held") (.str "born") = some (.dat (.bool false)) ∧ fEq (.str "held") (.str "driven") = some (.dat (.bool false)) ∧ fEq (.str "held") (.str "pass") = some (.dat (.bool false)) ∧ fEq (.str "held") (.str "render") = some (.dat (.bool false)) ∧ fEq (.str "held") (.str "paid") = some (.dat (.bool false)) ∧ fEq (.str "held") (.str "claim") = some (.dat (.bool false)) := ⟨fEq_s false (by decide +kernel), fEq_s true (by decide +kernel), fEq_s false (by decide +kernel), fEq_s false (by decide +kernel), fEq_s false (by decide +kernel), fEq_s false (by decide +kernel), fEq_s false (by decide +kernel), fEq_s false (by decide +kernel), fEq_s false (by decide +kernel), fEq_s false (by decide +kernel), fEq_s false (by decide +kernel), fEq_s false (by decide +kernel)⟩
theorem fw_free : fEq (.str "free") (.str "lies") = some (.dat (.bool false)) ∧ fEq (.str "free") (.str "held") = some (.dat (.bool false)) ∧ fEq (.str "free") (.str "free") = some (.dat (.bool true)) ∧ fEq (.str "free") (.str "custom") = some (.dat (.bool false)) ∧ fEq (.str "free") (.str "takers") = some (.dat (.bool false)) ∧ fEq (.str "free") (.str "cut") = some (.dat (.bool false)) ∧ fEq (.str "free") (.str "born") = some (.dat (.bool false)) ∧ fEq (.str "free") (.str "driven") = some (.dat (.bool false)) ∧ fEq (.str "free") (.str "pass") = some (.dat (.bool false)) ∧ fEq (.str "free") (.str "render") = some (.dat (.bool false)) ∧ fEq (.str "free") (.str "paid") = some (.dat (.bool false)) ∧ fEq (.str "free") (.str "claim") = some (.dat (.bool false)) := ⟨fEq_s false (by decide +kernel), fEq_s false (by decide +kernel), fEq_s true (by decide +kernel), fEq_s false (by decide +kernel), fEq_s false (by decide +kernel), fEq_s false (by decide +kernel), fEq_s false (by decide +kernel), fEq_s false (by decide +kernel), fEq_s false (by decide +kernel), fEq_s false (by decide +kernel), fEq_s false (by decide +kernel), fEq_s false (by decide +kernel)⟩
theorem fw_custom : fEq (.str "custom") (.str "lies") = some (.dat (.bool false)) ∧ fEq (.str "custom") (.str "held") = some (.dat (.bool false)) ∧ fEq (.str "custom") (.str "free") = some (.dat (.bool false)) ∧ fEq (.str "custom") (.str "custom") = some (.dat (.bool true)) ∧ fEq (.str "custom") (.str "takers") = some (.dat (.bool false)) ∧ fEq (.str "custom") (.str "cut") = some (.dat (.bool false)) ∧ fEq (.str "custom") (.str "born") = some (.dat (.bool false)) ∧ fEq (.str "custom") (.str "driven") = some (.dat (.bool false)) ∧ fEq (.str "custom") (.str "pass") = some (.dat (.bool false)) ∧ fEq (.str "custom") (.str "render") = some (.dat (.bool false)) ∧ fEq (.str "custom") (.str "paid") = some (.dat (.bool false)) ∧ fEq (.str "custom") (.str "claim") = some (.dat (.bool false)) := ⟨fEq_s false (by decide +kernel), fEq_s false (by decide +kernel), fEq_s false (by decide +kernel), fEq_s true (by decide +kernel), fEq_s false (by decide +kernel), fEq_s false (by decide +kernel), fEq_s false (by decide +kernel), fEq_s false (by decide +kernel), fEq_s false (by decide +kernel), fEq_s false (by decide +kernel), fEq_s false (by decide +kernel), fEq_s false (by decide +kernel)⟩
theorem fw_takers : fEq (.str "takers") (.str "lies") = some (.dat (.bool false)) ∧ fEq (.str "takers") (.str "held") = some (.dat (.bool false)) ∧ fEq (.str "takers") (.str "free") = some (.dat (.bool false)) ∧ fEq (.str "takers") (.str "custom") = some (.dat (.bool false)) ∧ fEq (.str "takers") (.str "takers") = some (.dat (.bool true)) ∧ fEq (.str "takers") (.str "cut") = some (.dat (.bool false)) ∧ fEq (.str "takers") (.str "born") = some (.dat (.bool false)) ∧ fEq (.str "takers") (.str "driven") = some (.dat (.bool false)) ∧ fEq (.str "takers") (.str "pass") = some (.dat (.bool false)) ∧ fEq (.str "takers") (.str "render") = some (.dat (.bool false)) ∧ fEq (.str "takers") (.str "paid") = some (.dat (.bool false)) ∧ fEq (.str "takers") (.str "claim") = some (.dat (.bool false)) := ⟨fEq_s false (by decide +kernel), fEq_s false (by decide +kernel), fEq_s false (by decide +kernel), fEq_s false (by decide +kernel), fEq_s true (by decide +kernel), fEq_s false (by decide +kernel), fEq_s false (by decide +kernel), fEq_s false (by decide +kernel), fEq_s false (by decide +kernel), fEq_s false (by decide +kernel), fEq_s false (by decide +kernel), fEq_s false (by decide +kernel)⟩
theorem fw_cut : fEq (.str "cut") (.str "lies") = some (.dat (.bool false)) ∧ fEq (.str "cut") (.str "held") = some (.dat (.bool false)) ∧ fEq (.str "cut") (.str "free") = some (.dat (.bool false)) ∧ fEq (.str "cut") (.str "custom") = some (.dat (.bool false)) ∧ fEq (.str "cut") (.str "takers") = some (.dat (.bool false)) ∧ fEq (.str "cut") (.str "cut") = some (.dat (.bool true)) ∧ fEq (.str "cut") (.str "born") = some (.dat (.bool false)) ∧ fEq (.str "cut") (.str "driven") = some (.dat (.bool false)) ∧ fEq (.str "cut") (.str "pass") = some (.dat (.bool false)) ∧ fEq (.str "cut") (.str "render") = some (.dat (.bool false)) ∧ fEq (.str "cut") (.str "paid") = some (.dat (.bool false)) ∧ fEq (.str "cut") (.str "claim") = some (.dat (.bool false)) := ⟨fEq_s false (by decide +kernel), fEq_s false (by decide +kernel), fEq_s false (by decide +kernel), fEq_s false (by decide +kernel), fEq_s false (by decide +kernel), fEq_s true (by decide +kernel), fEq_s false (by decide +kernel), fEq_s false (by decide +kernel), fEq_s false (by decide +kernel), fEq_s false (by decide +kernel), fEq_s false (by decide +kernel), fEq_s false (by decide +kernel)⟩
theorem fw_born : fEq (.str "born") (.str "lies") = some (.dat (.bool false)) ∧ fEq (.str "born") (.str "held") = some (.dat (.bool false)) ∧ fEq (.str "born") (.str "free") = some (.dat (.bool false)) ∧ fEq (.str "born") (.str "custom") = some (.dat (.bool false)) ∧ fEq (.str "born") (.str "takers") = some (.dat (.bool false)) ∧ fEq (.str "born") (.str "cut") = some (.dat (.bool false)) ∧ fEq (.str "born") (.str "born") = some (.dat (.bool true)) ∧ fEq (.str "born") (.str "driven") = some (.dat (.bool false)) ∧ fEq (.str "born") (.str "pass") = some (.dat (.bool false)) ∧ fEq (.str "born") (.str "render") = some (.dat (.bool false)) ∧ fEq (.str "born") (.str "paid") = some (.dat (.bool false)) ∧ fEq (.str "born") (.str "claim") = some (.dat (.bool false)) := ⟨fEq_s false (by decide +kernel), fEq_s false (by decide +kernel), fEq_s false (by decide +kernel), fEq_s false (by decide +kernel), fEq_s false (by decide +kernel), fEq_s false (by decide +kernel), fEq_s true (by decide +kernel), fEq_s false (by decide +kernel), fEq_s false (by decide +kernel), fEq_s false (by decide +kernel), fEq_s false (by decide +kernel), fEq_s false (by decide +kernel)⟩
theorem fw_driven : fEq (.str "driven") (.str "lies") = some (.dat (.bool false)) ∧ fEq (.str "driven") (.str "held") = some (.dat (.bool false)) ∧ fEq (.str "driven") (.str "free") = some (.dat (.bool false)) ∧ fEq (.str "driven") (.str "custom") = some (.dat (.bool false)) ∧ fEq (.str "driven") (.str "takers") = some (.dat (.bool false)) ∧ fEq (.str "driven") (.str "cut") = some (.dat (.bool false)) ∧ fEq (.str "driven") (.str "born") = some (.dat (.bool false)) ∧ fEq (.str "driven") (.str "driven") = some (.dat (.bool true)) ∧ fEq (.str "driven") (.str "pass") = some (.dat (.bool false)) ∧ fEq (.str "driven") (.str "render") = some (.dat (.bool false)) ∧ fEq (.str "driven") (.str "paid") = some (.dat (.bool false)) ∧ fEq (.str "driven") (.str "claim") = some (.dat (.bool false)) := ⟨fEq_s false (by decide +kernel), fEq_s false (by decide +kernel), fEq_s false (by decide +kernel), fEq_s false (by decide +kernel), fEq_s false (by decide +kernel), fEq_s false (by decide +kernel), fEq_s false (by decide +kernel), fEq_s true (by decide +kernel), fEq_s false (by decide +kernel), fEq_s false (by decide +kernel), fEq_s false (by decide +kernel), fEq_s false (by decide +kernel)⟩
theorem fw_pass : fEq (.str "pass") (.str "lies") = some (.dat (.bool false)) ∧ fEq (.str "pass") (.str "held") = some (.dat (.bool false)) ∧ fEq (.str "pass") (.str "free") = some (.dat (.bool false)) ∧ fEq (.str "pass") (.str "custom") = some (.dat (.bool false)) ∧ fEq (.str "pass") (.str "takers") = some (.dat (.bool false)) ∧ fEq (.str "pass") (.str "cut") = some (.dat (.bool false)) ∧ fEq (.str "pass") (.str "born") = some (.dat (.bool false)) ∧ fEq (.str "pass") (.str "driven") = some (.dat (.bool false)) ∧ fEq (.str "pass") (.str "pass") = some (.dat (.bool true)) ∧ fEq (.str "pass") (.str "render") = some (.dat (.bool false)) ∧ fEq (.str "pass") (.str "paid") = some (.dat (.bool false)) ∧ fEq (.str "pass") (.str "claim") = some (.dat (.bool false)) := ⟨fEq_s false (by decide +kernel), fEq_s false (by decide +kernel), fEq_s false (by decide +kernel), fEq_s false (by decide +kernel), fEq_s false (by decide +kernel), fEq_s false (by decide +kernel), fEq_s false (by decide +kernel), fEq_s false (by decide +kernel), fEq_s true (by decide +kernel), fEq_s false (by decide +kernel), fEq_s false (by decide +kernel), fEq_s false (by decide +kernel)⟩
theorem fw_render : fEq (.str "render") (.str "lies") = some (.dat (.bool false)) ∧ fEq (.str "render") (.str "held") = some (.dat (.bool false)) ∧ fEq (.str "render") (.str "free") = some (.dat (.bool false)) ∧ fEq (.str "render") (.str "custom") = some (.dat (.bool false)) ∧ fEq (.str "render") (.str "takers") = some (.dat (.bool false)) ∧ fEq (.str "render") (.str "cut") = some (.dat (.bool false)) ∧ fEq (.str "render") (.str "born") = some (.dat (.bool false)) ∧ fEq (.str "render") (.str "driven") = some (.dat (.bool false)) ∧ fEq (.str "render") (.str "pass") = some (.dat (.bool false)) ∧ fEq (.str "render") (.str "render") = some (.dat (.bool true)) ∧ fEq (.str "render") (.str "paid") = some (.dat (.bool false)) ∧ fEq (.str "render") (.str "claim") = some (.dat (.bool false)) := ⟨fEq_s false (by decide +kernel), fEq_s false (by decide +kernel), fEq_s false (by decide +kernel), fEq_s false (by decide +kernel), fEq_s false (by decide +kernel), fEq_s false (by decide +kernel), fEq_s false (by decide +kernel), fEq_s false (by decide +kernel), fEq_s false (by decide +kernel), fEq_s true (by decide +kernel), fEq_s false (by decide +kernel), fEq_s false (by decide +kernel)⟩
theorem fw_paid : fEq (.str "paid") (.str "lies") = some (.dat (.bool false)) ∧ fEq (.str "paid") (.str "held") = some (.dat (.bool false)) ∧ fEq (.str "paid") (.str "free") = some (.dat (.bool false)) ∧ fEq (.str "paid") (.str "custom") = some (.dat (.bool false)) ∧ fEq (.str "paid") (.str "takers") = some (.dat (.bool false)) ∧ fEq (.str "paid") (.str "cut") = some (.dat (.bool false)) ∧ fEq (.str "paid") (.str "born") = some (.dat (.bool false)) ∧ fEq (.str "paid") (.str "driven") = some (.dat (.bool false)) ∧ fEq (.str "paid") (.str "pass") = some (.dat (.bool false)) ∧ fEq (.str "paid") (.str "render") = some (.dat (.bool false)) ∧ fEq (.str "paid") (.str "paid") = some (.dat (.bool true)) ∧ fEq (.str "paid") (.str "claim") = some (.dat (.bool false)) := ⟨fEq_s false (by decide +kernel), fEq_s false (by decide +kernel), fEq_s false (by decide +kernel), fEq_s false (by decide +kernel), fEq_s false (by decide +kernel), fEq_s false (by decide +kernel), fEq_s false (by decide +kernel), fEq_s false (by decide +kernel), fEq_s false (by decide +kernel), fEq_s false (by decide +kernel), fEq_s true (by decide +kernel), fEq_s false (by decide +kernel)⟩
theorem fw_claim : fEq (.str "claim") (.str "lies") = some (.dat (.bool false)) ∧ fEq (.str "claim") (.str "held") = some (.dat (.bool false)) ∧ fEq (.str "claim") (.str "free") = some (.dat (.bool false)) ∧ fEq (.str "claim") (.str "custom") = some (.dat (.bool false)) ∧ fEq (.str "claim") (.str "takers") = some (.dat (.bool false)) ∧ fEq (.str "claim") (.str "cut") = some (.dat (.bool false)) ∧ fEq (.str "claim") (.str "born") = some (.dat (.bool false)) ∧ fEq (.str "claim") (.str "driven") = some (.dat (.bool false)) ∧ fEq (.str "claim") (.str "pass") = some (.dat (.bool false)) ∧ fEq (.str "claim") (.str "render") = some (.dat (.bool false)) ∧ fEq (.str "claim") (.str "paid") = some (.dat (.bool false)) ∧ fEq (.str "claim") (.str "claim") = some (.dat (.bool true)) := ⟨fEq_s false (by decide +kernel), fEq_s false (by decide +kernel), fEq_s false (by decide +kernel), fEq_s false (by decide +kernel), fEq_s false (by decide +kernel), fEq_s false (by decide +kernel), fEq_s false (by decide +kernel), fEq_s false (by decide +kernel), fEq_s false (by decide +kernel), fEq_s false (by decide +kernel), fEq_s false (by decide +kernel), fEq_s true (by decide +kernel)⟩
theorem cw_kind : fEq (.str "kind") (.str "kind") = some (.dat (.bool true)) ∧ fEq (.str "kind") (.str "odd") = some (.dat (.bool false)) ∧ fEq (.str "kind") (.str "fixed") = some (.dat (.bool false)) ∧ fEq (.str "kind") (.str "none") = some (.dat (.bool false)) := ⟨fEq_s true (by decide +kernel), fEq_s false (by decide +kernel), fEq_s false (by decide +kernel), fEq_s false (by decide +kernel)⟩
theorem cw_odd : fEq (.str "odd") (.str "kind") = some (.dat (.bool false)) ∧ fEq (.str "odd") (.str "odd") = some (.dat (.bool true)) ∧ fEq (.str "odd") (.str "fixed") = some (.dat (.bool false)) ∧ fEq (.str "odd") (.str "none") = some (.dat (.bool false)) := ⟨fEq_s false (by decide +kernel), fEq_s true (by decide +kernel), fEq_s false (by decide +kernel), fEq_s false (by decide +kernel)⟩
theorem cw_fixed : fEq (.str "fixed") (.str "kind") = some (.dat (.bool false)) ∧ fEq (.str "fixed") (.str "odd") = some (.dat (.bool false)) ∧ fEq (.str "fixed") (.str "fixed") = some (.dat (.bool true)) ∧ fEq (.str "fixed") (.str "none") = some (.dat (.bool false)) := ⟨fEq_s false (by decide +kernel), fEq_s false (by decide +kernel), fEq_s true (by decide +kernel), fEq_s false (by decide +kernel)⟩
theorem cw_none : fEq (.str "none") (.str "kind") = some (.dat (.bool false)) ∧ fEq (.str "none") (.str "odd") = some (.dat (.bool false)) ∧ fEq (.str "none") (.str "fixed") = some (.dat (.bool false)) ∧ fEq (.str "none") (.str "none") = some (.dat (.bool true)) := ⟨fEq_s false (by decide +kernel), fEq_s false (by decide +kernel), fEq_s false (by decide +kernel), fEq_s true (by decide +kernel)⟩
/-! facts, by their kinds -/
inductive Cu where
  | kind (a : Int) | odd (a p : Int) | fixed (p : Int) | non
inductive Fc where
  | lies (f p d : Int) | held (f h d : Int) | free (f a b : Int) | custom (p k y : Int) (c : Cu) | takers (p k y u : Int) (q : Int × Int) (v : Int)
  | cut (f k d n : Int) | born (f k d s w : Int) | driven (b f d : Int) | pass (h i d : Int) | render (h p k d n : Int) | paid (h p k d n : Int) | claim (f p : Int)
def cuD : Cu → PyData
  | .kind a => .tuple [.str "kind", .int a]
  | .odd a p => .tuple [.str "odd", .int a, .int p]
  | .fixed p => .tuple [.str "fixed", .int p]
  | .non => .tuple [.str "none"]
def fcD : Fc → PyData
  | .lies f p d => .tuple [.str "lies", .int f, .int p, .int d]
  | .held f h d => .tuple [.str "held", .int f, .int h, .int d]
  | .free f a b => .tuple [.str "free", .int f, .int a, .int b]
  | .custom p k y c => .tuple [.str "custom", .int p, .int k, .int y, cuD c]
  | .takers p k y u q v => .tuple [.str "takers", .int p, .int k, .int y, .int u, .tuple [.int q.1, .int q.2], .int v]
  | .cut f k d n => .tuple [.str "cut", .int f, .int k, .int d, .int n]
  | .born f k d s w => .tuple [.str "born", .int f, .int k, .int d, .int s, .int w]
  | .driven b f d => .tuple [.str "driven", .int b, .int f, .int d]
  | .pass h i d => .tuple [.str "pass", .int h, .int i, .int d]
  | .render h p k d n => .tuple [.str "render", .int h, .int p, .int k, .int d, .int n]
  | .paid h p k d n => .tuple [.str "paid", .int h, .int p, .int k, .int d, .int n]
  | .claim f p => .tuple [.str "claim", .int f, .int p]
def inB (lo hi x : Int) : Prop := lo ≤ x ∧ x ≤ hi
def CuOk : Cu → Prop
  | .kind a => inB 0 9 a
  | .odd a p => inB 1 9 a ∧ inB 0 1000 p
  | .fixed p => inB 0 1000 p
  | .non => True
/-- what is good of a fact -/
def FcOk : Fc → Prop
  | .lies f p d => inB 1 12 f ∧ inB 1 8 p ∧ inB 0 3999 d
  | .held f h d => inB 1 12 f ∧ inB 0 8 h ∧ inB 0 3999 d
  | .free f a b => inB 1 12 f ∧ inB 0 3999 a ∧ inB 0 3999 b ∧ a ≤ b
  | .custom p k y c => inB 1 8 p ∧ inB 1 6 k ∧ inB 0 39 y ∧ CuOk c
  | .takers p k y u q v => inB 1 8 p ∧ inB 1 6 k ∧ inB 0 39 y ∧ inB 1 6 u ∧ inB 1 6 v ∧ u ≠ v ∧ 0 ≤ q.1 ∧ 1 ≤ q.2 ∧ q.1 ≤ q.2 ∧ q.2 ≤ 1000 ∧ Int.gcd q.1 q.2 = 1
  | .cut f k d n => inB 1 12 f ∧ inB 1 6 k ∧ inB 0 3999 d ∧ inB 1 10000 n
  | .born f k d s w => inB 1 12 f ∧ inB 1 6 k ∧ inB 0 3999 d ∧ inB 1 60 s ∧ d + s ≤ 3999 ∧ inB 0 1000 w
  | .driven b f d => inB 1 12 f ∧ inB 0 3999 d
  | .pass h i d => inB 1 8 h ∧ inB 1 8 i ∧ h ≠ i ∧ inB 0 3999 d
  | .render h p k d n => inB 1 8 h ∧ inB 1 8 p ∧ inB 1 6 k ∧ inB 0 3999 d ∧ inB 1 10000 n
  | .paid h p k d n => inB 1 8 h ∧ inB 1 8 p ∧ inB 1 6 k ∧ inB 0 3999 d ∧ inB 0 1000 n
  | .claim f p => inB 1 12 f ∧ inB 1 8 p
def isBorn : Fc → Bool
  | .born .. => true
  | _ => false
/-! they can be compared -/
theorem gd_tup {n : Nat} {ds : List PyData} (h : ds.length ≤ gz) (hd : ∀ d ∈ ds, Gd n d) : Gd (n + 1) (.tuple ds) := by
  simp only [Gd]
  exact ⟨h, hd⟩
theorem gd_lst {n : Nat} {ds : List PyData} (h : ds.length ≤ gz) (hd : ∀ d ∈ ds, Gd n d) : Gd (n + 1) (.list ds) := by
  simp only [Gd]
  exact ⟨h, hd⟩
theorem gd_s (n : Nat) {x : Str} (h : SeqAt.shaped (.str x) = true) : Gd n (.str x) := by cases n <;> exact h
theorem gd_cu (c : Cu) : Gd 1 (cuD c) := by
  cases c <;> refine gd_tup (by simp [gz]) fun d hd => ?_ <;> simp at hd
  · rcases hd with rfl | rfl
    · exact gd_s _ (by decide +kernel)
    · exact gd_int _ _
  · rcases hd with rfl | rfl | rfl
    · exact gd_s _ (by decide +kernel)
    · exact gd_int _ _
    · exact gd_int _ _
  · rcases hd with rfl | rfl
    · exact gd_s _ (by decide +kernel)
    · exact gd_int _ _
  · subst hd
    exact gd_s _ (by decide +kernel)
theorem gd_fc (x : Fc) : Gd 2 (fcD x) := by
  cases x <;> refine gd_tup (by simp [gz]) fun d hd => ?_ <;> simp at hd
  all_goals (rcases hd with rfl | hd; exact gd_s _ (by decide +kernel))
  all_goals first | subst hd | skip
  all_goals first | exact gd_int _ _ | skip
  all_goals (rcases hd with rfl | hd; exact gd_int _ _)
  all_goals first | (subst hd; exact gd_int _ _) | skip
  all_goals (rcases hd with rfl | hd; exact gd_int _ _)
  all_goals first | (subst hd; exact gd_int _ _) | skip
  all_goals first | (rcases hd with rfl | hd; exact gd_int _ _) | skip
  all_goals first | (subst hd; exact gd_int _ _) | (subst hd; exact gd_cu _) | skip
  all_goals (rcases hd with rfl | hd; exact gd_int _ _)
  all_goals first | (subst hd; exact gd_int _ _) | skip
  all_goals (rcases hd with rfl | rfl)
  · exact gd_pair 0 _ _
  · exact gd_int _ _
-- needs: g_facts x_at
def isClaim : Fc → Bool
  | .claim .. => true
  | _ => false
-- needs:
def okDay (d : Int) : Bool := decide (0 ≤ d) && decide (d ≤ 3999)
def okYear (d : Int) : Bool := decide (0 ≤ d) && decide (d ≤ 39)
theorem okDay_iff {d : Int} : okDay d = true ↔ 0 ≤ d ∧ d ≤ 3999 := by simp [okDay]
theorem okYear_iff {d : Int} : okYear d = true ↔ 0 ≤ d ∧ d ≤ 39 := by simp [okYear]
-- needs: x_days
theorem need_day_ok {d : Int} (h : okDay d = true) : m_need_day [.dat (.int d)] = .ok (.dat .none) [.dat (.int d)] := by
  obtain ⟨h0, h1⟩ := okDay_iff.mp h
  simp! only [m_need_day, c_LAST_DAY, h0, h1]
-- needs: in_forceg x_words x_facts days
def okField (f : Int) : Bool := decide (1 ≤ f) && decide (f ≤ 12)
theorem okField_iff {d : Int} : okField d = true ↔ 1 ≤ d ∧ d ≤ 12 := by simp [okField]
theorem need_field_ok {d : Int} (h : okField d = true) : m_need_field [.dat (.int d)] = .ok (.dat .none) [.dat (.int d)] := by
  obtain ⟨h0, h1⟩ := okField_iff.mp h
  simp! [m_need_field, c_FIELDS, h0, h1]
theorem stL_map : ∀ ys : List Str, stL (ys.map PyData.str) = some ys := fun ys => by
  induction ys with
  | nil => rfl
  | cons y ys ih =>
    rw [List.map_cons, stL, ih]
    rfl
theorem inT_s {a : Str} (xs : List Str) (r : Bool) (h : (xs.any fun z => z == a) = r) : fInT (.str a) (.tuple (xs.map PyData.str)) = some (.dat (.bool r)) := by
  unfold fInT
  simp only [stL_map]
  rw [h]
  rfl
theorem fn_born : fNe (.str "lies") (.str "born") = some (.dat (.bool true)) ∧ fNe (.str "held") (.str "born") = some (.dat (.bool true)) ∧ fNe (.str "free") (.str "born") = some (.dat (.bool true)) ∧ fNe (.str "custom") (.str "born") = some (.dat (.bool true)) ∧ fNe (.str "takers") (.str "born") = some (.dat (.bool true)) ∧ fNe (.str "cut") (.str "born") = some (.dat (.bool true)) ∧ fNe (.str "born") (.str "born") = some (.dat (.bool false)) ∧ fNe (.str "driven") (.str "born") = some (.dat (.bool true)) ∧ fNe (.str "pass") (.str "born") = some (.dat (.bool true)) ∧ fNe (.str "render") (.str "born") = some (.dat (.bool true)) ∧ fNe (.str "paid") (.str "born") = some (.dat (.bool true)) ∧ fNe (.str "claim") (.str "born") = some (.dat (.bool true)) := ⟨fNe_s false (by decide +kernel), fNe_s false (by decide +kernel), fNe_s false (by decide +kernel), fNe_s false (by decide +kernel), fNe_s false (by decide +kernel), fNe_s false (by decide +kernel), fNe_s true (by decide +kernel), fNe_s false (by decide +kernel), fNe_s false (by decide +kernel), fNe_s false (by decide +kernel), fNe_s false (by decide +kernel), fNe_s false (by decide +kernel)⟩
-- needs: 
def dv (a b : Int) : Int := if 0 < a then (Int.gcd a b : Int) else b
theorem dv_step {a b : Int} (h : 0 < a) : dv (b % a) a = dv a b := by
  unfold dv
  rw [if_pos h]
  have h0 := Int.emod_nonneg b (by omega : a ≠ 0)
  by_cases z : 0 < b % a
  · rw [if_pos z]
    congr 1
    rw [Int.emod_def, Int.gcd_sub_mul_left_left, Int.gcd_comm]
  · rw [if_neg z]
    have e : b % a = 0 := by omega
    have d : a ∣ b := Int.dvd_of_emod_eq_zero e
    rw [Int.gcd_eq_left_iff_dvd (by omega) |>.mpr d]
theorem whl_divisor : ∀ (n : Nat) (a b : Int), a.toNat < n → ∃ x, whl [] t_divisor_1 b_divisor_2 n [.v (.dat (.int a)), .v (.dat (.int b))] = .nx [.v (.dat (.int x)), .v (.dat (.int (dv a b)))]
  | 0, a, b, h => absurd h (Nat.not_lt_zero _)
  | n + 1, a, b, h => by
    by_cases ha : 0 < a
    · have h2 := Int.emod_lt_of_pos b ha
      have h3 := Int.emod_nonneg b (by omega : a ≠ 0)
      obtain ⟨x, hx⟩ := whl_divisor n (b % a) a (by omega)
      refine ⟨x, ?_⟩
      unfold whl
      simp! only [t_divisor_1, b_divisor_2, ha, hx, dv_step ha]
    · refine ⟨a, ?_⟩
      unfold whl
      simp! only [t_divisor_1, b_divisor_2, ha, dv]
theorem divisor_ok (a b : Int) : m_divisor [.dat (.int a), .dat (.int b)] = .ok (.dat (.int (dv a b))) [.dat (.int a), .dat (.int b)] := by
  obtain ⟨x, hx⟩ := whl_divisor (a.toNat + 2) a b (by omega)
  unfold m_divisor
  simp! only [sWhl, fuN, hx]
-- needs: divisor x_gcd0
theorem dv_pos {a b : Int} (ha : 0 ≤ a) (hb : 1 ≤ b) : dv a b = (Int.gcd a b : Int) := by
  unfold dv
  by_cases z : 0 < a
  · rw [if_pos z]
  · rw [if_neg z]
    have e : a = 0 := by omega
    subst e
    simp
    omega
-- needs: lowest
theorem is_part_ok (a b : Int) : m_is_part [.dat (.tuple [.int a, .int b])] = .ok (.dat (.bool (decide (0 ≤ a ∧ 1 ≤ b ∧ Int.gcd a b = 1)))) [.dat (.tuple [.int a, .int b])] := by
  unfold m_is_part
  by_cases ha : 0 ≤ a
  · by_cases hb : 1 ≤ b
    · have e : ((Int.gcd a b : Int) = 1) = (Int.gcd a b = 1) := by
        apply propext
        omega
      simp! only [ha, hb, divisor_ok, dv_pos ha hb, e]
    · simp! only [ha, hb]
  · simp! only [ha]
-- needs: x_parts
theorem below_ok {n m : Nat} {a b c d : Int} (h : Pt n a b) (h' : Pt m c d) (hn : n + m < 8000) : m_below [.dat (pp a b), .dat (pp c d)] = .ok (.dat (.bool (decide (a * d < c * b)))) [.dat (pp a b), .dat (pp c d)] := by
  obtain ⟨m1, m2, m3, m4⟩ := h.mul h' (by omega) (by omega)
  simp! only [m_below, m1, m2]
theorem forM_step {is : List Nat} {tg : Tg} {mb : Gm → SOut} {d : PyData} {l : List PyData} {g g1 g2 : Gm} (h1 : tg d g = some g1) (h2 : mb g1 = .nx g2) : forM is tg mb (d :: l) g = forM is tg mb l (kl is g2) := by
  rw [forM, h1]
  simp only [h2]
  rfl
theorem forM_err {is : List Nat} {tg : Tg} {mb : Gm → SOut} {d : PyData} {l : List PyData} {g g1 g2 : Gm} {e : Er} (h1 : tg d g = some g1) (h2 : mb g1 = .err e g2) : forM is tg mb (d :: l) g = .err e g2 := by
  rw [forM, h1]
  simp only [h2]
  rfl
-- needs: x_days
theorem need_year_ok {d : Int} (h : okYear d = true) : m_need_year [.dat (.int d)] = .ok (.dat .none) [.dat (.int d)] := by
  obtain ⟨h0, h1⟩ := okYear_iff.mp h
  simp! only [m_need_year, c_LAST_YEAR, h0, h1]
-- needs: in_forceg x_words x_facts x_loop need_year
def okParish (f : Int) : Bool := decide (1 ≤ f) && decide (f ≤ 8)
def okKind (f : Int) : Bool := decide (1 ≤ f) && decide (f ≤ 6)
theorem okParish_iff {d : Int} : okParish d = true ↔ 1 ≤ d ∧ d ≤ 8 := by simp [okParish]
theorem okKind_iff {d : Int} : okKind d = true ↔ 1 ≤ d ∧ d ≤ 6 := by simp [okKind]
theorem need_parish_ok {d : Int} (h : okParish d = true) : m_need_parish [.dat (.int d)] = .ok (.dat .none) [.dat (.int d)] := by
  obtain ⟨h0, h1⟩ := okParish_iff.mp h
  simp! [m_need_parish, c_PARISHES, h0, h1]
theorem need_kind_ok {d : Int} (h : okKind d = true) : m_need_kind [.dat (.int d)] = .ok (.dat .none) [.dat (.int d)] := by
  obtain ⟨h0, h1⟩ := okKind_iff.mp h
  simp! [m_need_kind, c_KINDS, h0, h1]
theorem need_holder_ok {h : Int} (hh : inB 1 8 h) : m_need_holder [.dat (.int h)] = .ok (.dat .none) [.dat (.int h)] := by
  obtain ⟨h0, h1⟩ := hh
  simp! [m_need_holder, c_HOLDERS, h0, h1]
/-! books -/
abbrev Kr := Fc × Bool
def krD (x : Kr) : PyData := .tuple [fcD x.1, .bool x.2]
def bkN : List Str := ["kept", "past_rows", "future_rows"]
def bkO (L P Q : List PyData) : OD := .nd (.ins "Book" bkN) [.lst L, .lst P, .lst Q]
def bzO (L P Q : List PyData) : OD := .fz (.ins "Book" bkN) [.dat (.list L), .dat (.list P), .dat (.list Q)]
theorem bk_ix : ixOf bkN "kept" = some 0 ∧ ixOf bkN "past_rows" = some 1 ∧ ixOf bkN "future_rows" = some 2 := by decide +kernel
theorem bk_new : ixOf ([] : List Str) "kept" = none ∧ ixOf ["kept"] "past_rows" = none ∧ ixOf ["kept", "past_rows"] "future_rows" = none := by decide +kernel
theorem frz_bk (L P Q : List PyData) : frzI (bkO L P Q) = some (bzO L P Q) := rfl
/-! places, whichever slot holds the book -/
def plX (o : Option OD) (c n : Str) : Option OD := match o with
  | some (.nd (.ins c' names) os) => if c' = c then (match ixOf names n with
    | some j => os[j]?
    | none => none) else none
  | _ => none
def putX (s : Sl) (o : OD) (n : Str) (i : Nat) (g : Gm) : Gm := match s.od with
  | some (.nd (.ins c' names) os) => match ixOf names n with
    | some j => st g i (s.with (.nd (.ins c' names) (os.set j o)))
    | none => g
  | _ => g
def lcX (o : Option OD) (c nm : Str) (a b : Out (List Ar)) : Out (List Ar) := match o with
  | some (.nd (.ins c' names) _) => if c' = c ∧ ixOf names nm = none then a else b
  | _ => b
def faX (o : Option OD) (c n : Str) : Res PyData := match o with
  | some (.fz (.ins c' names) os) => if c' = c then (match ixOf names n with
    | some j => match os[j]? with
      | some (.dat d) => .ok d
      | _ => .stk
    | none => .stk) else .stk
  | _ => .stk
theorem plOd_x (g : Gm) (i : Nat) (c n : Str) : plOd g (.f i c n) = plX (gt g i).od c n := rfl
theorem plPut_x (g : Gm) (o : OD) (i : Nat) (c n : Str) : plPut g o (.f i c n) = putX (gt g i) o n i g := rfl
theorem lLC_x (i : Nat) (c nm : Str) (r : Gm → Out (List Ar)) (g : Gm) : lLC i c nm r g = lcX (gt g i).od c nm (lL i r g) .stk := rfl
theorem vFa_x (i : Nat) (c n : Str) (g : Gm) : vFa i c n g = faX (gt g i).od c n := rfl
section
variable {L P Q L' P' Q' : List PyData} {i : Nat} {g : Gm} {a b : Out (List Ar)}
theorem pl_kept : plX (some (bkO L P Q)) "Book" "kept" = some (.lst L) := by
  simp only [plX, bkO, bk_ix.1, if_true, List.getElem?_cons_zero]
theorem pl_past : plX (some (bkO L P Q)) "Book" "past_rows" = some (.lst P) := by
  simp only [plX, bkO, bk_ix.2.1, if_true, List.getElem?_cons_zero, List.getElem?_cons_succ]
theorem pl_fut : plX (some (bkO L P Q)) "Book" "future_rows" = some (.lst Q) := by
  simp only [plX, bkO, bk_ix.2.2, if_true, List.getElem?_cons_zero, List.getElem?_cons_succ]
theorem put_kept : putX (.pin (bkO L P Q)) (.lst L') "kept" i g = st g i (.pin (bkO L' P Q)) := by
  simp only [putX, bkO, Sl.od, Sl.with, bk_ix.1, List.set_cons_zero]
theorem put_past : putX (.pin (bkO L P Q)) (.lst P') "past_rows" i g = st g i (.pin (bkO L P' Q)) := by
  simp only [putX, bkO, Sl.od, Sl.with, bk_ix.2.1, List.set_cons_zero, List.set_cons_succ]
theorem put_fut : putX (.pin (bkO L P Q)) (.lst Q') "future_rows" i g = st g i (.pin (bkO L P Q')) := by
  simp only [putX, bkO, Sl.od, Sl.with, bk_ix.2.2, List.set_cons_zero, List.set_cons_succ]
theorem fa_kept : faX (some (bzO L P Q)) "Book" "kept" = .ok (.list L) := by
  simp only [faX, bzO, bk_ix.1, if_true, List.getElem?_cons_zero]
theorem bk_lc {nm : Str} (h : ixOf bkN nm = none) : lcX (some (bkO L P Q)) "Book" nm a b = a := by
  simp only [lcX, bkO, h, and_self, if_true]
/-- self.at = e, as a function of what the slot holds -/
def fldX (s : Sl) (c n : Str) (o : OD) (i : Nat) (g : Gm) : SOut := match s.od with
  | some (.nd (.ins c' names) os) => if c' = c ∧ names.length < 900 then (match ixOf names n with
    | some j => .nx (st g i (s.with (.nd (.ins c names) (os.set j o))))
    | none => .nx (st g i (s.with (.nd (.ins c (names ++ [n])) (os ++ [o]))))) else .stk
  | _ => .stk
theorem sFldP_x (i : Nat) (c n : Str) (mo : Gm → Out OD) (g : Gm) : sFldP i c n mo g = (match mo g with
  | .ok o g1 => fldX (gt g1 i) c n o i g1
  | .err e g1 => .err e g1
  | .stk => .stk) := rfl
theorem fld_kept : fldX (.pin (bkO L P Q)) "Book" "kept" (.lst L') i g = .nx (st g i (.pin (bkO L' P Q))) := by
  simp only [fldX, bkO, Sl.od, Sl.with, bk_ix.1, List.set_cons_zero, bkN, List.length_cons, List.length_nil, true_and]
  rfl
theorem fld_fut : fldX (.pin (bkO L P Q)) "Book" "future_rows" (.lst Q') i g = .nx (st g i (.pin (bkO L P Q'))) := by
  simp only [fldX, bkO, Sl.od, Sl.with, bk_ix.2.2, List.set_cons_zero, List.set_cons_succ, bkN, List.length_cons, List.length_nil, true_and]
  rfl
theorem sRo_bk {ms : Gm → SOut} {t : Gm} : sRo 0 ms (.pin (bkO L P Q) :: t) = (match ms (.pin (bzO L P Q) :: t) with
  | .rt u g1 => match gt g1 0 with
    | .pin _ => if lfO u = true then .rt u (st (g1.map lfS) 0 (.pin (bkO L P Q))) else .stk
    | _ => .stk
  | _ => .stk) := by
  unfold sRo
  simp only [gt, frz_bk, st]
  all_goals rfl
end
theorem bkm_remember : ixOf bkN "remember" = none := by decide +kernel
theorem bkm_many_of : ixOf bkN "many_of" = none := by decide +kernel
theorem bkm_need_room : ixOf bkN "need_room" = none := by decide +kernel
theorem bkm_need_beast : ixOf bkN "need_beast" = none := by decide +kernel
theorem bkm_need_number : ixOf bkN "need_number" = none := by decide +kernel
theorem bkm_tell : ixOf bkN "tell" = none := by decide +kernel
theorem bkm_strike : ixOf bkN "strike" = none := by decide +kernel
theorem bkm_keep : ixOf bkN "keep" = none := by decide +kernel
theorem bkm_undo : ixOf bkN "undo" = none := by decide +kernel
theorem bkm_redo : ixOf bkN "redo" = none := by decide +kernel
theorem bkinit_ok : m_Book___init__ [.nd (.ins "Book" []) []] = .ok (.dat .none) [bkO [] [] []] := by
  obtain ⟨i1, i2, i3⟩ := bk_new
  simp! [m_Book___init__, sFldP, i1, i2, i3]
  rfl
/-! a fact may be told -/
def fcW : Fc → Str
  | .lies .. => "lies"
  | .held .. => "held"
  | .free .. => "free"
  | .custom .. => "custom"
  | .takers .. => "takers"
  | .cut .. => "cut"
  | .born .. => "born"
  | .driven .. => "driven"
  | .pass .. => "pass"
  | .render .. => "render"
  | .paid .. => "paid"
  | .claim .. => "claim"
theorem fc_w (x : Fc) : fIx (fcD x) (.int 0) = some (.dat (.str (fcW x))) := by
  cases x <;> rfl
theorem lk_ok (x : Fc) : k_LOOKS.contains (fcW x) = true := by
  cases x <;> kernel_rfl
noncomputable def lookF : Fc → (List OD → FOut)
  | .lies .. => m_need_lies
  | .held .. => m_need_held
  | .free .. => m_need_free
  | .custom .. => m_need_custom_fact
  | .takers .. => m_need_takers_fact
  | .cut .. => m_need_cut
  | .born .. => m_need_born
  | .driven .. => m_need_driven
  | .pass .. => m_need_pass
  | .render .. => m_need_laid
  | .paid .. => m_need_laid
  | .claim .. => m_need_claim
theorem lk_w (x : Fc) : f_LOOKS.lookup (fcW x) = some (lookF x) := by
  cases x <;> kernel_rfl
/-- need_fact is the word's own look -/
theorem need_fact_y {x : Fc} {o o1 : OD} (h : lookF x [.dat (fcD x)] = .ok o [o1]) : m_need_fact [.dat (fcD x)] = .ok (.dat .none) [.dat (fcD x)] := by
  have e1 := fc_w x
  have e2 := lk_ok x
  have e3 := lk_w x
  generalize lookF x = m at *
  generalize fcD x = d at *
  generalize fcW x = w at *
  simp! [m_need_fact, e1, e2, e3, h]
/-! the good ones -/
theorem need_cu_ok {c : Cu} (h : CuOk c) : m_need_custom [.dat (cuD c)] = .ok (.dat .none) [.dat (cuD c)] := by
  have t : ∀ w ∈ (["kind", "odd", "fixed", "none"] : List Str), fNotInT (.str w) (.tuple [.str "kind", .str "odd", .str "fixed", .str "none"]) = some (.dat (.bool false)) := fun w hw => by
    unfold fNotInT
    simp only [List.mem_cons, List.not_mem_nil, or_false] at hw
    rcases hw with rfl | rfl | rfl | rfl <;> rfl
  have t1 := t "kind" (by simp)
  have t2 := t "odd" (by simp)
  have t3 := t "fixed" (by simp)
  have t4 := t "none" (by simp)
  cases c with
  | kind a =>
    obtain ⟨h1, h2⟩ := h
    simp! [m_need_custom, cuD, t1, r_need_custom_2, r_need_custom_1, cw_kind, cw_odd, cw_fixed, cw_none, h1, h2, c_MOST_ASIDE]
  | odd a q =>
    obtain ⟨⟨h1, h2⟩, h3, h4⟩ := h
    simp! [m_need_custom, cuD, t2, r_need_custom_2, r_need_custom_1, cw_kind, cw_odd, cw_fixed, cw_none, h1, h2, h3, h4, c_MOST_ASIDE, c_MOST_PENCE, m_need_pence]
  | fixed q =>
    obtain ⟨h3, h4⟩ := h
    simp! [m_need_custom, cuD, t3, r_need_custom_2, r_need_custom_1, cw_kind, cw_odd, cw_fixed, cw_none, h3, h4, c_MOST_PENCE, m_need_pence]
  | non => simp! [m_need_custom, cuD, t4, r_need_custom_2, r_need_custom_1, cw_kind, cw_odd, cw_fixed, cw_none]
theorem need_ok {x : Fc} (h : FcOk x) : m_need_fact [.dat (fcD x)] = .ok (.dat .none) [.dat (fcD x)] := by
  refine need_fact_y (o := .dat .none) (o1 := .dat (fcD x)) ?_
  cases x with
  | lies f p d =>
    obtain ⟨h1, h2, h3⟩ := h
    have e1 := need_field_ok (okField_iff.mpr h1)
    have e2 := need_parish_ok (okParish_iff.mpr h2)
    have e3 := need_day_ok (okDay_iff.mpr h3)
    simp! [lookF, m_need_lies, fcD, e1, e2, e3]
  | held f i d =>
    obtain ⟨h1, ⟨h2, h4⟩, h3⟩ := h
    have e1 := need_field_ok (okField_iff.mpr h1)
    have e3 := need_day_ok (okDay_iff.mpr h3)
    simp! [lookF, m_need_held, fcD, e1, e3, h2, h4, c_HOLDERS]
  | free f a b =>
    obtain ⟨h1, h2, h3, h4⟩ := h
    have e1 := need_field_ok (okField_iff.mpr h1)
    have e2 := need_day_ok (okDay_iff.mpr h2)
    have e3 := need_day_ok (okDay_iff.mpr h3)
    have h5 : ¬ b < a := by omega
    simp! [lookF, m_need_free, fcD, e1, e2, e3, h5]
  | custom p k y c =>
    obtain ⟨h1, h2, h3, h4⟩ := h
    have e1 := need_parish_ok (okParish_iff.mpr h1)
    have e2 := need_kind_ok (okKind_iff.mpr h2)
    have e3 := need_year_ok (okYear_iff.mpr h3)
    have e4 := need_cu_ok h4
    simp only [fcD]
    generalize cuD c = cd at *
    simp! [lookF, m_need_custom_fact, e1, e2, e3, e4]
  | takers p k y u q v =>
    obtain ⟨q1, q2⟩ := q
    obtain ⟨h1, h2, h3, ⟨h4, h5⟩, ⟨h6, h7⟩, hne, h8, h9, h10, h11, h12⟩ := h
    simp only at h8 h9 h10 h11 h12
    have e1 := need_parish_ok (okParish_iff.mpr h1)
    have e2 := need_kind_ok (okKind_iff.mpr h2)
    have e3 := need_year_ok (okYear_iff.mpr h3)
    have e4 := is_part_ok q1 q2
    have e5 := below_ok (n := 1) (m := 11) (a := 1) (b := 1) (c := q1) (d := q2) ⟨by decide, by decide, by decide, by decide, by decide⟩ ⟨h8, h9, by omega, by omega, h12⟩ (by decide)
    have h14 : ¬ q2 < q1 := by omega
    have e6 : decide (0 ≤ q1 ∧ 1 ≤ q2 ∧ Int.gcd q1 q2 = 1) = true := by simp [h8, h9, h12]
    have e7 : decide (1 * q2 < q1 * 1) = false := by simp; omega
    rw [e6] at e4
    rw [e7] at e5
    have e5 : m_below [.dat (.tuple [.int 1, .int 1]), .dat (.tuple [.int q1, .int q2])] = .ok (.dat (.bool false)) [.dat (.tuple [.int 1, .int 1]), .dat (.tuple [.int q1, .int q2])] := e5
    simp! [lookF, m_need_takers_fact, fcD, e1, e2, e3, m_need_two, m_need_taker, h4, h5, h6, h7, hne, c_TAKERS, c_ALL, e4, e5, r_need_two_1]
  | cut f k d n =>
    obtain ⟨h1, h2, h3, h4, h5⟩ := h
    have e1 := need_field_ok (okField_iff.mpr h1)
    have e2 := need_kind_ok (okKind_iff.mpr h2)
    have e3 := need_day_ok (okDay_iff.mpr h3)
    simp! [lookF, m_need_cut, fcD, e1, e2, e3, m_need_count, h4, h5, c_MOST_COUNT]
  | born f k d s w =>
    obtain ⟨h1, h2, h3, ⟨h4, h5⟩, h6, h7, h8⟩ := h
    have e1 := need_field_ok (okField_iff.mpr h1)
    have e2 := need_kind_ok (okKind_iff.mpr h2)
    have e3 := need_day_ok (okDay_iff.mpr h3)
    have h9 : ¬ d + s > 3999 := by omega
    simp! [lookF, m_need_born, fcD, e1, e2, e3, h4, h5, h7, h8, h9, c_MOST_SPAN, c_LAST_DAY, c_MOST_WORTH]
  | driven b f d =>
    obtain ⟨h1, h2⟩ := h
    have e1 := need_field_ok (okField_iff.mpr h1)
    have e3 := need_day_ok (okDay_iff.mpr h2)
    simp! [lookF, m_need_driven, fcD, e1, e3]
  | pass a b d =>
    obtain ⟨h1, h2, h3, h4⟩ := h
    have e1 := need_holder_ok h1
    have e2 := need_holder_ok h2
    have e3 := need_day_ok (okDay_iff.mpr h4)
    simp! [lookF, m_need_pass, fcD, e1, e2, e3, h3]
  | render a p k d n =>
    obtain ⟨h1, h2, h3, h4, h5, h6⟩ := h
    have e1 := need_holder_ok h1
    have e2 := need_parish_ok (okParish_iff.mpr h2)
    have e3 := need_kind_ok (okKind_iff.mpr h3)
    have e4 := need_day_ok (okDay_iff.mpr h4)
    simp! [lookF, m_need_laid, fcD, e1, e2, e3, e4, fw_lies, fw_held, fw_free, fw_custom, fw_takers, fw_cut, fw_born, fw_driven, fw_pass, fw_render, fw_paid, fw_claim, m_need_count, h5, h6, c_MOST_COUNT]
  | paid a p k d n =>
    obtain ⟨h1, h2, h3, h4, h5, h6⟩ := h
    have e1 := need_holder_ok h1
    have e2 := need_parish_ok (okParish_iff.mpr h2)
    have e3 := need_kind_ok (okKind_iff.mpr h3)
    have e4 := need_day_ok (okDay_iff.mpr h4)
    simp! [lookF, m_need_laid, fcD, e1, e2, e3, e4, fw_lies, fw_held, fw_free, fw_custom, fw_takers, fw_cut, fw_born, fw_driven, fw_pass, fw_render, fw_paid, fw_claim, m_need_pence, h5, h6, c_MOST_PENCE]
  | claim f p =>
    obtain ⟨h1, h2⟩ := h
    have e1 := need_field_ok (okField_iff.mpr h1)
    have e2 := need_parish_ok (okParish_iff.mpr h2)
    simp! [lookF, m_need_claim, fcD, e1, e2]
/-- what is good of a book's rows -/
structure BkOk (K : List Kr) : Prop where
  ok : ∀ x ∈ K, FcOk x.1
  dr : ∀ x ∈ K, ∀ b f d, x.1 = .driven b f d → 1 ≤ b ∧ b ≤ K.length ∧ isBorn (K.getD (b - 1).toNat (.claim 0 0, true)).1 = true
  len : K.length ≤ 150
theorem kr_at (K : List Kr) {b : Int} (h1 : 1 ≤ b) (h2 : b ≤ K.length) : fIx (.list (K.map krD)) (.int (b - 1)) = some (.dat (krD (K.getD (b - 1).toNat (.claim 0 0, true)))) := by
  have hb : (b - 1).toNat < K.length := by omega
  have z := atI_nat (K.map krD) (b - 1).toNat
  rw [Int.toNat_of_nonneg (by omega), List.getElem?_map, List.getElem?_eq_getElem hb] at z
  rw [List.getD_eq_getElem?_getD, List.getElem?_eq_getElem hb]
  simp! [z]
  rfl
/-! how many of a word -/
def manyB (K : List Kr) (q : Fc → Bool) : Nat := (K.filter fun x => q x.1).length
theorem many_fm (K : List Kr) (q : Fc → Bool) : (K.filterMap fun x : Kr => if q x.1 = true then some (fcD x.1) else none).length = manyB K q := by
  unfold manyB
  induction K with
  | nil => rfl
  | cons x K ih =>
    rw [List.filterMap_cons, List.filter_cons]
    cases h : q x.1 <;> simp [h, ih]
theorem many_born {K : List Kr} {P Q : List PyData} (hl : K.length ≤ 1000) : m_Book_many_of [bkO (K.map krD) P Q, .dat (.str "born")] = .ok (.dat (.int (manyB K isBorn))) [bkO (K.map krD) P Q, .dat (.str "born")] := by
  have c := cmp_fold (β := Unit) (is := [2, 3]) (tg := gT 2 (gsCons (gN 2) (gsCons (gN 3) gsNil))) (mt := t_Book_many_of_2) (me := e_Book_many_of_1) (enc := krD) (out := fun x : Kr => if isBorn x.1 = true then some (fcD x.1) else none) (g := [.pin (bzO (K.map krD) P Q), .pin (.dat (.str "born")), .no, .no]) K [] (by simp [zl]; omega) (fun x hx => by
    clear hx
    generalize K.map krD = L
    obtain ⟨y, g⟩ := x
    refine ⟨[.pin (bzO L P Q), .pin (.dat (.str "born")), .v (.dat (fcD y)), .v (.dat (.bool g))], rfl, ?_⟩
    cases y
    case born => exact .inl ⟨_, _, _, rfl, by simp! [t_Book_many_of_2, fcD, fw_lies, fw_held, fw_free, fw_custom, fw_takers, fw_cut, fw_born, fw_driven, fw_pass, fw_render, fw_paid, fw_claim]; rfl, by simp! [e_Book_many_of_1]; rfl, rfl⟩
    all_goals exact .inr ⟨_, rfl, by simp! [t_Book_many_of_2, fcD, fw_lies, fw_held, fw_free, fw_custom, fw_takers, fw_cut, fw_born, fw_driven, fw_pass, fw_render, fw_paid, fw_claim]; rfl, rfl⟩)
  rw [List.nil_append] at c
  have e := many_fm K isBorn
  generalize K.filterMap (fun x : Kr => if isBorn x.1 = true then some (fcD x.1) else none) = R at *
  generalize K.map krD = L at *
  simp! [m_Book_many_of, sRo_bk, vFa_x, fa_kept, c, e, lfO, lfD, lfS, lfA]
theorem many_claim {K : List Kr} {P Q : List PyData} (hl : K.length ≤ 1000) : m_Book_many_of [bkO (K.map krD) P Q, .dat (.str "claim")] = .ok (.dat (.int (manyB K isClaim))) [bkO (K.map krD) P Q, .dat (.str "claim")] := by
  have c := cmp_fold (β := Unit) (is := [2, 3]) (tg := gT 2 (gsCons (gN 2) (gsCons (gN 3) gsNil))) (mt := t_Book_many_of_2) (me := e_Book_many_of_1) (enc := krD) (out := fun x : Kr => if isClaim x.1 = true then some (fcD x.1) else none) (g := [.pin (bzO (K.map krD) P Q), .pin (.dat (.str "claim")), .no, .no]) K [] (by simp [zl]; omega) (fun x hx => by
    clear hx
    generalize K.map krD = L
    obtain ⟨y, g⟩ := x
    refine ⟨[.pin (bzO L P Q), .pin (.dat (.str "claim")), .v (.dat (fcD y)), .v (.dat (.bool g))], rfl, ?_⟩
    cases y
    case claim => exact .inl ⟨_, _, _, rfl, by simp! [t_Book_many_of_2, fcD, fw_lies, fw_held, fw_free, fw_custom, fw_takers, fw_cut, fw_born, fw_driven, fw_pass, fw_render, fw_paid, fw_claim]; rfl, by simp! [e_Book_many_of_1]; rfl, rfl⟩
    all_goals exact .inr ⟨_, rfl, by simp! [t_Book_many_of_2, fcD, fw_lies, fw_held, fw_free, fw_custom, fw_takers, fw_cut, fw_born, fw_driven, fw_pass, fw_render, fw_paid, fw_claim]; rfl, rfl⟩)
  rw [List.nil_append] at c
  have e := many_fm K isClaim
  generalize K.filterMap (fun x : Kr => if isClaim x.1 = true then some (fcD x.1) else none) = R at *
  generalize K.map krD = L at *
  simp! [m_Book_many_of, sRo_bk, vFa_x, fa_kept, c, e, lfO, lfD, lfS, lfA]
/-! a fact is told -/
theorem need_room_ok {K : List Kr} {P Q : List PyData} {x : Fc} (hl : K.length < 150) (hb : isBorn x = true → manyB K isBorn < 40) (hc : isClaim x = true → manyB K isClaim < 6) : m_Book_need_room [bkO (K.map krD) P Q, .dat (fcD x)] = .ok (.dat .none) [bkO (K.map krD) P Q, .dat (fcD x)] := by
  have mb := many_born (K := K) (P := P) (Q := Q) (by omega)
  have mc := many_claim (K := K) (P := P) (Q := Q) (by omega)
  have h1 : ¬ (150 : Int) ≤ (K.length : Int) := by omega
  have ll : (K.map krD).length = K.length := List.length_map ..
  generalize K.map krD = L at *
  rw [← ll] at h1
  cases x
  case born =>
    have h2 : ¬ (40 : Int) ≤ (manyB K isBorn : Int) := by have := hb rfl; omega
    simp! [m_Book_need_room, wP, plOd_x, pl_kept, h1, c_MOST_FACTS, r_Book_need_room_1, fcD, fw_lies, fw_held, fw_free, fw_custom, fw_takers, fw_cut, fw_born, fw_driven, fw_pass, fw_render, fw_paid, fw_claim, lLC_x, bk_lc bkm_many_of, mb, c_MOST_BIRTHS, h2]
  case claim =>
    have h2 : ¬ (6 : Int) ≤ (manyB K isClaim : Int) := by have := hc rfl; omega
    simp! [m_Book_need_room, wP, plOd_x, pl_kept, h1, c_MOST_FACTS, r_Book_need_room_1, fcD, fw_lies, fw_held, fw_free, fw_custom, fw_takers, fw_cut, fw_born, fw_driven, fw_pass, fw_render, fw_paid, fw_claim, lLC_x, bk_lc bkm_many_of, mc, c_MOST_CLAIMS, h2]
  all_goals simp! [m_Book_need_room, wP, plOd_x, pl_kept, h1, c_MOST_FACTS, r_Book_need_room_1, fcD, fw_lies, fw_held, fw_free, fw_custom, fw_takers, fw_cut, fw_born, fw_driven, fw_pass, fw_render, fw_paid, fw_claim]
theorem remember_ok {L P Q : List PyData} {d : PyData} (hP : P.length < 1000000) (hL : L.length ≤ 1000000) : m_Book_remember [bkO L P Q, .dat d] = .ok (.dat .none) [bkO L (P ++ [.tuple [d, .list L]]) [], .dat d] := by
  simp! [m_Book_remember, wP, plOd_x, pl_kept, pl_past, plPut_x, put_past, sFldP_x, fld_fut, hP, hL]
/-- what stands behind a telling -/
def tellP (K : List Kr) (P : List PyData) (x : Fc) : List PyData := P ++ [.tuple [.tuple [.str "tell", fcD x], .list (K.map krD)]]
/-- a fact that may be told to these rows -/
structure MayTell (K : List Kr) (x : Fc) : Prop where
  ok : FcOk x
  dr : ∀ b f d, x = .driven b f d → 1 ≤ b ∧ b ≤ K.length ∧ isBorn (K.getD (b - 1).toNat (.claim 0 0, true)).1 = true
  room : K.length < 150
  born : isBorn x = true → manyB K isBorn < 40
  claim : isClaim x = true → manyB K isClaim < 6
theorem BkOk.tell {K : List Kr} {x : Fc} (hK : BkOk K) (h : MayTell K x) : BkOk (K ++ [(x, true)]) := by
  refine ⟨fun y hy => ?_, fun y hy b f d e => ?_, by rw [List.length_append]; have := h.room; simp; omega⟩
  · rcases List.mem_append.mp hy with hy | hy
    · exact hK.ok y hy
    · rw [List.mem_singleton.mp hy]
      exact h.ok
  · have key : 1 ≤ b ∧ b ≤ K.length ∧ isBorn (K.getD (b - 1).toNat (.claim 0 0, true)).1 = true := by
      rcases List.mem_append.mp hy with hy | hy
      · exact hK.dr y hy b f d e
      · rw [List.mem_singleton.mp hy] at e
        exact h.dr b f d e
    obtain ⟨h1, h2, h3⟩ := key
    refine ⟨h1, by rw [List.length_append]; simp; omega, ?_⟩
    rw [List.getD_eq_getElem?_getD] at h3 ⊢
    rw [List.getElem?_append_left (by omega)]
    exact h3
theorem need_beast_ok {K : List Kr} {P Q : List PyData} {b : Int} (hl : K.length ≤ 1000) (h1 : 1 ≤ b) (h2 : b ≤ K.length) (h3 : isBorn (K.getD (b - 1).toNat (.claim 0 0, true)).1 = true) : m_Book_need_beast [bkO (K.map krD) P Q, .dat (.int b)] = .ok (.dat .none) [bkO (K.map krD) P Q, .dat (.int b)] := by
  have ka := kr_at K h1 h2
  generalize K.getD (b - 1).toNat (.claim 0 0, true) = kr at *
  obtain ⟨y, g⟩ := kr
  have e : ∃ f k d s w, y = .born f k d s w := by
    cases y <;> first | exact ⟨_, _, _, _, _, rfl⟩ | cases h3
  obtain ⟨f, k, d, s, w, rfl⟩ := e
  have ll : (K.map krD).length = K.length := List.length_map ..
  rw [← ll] at h2
  simp only [krD, fcD] at ka
  generalize K.map krD = L at *
  simp! [m_Book_need_beast, wP, plOd_x, pl_kept, h1, h2, ka, fn_born]
theorem tell_ok {K : List Kr} {P Q : List PyData} {x : Fc} (hP : P.length < 1000000) (h : MayTell K x) : m_Book_tell [bkO (K.map krD) P Q, .dat (fcD x)] = .ok (.dat (.int ((K.length + 1 : Nat) : Int))) [bkO ((K ++ [(x, true)]).map krD) (tellP K P x) [], .dat (fcD x)] := by
  have nr := need_room_ok (P := P) (Q := Q) h.room h.born h.claim
  have nf := need_ok h.ok
  have hr := h.room
  have re := remember_ok (L := K.map krD) (P := P) (Q := Q) (d := .tuple [.str "tell", fcD x]) hP (by rw [List.length_map]; omega)
  have e1 : (K ++ [(x, true)]).map krD = K.map krD ++ [.tuple [fcD x, .bool true]] := by
    rw [List.map_append]
    rfl
  have ll : (K.map krD).length = K.length := List.length_map ..
  rw [e1]
  unfold tellP
  have hz : (K.map krD).length < 1000000 := by omega
  have lz : (((K.map krD).length : Int) + 1) = ((K.length + 1 : Nat) : Int) := by omega
  cases x
  case driven b f d =>
    obtain ⟨h1, h2, h3⟩ := h.dr b f d rfl
    have nb := need_beast_ok (P := P) (Q := Q) (by omega) h1 h2 h3
    rw [← lz]
    generalize K.map krD = L at *
    simp only [fcD] at *
    simp! [m_Book_tell, fw_lies, fw_held, fw_free, fw_custom, fw_takers, fw_cut, fw_born, fw_driven, fw_pass, fw_render, fw_paid, fw_claim, lLC_x, bk_lc bkm_need_beast, nb, r_Book_tell_1, nf, bk_lc bkm_need_room, nr, bk_lc bkm_remember, re, wP, plOd_x, pl_kept, plPut_x, put_kept, hz, List.length_append]
    rfl
  all_goals
    rw [← lz]
    generalize K.map krD = L at *
    simp only [fcD] at *
    simp! [m_Book_tell, fw_lies, fw_held, fw_free, fw_custom, fw_takers, fw_cut, fw_born, fw_driven, fw_pass, fw_render, fw_paid, fw_claim, lLC_x, r_Book_tell_1, nf, bk_lc bkm_need_room, nr, bk_lc bkm_remember, re, wP, plOd_x, pl_kept, plPut_x, put_kept, hz, List.length_append]
    rfl
/-! facts as they may be bent; the refusal that is due first -/
def nB (lo hi n : Int) : Bool := !(decide (lo ≤ n) && decide (n ≤ hi))
theorem nB_f {lo hi n : Int} : nB lo hi n = false ↔ inB lo hi n := by
  unfold nB inB
  simp
def wOf : List (Bool × Str) → Str
  | [] => ""
  | (b, w) :: r => if b = true then w else wOf r
inductive Fx where
  | f (x : Fc) | kinds (p k y n : Int)
def fxD : Fx → PyData
  | .f x => fcD x
  | .kinds p k y n => .tuple [.str "custom", .int p, .int k, .int y, .tuple [.str "kinds", .int n]]
def cuC : Cu → List (Bool × Str)
  | .kind a => [(nB 0 9 a, "BadAside")]
  | .odd a p => [(nB 1 9 a, "BadAside"), (nB 0 1000 p, "BadPence")]
  | .fixed p => [(nB 0 1000 p, "BadPence")]
  | .non => []
/-- what is no part, or above one -/
def isPt (q : Int × Int) : Bool := decide (0 ≤ q.1 ∧ 1 ≤ q.2 ∧ Int.gcd q.1 q.2 = 1)
def gtPt (q : Int × Int) : Bool := decide (q.2 < q.1)
def noPart (q : Int × Int) : Bool := !isPt q || gtPt q
def fcC : Fc → List (Bool × Str)
  | .lies f p d => [(nB 1 12 f, "BadField"), (nB 1 8 p, "BadParish"), (nB 0 3999 d, "BadDay")]
  | .held f h d => [(nB 1 12 f, "BadField"), (nB 0 8 h, "BadHolder"), (nB 0 3999 d, "BadDay")]
  | .free f a b => [(nB 1 12 f, "BadField"), (nB 0 3999 a, "BadDay"), (nB 0 3999 b, "BadDay"), (decide (b < a), "Backward")]
  | .cut f k d n => [(nB 1 12 f, "BadField"), (nB 1 6 k, "BadKind"), (nB 0 3999 d, "BadDay"), (nB 1 10000 n, "BadCount")]
  | .born f k d s w => [(nB 1 12 f, "BadField"), (nB 1 6 k, "BadKind"), (nB 0 3999 d, "BadDay"), ((nB 1 60 s || decide (3999 < d + s)), "BadSpan"), (nB 0 1000 w, "BadWorth")]
  | .driven b f d => [(nB 1 12 f, "BadField"), (nB 0 3999 d, "BadDay")]
  | .pass h i d => [(nB 1 8 h, "BadHolder"), (nB 1 8 i, "BadHolder"), (decide (h = i), "Same"), (nB 0 3999 d, "BadDay")]
  | .render h p k d n => [(nB 1 8 h, "BadHolder"), (nB 1 8 p, "BadParish"), (nB 1 6 k, "BadKind"), (nB 0 3999 d, "BadDay"), (nB 1 10000 n, "BadCount")]
  | .paid h p k d n => [(nB 1 8 h, "BadHolder"), (nB 1 8 p, "BadParish"), (nB 1 6 k, "BadKind"), (nB 0 3999 d, "BadDay"), (nB 0 1000 n, "BadPence")]
  | .claim f p => [(nB 1 12 f, "BadField"), (nB 1 8 p, "BadParish")]
  | .custom p k y c => (nB 1 8 p, "BadParish") :: (nB 1 6 k, "BadKind") :: (nB 0 39 y, "BadYear") :: cuC c
  | .takers p k y u q v => [(nB 1 8 p, "BadParish"), (nB 1 6 k, "BadKind"), (nB 0 39 y, "BadYear"), (nB 1 6 u, "BadTaker"), (noPart q, "BadPart"), (nB 1 6 v, "BadTaker"), (decide (u = v), "Same")]
def fxC : Fx → List (Bool × Str)
  | .f x => fcC x
  | .kinds p k y n => [(nB 1 8 p, "BadParish"), (nB 1 6 k, "BadKind"), (nB 0 39 y, "BadYear"), (true, "BadCustom")]
abbrev fxE (x : Fx) : Str := wOf (fxC x)
/-- what a look at c tells of d -/
def errO (c : List (Bool × Str)) (a : OD) : FOut := if (wOf c == "") = true then .ok (.dat .none) [a] else .err ⟨wOf c, []⟩ [a]
theorem errO_t {w : Str} {r : List (Bool × Str)} {a : OD} (h : (w == "") = false) : errO ((true, w) :: r) a = .err ⟨w, []⟩ [a] := by
  unfold errO
  simp only [wOf, if_true]
  rw [h]
  simp
theorem errO_f {w : Str} {r : List (Bool × Str)} {a : OD} : errO ((false, w) :: r) a = errO r a := by
  unfold errO
  simp [wOf]
theorem errO_n {a : OD} : errO [] a = .ok (.dat .none) [a] := rfl
theorem nfield_x (n : Int) : m_need_field [.dat (.int n)] = errO [(nB 1 12 n, "BadField")] (.dat (.int n)) := by
  by_cases h0 : 1 ≤ n
  · by_cases h1 : n ≤ 12
    · have e : nB 1 12 n = false := nB_f.mpr ⟨h0, h1⟩
      rw [e, errO_f, errO_n]
      simp! [m_need_field, c_FIELDS, h0, h1]
    · have e : nB 1 12 n = true := by simp [nB, h1]
      rw [e, errO_t (by decide)]
      simp! [m_need_field, c_FIELDS, h0, h1]
  · have e : nB 1 12 n = true := by simp [nB, h0]
    rw [e, errO_t (by decide)]
    simp! [m_need_field, c_FIELDS, h0]
theorem nparish_x (n : Int) : m_need_parish [.dat (.int n)] = errO [(nB 1 8 n, "BadParish")] (.dat (.int n)) := by
  by_cases h0 : 1 ≤ n
  · by_cases h1 : n ≤ 8
    · have e : nB 1 8 n = false := nB_f.mpr ⟨h0, h1⟩
      rw [e, errO_f, errO_n]
      simp! [m_need_parish, c_PARISHES, h0, h1]
    · have e : nB 1 8 n = true := by simp [nB, h1]
      rw [e, errO_t (by decide)]
      simp! [m_need_parish, c_PARISHES, h0, h1]
  · have e : nB 1 8 n = true := by simp [nB, h0]
    rw [e, errO_t (by decide)]
    simp! [m_need_parish, c_PARISHES, h0]
theorem nday_x (n : Int) : m_need_day [.dat (.int n)] = errO [(nB 0 3999 n, "BadDay")] (.dat (.int n)) := by
  by_cases h0 : 0 ≤ n
  · by_cases h1 : n ≤ 3999
    · have e : nB 0 3999 n = false := nB_f.mpr ⟨h0, h1⟩
      rw [e, errO_f, errO_n]
      simp! [m_need_day, c_LAST_DAY, h0, h1]
    · have e : nB 0 3999 n = true := by simp [nB, h1]
      rw [e, errO_t (by decide)]
      simp! [m_need_day, c_LAST_DAY, h0, h1]
  · have e : nB 0 3999 n = true := by simp [nB, h0]
    rw [e, errO_t (by decide)]
    simp! [m_need_day, c_LAST_DAY, h0]
theorem nholder_x (n : Int) : m_need_holder [.dat (.int n)] = errO [(nB 1 8 n, "BadHolder")] (.dat (.int n)) := by
  by_cases h0 : 1 ≤ n
  · by_cases h1 : n ≤ 8
    · have e : nB 1 8 n = false := nB_f.mpr ⟨h0, h1⟩
      rw [e, errO_f, errO_n]
      simp! [m_need_holder, c_HOLDERS, h0, h1]
    · have e : nB 1 8 n = true := by simp [nB, h1]
      rw [e, errO_t (by decide)]
      simp! [m_need_holder, c_HOLDERS, h0, h1]
  · have e : nB 1 8 n = true := by simp [nB, h0]
    rw [e, errO_t (by decide)]
    simp! [m_need_holder, c_HOLDERS, h0]
theorem nkind_x (n : Int) : m_need_kind [.dat (.int n)] = errO [(nB 1 6 n, "BadKind")] (.dat (.int n)) := by
  by_cases h0 : 1 ≤ n
  · by_cases h1 : n ≤ 6
    · have e : nB 1 6 n = false := nB_f.mpr ⟨h0, h1⟩
      rw [e, errO_f, errO_n]
      simp! [m_need_kind, c_KINDS, h0, h1]
    · have e : nB 1 6 n = true := by simp [nB, h1]
      rw [e, errO_t (by decide)]
      simp! [m_need_kind, c_KINDS, h0, h1]
  · have e : nB 1 6 n = true := by simp [nB, h0]
    rw [e, errO_t (by decide)]
    simp! [m_need_kind, c_KINDS, h0]
theorem ncount_x (n : Int) : m_need_count [.dat (.int n)] = errO [(nB 1 10000 n, "BadCount")] (.dat (.int n)) := by
  by_cases h0 : 1 ≤ n
  · by_cases h1 : n ≤ 10000
    · have e : nB 1 10000 n = false := nB_f.mpr ⟨h0, h1⟩
      rw [e, errO_f, errO_n]
      simp! [m_need_count, c_MOST_COUNT, h0, h1]
    · have e : nB 1 10000 n = true := by simp [nB, h1]
      rw [e, errO_t (by decide)]
      simp! [m_need_count, c_MOST_COUNT, h0, h1]
  · have e : nB 1 10000 n = true := by simp [nB, h0]
    rw [e, errO_t (by decide)]
    simp! [m_need_count, c_MOST_COUNT, h0]
theorem npence_x (n : Int) : m_need_pence [.dat (.int n)] = errO [(nB 0 1000 n, "BadPence")] (.dat (.int n)) := by
  by_cases h0 : 0 ≤ n
  · by_cases h1 : n ≤ 1000
    · have e : nB 0 1000 n = false := nB_f.mpr ⟨h0, h1⟩
      rw [e, errO_f, errO_n]
      simp! [m_need_pence, c_MOST_PENCE, h0, h1]
    · have e : nB 0 1000 n = true := by simp [nB, h1]
      rw [e, errO_t (by decide)]
      simp! [m_need_pence, c_MOST_PENCE, h0, h1]
  · have e : nB 0 1000 n = true := by simp [nB, h0]
    rw [e, errO_t (by decide)]
    simp! [m_need_pence, c_MOST_PENCE, h0]
theorem nyear_x (n : Int) : m_need_year [.dat (.int n)] = errO [(nB 0 39 n, "BadYear")] (.dat (.int n)) := by
  by_cases h0 : 0 ≤ n
  · by_cases h1 : n ≤ 39
    · have e : nB 0 39 n = false := nB_f.mpr ⟨h0, h1⟩
      rw [e, errO_f, errO_n]
      simp! [m_need_year, c_LAST_YEAR, h0, h1]
    · have e : nB 0 39 n = true := by simp [nB, h1]
      rw [e, errO_t (by decide)]
      simp! [m_need_year, c_LAST_YEAR, h0, h1]
  · have e : nB 0 39 n = true := by simp [nB, h0]
    rw [e, errO_t (by decide)]
    simp! [m_need_year, c_LAST_YEAR, h0]
theorem ntaker_x (n : Int) : m_need_taker [.dat (.int n)] = errO [(nB 1 6 n, "BadTaker")] (.dat (.int n)) := by
  by_cases h0 : 1 ≤ n
  · by_cases h1 : n ≤ 6
    · have e : nB 1 6 n = false := nB_f.mpr ⟨h0, h1⟩
      rw [e, errO_f, errO_n]
      simp! [m_need_taker, c_TAKERS, h0, h1]
    · have e : nB 1 6 n = true := by simp [nB, h1]
      rw [e, errO_t (by decide)]
      simp! [m_need_taker, c_TAKERS, h0, h1]
  · have e : nB 1 6 n = true := by simp [nB, h0]
    rw [e, errO_t (by decide)]
    simp! [m_need_taker, c_TAKERS, h0]
theorem cuN {w : Str} (hw : w ∈ (["kind", "odd", "fixed", "none"] : List Str)) : fNotInT (.str w) (.tuple [.str "kind", .str "odd", .str "fixed", .str "none"]) = some (.dat (.bool false)) := by
  unfold fNotInT
  simp only [List.mem_cons, List.not_mem_nil, or_false] at hw
  rcases hw with rfl | rfl | rfl | rfl <;> rfl
theorem ncu_x (c : Cu) : m_need_custom [.dat (cuD c)] = errO (cuC c) (.dat (cuD c)) := by
  have t1 := cuN (w := "kind") (by simp)
  have t2 := cuN (w := "odd") (by simp)
  have t3 := cuN (w := "fixed") (by simp)
  have t4 := cuN (w := "none") (by simp)
  have bn : ∀ {lo hi n : Int}, nB lo hi n = true → lo ≤ n → ¬ n ≤ hi := fun {lo hi n} h h1 h2 => by
    rw [nB_f.mpr ⟨h1, h2⟩] at h
    cases h
  cases c with
  | kind a =>
    simp only [cuC]
    cases h1 : nB 0 9 a
    · obtain ⟨a1, a2⟩ := nB_f.mp h1
      rw [errO_f, errO_n]
      simp! [m_need_custom, cuD, t1, r_need_custom_2, r_need_custom_1, cw_kind, cw_odd, cw_fixed, cw_none, a1, a2, c_MOST_ASIDE]
    · rw [errO_t (by decide)]
      by_cases a1 : 0 ≤ a
      · have a2 := bn h1 a1
        simp! [m_need_custom, cuD, t1, r_need_custom_2, r_need_custom_1, cw_kind, cw_odd, cw_fixed, cw_none, a1, a2, c_MOST_ASIDE]
      · simp! [m_need_custom, cuD, t1, r_need_custom_2, r_need_custom_1, cw_kind, cw_odd, cw_fixed, cw_none, a1, c_MOST_ASIDE]
  | odd a q =>
    have np := npence_x q
    simp only [cuC]
    cases h1 : nB 1 9 a
    · obtain ⟨a1, a2⟩ := nB_f.mp h1
      rw [errO_f]
      cases h2 : nB 0 1000 q
      · rw [h2, errO_f, errO_n] at np
        rw [errO_f, errO_n]
        simp! [m_need_custom, cuD, t2, r_need_custom_2, r_need_custom_1, cw_kind, cw_odd, cw_fixed, cw_none, a1, a2, c_MOST_ASIDE, np]
      · rw [h2, errO_t (by decide)] at np
        rw [errO_t (by decide)]
        simp! [m_need_custom, cuD, t2, r_need_custom_2, r_need_custom_1, cw_kind, cw_odd, cw_fixed, cw_none, a1, a2, c_MOST_ASIDE, np]
    · rw [errO_t (by decide)]
      by_cases a1 : 1 ≤ a
      · have a2 := bn h1 a1
        simp! [m_need_custom, cuD, t2, r_need_custom_2, r_need_custom_1, cw_kind, cw_odd, cw_fixed, cw_none, a1, a2, c_MOST_ASIDE]
      · simp! [m_need_custom, cuD, t2, r_need_custom_2, r_need_custom_1, cw_kind, cw_odd, cw_fixed, cw_none, a1, c_MOST_ASIDE]
  | fixed q =>
    have np := npence_x q
    simp only [cuC]
    cases h2 : nB 0 1000 q
    · rw [h2, errO_f, errO_n] at np
      rw [errO_f, errO_n]
      simp! [m_need_custom, cuD, t3, r_need_custom_2, r_need_custom_1, cw_kind, cw_odd, cw_fixed, cw_none, np]
    · rw [h2, errO_t (by decide)] at np
      rw [errO_t (by decide)]
      simp! [m_need_custom, cuD, t3, r_need_custom_2, r_need_custom_1, cw_kind, cw_odd, cw_fixed, cw_none, np]
  | non =>
    simp only [cuC]
    rw [errO_n]
    simp! [m_need_custom, cuD, t4, r_need_custom_2, r_need_custom_1, cw_kind, cw_odd, cw_fixed, cw_none]
theorem ncuk_x (n : Int) : m_need_custom [.dat (.tuple [.str "kinds", .int n])] = .err ⟨"BadCustom", []⟩ [.dat (.tuple [.str "kinds", .int n])] := by
  have t : fNotInT (.str "kinds") (.tuple [.str "kind", .str "odd", .str "fixed", .str "none"]) = some (.dat (.bool true)) := by rfl
  simp! [m_need_custom, t]
/-- the small parts: what the laws draw and bend -/
def qSm (q : Int × Int) : Prop := inB (-1) 1000 q.1 ∧ inB 0 1000 q.2
theorem ispart_x (q : Int × Int) (h : qSm q) : m_is_part [.dat (pp q.1 q.2)] = .ok (.dat (.bool (isPt q))) [.dat (pp q.1 q.2)] := is_part_ok q.1 q.2
theorem below_x (q : Int × Int) (h : qSm q) : m_below [.dat (pp 1 1), .dat (pp q.1 q.2)] = .ok (.dat (.bool (gtPt q))) [.dat (pp 1 1), .dat (pp q.1 q.2)] := by
  obtain ⟨⟨h1, h2⟩, h3, h4⟩ := h
  have m1 : mulOk 1 q.2 = true := mul_small (by omega) (by omega)
  have m2 : mulOk q.1 1 = true := mul_small' (by omega) (by omega)
  unfold gtPt
  simp! [m_below, m1, m2, pp, Int.one_mul, Int.mul_one]
def twoO (w : Str) (as : List OD) : FOut := if (w == "") = true then .ok (.dat .none) as else .err ⟨w, []⟩ as
theorem twoO_y {as : List OD} : twoO "" as = .ok (.dat .none) as := rfl
theorem twoO_n {w : Str} {as : List OD} (h : (w == "") = false) : twoO w as = .err ⟨w, []⟩ as := by
  unfold twoO
  rw [h]
  simp
theorem ntwo_x (u : Int) (q : Int × Int) (v : Int) (h : qSm q) : m_need_two [.dat (.int u), .dat (pp q.1 q.2), .dat (.int v)] = twoO (wOf [(nB 1 6 u, "BadTaker"), (noPart q, "BadPart"), (nB 1 6 v, "BadTaker"), (decide (u = v), "Same")]) [.dat (.int u), .dat (pp q.1 q.2), .dat (.int v)] := by
  have e1 := ntaker_x u
  have e2 := ispart_x q h
  have e3 := below_x q h
  have e4 := ntaker_x v
  have s1 : ∀ as, twoO "BadTaker" as = .err ⟨"BadTaker", []⟩ as := fun as => twoO_n (by decide)
  have s2 : ∀ as, twoO "BadPart" as = .err ⟨"BadPart", []⟩ as := fun as => twoO_n (by decide)
  have s3 : ∀ as, twoO "Same" as = .err ⟨"Same", []⟩ as := fun as => twoO_n (by decide)
  have s4 : ∀ as, twoO "" as = .ok (.dat .none) as := fun as => twoO_y
  simp only [noPart]
  simp only [pp] at *
  cases h1 : nB 1 6 u
  · rw [h1, errO_f, errO_n] at e1
    cases ip : isPt q
    · simp! [m_need_two, e1, e2, ip, wOf, Bool.true_or, s2]
    · cases bl : gtPt q
      · cases h4 : nB 1 6 v
        · rw [h4, errO_f, errO_n] at e4
          by_cases h5 : u = v
          · subst h5
            simp! [m_need_two, e1, e2, ip, e3, bl, c_ALL, r_need_two_1, wOf, s3]
          · simp! [m_need_two, e1, e2, ip, e3, bl, c_ALL, r_need_two_1, e4, h5, wOf, s4]
        · rw [h4, errO_t (by decide)] at e4
          simp! [m_need_two, e1, e2, ip, e3, bl, c_ALL, r_need_two_1, e4, wOf, s1]
      · simp! [m_need_two, e1, e2, ip, e3, bl, c_ALL, wOf, s2]
  · rw [h1, errO_t (by decide)] at e1
    simp! [m_need_two, e1, wOf, s1]
theorem look_lies (f p d : Int) : m_need_lies [.dat (fcD (.lies f p d))] = errO (fcC (.lies f p d)) (.dat (fcD (.lies f p d))) := by
  have e0 := nfield_x f
  have e1 := nparish_x p
  have e2 := nday_x d
  have bn : ∀ {lo hi n : Int}, nB lo hi n = true → lo ≤ n → ¬ n ≤ hi := fun {lo hi n} h h1 h2 => by
    rw [nB_f.mpr ⟨h1, h2⟩] at h
    cases h
  simp only [fcC]
  cases h0 : nB 1 12 f
  case false =>
    rw [h0, errO_f, errO_n] at e0
    rw [errO_f]
    cases h1 : nB 1 8 p
    case false =>
      rw [h1, errO_f, errO_n] at e1
      rw [errO_f]
      cases h2 : nB 0 3999 d
      case false =>
        rw [h2, errO_f, errO_n] at e2
        rw [errO_f]
        rw [errO_n]
        simp! [m_need_lies, fcD, fw_lies, fw_held, fw_free, fw_custom, fw_takers, fw_cut, fw_born, fw_driven, fw_pass, fw_render, fw_paid, fw_claim, e0, e1, e2]
      case true =>
        rw [h2, errO_t (by decide)] at e2
        rw [errO_t (by decide)]
        simp! [m_need_lies, fcD, fw_lies, fw_held, fw_free, fw_custom, fw_takers, fw_cut, fw_born, fw_driven, fw_pass, fw_render, fw_paid, fw_claim, e0, e1, e2]
    case true =>
      rw [h1, errO_t (by decide)] at e1
      rw [errO_t (by decide)]
      simp! [m_need_lies, fcD, fw_lies, fw_held, fw_free, fw_custom, fw_takers, fw_cut, fw_born, fw_driven, fw_pass, fw_render, fw_paid, fw_claim, e0, e1]
  case true =>
    rw [h0, errO_t (by decide)] at e0
    rw [errO_t (by decide)]
    simp! [m_need_lies, fcD, fw_lies, fw_held, fw_free, fw_custom, fw_takers, fw_cut, fw_born, fw_driven, fw_pass, fw_render, fw_paid, fw_claim, e0]
theorem look_held (f h d : Int) : m_need_held [.dat (fcD (.held f h d))] = errO (fcC (.held f h d)) (.dat (fcD (.held f h d))) := by
  have e0 := nfield_x f
  have e2 := nday_x d
  have bn : ∀ {lo hi n : Int}, nB lo hi n = true → lo ≤ n → ¬ n ≤ hi := fun {lo hi n} h h1 h2 => by
    rw [nB_f.mpr ⟨h1, h2⟩] at h
    cases h
  simp only [fcC]
  cases h0 : nB 1 12 f
  case false =>
    rw [h0, errO_f, errO_n] at e0
    rw [errO_f]
    cases h1 : nB 0 8 h
    case false =>
      obtain ⟨a1, b1⟩ := nB_f.mp h1
      rw [errO_f]
      cases h2 : nB 0 3999 d
      case false =>
        rw [h2, errO_f, errO_n] at e2
        rw [errO_f]
        rw [errO_n]
        simp! [m_need_held, fcD, fw_lies, fw_held, fw_free, fw_custom, fw_takers, fw_cut, fw_born, fw_driven, fw_pass, fw_render, fw_paid, fw_claim, e0, a1, b1, c_HOLDERS, e2]
      case true =>
        rw [h2, errO_t (by decide)] at e2
        rw [errO_t (by decide)]
        simp! [m_need_held, fcD, fw_lies, fw_held, fw_free, fw_custom, fw_takers, fw_cut, fw_born, fw_driven, fw_pass, fw_render, fw_paid, fw_claim, e0, a1, b1, c_HOLDERS, e2]
    case true =>
      rw [errO_t (by decide)]
      by_cases a1 : 0 ≤ h
      · have b1 := bn h1 a1
        simp! [m_need_held, fcD, fw_lies, fw_held, fw_free, fw_custom, fw_takers, fw_cut, fw_born, fw_driven, fw_pass, fw_render, fw_paid, fw_claim, e0, a1, b1, c_HOLDERS]
      · simp! [m_need_held, fcD, fw_lies, fw_held, fw_free, fw_custom, fw_takers, fw_cut, fw_born, fw_driven, fw_pass, fw_render, fw_paid, fw_claim, e0, a1, c_HOLDERS]
  case true =>
    rw [h0, errO_t (by decide)] at e0
    rw [errO_t (by decide)]
    simp! [m_need_held, fcD, fw_lies, fw_held, fw_free, fw_custom, fw_takers, fw_cut, fw_born, fw_driven, fw_pass, fw_render, fw_paid, fw_claim, e0]
theorem look_free (f a b : Int) : m_need_free [.dat (fcD (.free f a b))] = errO (fcC (.free f a b)) (.dat (fcD (.free f a b))) := by
  have e0 := nfield_x f
  have e1 := nday_x a
  have e2 := nday_x b
  have bn : ∀ {lo hi n : Int}, nB lo hi n = true → lo ≤ n → ¬ n ≤ hi := fun {lo hi n} h h1 h2 => by
    rw [nB_f.mpr ⟨h1, h2⟩] at h
    cases h
  simp only [fcC]
  cases h0 : nB 1 12 f
  case false =>
    rw [h0, errO_f, errO_n] at e0
    rw [errO_f]
    cases h1 : nB 0 3999 a
    case false =>
      rw [h1, errO_f, errO_n] at e1
      rw [errO_f]
      cases h2 : nB 0 3999 b
      case false =>
        rw [h2, errO_f, errO_n] at e2
        rw [errO_f]
        by_cases h3 : b < a
        · rw [decide_eq_true h3, errO_t (by decide)]
          simp! [m_need_free, fcD, fw_lies, fw_held, fw_free, fw_custom, fw_takers, fw_cut, fw_born, fw_driven, fw_pass, fw_render, fw_paid, fw_claim, e0, e1, e2, h3]
        · rw [decide_eq_false h3, errO_f]
          rw [errO_n]
          simp! [m_need_free, fcD, fw_lies, fw_held, fw_free, fw_custom, fw_takers, fw_cut, fw_born, fw_driven, fw_pass, fw_render, fw_paid, fw_claim, e0, e1, e2, h3]
      case true =>
        rw [h2, errO_t (by decide)] at e2
        rw [errO_t (by decide)]
        simp! [m_need_free, fcD, fw_lies, fw_held, fw_free, fw_custom, fw_takers, fw_cut, fw_born, fw_driven, fw_pass, fw_render, fw_paid, fw_claim, e0, e1, e2]
    case true =>
      rw [h1, errO_t (by decide)] at e1
      rw [errO_t (by decide)]
      simp! [m_need_free, fcD, fw_lies, fw_held, fw_free, fw_custom, fw_takers, fw_cut, fw_born, fw_driven, fw_pass, fw_render, fw_paid, fw_claim, e0, e1]
  case true =>
    rw [h0, errO_t (by decide)] at e0
    rw [errO_t (by decide)]
    simp! [m_need_free, fcD, fw_lies, fw_held, fw_free, fw_custom, fw_takers, fw_cut, fw_born, fw_driven, fw_pass, fw_render, fw_paid, fw_claim, e0]
theorem look_cut (f k d n : Int) : m_need_cut [.dat (fcD (.cut f k d n))] = errO (fcC (.cut f k d n)) (.dat (fcD (.cut f k d n))) := by
  have e0 := nfield_x f
  have e1 := nkind_x k
  have e2 := nday_x d
  have e3 := ncount_x n
  have bn : ∀ {lo hi n : Int}, nB lo hi n = true → lo ≤ n → ¬ n ≤ hi := fun {lo hi n} h h1 h2 => by
    rw [nB_f.mpr ⟨h1, h2⟩] at h
    cases h
  simp only [fcC]
  cases h0 : nB 1 12 f
  case false =>
    rw [h0, errO_f, errO_n] at e0
    rw [errO_f]
    cases h1 : nB 1 6 k
    case false =>
      rw [h1, errO_f, errO_n] at e1
      rw [errO_f]
      cases h2 : nB 0 3999 d
      case false =>
        rw [h2, errO_f, errO_n] at e2
        rw [errO_f]
        cases h3 : nB 1 10000 n
        case false =>
          rw [h3, errO_f, errO_n] at e3
          rw [errO_f]
          rw [errO_n]
          simp! [m_need_cut, fcD, fw_lies, fw_held, fw_free, fw_custom, fw_takers, fw_cut, fw_born, fw_driven, fw_pass, fw_render, fw_paid, fw_claim, e0, e1, e2, e3]
        case true =>
          rw [h3, errO_t (by decide)] at e3
          rw [errO_t (by decide)]
          simp! [m_need_cut, fcD, fw_lies, fw_held, fw_free, fw_custom, fw_takers, fw_cut, fw_born, fw_driven, fw_pass, fw_render, fw_paid, fw_claim, e0, e1, e2, e3]
      case true =>
        rw [h2, errO_t (by decide)] at e2
        rw [errO_t (by decide)]
        simp! [m_need_cut, fcD, fw_lies, fw_held, fw_free, fw_custom, fw_takers, fw_cut, fw_born, fw_driven, fw_pass, fw_render, fw_paid, fw_claim, e0, e1, e2]
    case true =>
      rw [h1, errO_t (by decide)] at e1
      rw [errO_t (by decide)]
      simp! [m_need_cut, fcD, fw_lies, fw_held, fw_free, fw_custom, fw_takers, fw_cut, fw_born, fw_driven, fw_pass, fw_render, fw_paid, fw_claim, e0, e1]
  case true =>
    rw [h0, errO_t (by decide)] at e0
    rw [errO_t (by decide)]
    simp! [m_need_cut, fcD, fw_lies, fw_held, fw_free, fw_custom, fw_takers, fw_cut, fw_born, fw_driven, fw_pass, fw_render, fw_paid, fw_claim, e0]
theorem look_born (f k d s w : Int) : m_need_born [.dat (fcD (.born f k d s w))] = errO (fcC (.born f k d s w)) (.dat (fcD (.born f k d s w))) := by
  have e0 := nfield_x f
  have e1 := nkind_x k
  have e2 := nday_x d
  have bn : ∀ {lo hi n : Int}, nB lo hi n = true → lo ≤ n → ¬ n ≤ hi := fun {lo hi n} h h1 h2 => by
    rw [nB_f.mpr ⟨h1, h2⟩] at h
    cases h
  simp only [fcC]
  cases h0 : nB 1 12 f
  case false =>
    rw [h0, errO_f, errO_n] at e0
    rw [errO_f]
    cases h1 : nB 1 6 k
    case false =>
      rw [h1, errO_f, errO_n] at e1
      rw [errO_f]
      cases h2 : nB 0 3999 d
      case false =>
        rw [h2, errO_f, errO_n] at e2
        rw [errO_f]
        by_cases a3 : 1 ≤ s
        · by_cases b3 : s ≤ 60
          · rw [nB_f.mpr ⟨a3, b3⟩, Bool.false_or]
            by_cases c3 : 3999 < d + s
            · rw [decide_eq_true c3, errO_t (by decide)]
              simp! [m_need_born, fcD, fw_lies, fw_held, fw_free, fw_custom, fw_takers, fw_cut, fw_born, fw_driven, fw_pass, fw_render, fw_paid, fw_claim, e0, e1, e2, a3, b3, c3, c_MOST_SPAN, c_LAST_DAY]
            · rw [decide_eq_false c3, errO_f]
              cases h4 : nB 0 1000 w
              case false =>
                obtain ⟨a4, b4⟩ := nB_f.mp h4
                rw [errO_f]
                rw [errO_n]
                simp! [m_need_born, fcD, fw_lies, fw_held, fw_free, fw_custom, fw_takers, fw_cut, fw_born, fw_driven, fw_pass, fw_render, fw_paid, fw_claim, e0, e1, e2, a3, b3, c3, c_MOST_SPAN, c_LAST_DAY, a4, b4, c_MOST_WORTH]
              case true =>
                rw [errO_t (by decide)]
                by_cases a4 : 0 ≤ w
                · have b4 := bn h4 a4
                  simp! [m_need_born, fcD, fw_lies, fw_held, fw_free, fw_custom, fw_takers, fw_cut, fw_born, fw_driven, fw_pass, fw_render, fw_paid, fw_claim, e0, e1, e2, a3, b3, c3, c_MOST_SPAN, c_LAST_DAY, a4, b4, c_MOST_WORTH]
                · simp! [m_need_born, fcD, fw_lies, fw_held, fw_free, fw_custom, fw_takers, fw_cut, fw_born, fw_driven, fw_pass, fw_render, fw_paid, fw_claim, e0, e1, e2, a3, b3, c3, c_MOST_SPAN, c_LAST_DAY, a4, c_MOST_WORTH]
          · have z : nB 1 60 s = true := by simp [nB, b3]
            rw [z, Bool.true_or, errO_t (by decide)]
            simp! [m_need_born, fcD, fw_lies, fw_held, fw_free, fw_custom, fw_takers, fw_cut, fw_born, fw_driven, fw_pass, fw_render, fw_paid, fw_claim, e0, e1, e2, a3, b3, c_MOST_SPAN]
        · have z : nB 1 60 s = true := by simp [nB, a3]
          rw [z, Bool.true_or, errO_t (by decide)]
          simp! [m_need_born, fcD, fw_lies, fw_held, fw_free, fw_custom, fw_takers, fw_cut, fw_born, fw_driven, fw_pass, fw_render, fw_paid, fw_claim, e0, e1, e2, a3, c_MOST_SPAN]
      case true =>
        rw [h2, errO_t (by decide)] at e2
        rw [errO_t (by decide)]
        simp! [m_need_born, fcD, fw_lies, fw_held, fw_free, fw_custom, fw_takers, fw_cut, fw_born, fw_driven, fw_pass, fw_render, fw_paid, fw_claim, e0, e1, e2]
    case true =>
      rw [h1, errO_t (by decide)] at e1
      rw [errO_t (by decide)]
      simp! [m_need_born, fcD, fw_lies, fw_held, fw_free, fw_custom, fw_takers, fw_cut, fw_born, fw_driven, fw_pass, fw_render, fw_paid, fw_claim, e0, e1]
  case true =>
    rw [h0, errO_t (by decide)] at e0
    rw [errO_t (by decide)]
    simp! [m_need_born, fcD, fw_lies, fw_held, fw_free, fw_custom, fw_takers, fw_cut, fw_born, fw_driven, fw_pass, fw_render, fw_paid, fw_claim, e0]
theorem look_driven (b f d : Int) : m_need_driven [.dat (fcD (.driven b f d))] = errO (fcC (.driven b f d)) (.dat (fcD (.driven b f d))) := by
  have e0 := nfield_x f
  have e1 := nday_x d
  have bn : ∀ {lo hi n : Int}, nB lo hi n = true → lo ≤ n → ¬ n ≤ hi := fun {lo hi n} h h1 h2 => by
    rw [nB_f.mpr ⟨h1, h2⟩] at h
    cases h
  simp only [fcC]
  cases h0 : nB 1 12 f
  case false =>
    rw [h0, errO_f, errO_n] at e0
    rw [errO_f]
    cases h1 : nB 0 3999 d
    case false =>
      rw [h1, errO_f, errO_n] at e1
      rw [errO_f]
      rw [errO_n]
      simp! [m_need_driven, fcD, fw_lies, fw_held, fw_free, fw_custom, fw_takers, fw_cut, fw_born, fw_driven, fw_pass, fw_render, fw_paid, fw_claim, e0, e1]
    case true =>
      rw [h1, errO_t (by decide)] at e1
      rw [errO_t (by decide)]
      simp! [m_need_driven, fcD, fw_lies, fw_held, fw_free, fw_custom, fw_takers, fw_cut, fw_born, fw_driven, fw_pass, fw_render, fw_paid, fw_claim, e0, e1]
  case true =>
    rw [h0, errO_t (by decide)] at e0
    rw [errO_t (by decide)]
    simp! [m_need_driven, fcD, fw_lies, fw_held, fw_free, fw_custom, fw_takers, fw_cut, fw_born, fw_driven, fw_pass, fw_render, fw_paid, fw_claim, e0]
theorem look_pass (h i d : Int) : m_need_pass [.dat (fcD (.pass h i d))] = errO (fcC (.pass h i d)) (.dat (fcD (.pass h i d))) := by
  have e0 := nholder_x h
  have e1 := nholder_x i
  have e3 := nday_x d
  have bn : ∀ {lo hi n : Int}, nB lo hi n = true → lo ≤ n → ¬ n ≤ hi := fun {lo hi n} h h1 h2 => by
    rw [nB_f.mpr ⟨h1, h2⟩] at h
    cases h
  simp only [fcC]
  cases h0 : nB 1 8 h
  case false =>
    rw [h0, errO_f, errO_n] at e0
    rw [errO_f]
    cases h1 : nB 1 8 i
    case false =>
      rw [h1, errO_f, errO_n] at e1
      rw [errO_f]
      by_cases h2 : h = i
      · rw [decide_eq_true h2, errO_t (by decide)]
        simp! [m_need_pass, fcD, fw_lies, fw_held, fw_free, fw_custom, fw_takers, fw_cut, fw_born, fw_driven, fw_pass, fw_render, fw_paid, fw_claim, e0, e1, h2]
      · rw [decide_eq_false h2, errO_f]
        cases h3 : nB 0 3999 d
        case false =>
          rw [h3, errO_f, errO_n] at e3
          rw [errO_f]
          rw [errO_n]
          simp! [m_need_pass, fcD, fw_lies, fw_held, fw_free, fw_custom, fw_takers, fw_cut, fw_born, fw_driven, fw_pass, fw_render, fw_paid, fw_claim, e0, e1, h2, e3]
        case true =>
          rw [h3, errO_t (by decide)] at e3
          rw [errO_t (by decide)]
          simp! [m_need_pass, fcD, fw_lies, fw_held, fw_free, fw_custom, fw_takers, fw_cut, fw_born, fw_driven, fw_pass, fw_render, fw_paid, fw_claim, e0, e1, h2, e3]
    case true =>
      rw [h1, errO_t (by decide)] at e1
      rw [errO_t (by decide)]
      simp! [m_need_pass, fcD, fw_lies, fw_held, fw_free, fw_custom, fw_takers, fw_cut, fw_born, fw_driven, fw_pass, fw_render, fw_paid, fw_claim, e0, e1]
  case true =>
    rw [h0, errO_t (by decide)] at e0
    rw [errO_t (by decide)]
    simp! [m_need_pass, fcD, fw_lies, fw_held, fw_free, fw_custom, fw_takers, fw_cut, fw_born, fw_driven, fw_pass, fw_render, fw_paid, fw_claim, e0]
theorem look_render (h p k d n : Int) : m_need_laid [.dat (fcD (.render h p k d n))] = errO (fcC (.render h p k d n)) (.dat (fcD (.render h p k d n))) := by
  have e0 := nholder_x h
  have e1 := nparish_x p
  have e2 := nkind_x k
  have e3 := nday_x d
  have e4 := ncount_x n
  have bn : ∀ {lo hi n : Int}, nB lo hi n = true → lo ≤ n → ¬ n ≤ hi := fun {lo hi n} h h1 h2 => by
    rw [nB_f.mpr ⟨h1, h2⟩] at h
    cases h
  simp only [fcC]
  cases h0 : nB 1 8 h
  case false =>
    rw [h0, errO_f, errO_n] at e0
    rw [errO_f]
    cases h1 : nB 1 8 p
    case false =>
      rw [h1, errO_f, errO_n] at e1
      rw [errO_f]
      cases h2 : nB 1 6 k
      case false =>
        rw [h2, errO_f, errO_n] at e2
        rw [errO_f]
        cases h3 : nB 0 3999 d
        case false =>
          rw [h3, errO_f, errO_n] at e3
          rw [errO_f]
          cases h4 : nB 1 10000 n
          case false =>
            rw [h4, errO_f, errO_n] at e4
            rw [errO_f]
            rw [errO_n]
            simp! [m_need_laid, fcD, fw_lies, fw_held, fw_free, fw_custom, fw_takers, fw_cut, fw_born, fw_driven, fw_pass, fw_render, fw_paid, fw_claim, e0, e1, e2, e3, e4]
          case true =>
            rw [h4, errO_t (by decide)] at e4
            rw [errO_t (by decide)]
            simp! [m_need_laid, fcD, fw_lies, fw_held, fw_free, fw_custom, fw_takers, fw_cut, fw_born, fw_driven, fw_pass, fw_render, fw_paid, fw_claim, e0, e1, e2, e3, e4]
        case true =>
          rw [h3, errO_t (by decide)] at e3
          rw [errO_t (by decide)]
          simp! [m_need_laid, fcD, fw_lies, fw_held, fw_free, fw_custom, fw_takers, fw_cut, fw_born, fw_driven, fw_pass, fw_render, fw_paid, fw_claim, e0, e1, e2, e3]
      case true =>
        rw [h2, errO_t (by decide)] at e2
        rw [errO_t (by decide)]
        simp! [m_need_laid, fcD, fw_lies, fw_held, fw_free, fw_custom, fw_takers, fw_cut, fw_born, fw_driven, fw_pass, fw_render, fw_paid, fw_claim, e0, e1, e2]
    case true =>
      rw [h1, errO_t (by decide)] at e1
      rw [errO_t (by decide)]
      simp! [m_need_laid, fcD, fw_lies, fw_held, fw_free, fw_custom, fw_takers, fw_cut, fw_born, fw_driven, fw_pass, fw_render, fw_paid, fw_claim, e0, e1]
  case true =>
    rw [h0, errO_t (by decide)] at e0
    rw [errO_t (by decide)]
    simp! [m_need_laid, fcD, fw_lies, fw_held, fw_free, fw_custom, fw_takers, fw_cut, fw_born, fw_driven, fw_pass, fw_render, fw_paid, fw_claim, e0]
theorem look_paid (h p k d n : Int) : m_need_laid [.dat (fcD (.paid h p k d n))] = errO (fcC (.paid h p k d n)) (.dat (fcD (.paid h p k d n))) := by
  have e0 := nholder_x h
  have e1 := nparish_x p
  have e2 := nkind_x k
  have e3 := nday_x d
  have e4 := npence_x n
  have bn : ∀ {lo hi n : Int}, nB lo hi n = true → lo ≤ n → ¬ n ≤ hi := fun {lo hi n} h h1 h2 => by
    rw [nB_f.mpr ⟨h1, h2⟩] at h
    cases h
  simp only [fcC]
  cases h0 : nB 1 8 h
  case false =>
    rw [h0, errO_f, errO_n] at e0
    rw [errO_f]
    cases h1 : nB 1 8 p
    case false =>
      rw [h1, errO_f, errO_n] at e1
      rw [errO_f]
      cases h2 : nB 1 6 k
      case false =>
        rw [h2, errO_f, errO_n] at e2
        rw [errO_f]
        cases h3 : nB 0 3999 d
        case false =>
          rw [h3, errO_f, errO_n] at e3
          rw [errO_f]
          cases h4 : nB 0 1000 n
          case false =>
            rw [h4, errO_f, errO_n] at e4
            rw [errO_f]
            rw [errO_n]
            simp! [m_need_laid, fcD, fw_lies, fw_held, fw_free, fw_custom, fw_takers, fw_cut, fw_born, fw_driven, fw_pass, fw_render, fw_paid, fw_claim, e0, e1, e2, e3, e4]
          case true =>
            rw [h4, errO_t (by decide)] at e4
            rw [errO_t (by decide)]
            simp! [m_need_laid, fcD, fw_lies, fw_held, fw_free, fw_custom, fw_takers, fw_cut, fw_born, fw_driven, fw_pass, fw_render, fw_paid, fw_claim, e0, e1, e2, e3, e4]
        case true =>
          rw [h3, errO_t (by decide)] at e3
          rw [errO_t (by decide)]
          simp! [m_need_laid, fcD, fw_lies, fw_held, fw_free, fw_custom, fw_takers, fw_cut, fw_born, fw_driven, fw_pass, fw_render, fw_paid, fw_claim, e0, e1, e2, e3]
      case true =>
        rw [h2, errO_t (by decide)] at e2
        rw [errO_t (by decide)]
        simp! [m_need_laid, fcD, fw_lies, fw_held, fw_free, fw_custom, fw_takers, fw_cut, fw_born, fw_driven, fw_pass, fw_render, fw_paid, fw_claim, e0, e1, e2]
    case true =>
      rw [h1, errO_t (by decide)] at e1
      rw [errO_t (by decide)]
      simp! [m_need_laid, fcD, fw_lies, fw_held, fw_free, fw_custom, fw_takers, fw_cut, fw_born, fw_driven, fw_pass, fw_render, fw_paid, fw_claim, e0, e1]
  case true =>
    rw [h0, errO_t (by decide)] at e0
    rw [errO_t (by decide)]
    simp! [m_need_laid, fcD, fw_lies, fw_held, fw_free, fw_custom, fw_takers, fw_cut, fw_born, fw_driven, fw_pass, fw_render, fw_paid, fw_claim, e0]
theorem look_claim (f p : Int) : m_need_claim [.dat (fcD (.claim f p))] = errO (fcC (.claim f p)) (.dat (fcD (.claim f p))) := by
  have e0 := nfield_x f
  have e1 := nparish_x p
  have bn : ∀ {lo hi n : Int}, nB lo hi n = true → lo ≤ n → ¬ n ≤ hi := fun {lo hi n} h h1 h2 => by
    rw [nB_f.mpr ⟨h1, h2⟩] at h
    cases h
  simp only [fcC]
  cases h0 : nB 1 12 f
  case false =>
    rw [h0, errO_f, errO_n] at e0
    rw [errO_f]
    cases h1 : nB 1 8 p
    case false =>
      rw [h1, errO_f, errO_n] at e1
      rw [errO_f]
      rw [errO_n]
      simp! [m_need_claim, fcD, fw_lies, fw_held, fw_free, fw_custom, fw_takers, fw_cut, fw_born, fw_driven, fw_pass, fw_render, fw_paid, fw_claim, e0, e1]
    case true =>
      rw [h1, errO_t (by decide)] at e1
      rw [errO_t (by decide)]
      simp! [m_need_claim, fcD, fw_lies, fw_held, fw_free, fw_custom, fw_takers, fw_cut, fw_born, fw_driven, fw_pass, fw_render, fw_paid, fw_claim, e0, e1]
  case true =>
    rw [h0, errO_t (by decide)] at e0
    rw [errO_t (by decide)]
    simp! [m_need_claim, fcD, fw_lies, fw_held, fw_free, fw_custom, fw_takers, fw_cut, fw_born, fw_driven, fw_pass, fw_render, fw_paid, fw_claim, e0]
theorem look_custom (p k y : Int) (c : Cu) : m_need_custom_fact [.dat (fcD (.custom p k y c))] = errO (fcC (.custom p k y c)) (.dat (fcD (.custom p k y c))) := by
  have e0 := nparish_x p
  have e1 := nkind_x k
  have e2 := nyear_x y
  have e3 := ncu_x c
  simp only [fcC, fcD]
  generalize cuD c = cd at *
  generalize cuC c = cc at *
  cases h0 : nB 1 8 p
  case true =>
    rw [h0, errO_t (by decide)] at e0
    rw [errO_t (by decide)]
    simp! [m_need_custom_fact, e0]
  case false =>
    rw [h0, errO_f, errO_n] at e0
    rw [errO_f]
    cases h1 : nB 1 6 k
    case true =>
      rw [h1, errO_t (by decide)] at e1
      rw [errO_t (by decide)]
      simp! [m_need_custom_fact, e0, e1]
    case false =>
      rw [h1, errO_f, errO_n] at e1
      rw [errO_f]
      cases h2 : nB 0 39 y
      case true =>
        rw [h2, errO_t (by decide)] at e2
        rw [errO_t (by decide)]
        simp! [m_need_custom_fact, e0, e1, e2]
      case false =>
        rw [h2, errO_f, errO_n] at e2
        rw [errO_f]
        unfold errO at e3 ⊢
        split at e3
        · rename_i hh
          rw [if_pos hh]
          simp! [m_need_custom_fact, e0, e1, e2, e3]
        · rename_i hh
          rw [if_neg hh]
          simp! [m_need_custom_fact, e0, e1, e2, e3]
theorem look_kinds (p k y n : Int) : m_need_custom_fact [.dat (fxD (.kinds p k y n))] = errO (fxC (.kinds p k y n)) (.dat (fxD (.kinds p k y n))) := by
  have e0 := nparish_x p
  have e1 := nkind_x k
  have e2 := nyear_x y
  have e3 := ncuk_x n
  simp only [fxC, fxD]
  cases h0 : nB 1 8 p
  case true =>
    rw [h0, errO_t (by decide)] at e0
    rw [errO_t (by decide)]
    simp! [m_need_custom_fact, e0]
  case false =>
    rw [h0, errO_f, errO_n] at e0
    rw [errO_f]
    cases h1 : nB 1 6 k
    case true =>
      rw [h1, errO_t (by decide)] at e1
      rw [errO_t (by decide)]
      simp! [m_need_custom_fact, e0, e1]
    case false =>
      rw [h1, errO_f, errO_n] at e1
      rw [errO_f]
      cases h2 : nB 0 39 y
      case true =>
        rw [h2, errO_t (by decide)] at e2
        rw [errO_t (by decide)]
        simp! [m_need_custom_fact, e0, e1, e2]
      case false =>
        rw [h2, errO_f, errO_n] at e2
        rw [errO_f]
        rw [errO_t (by decide)]
        simp! [m_need_custom_fact, e0, e1, e2, e3]
theorem look_takers (p k y u : Int) (q : Int × Int) (v : Int) (h : qSm q) : m_need_takers_fact [.dat (fcD (.takers p k y u q v))] = errO (fcC (.takers p k y u q v)) (.dat (fcD (.takers p k y u q v))) := by
  have e0 := nparish_x p
  have e1 := nkind_x k
  have e2 := nyear_x y
  have e3 := ntwo_x u q v h
  simp only [fcC, fcD]
  simp only [pp] at e3
  generalize [(nB 1 6 u, ("BadTaker" : Str)), (noPart q, "BadPart"), (nB 1 6 v, "BadTaker"), (decide (u = v), "Same")] = cc at *
  cases h0 : nB 1 8 p
  case true =>
    rw [h0, errO_t (by decide)] at e0
    rw [errO_t (by decide)]
    simp! [m_need_takers_fact, e0]
  case false =>
    rw [h0, errO_f, errO_n] at e0
    rw [errO_f]
    cases h1 : nB 1 6 k
    case true =>
      rw [h1, errO_t (by decide)] at e1
      rw [errO_t (by decide)]
      simp! [m_need_takers_fact, e0, e1]
    case false =>
      rw [h1, errO_f, errO_n] at e1
      rw [errO_f]
      cases h2 : nB 0 39 y
      case true =>
        rw [h2, errO_t (by decide)] at e2
        rw [errO_t (by decide)]
        simp! [m_need_takers_fact, e0, e1, e2]
      case false =>
        rw [h2, errO_f, errO_n] at e2
        rw [errO_f]
        unfold errO
        unfold twoO at e3
        split at e3
        · rename_i hh
          rw [if_pos hh]
          simp! [m_need_takers_fact, e0, e1, e2, e3]
        · rename_i hh
          rw [if_neg hh]
          simp! [m_need_takers_fact, e0, e1, e2, e3]
/-- what is known of a bent fact -/
def FxSm : Fx → Prop
  | .f (.takers _ _ _ _ q _) => qSm q
  | _ => True
theorem need_g {w : Str} {d : PyData} {m : List OD → FOut} {c : List (Bool × Str)} (e1 : fIx d (.int 0) = some (.dat (.str w))) (e2 : k_LOOKS.contains w = true) (e3 : f_LOOKS.lookup w = some m) (h : m [.dat d] = errO c (.dat d)) : m_need_fact [.dat d] = errO c (.dat d) := by
  unfold errO at h ⊢
  split at h
  · rename_i hh
    rw [if_pos hh]
    simp! [m_need_fact, e1, e2, e3, h]
  · rename_i hh
    rw [if_neg hh]
    simp! [m_need_fact, e1, e2, e3, h]
theorem need_fx {x : Fx} (hS : FxSm x) : m_need_fact [.dat (fxD x)] = errO (fxC x) (.dat (fxD x)) := by
  cases x with
  | kinds p k y n => exact need_g (w := "custom") rfl (lk_ok (.custom p k y .non)) (lk_w (.custom p k y .non)) (look_kinds p k y n)
  | f x =>
    refine need_g (fc_w x) (lk_ok x) (lk_w x) ?_
    cases x with
    | lies f p d => exact look_lies f p d
    | held f h d => exact look_held f h d
    | free f a b => exact look_free f a b
    | cut f k d n => exact look_cut f k d n
    | born f k d s w => exact look_born f k d s w
    | driven b f d => exact look_driven b f d
    | pass h i d => exact look_pass h i d
    | render h p k d n => exact look_render h p k d n
    | paid h p k d n => exact look_paid h p k d n
    | claim f p => exact look_claim f p
    | custom p k y c => exact look_custom p k y c
    | takers p k y u q v => exact look_takers p k y u q v hS
theorem wOf_nil : ∀ {c : List (Bool × Str)}, (∀ x ∈ c, (x.2 == "") = false) → (wOf c == "") = true → ∀ x ∈ c, x.1 = false
  | [], _, _, _, hx => by cases hx
  | (b, w) :: r, h, e, x, hx => by
    cases b with
    | true =>
      have z := h (true, w) List.mem_cons_self
      simp only [wOf, if_true] at e
      rw [e] at z
      cases z
    | false =>
      simp only [wOf] at e
      rcases List.mem_cons.mp hx with hx | hx
      · rw [hx]
      · exact wOf_nil (fun y hy => h y (List.mem_cons_of_mem _ hy)) e x hx
/-- no refusal: the fact is good -/
theorem fx_good {x : Fx} (h : FxSm x) (e : (fxE x == "") = true) : ∃ y, x = .f y ∧ FcOk y := by
  have key := fun hc => wOf_nil (c := fxC x) hc e
  cases x with
  | kinds p k y n =>
    have := key (by simp [fxC]; decide) (true, "BadCustom") (by simp [fxC])
    cases this
  | f x =>
    refine ⟨x, rfl, ?_⟩
    cases x
    case custom p k y c =>
      cases c
      all_goals
        have z := key (by simp [fxC, fcC, cuC]; try decide)
        simp [fxC, fcC, cuC, nB_f] at z
        simp only [FcOk, CuOk]
        try exact z
        try exact ⟨z.1, z.2.1, z.2.2, trivial⟩
    case takers p k y u q v =>
      have z := key (by simp [fxC, fcC]; decide)
      simp [fxC, fcC, nB_f, noPart, isPt, gtPt] at z
      obtain ⟨z1, z2, z3, z4, z5, z6, z7⟩ := z
      have h : qSm q := h
      exact ⟨z1, z2, z3, z4, z6, z7, z5.1.1, z5.1.2.1, z5.2, h.2.2, z5.1.2.2⟩
    case born f k d s w =>
      have z := key (by simp [fxC, fcC]; decide)
      simp [fxC, fcC, nB_f] at z
      obtain ⟨z1, z2, z3, z4, z5⟩ := z
      exact ⟨z1, z2, z3, z4.1, z4.2, z5⟩
    case free f a b =>
      have z := key (by simp [fxC, fcC]; decide)
      simp [fxC, fcC, nB_f] at z
      exact ⟨z.1, z.2.1, z.2.2.1, by omega⟩
    all_goals
      have z := key (by simp [fxC, fcC]; try decide)
      simp [fxC, fcC, nB_f] at z
      exact z
/-! facts struck, let again, deeds taken back -/
def setB (K : List Kr) (n : Int) (g : Bool) : List Kr := K.set (n - 1).toNat ((K.getD (n - 1).toNat (.claim 0 0, true)).1, g)
theorem setB_len (K : List Kr) (n : Int) (g : Bool) : (setB K n g).length = K.length := by simp [setB]
theorem setB_map (K : List Kr) (n : Int) (g : Bool) : (setB K n g).map krD = (K.map krD).set (n - 1).toNat (.tuple [fcD (K.getD (n - 1).toNat (.claim 0 0, true)).1, .bool g]) := by
  unfold setB
  rw [List.map_set]
  rfl
theorem ixN_at {n : Nat} {z : Int} (h1 : 1 ≤ z) (h2 : z ≤ n) : ixN n (z - 1) = some (z - 1).toNat := by
  unfold ixN
  have a : 0 ≤ z - 1 := by omega
  have b : z - 1 < (n : Int) := by omega
  rw [if_pos a]
  simp only [b, if_true]
theorem need_number_ok {K : List Kr} {P Q : List PyData} {n : Int} (hl : K.length ≤ 1000) (h1 : 1 ≤ n) (h2 : n ≤ K.length) : m_Book_need_number [bkO (K.map krD) P Q, .dat (.int n)] = .ok (.dat .none) [bkO (K.map krD) P Q, .dat (.int n)] := by
  have ll : (K.map krD).length = K.length := List.length_map ..
  rw [← ll] at h2
  generalize K.map krD = L at *
  simp! [m_Book_need_number, wP, plOd_x, pl_kept, h1, h2]
def strP (K : List Kr) (P : List PyData) (w : Str) (n : Int) : List PyData := P ++ [.tuple [.tuple [.str w, .int n], .list (K.map krD)]]
theorem strike_ok {K : List Kr} {P Q : List PyData} {n : Int} (hP : P.length < 1000000) (hl : K.length ≤ 1000) (h1 : 1 ≤ n) (h2 : n ≤ K.length) (hg : (K.getD (n - 1).toNat (.claim 0 0, true)).2 = true) : m_Book_strike [bkO (K.map krD) P Q, .dat (.int n)] = .ok (.dat .none) [bkO ((setB K n false).map krD) (strP K P "strike" n) [], .dat (.int n)] := by
  have nn := need_number_ok (P := P) (Q := Q) hl h1 h2
  have ka := kr_at K h1 h2
  have re := remember_ok (L := K.map krD) (P := P) (Q := Q) (d := .tuple [.str "strike", .int n]) hP (by rw [List.length_map]; omega)
  have ll : (K.map krD).length = K.length := List.length_map ..
  have ix := ixN_at (n := (K.map krD).length) h1 (by omega)
  rw [setB_map]
  unfold strP
  generalize K.getD (n - 1).toNat (.claim 0 0, true) = kr at *
  obtain ⟨y, g⟩ := kr
  simp only at hg
  subst hg
  simp only [krD] at ka
  simp only
  generalize fcD y = yd at *
  generalize (n - 1).toNat = j at *
  generalize K.map krD = L at *
  simp! [m_Book_strike, lLC_x, bk_lc bkm_need_number, nn, r_Book_strike_1, bk_lc bkm_remember, re, wP, plOd_x, pl_kept, plPut_x, put_kept, ka, sSetP, ix]
theorem keep_ok {K : List Kr} {P Q : List PyData} {n : Int} (hP : P.length < 1000000) (hl : K.length ≤ 1000) (h1 : 1 ≤ n) (h2 : n ≤ K.length) (hg : (K.getD (n - 1).toNat (.claim 0 0, true)).2 = false) : m_Book_keep [bkO (K.map krD) P Q, .dat (.int n)] = .ok (.dat .none) [bkO ((setB K n true).map krD) (strP K P "keep" n) [], .dat (.int n)] := by
  have nn := need_number_ok (P := P) (Q := Q) hl h1 h2
  have ka := kr_at K h1 h2
  have re := remember_ok (L := K.map krD) (P := P) (Q := Q) (d := .tuple [.str "keep", .int n]) hP (by rw [List.length_map]; omega)
  have ll : (K.map krD).length = K.length := List.length_map ..
  have ix := ixN_at (n := (K.map krD).length) h1 (by omega)
  rw [setB_map]
  unfold strP
  generalize K.getD (n - 1).toNat (.claim 0 0, true) = kr at *
  obtain ⟨y, g⟩ := kr
  simp only at hg
  subst hg
  simp only [krD] at ka
  simp only
  generalize fcD y = yd at *
  generalize (n - 1).toNat = j at *
  generalize K.map krD = L at *
  simp! [m_Book_keep, lLC_x, bk_lc bkm_need_number, nn, r_Book_keep_1, bk_lc bkm_remember, re, wP, plOd_x, pl_kept, plPut_x, put_kept, ka, sSetP, ix]
/-- what is good of the rows behind -/
structure PastOk (P : List PyData) : Prop where
  len : P.length ≤ 100000
  gd : ∀ d ∈ P, Gd 5 d
theorem past_nil : PastOk [] := ⟨by simp, fun d hd => by cases hd⟩
theorem gd_krs {K : List Kr} (h : K.length ≤ 1000) : Gd 4 (.list (K.map krD)) := gd_lst (by simp [gz]; omega) fun d hd => by
  obtain ⟨x, _, rfl⟩ := List.mem_map.mp hd
  exact gd_tup (by simp [gz]) fun e he => by
    simp only [List.mem_cons, List.not_mem_nil, or_false] at he
    rcases he with rfl | rfl
    · exact gd_fc _
    · exact gd_bool 2 _
theorem past_snoc {P : List PyData} (h : PastOk P) (hl : P.length < 100000) {d e : PyData} (hd : Gd 4 d) (he : Gd 4 e) : PastOk (P ++ [.tuple [d, e]]) := by
  refine ⟨by simp; omega, fun x hx => ?_⟩
  rcases List.mem_append.mp hx with hx | hx
  · exact h.gd x hx
  · rw [List.mem_singleton.mp hx]
    exact gd_tup (by simp [gz]) fun y hy => by
      simp only [List.mem_cons, List.not_mem_nil, or_false] at hy
      rcases hy with rfl | rfl
      · exact hd
      · exact he
theorem past_tell {P : List PyData} {K : List Kr} (h : PastOk P) (hl : P.length < 100000) (hk : K.length ≤ 1000) (x : Fc) : PastOk (tellP K P x) := past_snoc h hl ((gd_tup (n := 2) (by simp [gz]) fun y hy => by
  simp only [List.mem_cons, List.not_mem_nil, or_false] at hy
  rcases hy with rfl | rfl
  · exact gd_s 2 (by decide +kernel)
  · exact gd_fc _).le (by decide)) (gd_krs hk)
theorem past_ne {P : List PyData} (h : PastOk P) (hn : P ≠ []) : fEq (.list P) (.list []) = ob false := by
  have hl := h.len
  have g1 : Gd 6 (.list P) := gd_lst (by unfold gz; omega) h.gd
  have g2 : Gd 1 (.list []) := gd_lst (by simp) fun d hd => by cases hd
  unfold fEq
  rw [if_pos ⟨g1.shaped (by decide), g2.shaped (by decide)⟩]
  congr 1
  cases P
  · exact absurd rfl hn
  · simp [PyData.eqv, PyData.eqvAll]
theorem undo_ok {L P Q M : List PyData} {d : PyData} (hQ : Q.length < 1000000) (hP : P.length < 1000000) (hL : L.length ≤ 1000000) (hM : M.length ≤ 1000000) (hg : PastOk (P ++ [.tuple [d, .list M]])) : m_Book_undo [bkO L (P ++ [.tuple [d, .list M]]) Q] = .ok (.dat d) [bkO M P (Q ++ [.tuple [d, .list L]])] := by
  have e1 : (P ++ [PyData.tuple [d, .list M]])[(P ++ [PyData.tuple [d, .list M]]).length - 1]? = some (.tuple [d, .list M]) := by simp
  have e2 : (P ++ [PyData.tuple [d, .list M]]).dropLast = P := by simp
  have e3 : fEq (.list (P ++ [PyData.tuple [d, .list M]])) (.list []) = some (.dat (.bool false)) := by
    rw [past_ne hg (by simp)]
    rfl
  generalize P ++ [PyData.tuple [d, .list M]] = R at *
  simp! [m_Book_undo, wP, plOd_x, pl_past, e3, r_Book_undo_1, vMutP, fPop, e1, e2, plPut_x, put_past, put_fut, pl_fut, pl_kept, sFldP_x, fld_kept, hQ, hL, hM]
theorem wOf_app : ∀ {c r : List (Bool × Str)}, (∀ x ∈ c, (x.2 == "") = false) → wOf (c ++ r) = if (wOf c == "") = true then wOf r else wOf c
  | [], r, _ => by
    have : (("" : Str) == "") = true := by decide
    simp [wOf, this]
  | (b, w) :: c, r, h => by
    cases b with
    | true =>
      have z := h (true, w) List.mem_cons_self
      simp only [List.cons_append, wOf, if_true]
      rw [z]
      simp
    | false =>
      have z := wOf_app (r := r) fun y hy => h y (List.mem_cons_of_mem _ hy)
      simpa [wOf] using z
theorem cuC_ne (c : Cu) : ∀ y ∈ cuC c, (y.2 == "") = false := by
  cases c <;> simp [cuC] <;> decide
theorem fxC_ne (x : Fx) : ∀ y ∈ fxC x, (y.2 == "") = false := by
  cases x with
  | kinds p k y n =>
    simp [fxC]
    decide
  | f x =>
    cases x
    case custom p k y c =>
      intro z hz
      have e : fxC (.f (.custom p k y c)) = [(nB 1 8 p, ("BadParish" : Str)), (nB 1 6 k, "BadKind"), (nB 0 39 y, "BadYear")] ++ cuC c := rfl
      rw [e] at hz
      rcases List.mem_append.mp hz with hz | hz
      · simp only [List.mem_cons, List.not_mem_nil, or_false] at hz
        rcases hz with rfl | rfl | rfl
        · exact (by decide : (("BadParish" : Str) == "") = false)
        · exact (by decide : (("BadKind" : Str) == "") = false)
        · exact (by decide : (("BadYear" : Str) == "") = false)
      · exact cuC_ne c z hz
    all_goals
      simp [fxC, fcC]
      try decide
inductive Dd where
  | tell (x : Fx) | strike (n : Int) | keep (n : Int)
abbrev krA (K : List Kr) (n : Int) : Kr := K.getD (n - 1).toNat (.claim 0 0, true)
def inK (K : List Kr) (n : Int) : Bool := decide (1 ≤ n) && decide (n ≤ (K.length : Int))
def krB (K : List Kr) (b : Int) : Bool := inK K b && isBorn (krA K b).1
def fullB (K : List Kr) : Fx → Bool
  | .f x => decide (150 ≤ K.length) || (isBorn x && decide (40 ≤ manyB K isBorn)) || (isClaim x && decide (6 ≤ manyB K isClaim))
  | .kinds .. => decide (150 ≤ K.length)
abbrev fullC (b : Bool) : List (Bool × Str) := [(b, "Full")]
def tellC (K : List Kr) : Fx → List (Bool × Str)
  | .f (.driven b f d) => (!krB K b, "NoBeast") :: (fxC (.f (.driven b f d)) ++ fullC (fullB K (.f (.driven b f d))))
  | x => fxC x ++ fullC (fullB K x)
def ddC (K : List Kr) : Dd → List (Bool × Str)
  | .tell x => tellC K x
  | .strike n => [(!inK K n, "NoFact"), (!(krA K n).2, "Struck")]
  | .keep n => [(!inK K n, "NoFact"), ((krA K n).2, "Kept")]
abbrev ddW (K : List Kr) (d : Dd) : Str := wOf (ddC K d)
theorem inK_iff {K : List Kr} {n : Int} : inK K n = true ↔ 1 ≤ n ∧ n ≤ (K.length : Int) := by simp [inK]
/-! telling -/
theorem need_beast_no {K : List Kr} {P Q : List PyData} {b : Int} (hl : K.length ≤ 1000) (h : krB K b = false) : m_Book_need_beast [bkO (K.map krD) P Q, .dat (.int b)] = .err ⟨"NoBeast", []⟩ [bkO (K.map krD) P Q, .dat (.int b)] := by
  have ll : (K.map krD).length = K.length := List.length_map ..
  by_cases h1 : 1 ≤ b
  · by_cases h2 : b ≤ (K.length : Int)
    · have ka := kr_at K h1 h2
      have hi : inK K b = true := inK_iff.mpr ⟨h1, h2⟩
      unfold krB at h
      rw [hi, Bool.true_and] at h
      unfold krA at h
      generalize K.getD (b - 1).toNat (.claim 0 0, true) = kr at *
      obtain ⟨y, g⟩ := kr
      rw [← ll] at h2
      simp only [krD] at ka
      clear hi ll hl
      generalize K.map krD = L at *
      cases y
      case born => cases h
      all_goals
        simp only [fcD] at ka
        simp! [m_Book_need_beast, wP, plOd_x, pl_kept, h1, h2, ka, fn_born]
    · rw [← ll] at h2
      generalize K.map krD = L at *
      simp! [m_Book_need_beast, wP, plOd_x, pl_kept, h1, h2]
  · generalize K.map krD = L at *
    simp! [m_Book_need_beast, wP, plOd_x, pl_kept, h1]
theorem need_room_no {K : List Kr} {P Q : List PyData} {x : Fc} (hl : K.length ≤ 1000) (h : fullB K (.f x) = true) : m_Book_need_room [bkO (K.map krD) P Q, .dat (fcD x)] = .err ⟨"Full", []⟩ [bkO (K.map krD) P Q, .dat (fcD x)] := by
  have mb := many_born (K := K) (P := P) (Q := Q) (by omega)
  have mc := many_claim (K := K) (P := P) (Q := Q) (by omega)
  have ll : (K.map krD).length = K.length := List.length_map ..
  unfold fullB at h
  by_cases h1 : (150 : Int) ≤ (K.length : Int)
  · rw [← ll] at h1
    generalize K.map krD = L at *
    simp! [m_Book_need_room, wP, plOd_x, pl_kept, h1, c_MOST_FACTS]
  · have h0 : ¬ 150 ≤ K.length := by omega
    rw [← ll] at h1
    simp only [h0, decide_false, Bool.false_or] at h
    generalize K.map krD = L at *
    cases x
    case born f k d s w =>
      have h2 : (40 : Int) ≤ (manyB K isBorn : Int) := by simp [isBorn, isClaim] at h; omega
      simp! [m_Book_need_room, wP, plOd_x, pl_kept, h1, c_MOST_FACTS, r_Book_need_room_1, fcD, fw_lies, fw_held, fw_free, fw_custom, fw_takers, fw_cut, fw_born, fw_driven, fw_pass, fw_render, fw_paid, fw_claim, lLC_x, bk_lc bkm_many_of, mb, c_MOST_BIRTHS, h2]
    case claim f p =>
      have h2 : (6 : Int) ≤ (manyB K isClaim : Int) := by simp [isBorn, isClaim] at h; omega
      simp! [m_Book_need_room, wP, plOd_x, pl_kept, h1, c_MOST_FACTS, r_Book_need_room_1, fcD, fw_lies, fw_held, fw_free, fw_custom, fw_takers, fw_cut, fw_born, fw_driven, fw_pass, fw_render, fw_paid, fw_claim, lLC_x, bk_lc bkm_many_of, mc, c_MOST_CLAIMS, h2]
    all_goals simp [isBorn, isClaim] at h
section
variable {L P Q : List PyData} {D : PyData} {c : List (Bool × Str)}
theorem tell1_no (nf : m_need_fact [.dat D] = errO c (.dat D)) (h : (wOf c == "") = false) : r_Book_tell_1 [.pin (bkO L P Q), .pin (.dat D)] = .err ⟨wOf c, []⟩ [.pin (bkO L P Q), .pin (.dat D)] := by
  unfold errO at nf
  rw [if_neg (by rw [h]; simp)] at nf
  generalize wOf c = w at *
  simp! [r_Book_tell_1, nf]
theorem tell1_full (nf : m_need_fact [.dat D] = errO c (.dat D)) (h : (wOf c == "") = true) (nr : m_Book_need_room [bkO L P Q, .dat D] = .err ⟨"Full", []⟩ [bkO L P Q, .dat D]) : r_Book_tell_1 [.pin (bkO L P Q), .pin (.dat D)] = .err ⟨"Full", []⟩ [.pin (bkO L P Q), .pin (.dat D)] := by
  unfold errO at nf
  rw [if_pos h] at nf
  simp! [r_Book_tell_1, nf, lLC_x, bk_lc bkm_need_room, nr]
end
theorem fx_word {x : Fx} (h : ∀ b f d, x ≠ .f (.driven b f d)) : ∃ w r, fxD x = .tuple (.str w :: r) ∧ fEq (.str w) (.str "driven") = some (.dat (.bool false)) := by
  cases x with
  | kinds p k y n => exact ⟨_, _, rfl, fEq_s false (by decide +kernel)⟩
  | f x =>
    cases x
    case driven b f d => exact absurd rfl (h b f d)
    all_goals exact ⟨_, _, rfl, fEq_s false (by decide +kernel)⟩
theorem tell_no {K : List Kr} {P Q : List PyData} {x : Fx} (hl : K.length ≤ 150) (hS : FxSm x) (h : (wOf (tellC K x) == "") = false) : m_Book_tell [bkO (K.map krD) P Q, .dat (fxD x)] = .err ⟨wOf (tellC K x), []⟩ [bkO (K.map krD) P Q, .dat (fxD x)] := by
  have nf := need_fx hS
  have rest : ∀ b : Bool, (∀ y, x = .f y → b = fullB K x) → (wOf (fxC x ++ fullC b) == "") = false → r_Book_tell_1 [.pin (bkO (K.map krD) P Q), .pin (.dat (fxD x))] = .err ⟨wOf (fxC x ++ fullC b), []⟩ [.pin (bkO (K.map krD) P Q), .pin (.dat (fxD x))] := fun b hb hw => by
    rw [wOf_app (fxC_ne x)] at hw ⊢
    cases hc : (wOf (fxC x) == "")
    · rw [if_neg (by simp)]
      exact tell1_no nf hc
    · rw [if_pos rfl]
      rw [hc, if_pos rfl] at hw
      obtain ⟨y, rfl, _⟩ := fx_good hS hc
      have eb := hb y rfl
      cases b with
      | false =>
        have : (wOf [(false, ("Full" : Str))] == "") = true := by decide
        rw [this] at hw
        cases hw
      | true => exact tell1_full nf hc (need_room_no (by omega) eb.symm)
  by_cases hd : ∃ b f d, x = .f (.driven b f d)
  · obtain ⟨b, f, d, rfl⟩ := hd
    simp only [tellC] at h ⊢
    cases hk : krB K b
    · have nb := need_beast_no (P := P) (Q := Q) (by omega) hk
      simp only [hk, Bool.not_false, wOf, if_true]
      simp only [fxD, fcD] at *
      generalize K.map krD = L at *
      simp! [m_Book_tell, fw_lies, fw_held, fw_free, fw_custom, fw_takers, fw_cut, fw_born, fw_driven, fw_pass, fw_render, fw_paid, fw_claim, lLC_x, bk_lc bkm_need_beast, nb]
    · have hk' := hk
      unfold krB at hk'
      rw [Bool.and_eq_true] at hk'
      obtain ⟨h1, h2⟩ := inK_iff.mp hk'.1
      have nb := need_beast_ok (K := K) (P := P) (Q := Q) (by omega) h1 h2 hk'.2
      simp only [hk, Bool.not_true, wOf, Bool.false_eq_true, if_false] at h ⊢
      have r1 := rest (fullB K (.f (.driven b f d))) (fun _ _ => rfl) h
      clear rest hk hk' nf
      generalize wOf (fxC (.f (.driven b f d)) ++ fullC (fullB K (.f (.driven b f d)))) = w at *
      simp only [fxD, fcD] at *
      generalize K.map krD = L at *
      simp! [m_Book_tell, fw_lies, fw_held, fw_free, fw_custom, fw_takers, fw_cut, fw_born, fw_driven, fw_pass, fw_render, fw_paid, fw_claim, lLC_x, bk_lc bkm_need_beast, nb, r1]
  · have hd' : ∀ b f d, x ≠ .f (.driven b f d) := fun b f d e => hd ⟨b, f, d, e⟩
    have et : tellC K x = fxC x ++ fullC (fullB K x) := by
      cases x with
      | kinds p k y n => rfl
      | f x =>
        cases x
        case driven b f d => exact absurd rfl (hd' b f d)
        all_goals rfl
    rw [et] at h ⊢
    have r1 := rest (fullB K x) (fun _ _ => rfl) h
    obtain ⟨w, r, e1, e2⟩ := fx_word hd'
    clear rest nf et
    generalize wOf (fxC x ++ fullC (fullB K x)) = w at *
    rw [e1] at r1 ⊢
    generalize K.map krD = L at *
    simp! [m_Book_tell, e2, r1]
/-! striking, keeping -/
theorem need_number_no {K : List Kr} {P Q : List PyData} {n : Int} (hl : K.length ≤ 1000) (h : inK K n = false) : m_Book_need_number [bkO (K.map krD) P Q, .dat (.int n)] = .err ⟨"NoFact", []⟩ [bkO (K.map krD) P Q, .dat (.int n)] := by
  have ll : (K.map krD).length = K.length := List.length_map ..
  by_cases h1 : 1 ≤ n
  · have h2 : ¬ n ≤ ((K.map krD).length : Int) := fun z => by
      rw [ll] at z
      rw [inK_iff.mpr ⟨h1, z⟩] at h
      cases h
    generalize K.map krD = L at *
    simp! [m_Book_need_number, wP, plOd_x, pl_kept, h1, h2]
  · generalize K.map krD = L at *
    simp! [m_Book_need_number, wP, plOd_x, pl_kept, h1]
theorem strike_no {K : List Kr} {P Q : List PyData} {n : Int} (hl : K.length ≤ 1000) (h : (ddW K (.strike n) == "") = false) : m_Book_strike [bkO (K.map krD) P Q, .dat (.int n)] = .err ⟨ddW K (.strike n), []⟩ [bkO (K.map krD) P Q, .dat (.int n)] := by
  simp only [ddW, ddC] at h ⊢
  cases hi : inK K n
  · have nn := need_number_no (P := P) (Q := Q) hl hi
    simp only [wOf, Bool.not_false, if_true]
    generalize K.map krD = L at *
    simp! [m_Book_strike, lLC_x, bk_lc bkm_need_number, nn]
  · obtain ⟨h1, h2⟩ := inK_iff.mp hi
    have nn := need_number_ok (K := K) (P := P) (Q := Q) hl h1 h2
    have ka := kr_at K h1 h2
    cases hg : (krA K n).2
    · have ka : fIx (.list (K.map krD)) (.int (n - 1)) = some (.dat (.tuple [fcD (krA K n).1, .bool false])) := by
        rw [ka]
        unfold krD
        rw [hg]
      simp only [hi, hg, wOf, Bool.not_true, Bool.not_false, Bool.false_eq_true, if_false, if_true]
      generalize fcD (krA K n).1 = yd at *
      generalize K.map krD = L at *
      simp! [m_Book_strike, lLC_x, bk_lc bkm_need_number, nn, wP, plOd_x, pl_kept, ka]
    · simp only [hi, hg, wOf, Bool.not_true, Bool.false_eq_true, if_false] at h
      cases h
theorem keep_no {K : List Kr} {P Q : List PyData} {n : Int} (hl : K.length ≤ 1000) (h : (ddW K (.keep n) == "") = false) : m_Book_keep [bkO (K.map krD) P Q, .dat (.int n)] = .err ⟨ddW K (.keep n), []⟩ [bkO (K.map krD) P Q, .dat (.int n)] := by
  simp only [ddW, ddC] at h ⊢
  cases hi : inK K n
  · have nn := need_number_no (P := P) (Q := Q) hl hi
    simp only [wOf, Bool.not_false, if_true]
    generalize K.map krD = L at *
    simp! [m_Book_keep, lLC_x, bk_lc bkm_need_number, nn]
  · obtain ⟨h1, h2⟩ := inK_iff.mp hi
    have nn := need_number_ok (K := K) (P := P) (Q := Q) hl h1 h2
    have ka := kr_at K h1 h2
    cases hg : (krA K n).2
    · simp only [hi, hg, wOf, Bool.not_true, Bool.false_eq_true, if_false] at h
      cases h
    · have ka : fIx (.list (K.map krD)) (.int (n - 1)) = some (.dat (.tuple [fcD (krA K n).1, .bool true])) := by
        rw [ka]
        unfold krD
        rw [hg]
      simp only [hi, hg, wOf, Bool.not_true, Bool.false_eq_true, if_false, if_true]
      generalize fcD (krA K n).1 = yd at *
      generalize K.map krD = L at *
      simp! [m_Book_keep, lLC_x, bk_lc bkm_need_number, nn, wP, plOd_x, pl_kept, ka]
theorem BkOk.set {K : List Kr} (hK : BkOk K) (n : Int) (g : Bool) : BkOk (setB K n g) := by
  have mem : ∀ x ∈ setB K n g, ∃ y ∈ K, y.1 = x.1 := fun x hx => by
    unfold setB at hx
    by_cases hn : (n - 1).toNat < K.length
    · rcases List.mem_or_eq_of_mem_set hx with hx | hx
      · exact ⟨x, hx, rfl⟩
      · refine ⟨K[(n - 1).toNat], List.getElem_mem _, ?_⟩
        rw [hx, List.getD_eq_getElem?_getD, List.getElem?_eq_getElem hn]
        rfl
    · rw [List.set_eq_of_length_le (by omega)] at hx
      exact ⟨x, hx, rfl⟩
  have at1 : ∀ i : Nat, ((setB K n g).getD i (.claim 0 0, true)).1 = (K.getD i (.claim 0 0, true)).1 := fun i => by
    unfold setB
    by_cases hn : (n - 1).toNat < K.length
    · rw [List.getD_eq_getElem?_getD, List.getD_eq_getElem?_getD]
      by_cases e : (n - 1).toNat = i
      · rw [← e, List.getElem?_set_self hn]
        rfl
      · rw [List.getElem?_set_ne e, List.getD_eq_getElem?_getD]
    · rw [List.set_eq_of_length_le (by omega)]
  refine ⟨fun x hx => ?_, fun x hx b f d e => ?_, by rw [setB_len]; exact hK.len⟩
  · obtain ⟨y, hy, e⟩ := mem x hx
    rw [← e]
    exact hK.ok y hy
  · obtain ⟨y, hy, e'⟩ := mem x hx
    obtain ⟨h1, h2, h3⟩ := hK.dr y hy b f d (e'.trans e)
    exact ⟨h1, by rw [setB_len]; exact h2, by rw [at1]; exact h3⟩
/-! law k52: each refusal is of its own class, and of no other -/
def cWs : List Str := ["BadWord", "BadField", "BadParish", "BadHolder", "BadKind", "BadTaker", "BadDay", "BadYear", "BadCount", "BadSpan", "BadWorth", "BadCustom", "BadAside", "BadPence", "BadPart", "Backward", "Same", "NoBeast", "NoFact", "Struck", "Kept", "Full", "NoBack", "NoForth", "BadText"]
abbrev cW (i : Nat) : Str := cWs.getD i ""
def FL (i : Nat) : List PyData := (List.range 26).map fun j => .bool (decide (j = i) || decide (j = 25))
theorem row_gen (c : Str) (xs : List (Str × PyData)) (b : Nat → Bool) (h0 : clsF xl_BadWord c = some (b 0)) (h1 : clsF xl_BadField c = some (b 1)) (h2 : clsF xl_BadParish c = some (b 2)) (h3 : clsF xl_BadHolder c = some (b 3)) (h4 : clsF xl_BadKind c = some (b 4)) (h5 : clsF xl_BadTaker c = some (b 5)) (h6 : clsF xl_BadDay c = some (b 6)) (h7 : clsF xl_BadYear c = some (b 7)) (h8 : clsF xl_BadCount c = some (b 8)) (h9 : clsF xl_BadSpan c = some (b 9)) (h10 : clsF xl_BadWorth c = some (b 10)) (h11 : clsF xl_BadCustom c = some (b 11)) (h12 : clsF xl_BadAside c = some (b 12)) (h13 : clsF xl_BadPence c = some (b 13)) (h14 : clsF xl_BadPart c = some (b 14)) (h15 : clsF xl_Backward c = some (b 15)) (h16 : clsF xl_Same c = some (b 16)) (h17 : clsF xl_NoBeast c = some (b 17)) (h18 : clsF xl_NoFact c = some (b 18)) (h19 : clsF xl_Struck c = some (b 19)) (h20 : clsF xl_Kept c = some (b 20)) (h21 : clsF xl_Full c = some (b 21)) (h22 : clsF xl_NoBack c = some (b 22)) (h23 : clsF xl_NoForth c = some (b 23)) (h24 : clsF xl_BadText c = some (b 24)) (h25 : clsF xl_ValueError c = some (b 25)) : m__law_row ⟨c, xs⟩ = some (.lst [.bool (b 0), .bool (b 1), .bool (b 2), .bool (b 3), .bool (b 4), .bool (b 5), .bool (b 6), .bool (b 7), .bool (b 8), .bool (b 9), .bool (b 10), .bool (b 11), .bool (b 12), .bool (b 13), .bool (b 14), .bool (b 15), .bool (b 16), .bool (b 17), .bool (b 18), .bool (b 19), .bool (b 20), .bool (b 21), .bool (b 22), .bool (b 23), .bool (b 24), .bool (b 25)]) := by
  simp! [m__law_row, hotM, vIsE, h0, h1, h2, h3, h4, h5, h6, h7, h8, h9, h10, h11, h12, h13, h14, h15, h16, h17, h18, h19, h20, h21, h22, h23, h24, h25]
theorem row_BadWord (xs : List (Str × PyData)) : m__law_row ⟨"BadWord", xs⟩ = some (.lst (FL 0)) ∧ clsF xl_TitheError "BadWord" = some true :=
  ⟨row_gen "BadWord" xs (fun j => decide (j = 0) || decide (j = 25)) (by decide +kernel) (by decide +kernel) (by decide +kernel) (by decide +kernel) (by decide +kernel) (by decide +kernel) (by decide +kernel) (by decide +kernel) (by decide +kernel) (by decide +kernel) (by decide +kernel) (by decide +kernel) (by decide +kernel) (by decide +kernel) (by decide +kernel) (by decide +kernel) (by decide +kernel) (by decide +kernel) (by decide +kernel) (by decide +kernel) (by decide +kernel) (by decide +kernel) (by decide +kernel) (by decide +kernel) (by decide +kernel) (by decide +kernel), by decide +kernel⟩
theorem row_BadField (xs : List (Str × PyData)) : m__law_row ⟨"BadField", xs⟩ = some (.lst (FL 1)) ∧ clsF xl_TitheError "BadField" = some true :=
  ⟨row_gen "BadField" xs (fun j => decide (j = 1) || decide (j = 25)) (by decide +kernel) (by decide +kernel) (by decide +kernel) (by decide +kernel) (by decide +kernel) (by decide +kernel) (by decide +kernel) (by decide +kernel) (by decide +kernel) (by decide +kernel) (by decide +kernel) (by decide +kernel) (by decide +kernel) (by decide +kernel) (by decide +kernel) (by decide +kernel) (by decide +kernel) (by decide +kernel) (by decide +kernel) (by decide +kernel) (by decide +kernel) (by decide +kernel) (by decide +kernel) (by decide +kernel) (by decide +kernel) (by decide +kernel), by decide +kernel⟩
theorem row_BadParish (xs : List (Str × PyData)) : m__law_row ⟨"BadParish", xs⟩ = some (.lst (FL 2)) ∧ clsF xl_TitheError "BadParish" = some true :=
  ⟨row_gen "BadParish" xs (fun j => decide (j = 2) || decide (j = 25)) (by decide +kernel) (by decide +kernel) (by decide +kernel) (by decide +kernel) (by decide +kernel) (by decide +kernel) (by decide +kernel) (by decide +kernel) (by decide +kernel) (by decide +kernel) (by decide +kernel) (by decide +kernel) (by decide +kernel) (by decide +kernel) (by decide +kernel) (by decide +kernel) (by decide +kernel) (by decide +kernel) (by decide +kernel) (by decide +kernel) (by decide +kernel) (by decide +kernel) (by decide +kernel) (by decide +kernel) (by decide +kernel) (by decide +kernel), by decide +kernel⟩
theorem row_BadHolder (xs : List (Str × PyData)) : m__law_row ⟨"BadHolder", xs⟩ = some (.lst (FL 3)) ∧ clsF xl_TitheError "BadHolder" = some true :=
  ⟨row_gen "BadHolder" xs (fun j => decide (j = 3) || decide (j = 25)) (by decide +kernel) (by decide +kernel) (by decide +kernel) (by decide +kernel) (by decide +kernel) (by decide +kernel) (by decide +kernel) (by decide +kernel) (by decide +kernel) (by decide +kernel) (by decide +kernel) (by decide +kernel) (by decide +kernel) (by decide +kernel) (by decide +kernel) (by decide +kernel) (by decide +kernel) (by decide +kernel) (by decide +kernel) (by decide +kernel) (by decide +kernel) (by decide +kernel) (by decide +kernel) (by decide +kernel) (by decide +kernel) (by decide +kernel), by decide +kernel⟩
theorem row_BadKind (xs : List (Str × PyData)) : m__law_row ⟨"BadKind", xs⟩ = some (.lst (FL 4)) ∧ clsF xl_TitheError "BadKind" = some true :=
  ⟨row_gen "BadKind" xs (fun j => decide (j = 4) || decide (j = 25)) (by decide +kernel) (by decide +kernel) (by decide +kernel) (by decide +kernel) (by decide +kernel) (by decide +kernel) (by decide +kernel) (by decide +kernel) (by decide +kernel) (by decide +kernel) (by decide +kernel) (by decide +kernel) (by decide +kernel) (by decide +kernel) (by decide +kernel) (by decide +kernel) (by decide +kernel) (by decide +kernel) (by decide +kernel) (by decide +kernel) (by decide +kernel) (by decide +kernel) (by decide +kernel) (by decide +kernel) (by decide +kernel) (by decide +kernel), by decide +kernel⟩
theorem row_BadTaker (xs : List (Str × PyData)) : m__law_row ⟨"BadTaker", xs⟩ = some (.lst (FL 5)) ∧ clsF xl_TitheError "BadTaker" = some true :=
  ⟨row_gen "BadTaker" xs (fun j => decide (j = 5) || decide (j = 25)) (by decide +kernel) (by decide +kernel) (by decide +kernel) (by decide +kernel) (by decide +kernel) (by decide +kernel) (by decide +kernel) (by decide +kernel) (by decide +kernel) (by decide +kernel) (by decide +kernel) (by decide +kernel) (by decide +kernel) (by decide +kernel) (by decide +kernel) (by decide +kernel) (by decide +kernel) (by decide +kernel) (by decide +kernel) (by decide +kernel) (by decide +kernel) (by decide +kernel) (by decide +kernel) (by decide +kernel) (by decide +kernel) (by decide +kernel), by decide +kernel⟩
theorem row_BadDay (xs : List (Str × PyData)) : m__law_row ⟨"BadDay", xs⟩ = some (.lst (FL 6)) ∧ clsF xl_TitheError "BadDay" = some true :=
  ⟨row_gen "BadDay" xs (fun j => decide (j = 6) || decide (j = 25)) (by decide +kernel) (by decide +kernel) (by decide +kernel) (by decide +kernel) (by decide +kernel) (by decide +kernel) (by decide +kernel) (by decide +kernel) (by decide +kernel) (by decide +kernel) (by decide +kernel) (by decide +kernel) (by decide +kernel) (by decide +kernel) (by decide +kernel) (by decide +kernel) (by decide +kernel) (by decide +kernel) (by decide +kernel) (by decide +kernel) (by decide +kernel) (by decide +kernel) (by decide +kernel) (by decide +kernel) (by decide +kernel) (by decide +kernel), by decide +kernel⟩
theorem row_BadYear (xs : List (Str × PyData)) : m__law_row ⟨"BadYear", xs⟩ = some (.lst (FL 7)) ∧ clsF xl_TitheError "BadYear" = some true :=
  ⟨row_gen "BadYear" xs (fun j => decide (j = 7) || decide (j = 25)) (by decide +kernel) (by decide +kernel) (by decide +kernel) (by decide +kernel) (by decide +kernel) (by decide +kernel) (by decide +kernel) (by decide +kernel) (by decide +kernel) (by decide +kernel) (by decide +kernel) (by decide +kernel) (by decide +kernel) (by decide +kernel) (by decide +kernel) (by decide +kernel) (by decide +kernel) (by decide +kernel) (by decide +kernel) (by decide +kernel) (by decide +kernel) (by decide +kernel) (by decide +kernel) (by decide +kernel) (by decide +kernel) (by decide +kernel), by decide +kernel⟩
theorem row_BadCount (xs : List (Str × PyData)) : m__law_row ⟨"BadCount", xs⟩ = some (.lst (FL 8)) ∧ clsF xl_TitheError "BadCount" = some true :=
  ⟨row_gen "BadCount" xs (fun j => decide (j = 8) || decide (j = 25)) (by decide +kernel) (by decide +kernel) (by decide +kernel) (by decide +kernel) (by decide +kernel) (by decide +kernel) (by decide +kernel) (by decide +kernel) (by decide +kernel) (by decide +kernel) (by decide +kernel) (by decide +kernel) (by decide +kernel) (by decide +kernel) (by decide +kernel) (by decide +kernel) (by decide +kernel) (by decide +kernel) (by decide +kernel) (by decide +kernel) (by decide +kernel) (by decide +kernel) (by decide +kernel) (by decide +kernel) (by decide +kernel) (by decide +kernel), by decide +kernel⟩
theorem row_BadSpan (xs : List (Str × PyData)) : m__law_row ⟨"BadSpan", xs⟩ = some (.lst (FL 9)) ∧ clsF xl_TitheError "BadSpan" = some true :=
  ⟨row_gen "BadSpan" xs (fun j => decide (j = 9) || decide (j = 25)) (by decide +kernel) (by decide +kernel) (by decide +kernel) (by decide +kernel) (by decide +kernel) (by decide +kernel) (by decide +kernel) (by decide +kernel) (by decide +kernel) (by decide +kernel) (by decide +kernel) (by decide +kernel) (by decide +kernel) (by decide +kernel) (by decide +kernel) (by decide +kernel) (by decide +kernel) (by decide +kernel) (by decide +kernel) (by decide +kernel) (by decide +kernel) (by decide +kernel) (by decide +kernel) (by decide +kernel) (by decide +kernel) (by decide +kernel), by decide +kernel⟩
theorem row_BadWorth (xs : List (Str × PyData)) : m__law_row ⟨"BadWorth", xs⟩ = some (.lst (FL 10)) ∧ clsF xl_TitheError "BadWorth" = some true :=
  ⟨row_gen "BadWorth" xs (fun j => decide (j = 10) || decide (j = 25)) (by decide +kernel) (by decide +kernel) (by decide +kernel) (by decide +kernel) (by decide +kernel) (by decide +kernel) (by decide +kernel) (by decide +kernel) (by decide +kernel) (by decide +kernel) (by decide +kernel) (by decide +kernel) (by decide +kernel) (by decide +kernel) (by decide +kernel) (by decide +kernel) (by decide +kernel) (by decide +kernel) (by decide +kernel) (by decide +kernel) (by decide +kernel) (by decide +kernel) (by decide +kernel) (by decide +kernel) (by decide +kernel) (by decide +kernel), by decide +kernel⟩
theorem row_BadCustom (xs : List (Str × PyData)) : m__law_row ⟨"BadCustom", xs⟩ = some (.lst (FL 11)) ∧ clsF xl_TitheError "BadCustom" = some true :=
  ⟨row_gen "BadCustom" xs (fun j => decide (j = 11) || decide (j = 25)) (by decide +kernel) (by decide +kernel) (by decide +kernel) (by decide +kernel) (by decide +kernel) (by decide +kernel) (by decide +kernel) (by decide +kernel) (by decide +kernel) (by decide +kernel) (by decide +kernel) (by decide +kernel) (by decide +kernel) (by decide +kernel) (by decide +kernel) (by decide +kernel) (by decide +kernel) (by decide +kernel) (by decide +kernel) (by decide +kernel) (by decide +kernel) (by decide +kernel) (by decide +kernel) (by decide +kernel) (by decide +kernel) (by decide +kernel), by decide +kernel⟩
theorem row_BadAside (xs : List (Str × PyData)) : m__law_row ⟨"BadAside", xs⟩ = some (.lst (FL 12)) ∧ clsF xl_TitheError "BadAside" = some true :=
  ⟨row_gen "BadAside" xs (fun j => decide (j = 12) || decide (j = 25)) (by decide +kernel) (by decide +kernel) (by decide +kernel) (by decide +kernel) (by decide +kernel) (by decide +kernel) (by decide +kernel) (by decide +kernel) (by decide +kernel) (by decide +kernel) (by decide +kernel) (by decide +kernel) (by decide +kernel) (by decide +kernel) (by decide +kernel) (by decide +kernel) (by decide +kernel) (by decide +kernel) (by decide +kernel) (by decide +kernel) (by decide +kernel) (by decide +kernel) (by decide +kernel) (by decide +kernel) (by decide +kernel) (by decide +kernel), by decide +kernel⟩
theorem row_BadPence (xs : List (Str × PyData)) : m__law_row ⟨"BadPence", xs⟩ = some (.lst (FL 13)) ∧ clsF xl_TitheError "BadPence" = some true :=
  ⟨row_gen "BadPence" xs (fun j => decide (j = 13) || decide (j = 25)) (by decide +kernel) (by decide +kernel) (by decide +kernel) (by decide +kernel) (by decide +kernel) (by decide +kernel) (by decide +kernel) (by decide +kernel) (by decide +kernel) (by decide +kernel) (by decide +kernel) (by decide +kernel) (by decide +kernel) (by decide +kernel) (by decide +kernel) (by decide +kernel) (by decide +kernel) (by decide +kernel) (by decide +kernel) (by decide +kernel) (by decide +kernel) (by decide +kernel) (by decide +kernel) (by decide +kernel) (by decide +kernel) (by decide +kernel), by decide +kernel⟩
theorem row_BadPart (xs : List (Str × PyData)) : m__law_row ⟨"BadPart", xs⟩ = some (.lst (FL 14)) ∧ clsF xl_TitheError "BadPart" = some true :=
  ⟨row_gen "BadPart" xs (fun j => decide (j = 14) || decide (j = 25)) (by decide +kernel) (by decide +kernel) (by decide +kernel) (by decide +kernel) (by decide +kernel) (by decide +kernel) (by decide +kernel) (by decide +kernel) (by decide +kernel) (by decide +kernel) (by decide +kernel) (by decide +kernel) (by decide +kernel) (by decide +kernel) (by decide +kernel) (by decide +kernel) (by decide +kernel) (by decide +kernel) (by decide +kernel) (by decide +kernel) (by decide +kernel) (by decide +kernel) (by decide +kernel) (by decide +kernel) (by decide +kernel) (by decide +kernel), by decide +kernel⟩
theorem row_Backward (xs : List (Str × PyData)) : m__law_row ⟨"Backward", xs⟩ = some (.lst (FL 15)) ∧ clsF xl_TitheError "Backward" = some true :=
  ⟨row_gen "Backward" xs (fun j => decide (j = 15) || decide (j = 25)) (by decide +kernel) (by decide +kernel) (by decide +kernel) (by decide +kernel) (by decide +kernel) (by decide +kernel) (by decide +kernel) (by decide +kernel) (by decide +kernel) (by decide +kernel) (by decide +kernel) (by decide +kernel) (by decide +kernel) (by decide +kernel) (by decide +kernel) (by decide +kernel) (by decide +kernel) (by decide +kernel) (by decide +kernel) (by decide +kernel) (by decide +kernel) (by decide +kernel) (by decide +kernel) (by decide +kernel) (by decide +kernel) (by decide +kernel), by decide +kernel⟩
theorem row_Same (xs : List (Str × PyData)) : m__law_row ⟨"Same", xs⟩ = some (.lst (FL 16)) ∧ clsF xl_TitheError "Same" = some true :=
  ⟨row_gen "Same" xs (fun j => decide (j = 16) || decide (j = 25)) (by decide +kernel) (by decide +kernel) (by decide +kernel) (by decide +kernel) (by decide +kernel) (by decide +kernel) (by decide +kernel) (by decide +kernel) (by decide +kernel) (by decide +kernel) (by decide +kernel) (by decide +kernel) (by decide +kernel) (by decide +kernel) (by decide +kernel) (by decide +kernel) (by decide +kernel) (by decide +kernel) (by decide +kernel) (by decide +kernel) (by decide +kernel) (by decide +kernel) (by decide +kernel) (by decide +kernel) (by decide +kernel) (by decide +kernel), by decide +kernel⟩
theorem row_NoBeast (xs : List (Str × PyData)) : m__law_row ⟨"NoBeast", xs⟩ = some (.lst (FL 17)) ∧ clsF xl_TitheError "NoBeast" = some true :=
  ⟨row_gen "NoBeast" xs (fun j => decide (j = 17) || decide (j = 25)) (by decide +kernel) (by decide +kernel) (by decide +kernel) (by decide +kernel) (by decide +kernel) (by decide +kernel) (by decide +kernel) (by decide +kernel) (by decide +kernel) (by decide +kernel) (by decide +kernel) (by decide +kernel) (by decide +kernel) (by decide +kernel) (by decide +kernel) (by decide +kernel) (by decide +kernel) (by decide +kernel) (by decide +kernel) (by decide +kernel) (by decide +kernel) (by decide +kernel) (by decide +kernel) (by decide +kernel) (by decide +kernel) (by decide +kernel), by decide +kernel⟩
theorem row_NoFact (xs : List (Str × PyData)) : m__law_row ⟨"NoFact", xs⟩ = some (.lst (FL 18)) ∧ clsF xl_TitheError "NoFact" = some true :=
  ⟨row_gen "NoFact" xs (fun j => decide (j = 18) || decide (j = 25)) (by decide +kernel) (by decide +kernel) (by decide +kernel) (by decide +kernel) (by decide +kernel) (by decide +kernel) (by decide +kernel) (by decide +kernel) (by decide +kernel) (by decide +kernel) (by decide +kernel) (by decide +kernel) (by decide +kernel) (by decide +kernel) (by decide +kernel) (by decide +kernel) (by decide +kernel) (by decide +kernel) (by decide +kernel) (by decide +kernel) (by decide +kernel) (by decide +kernel) (by decide +kernel) (by decide +kernel) (by decide +kernel) (by decide +kernel), by decide +kernel⟩
theorem row_Struck (xs : List (Str × PyData)) : m__law_row ⟨"Struck", xs⟩ = some (.lst (FL 19)) ∧ clsF xl_TitheError "Struck" = some true :=
  ⟨row_gen "Struck" xs (fun j => decide (j = 19) || decide (j = 25)) (by decide +kernel) (by decide +kernel) (by decide +kernel) (by decide +kernel) (by decide +kernel) (by decide +kernel) (by decide +kernel) (by decide +kernel) (by decide +kernel) (by decide +kernel) (by decide +kernel) (by decide +kernel) (by decide +kernel) (by decide +kernel) (by decide +kernel) (by decide +kernel) (by decide +kernel) (by decide +kernel) (by decide +kernel) (by decide +kernel) (by decide +kernel) (by decide +kernel) (by decide +kernel) (by decide +kernel) (by decide +kernel) (by decide +kernel), by decide +kernel⟩
theorem row_Kept (xs : List (Str × PyData)) : m__law_row ⟨"Kept", xs⟩ = some (.lst (FL 20)) ∧ clsF xl_TitheError "Kept" = some true :=
  ⟨row_gen "Kept" xs (fun j => decide (j = 20) || decide (j = 25)) (by decide +kernel) (by decide +kernel) (by decide +kernel) (by decide +kernel) (by decide +kernel) (by decide +kernel) (by decide +kernel) (by decide +kernel) (by decide +kernel) (by decide +kernel) (by decide +kernel) (by decide +kernel) (by decide +kernel) (by decide +kernel) (by decide +kernel) (by decide +kernel) (by decide +kernel) (by decide +kernel) (by decide +kernel) (by decide +kernel) (by decide +kernel) (by decide +kernel) (by decide +kernel) (by decide +kernel) (by decide +kernel) (by decide +kernel), by decide +kernel⟩
theorem row_Full (xs : List (Str × PyData)) : m__law_row ⟨"Full", xs⟩ = some (.lst (FL 21)) ∧ clsF xl_TitheError "Full" = some true :=
  ⟨row_gen "Full" xs (fun j => decide (j = 21) || decide (j = 25)) (by decide +kernel) (by decide +kernel) (by decide +kernel) (by decide +kernel) (by decide +kernel) (by decide +kernel) (by decide +kernel) (by decide +kernel) (by decide +kernel) (by decide +kernel) (by decide +kernel) (by decide +kernel) (by decide +kernel) (by decide +kernel) (by decide +kernel) (by decide +kernel) (by decide +kernel) (by decide +kernel) (by decide +kernel) (by decide +kernel) (by decide +kernel) (by decide +kernel) (by decide +kernel) (by decide +kernel) (by decide +kernel) (by decide +kernel), by decide +kernel⟩
theorem row_NoBack (xs : List (Str × PyData)) : m__law_row ⟨"NoBack", xs⟩ = some (.lst (FL 22)) ∧ clsF xl_TitheError "NoBack" = some true :=
  ⟨row_gen "NoBack" xs (fun j => decide (j = 22) || decide (j = 25)) (by decide +kernel) (by decide +kernel) (by decide +kernel) (by decide +kernel) (by decide +kernel) (by decide +kernel) (by decide +kernel) (by decide +kernel) (by decide +kernel) (by decide +kernel) (by decide +kernel) (by decide +kernel) (by decide +kernel) (by decide +kernel) (by decide +kernel) (by decide +kernel) (by decide +kernel) (by decide +kernel) (by decide +kernel) (by decide +kernel) (by decide +kernel) (by decide +kernel) (by decide +kernel) (by decide +kernel) (by decide +kernel) (by decide +kernel), by decide +kernel⟩
theorem row_NoForth (xs : List (Str × PyData)) : m__law_row ⟨"NoForth", xs⟩ = some (.lst (FL 23)) ∧ clsF xl_TitheError "NoForth" = some true :=
  ⟨row_gen "NoForth" xs (fun j => decide (j = 23) || decide (j = 25)) (by decide +kernel) (by decide +kernel) (by decide +kernel) (by decide +kernel) (by decide +kernel) (by decide +kernel) (by decide +kernel) (by decide +kernel) (by decide +kernel) (by decide +kernel) (by decide +kernel) (by decide +kernel) (by decide +kernel) (by decide +kernel) (by decide +kernel) (by decide +kernel) (by decide +kernel) (by decide +kernel) (by decide +kernel) (by decide +kernel) (by decide +kernel) (by decide +kernel) (by decide +kernel) (by decide +kernel) (by decide +kernel) (by decide +kernel), by decide +kernel⟩
theorem row_BadText (xs : List (Str × PyData)) : m__law_row ⟨"BadText", xs⟩ = some (.lst (FL 24)) ∧ clsF xl_TitheError "BadText" = some true :=
  ⟨row_gen "BadText" xs (fun j => decide (j = 24) || decide (j = 25)) (by decide +kernel) (by decide +kernel) (by decide +kernel) (by decide +kernel) (by decide +kernel) (by decide +kernel) (by decide +kernel) (by decide +kernel) (by decide +kernel) (by decide +kernel) (by decide +kernel) (by decide +kernel) (by decide +kernel) (by decide +kernel) (by decide +kernel) (by decide +kernel) (by decide +kernel) (by decide +kernel) (by decide +kernel) (by decide +kernel) (by decide +kernel) (by decide +kernel) (by decide +kernel) (by decide +kernel) (by decide +kernel) (by decide +kernel), by decide +kernel⟩
/-! facts are bent -/
theorem cut_fromN {α : Type} (l : List α) (j : Nat) : cutD l (some (j : Int)) none = l.drop j := by
  unfold cutD
  rw [HT.sIx_nat, HT.sIx_none]
  by_cases h : j ≤ l.length
  · rw [Nat.min_eq_left h, ← List.length_drop, List.take_length]
  · rw [Nat.min_eq_right (by omega), Nat.sub_self, List.take_zero, List.drop_of_length_le (by omega)]
theorem os_words {T : Str} {ws : List Str} {i : Nat} (hs : Txt.split T " " = ws) (hT : T.length ≤ 1000000) (hl : ws.length ≤ 10000) (g : Gm) (hg : gt g i = .pin (.dat (.str T))) : oSplit (vP (pVar i)) (vP (pC (.str " "))) g = .ok (.lst (ws.map PyData.str)) g := by
  have b0 : ((" " : Str).length == 0) = false := by decide +kernel
  have l1 : (Txt.split T " ").length ≤ 1000000 := by
    rw [hs]
    omega
  rw [← hs]
  simp! [oSplit, hg, hT, l1, b0]
/-! law k52 -/
theorem fl_get (i : Nat) {n : Int} (hn : n = (i : Int)) (s0 s1 s2 s4 s5 : Sl) : oCompR [6] (gN 6) tYesM e_law_2 (aCons (vP (pC (.int 26))) aNil) [s0, s1, s2, .v (.dat (.int n)), s4, s5, .no] = .ok (.lst (FL i)) [s0, s1, s2, .v (.dat (.int n)), s4, s5, .no] := by
  subst hn
  have c := cmp_fold (β := Unit) (is := [6]) (tg := gN 6) (mt := tYesM) (me := e_law_2) (enc := fun j : Nat => PyData.int ((0 : Int) + (j : Int))) (out := fun j : Nat => some (PyData.bool (decide (j = i) || decide (j = 25)))) (g := [s0, s1, s2, .v (.dat (.int (i : Int))), s4, s5, .no]) (List.range 26) [] (by simp [zl]) (fun j hj => by
    refine ⟨[s0, s1, s2, .v (.dat (.int (i : Int))), s4, s5, .v (.dat (.int ((0 : Int) + (j : Int))))], rfl, .inl ⟨_, [s0, s1, s2, .v (.dat (.int (i : Int))), s4, s5, .v (.dat (.int ((0 : Int) + (j : Int))))], [s0, s1, s2, .v (.dat (.int (i : Int))), s4, s5, .v (.dat (.int ((0 : Int) + (j : Int))))], rfl, rfl, ?_, rfl⟩⟩
    have ej : (0 : Int) + (j : Int) = (j : Int) := by omega
    rw [ej]
    by_cases h : j = i
    · subst h
      have d : decide (j = j) = true := decide_eq_true rfl
      rw [d, Bool.true_or]
      simp! [e_law_2]
    · have h' : ¬ (j : Int) = (i : Int) := by omega
      by_cases h2 : j = 25
      · subst h2
        have h'' : ¬ (25 : Int) = (i : Int) := by omega
        simp! [e_law_2, h, h'']
      · have h'' : ¬ (j : Int) = 25 := by omega
        simp! [e_law_2, h, h', h2, h''])
  have f : (List.range 26).filterMap (fun j : Nat => some (PyData.bool (decide (j = i) || decide (j = 25)))) = FL i := by
    exact congrFun (List.filterMap_eq_map (f := fun j : Nat => PyData.bool (decide (j = i) || decide (j = 25)))) (List.range 26)
  rw [List.nil_append, f] at c
  have c : cmpM [6] (gN 6) tYesM e_law_2 (rng 0 26) [] [s0, s1, s2, .v (.dat (.int (i : Int))), s4, s5, .no] = .ok (FL i) [s0, s1, s2, .v (.dat (.int (i : Int))), s4, s5, .no] := c
  show compRA [6] (gN 6) tYesM e_law_2 [.int 26] _ = _
  rw [compRA_0 26 26 rfl (by decide)]
  show cEnd [6] _ (cmpM [6] (gN 6) tYesM e_law_2 (rng 0 26) [] _) = _
  generalize FL i = F at *
  simp! [cEnd, c]
/-! the refusals -/
abbrev K1 : List Kr := [(.claim 1 1, true)]
abbrev K2 : List Kr := [(.claim 1 1, true), (.free 1 1 2, true)]
abbrev P1 : List PyData := tellP [] [] (.claim 1 1)
abbrev P2 : List PyData := tellP K1 P1 (.free 1 1 2)
theorem fx_err {x : Fx} {w : Str} (hS : FxSm x) (h : wOf (fxC x) = w) (hw : (w == "") = false) : m_need_fact [.dat (fxD x)] = .err ⟨w, []⟩ [.dat (fxD x)] := by
  rw [need_fx hS]
  unfold errO
  rw [h, if_neg (by rw [hw]; decide)]
theorem word_err {r : List PyData} : m_need_fact [.dat (.tuple (.str "word" :: r))] = .err ⟨"BadWord", []⟩ [.dat (.tuple (.str "word" :: r))] := by
  have h5 : k_LOOKS.contains "word" = false := by decide +kernel
  have e0 : fIx (.tuple (.str "word" :: r)) (.int 0) = some (.dat (.str "word")) := by simp! [if_true]
  simp! [m_need_fact, e0, h5]
def wrong (f : Int) : List PyData := [.tuple [.str "word", .int 1], fxD (.f (.lies (13 + f) 1 1)), fxD (.f (.lies 1 (9 + f) 1)), fxD (.f (.held 1 (9 + f) 1)), fxD (.f (.cut 1 (7 + f) 1 1)), fxD (.f (.takers 1 1 1 (7 + f) (1, 2) 1)), fxD (.f (.lies 1 1 (4000 + f))), fxD (.f (.custom 1 1 (40 + f) .non)), fxD (.f (.cut 1 1 1 (10001 + f))), fxD (.f (.born 1 1 1 (61 + f) 1)), fxD (.f (.born 1 1 1 1 (1001 + f))), fxD (.kinds 1 1 1 1), fxD (.f (.custom 1 1 1 (.kind (10 + f)))), fxD (.f (.custom 1 1 1 (.fixed (1001 + f)))), fxD (.f (.takers 1 1 1 1 (2, 4) 2)), fxD (.f (.free 1 (5 + f % 3000) 4)), fxD (.f (.pass 1 1 1))]
theorem wrong_ok (i f : Int) {d : PyData} (h0 : 0 ≤ f) (h1 : f < 1000000000) (h : fIx (.list (wrong f)) (.int i) = some (.dat d)) : m__law_facts_wrong [.dat (.int i), .dat (.int f)] = .ok (.dat d) [.dat (.int i), .dat (.int f)] := by
  simp only [wrong, fxD, fcD, cuD] at h
  simp! [m__law_facts_wrong, h]
theorem wrong_err (i : Nat) (hi : i < 17) (f : Int) (h0 : 0 ≤ f) (h1 : f < 1000000000) : ∃ d, fIx (.list (wrong f)) (.int (i : Int)) = some (.dat d) ∧ m_need_fact [.dat d] = .err ⟨cW i, []⟩ [.dat d] := by
  have q1 : noPart (1, 2) = false := by decide
  have q2 : noPart (2, 4) = true := by decide
  have n1 : ∀ lo hi : Int, lo ≤ hi → ∀ n, hi < n → nB lo hi n = true := fun lo hi _ n h => by simp [nB]; omega
  match i, hi with
  | 0, _ => exact ⟨_, rfl, word_err⟩
  | 1, _ =>
    have h1 : nB 1 12 (13 + f) = true := n1 _ _ (by decide) _ (by omega)
    have hw : wOf (fxC (.f (.lies (13 + f) 1 1))) = cW 1 := by simp (config := {decide := true}) only [fxC, fcC, cuC, wOf, q1, q2, Bool.true_or, if_true, if_false, h1] <;> rfl
    exact ⟨fxD (.f (.lies (13 + f) 1 1)), rfl, fx_err (x := .f (.lies (13 + f) 1 1)) trivial hw (by decide +kernel)⟩
  | 2, _ =>
    have h1 : nB 1 8 (9 + f) = true := n1 _ _ (by decide) _ (by omega)
    have hw : wOf (fxC (.f (.lies 1 (9 + f) 1))) = cW 2 := by simp (config := {decide := true}) only [fxC, fcC, cuC, wOf, q1, q2, Bool.true_or, if_true, if_false, h1] <;> rfl
    exact ⟨fxD (.f (.lies 1 (9 + f) 1)), rfl, fx_err (x := .f (.lies 1 (9 + f) 1)) trivial hw (by decide +kernel)⟩
  | 3, _ =>
    have h1 : nB 0 8 (9 + f) = true := n1 _ _ (by decide) _ (by omega)
    have hw : wOf (fxC (.f (.held 1 (9 + f) 1))) = cW 3 := by simp (config := {decide := true}) only [fxC, fcC, cuC, wOf, q1, q2, Bool.true_or, if_true, if_false, h1] <;> rfl
    exact ⟨fxD (.f (.held 1 (9 + f) 1)), rfl, fx_err (x := .f (.held 1 (9 + f) 1)) trivial hw (by decide +kernel)⟩
  | 4, _ =>
    have h1 : nB 1 6 (7 + f) = true := n1 _ _ (by decide) _ (by omega)
    have hw : wOf (fxC (.f (.cut 1 (7 + f) 1 1))) = cW 4 := by simp (config := {decide := true}) only [fxC, fcC, cuC, wOf, q1, q2, Bool.true_or, if_true, if_false, h1] <;> rfl
    exact ⟨fxD (.f (.cut 1 (7 + f) 1 1)), rfl, fx_err (x := .f (.cut 1 (7 + f) 1 1)) trivial hw (by decide +kernel)⟩
  | 5, _ =>
    have h1 : nB 1 6 (7 + f) = true := n1 _ _ (by decide) _ (by omega)
    have hw : wOf (fxC (.f (.takers 1 1 1 (7 + f) (1, 2) 1))) = cW 5 := by simp (config := {decide := true}) only [fxC, fcC, cuC, wOf, q1, q2, Bool.true_or, if_true, if_false, h1] <;> rfl
    exact ⟨fxD (.f (.takers 1 1 1 (7 + f) (1, 2) 1)), rfl, fx_err (x := .f (.takers 1 1 1 (7 + f) (1, 2) 1)) (show qSm _ from by unfold qSm inB; decide) hw (by decide +kernel)⟩
  | 6, _ =>
    have h1 : nB 0 3999 (4000 + f) = true := n1 _ _ (by decide) _ (by omega)
    have hw : wOf (fxC (.f (.lies 1 1 (4000 + f)))) = cW 6 := by simp (config := {decide := true}) only [fxC, fcC, cuC, wOf, q1, q2, Bool.true_or, if_true, if_false, h1] <;> rfl
    exact ⟨fxD (.f (.lies 1 1 (4000 + f))), rfl, fx_err (x := .f (.lies 1 1 (4000 + f))) trivial hw (by decide +kernel)⟩
  | 7, _ =>
    have h1 : nB 0 39 (40 + f) = true := n1 _ _ (by decide) _ (by omega)
    have hw : wOf (fxC (.f (.custom 1 1 (40 + f) .non))) = cW 7 := by simp (config := {decide := true}) only [fxC, fcC, cuC, wOf, q1, q2, Bool.true_or, if_true, if_false, h1] <;> rfl
    exact ⟨fxD (.f (.custom 1 1 (40 + f) .non)), rfl, fx_err (x := .f (.custom 1 1 (40 + f) .non)) trivial hw (by decide +kernel)⟩
  | 8, _ =>
    have h1 : nB 1 10000 (10001 + f) = true := n1 _ _ (by decide) _ (by omega)
    have hw : wOf (fxC (.f (.cut 1 1 1 (10001 + f)))) = cW 8 := by simp (config := {decide := true}) only [fxC, fcC, cuC, wOf, q1, q2, Bool.true_or, if_true, if_false, h1] <;> rfl
    exact ⟨fxD (.f (.cut 1 1 1 (10001 + f))), rfl, fx_err (x := .f (.cut 1 1 1 (10001 + f))) trivial hw (by decide +kernel)⟩
  | 9, _ =>
    have h1 : nB 1 60 (61 + f) = true := n1 _ _ (by decide) _ (by omega)
    have hw : wOf (fxC (.f (.born 1 1 1 (61 + f) 1))) = cW 9 := by simp (config := {decide := true}) only [fxC, fcC, cuC, wOf, q1, q2, Bool.true_or, if_true, if_false, h1] <;> rfl
    exact ⟨fxD (.f (.born 1 1 1 (61 + f) 1)), rfl, fx_err (x := .f (.born 1 1 1 (61 + f) 1)) trivial hw (by decide +kernel)⟩
  | 10, _ =>
    have h1 : nB 0 1000 (1001 + f) = true := n1 _ _ (by decide) _ (by omega)
    have hw : wOf (fxC (.f (.born 1 1 1 1 (1001 + f)))) = cW 10 := by simp (config := {decide := true}) only [fxC, fcC, cuC, wOf, q1, q2, Bool.true_or, if_true, if_false, h1] <;> rfl
    exact ⟨fxD (.f (.born 1 1 1 1 (1001 + f))), rfl, fx_err (x := .f (.born 1 1 1 1 (1001 + f))) trivial hw (by decide +kernel)⟩
  | 11, _ =>
    have hw : wOf (fxC (.kinds 1 1 1 1)) = cW 11 := by simp (config := {decide := true}) only [fxC, fcC, cuC, wOf, q1, q2, Bool.true_or, if_true, if_false] <;> rfl
    exact ⟨fxD (.kinds 1 1 1 1), rfl, fx_err (x := .kinds 1 1 1 1) trivial hw (by decide +kernel)⟩
  | 12, _ =>
    have h1 : nB 0 9 (10 + f) = true := n1 _ _ (by decide) _ (by omega)
    have hw : wOf (fxC (.f (.custom 1 1 1 (.kind (10 + f))))) = cW 12 := by simp (config := {decide := true}) only [fxC, fcC, cuC, wOf, q1, q2, Bool.true_or, if_true, if_false, h1] <;> rfl
    exact ⟨fxD (.f (.custom 1 1 1 (.kind (10 + f)))), rfl, fx_err (x := .f (.custom 1 1 1 (.kind (10 + f)))) trivial hw (by decide +kernel)⟩
  | 13, _ =>
    have h1 : nB 0 1000 (1001 + f) = true := n1 _ _ (by decide) _ (by omega)
    have hw : wOf (fxC (.f (.custom 1 1 1 (.fixed (1001 + f))))) = cW 13 := by simp (config := {decide := true}) only [fxC, fcC, cuC, wOf, q1, q2, Bool.true_or, if_true, if_false, h1] <;> rfl
    exact ⟨fxD (.f (.custom 1 1 1 (.fixed (1001 + f)))), rfl, fx_err (x := .f (.custom 1 1 1 (.fixed (1001 + f)))) trivial hw (by decide +kernel)⟩
  | 14, _ =>
    have hw : wOf (fxC (.f (.takers 1 1 1 1 (2, 4) 2))) = cW 14 := by simp (config := {decide := true}) only [fxC, fcC, cuC, wOf, q1, q2, Bool.true_or, if_true, if_false] <;> rfl
    exact ⟨fxD (.f (.takers 1 1 1 1 (2, 4) 2)), rfl, fx_err (x := .f (.takers 1 1 1 1 (2, 4) 2)) (show qSm _ from by unfold qSm inB; decide) hw (by decide +kernel)⟩
  | 15, _ =>
    have h1 : nB 0 3999 (5 + f % 3000) = false := nB_f.mpr ⟨by omega, by omega⟩
    have h2 : decide ((4 : Int) < 5 + f % 3000) = true := decide_eq_true (by omega)
    have hw : wOf (fxC (.f (.free 1 (5 + f % 3000) 4))) = cW 15 := by simp (config := {decide := true}) only [fxC, fcC, cuC, wOf, q1, q2, Bool.true_or, if_true, if_false, h1, h2] <;> rfl
    exact ⟨fxD (.f (.free 1 (5 + f % 3000) 4)), rfl, fx_err (x := .f (.free 1 (5 + f % 3000) 4)) trivial hw (by decide +kernel)⟩
  | 16, _ =>
    have hw : wOf (fxC (.f (.pass 1 1 1))) = cW 16 := by simp (config := {decide := true}) only [fxC, fcC, cuC, wOf, q1, q2, Bool.true_or, if_true, if_false] <;> rfl
    exact ⟨fxD (.f (.pass 1 1 1)), rfl, fx_err (x := .f (.pass 1 1 1)) trivial hw (by decide +kernel)⟩
  | i + 17, h => exact absurd h (by omega)
theorem may_claim {K : List Kr} (h1 : K.length < 150) (h2 : manyB K isClaim < 6) : MayTell K (.claim 1 1) := ⟨⟨⟨by decide, by decide⟩, by decide, by decide⟩, fun _ _ _ e => (by cases e), h1, fun e => (by cases e), fun _ => h2⟩
theorem may_free {K : List Kr} (h1 : K.length < 150) : MayTell K (.free 1 1 2) := ⟨⟨⟨by decide, by decide⟩, ⟨by decide, by decide⟩, ⟨by decide, by decide⟩, by decide⟩, fun _ _ _ e => (by cases e), h1, fun e => (by cases e), fun e => by cases e⟩
theorem tell1 : m_Book_tell [bkO [] [] [], .dat (.tuple [.str "claim", .int 1, .int 1])] = .ok (.dat (.int 1)) [bkO (K1.map krD) P1 [], .dat (.tuple [.str "claim", .int 1, .int 1])] := tell_ok (K := []) (P := []) (Q := []) (x := .claim 1 1) (by decide) (may_claim (by decide) (by decide))
theorem tell2 : m_Book_tell [bkO (K1.map krD) P1 [], .dat (.tuple [.str "free", .int 1, .int 1, .int 2])] = .ok (.dat (.int 2)) [bkO (K2.map krD) P2 [], .dat (.tuple [.str "free", .int 1, .int 1, .int 2])] := tell_ok (K := K1) (P := P1) (Q := []) (x := .free 1 1 2) (by decide) (may_free (by decide))
abbrev rS (n f : Int) (b : OD) (s3 : Sl) : Gm := [.pin (.dat (.int n)), .pin (.dat (.int f)), .v b, s3]
theorem raise_lo (n f : Int) (h17 : n < 17) {d : PyData} {e : Er} (h1 : m__law_facts_wrong [.dat (.int n), .dat (.int f)] = .ok (.dat d) [.dat (.int n), .dat (.int f)]) (h2 : m_need_fact [.dat d] = .err e [.dat d]) : m__law_raise [.dat (.int n), .dat (.int f)] = .err e [.dat (.int n), .dat (.int f)] := by
  have bi := bkinit_ok
  have t1 := tell1
  have t2 := tell2
  generalize P2 = q2 at *
  generalize P1 = q1 at *
  generalize K2.map krD = l2 at *
  generalize K1.map krD = l1 at *
  simp! [m__law_raise, oNew, bi, t1, t2, h17, h1, h2, lLC_x, bk_lc bkm_tell]
theorem raise_hi (n f : Int) (h17 : ¬ n < 17) {b : OD} {s : Sl} {e : Er} (h : r__law_raise_10 (rS n f (bkO (K2.map krD) P2 []) .no) = .err e (rS n f b s)) : m__law_raise [.dat (.int n), .dat (.int f)] = .err e [.dat (.int n), .dat (.int f)] := by
  have bi := bkinit_ok
  have t1 := tell1
  have t2 := tell2
  generalize P2 = q2 at *
  generalize P1 = q1 at *
  generalize K2.map krD = l2 at *
  generalize K1.map krD = l1 at *
  simp only [rS] at h
  simp! [m__law_raise, oNew, bi, t1, t2, h17, h, lLC_x, bk_lc bkm_tell]
theorem kb_no {f : Int} (h0 : 0 ≤ f) : krB K2 (1 + f) = false := by
  unfold krB
  cases h : inK K2 (1 + f)
  · rfl
  · obtain ⟨a, b⟩ := inK_iff.mp h
    have b : 1 + f ≤ 2 := b
    have : f = 0 ∨ f = 1 := by omega
    rcases this with rfl | rfl <;> rfl
theorem in_no {f : Int} (h0 : 0 ≤ f) : inK K2 (3 + f) = false := by
  cases h : inK K2 (3 + f)
  · rfl
  · obtain ⟨a, b⟩ := inK_iff.mp h
    have b : 3 + f ≤ 2 := b
    omega
theorem in19 : fInTI (.int 19) (.tuple [.int 19, .int 20]) = some (.dat (.bool true)) ∧ fInTI (.int 20) (.tuple [.int 19, .int 20]) = some (.dat (.bool true)) ∧ fInTI (.int 21) (.tuple [.int 19, .int 20]) = some (.dat (.bool false)) ∧ fInTI (.int 22) (.tuple [.int 19, .int 20]) = some (.dat (.bool false)) ∧ fInTI (.int 23) (.tuple [.int 19, .int 20]) = some (.dat (.bool false)) ∧ fInTI (.int 24) (.tuple [.int 19, .int 20]) = some (.dat (.bool false)) := ⟨rfl, rfl, rfl, rfl, rfl, rfl⟩
theorem r17 (f : Int) (h0 : 0 ≤ f) : r__law_raise_10 (rS 17 f (bkO (K2.map krD) P2 []) .no) = .err ⟨"NoBeast", []⟩ (rS 17 f (bkO (K2.map krD) P2 []) .no) := by
  have w : wOf (tellC K2 (.f (.driven (1 + f) 1 1))) = "NoBeast" := by
    simp only [tellC, kb_no h0, Bool.not_false, wOf, if_true]
  have t : m_Book_tell [bkO (K2.map krD) P2 [], .dat (.tuple [.str "driven", .int (1 + f), .int 1, .int 1])] = .err ⟨"NoBeast", []⟩ [bkO (K2.map krD) P2 [], .dat (.tuple [.str "driven", .int (1 + f), .int 1, .int 1])] := by
    have := tell_no (K := K2) (P := P2) (Q := []) (x := .f (.driven (1 + f) 1 1)) (by decide) trivial (by rw [w]; decide +kernel)
    rw [w] at this
    exact this
  clear w
  simp only [rS]
  generalize P2 = q2 at *
  generalize K2.map krD = l2 at *
  simp! [r__law_raise_10, t, lLC_x, bk_lc bkm_tell]
theorem r18 (f : Int) (h0 : 0 ≤ f) : r__law_raise_10 (rS 18 f (bkO (K2.map krD) P2 []) .no) = .err ⟨"NoFact", []⟩ (rS 18 f (bkO (K2.map krD) P2 []) .no) := by
  have w : ddW K2 (.strike (3 + f)) = "NoFact" := by
    simp only [ddW, ddC, in_no h0, Bool.not_false, wOf, if_true]
  have t := strike_no (K := K2) (P := P2) (Q := []) (n := 3 + f) (by decide) (by rw [w]; decide +kernel)
  rw [w] at t
  clear w
  simp only [rS]
  generalize P2 = q2 at *
  generalize K2.map krD = l2 at *
  simp! [r__law_raise_10, r__law_raise_9, t, lLC_x, bk_lc bkm_strike]
abbrev K3 : List Kr := setB K2 1 false
abbrev K4 : List Kr := setB K3 1 true
abbrev P3 : List PyData := strP K2 P2 "strike" 1
abbrev P4 : List PyData := strP K3 P3 "keep" 1
theorem str3 : m_Book_strike [bkO (K2.map krD) P2 [], .dat (.int 1)] = .ok (.dat .none) [bkO (K3.map krD) P3 [], .dat (.int 1)] := strike_ok (K := K2) (P := P2) (Q := []) (n := 1) (by decide) (by decide) (by decide) (by decide) rfl
theorem keep4 : m_Book_keep [bkO (K3.map krD) P3 [], .dat (.int 1)] = .ok (.dat .none) [bkO (K4.map krD) P4 [], .dat (.int 1)] := keep_ok (K := K3) (P := P3) (Q := []) (n := 1) (by decide) (by decide) (by decide) (by decide) rfl
theorem r19 (f : Int) : r__law_raise_10 (rS 19 f (bkO (K2.map krD) P2 []) .no) = .err ⟨"Struck", []⟩ (rS 19 f (bkO (K3.map krD) P3 []) .no) := by
  have w : ddW K3 (.strike 1) = "Struck" := by rfl
  have t := strike_no (K := K3) (P := P3) (Q := []) (n := 1) (by decide) (by rw [w]; decide +kernel)
  have s := str3
  rw [w] at t
  clear w
  simp only [rS]
  generalize P3 = q3 at *
  generalize K3.map krD = l3 at *
  generalize P2 = q2 at *
  generalize K2.map krD = l2 at *
  simp! [r__law_raise_10, r__law_raise_9, r__law_raise_8, in19, r__law_raise_7, t, s, lLC_x, bk_lc bkm_strike]
theorem r20 (f : Int) : r__law_raise_10 (rS 20 f (bkO (K2.map krD) P2 []) .no) = .err ⟨"Kept", []⟩ (rS 20 f (bkO (K4.map krD) P4 []) .no) := by
  have w : ddW K4 (.keep 1) = "Kept" := by rfl
  have t := keep_no (K := K4) (P := P4) (Q := []) (n := 1) (by decide) (by rw [w]; decide +kernel)
  have s := str3
  have k := keep4
  rw [w] at t
  clear w
  simp only [rS]
  generalize P4 = q4 at *
  generalize K4.map krD = l4 at *
  generalize P3 = q3 at *
  generalize K3.map krD = l3 at *
  generalize P2 = q2 at *
  generalize K2.map krD = l2 at *
  simp! [r__law_raise_10, r__law_raise_9, r__law_raise_8, in19, r__law_raise_7, r__law_raise_6, t, s, k, lLC_x, bk_lc bkm_strike, bk_lc bkm_keep]
abbrev Kc (K : List Kr) : List Kr := K ++ [(.claim 1 1, true)]
theorem b1_y {K : List Kr} {P : List PyData} {n f : Int} {s3 : Sl} (h : MayTell K (.claim 1 1)) (hP : P.length < 1000000) : b__law_raise_1 (rS n f (bkO (K.map krD) P []) s3) = .nx (rS n f (bkO ((Kc K).map krD) (tellP K P (.claim 1 1)) []) s3) := by
  have t := tell_ok (P := P) (Q := []) hP h
  have t : m_Book_tell [bkO (K.map krD) P [], .dat (.tuple [.str "claim", .int 1, .int 1])] = .ok (.dat (.int ((K.length + 1 : Nat) : Int))) [bkO ((Kc K).map krD) (tellP K P (.claim 1 1)) [], .dat (.tuple [.str "claim", .int 1, .int 1])] := t
  clear h
  simp only [rS]
  generalize tellP K P (.claim 1 1) = q2 at *
  generalize (Kc K).map krD = l2 at *
  generalize K.map krD = l1 at *
  simp! [b__law_raise_1, t, lLC_x, bk_lc bkm_tell]
theorem b1_n {K : List Kr} {P : List PyData} {n f : Int} {s3 : Sl} (hl : K.length ≤ 150) (h : wOf (tellC K (.f (.claim 1 1))) = "Full") : b__law_raise_1 (rS n f (bkO (K.map krD) P []) s3) = .err ⟨"Full", []⟩ (rS n f (bkO (K.map krD) P []) s3) := by
  have t := tell_no (K := K) (P := P) (Q := []) (x := .f (.claim 1 1)) hl trivial (by rw [h]; decide +kernel)
  rw [h] at t
  have t : m_Book_tell [bkO (K.map krD) P [], .dat (.tuple [.str "claim", .int 1, .int 1])] = .err ⟨"Full", []⟩ [bkO (K.map krD) P [], .dat (.tuple [.str "claim", .int 1, .int 1])] := t
  clear h
  simp only [rS]
  generalize K.map krD = l1 at *
  simp! [b__law_raise_1, t, lLC_x, bk_lc bkm_tell]
theorem six : ∀ (m k : Nat) (K : List Kr) (P : List PyData) (n f : Int), manyB K isClaim + m = 6 → K.length + m < 140 → P.length + m < 1000 → ∃ b s3, forM [3] (gN 3) b__law_raise_1 ((List.range' k (m + 1)).map fun i : Nat => PyData.int ((0 : Int) + (i : Int))) (rS n f (bkO (K.map krD) P []) .no) = .err ⟨"Full", []⟩ (rS n f b s3)
  | 0, k, K, P, n, f, h1, h2, h3 => by
    have w : wOf (tellC K (.f (.claim 1 1))) = "Full" := by
      have : fullB K (.f (.claim 1 1)) = true := by
        unfold fullB
        rw [show decide (6 ≤ manyB K isClaim) = true from decide_eq_true (by omega)]
        simp [isClaim]
      simp only [tellC, this, fxC, fcC]
      rfl
    refine ⟨bkO (K.map krD) P [], .v (.dat (.int ((0 : Int) + (k : Int)))), ?_⟩
    rw [List.range'_succ, List.map_cons]
    exact forM_err (g1 := rS n f (bkO (K.map krD) P []) (.v (.dat (.int ((0 : Int) + (k : Int)))))) rfl (b1_n (by omega) w)
  | m + 1, k, K, P, n, f, h1, h2, h3 => by
    have hm : manyB (Kc K) isClaim = manyB K isClaim + 1 := by
      unfold manyB Kc
      rw [List.filter_append, List.length_append]
      rfl
    obtain ⟨b, s3, e⟩ := six m (k + 1) (Kc K) (tellP K P (.claim 1 1)) n f (by omega) (by simp only [Kc, List.length_append, List.length_singleton]; omega) (by simp only [tellP, List.length_append, List.length_singleton]; omega)
    refine ⟨b, s3, ?_⟩
    rw [List.range'_succ, List.map_cons, forM_step (g1 := rS n f (bkO (K.map krD) P []) (.v (.dat (.int ((0 : Int) + (k : Int)))))) rfl (b1_y (may_claim (by omega) (by omega)) (by omega))]
    exact e
theorem r21 (f : Int) : ∃ b s, r__law_raise_10 (rS 21 f (bkO (K2.map krD) P2 []) .no) = .err ⟨"Full", []⟩ (rS 21 f b s) := by
  obtain ⟨b, s, e⟩ := six 5 0 K2 P2 21 f rfl (by decide) (by decide)
  rw [← List.range_eq_range'] at e
  have e : forM [3] (gN 3) b__law_raise_1 (rng 0 6) (rS 21 f (bkO (K2.map krD) P2 []) .no) = .err ⟨"Full", []⟩ (rS 21 f b s) := e
  have h6 : (6 : Nat) ≤ gz := by decide
  refine ⟨b, s, ?_⟩
  simp only [rS] at *
  generalize P2 = q2 at *
  generalize K2.map krD = l2 at *
  simp! [r__law_raise_10, r__law_raise_9, r__law_raise_8, in19, r__law_raise_7, r__law_raise_6, r__law_raise_5, forRA_0 6 6 rfl h6, e]
theorem past2 : PastOk P2 := past_tell (past_tell past_nil (by decide) (by decide) _) (by decide) (by decide) _
theorem past1 : PastOk P1 := past_tell past_nil (by decide) (by decide) _
abbrev Q1 : List PyData := [.tuple [.tuple [.str "tell", fcD (.free 1 1 2)], .list (K2.map krD)]]
abbrev Q2 : List PyData := Q1 ++ [.tuple [.tuple [.str "tell", fcD (.claim 1 1)], .list (K1.map krD)]]
theorem un1 : m_Book_undo [bkO (K2.map krD) P2 []] = .ok (.dat (.tuple [.str "tell", fcD (.free 1 1 2)])) [bkO (K1.map krD) P1 Q1] := undo_ok (P := P1) (Q := []) (M := K1.map krD) (L := K2.map krD) (by decide) (by decide) (by decide) (by decide) past2
theorem un2 : m_Book_undo [bkO (K1.map krD) P1 Q1] = .ok (.dat (.tuple [.str "tell", fcD (.claim 1 1)])) [bkO [] [] Q2] := undo_ok (P := []) (Q := Q1) (M := []) (L := K1.map krD) (by decide) (by decide) (by decide) (by decide) past1
theorem e_nil : fEq (.list []) (.list []) = some (.dat (.bool true)) := by
  have := fEq_refl (d := .list []) (n := 1) (gd_lst (by simp [gz]) fun d hd => by cases hd) (by decide)
  exact this
theorem un3 : m_Book_undo [bkO [] [] Q2] = .err ⟨"NoBack", []⟩ [bkO [] [] Q2] := by
  have := e_nil
  generalize Q2 = q at *
  simp! [m_Book_undo, wP, plOd_x, pl_past, e_nil]
theorem re0 : m_Book_redo [bkO (K2.map krD) P2 []] = .err ⟨"NoForth", []⟩ [bkO (K2.map krD) P2 []] := by
  have := e_nil
  generalize P2 = q2 at *
  generalize K2.map krD = l2 at *
  simp! [m_Book_redo, wP, plOd_x, pl_fut, e_nil]
theorem b2_step {n f : Int} {o o' : OD} {L P Q : List PyData} {d : PyData} (h : m_Book_undo [bkO L P Q] = .ok (.dat d) [o']) {s3 : Sl} : b__law_raise_2 (rS n f (bkO L P Q) s3) = .nx (rS n f o' s3) := by
  simp only [rS]
  simp! [b__law_raise_2, h, lLC_x, bk_lc bkm_undo]
theorem b2_err {n f : Int} {o' : OD} {L P Q : List PyData} {e : Er} (h : m_Book_undo [bkO L P Q] = .err e [o']) {s3 : Sl} : b__law_raise_2 (rS n f (bkO L P Q) s3) = .err e (rS n f o' s3) := by
  simp only [rS]
  simp! [b__law_raise_2, h, lLC_x, bk_lc bkm_undo]
theorem r22 (f : Int) : ∃ b s, r__law_raise_10 (rS 22 f (bkO (K2.map krD) P2 []) .no) = .err ⟨"NoBack", []⟩ (rS 22 f b s) := by
  have e : forM [3] (gN 3) b__law_raise_2 (rng 0 3) (rS 22 f (bkO (K2.map krD) P2 []) .no) = .err ⟨"NoBack", []⟩ (rS 22 f (bkO [] [] Q2) (.v (.dat (.int 2)))) := by
    show forM [3] (gN 3) b__law_raise_2 [.int 0, .int 1, .int 2] _ = _
    rw [forM_step (g1 := rS 22 f (bkO (K2.map krD) P2 []) (.v (.dat (.int 0)))) rfl (b2_step (o := .dat .none) un1)]
    show forM [3] (gN 3) b__law_raise_2 [.int 1, .int 2] (rS 22 f (bkO (K1.map krD) P1 Q1) .no) = _
    rw [forM_step (g1 := rS 22 f (bkO (K1.map krD) P1 Q1) (.v (.dat (.int 1)))) rfl (b2_step (o := .dat .none) un2)]
    show forM [3] (gN 3) b__law_raise_2 [.int 2] (rS 22 f (bkO [] [] Q2) .no) = _
    exact forM_err (g1 := rS 22 f (bkO [] [] Q2) (.v (.dat (.int 2)))) rfl (b2_err un3)
  have h3 : (3 : Nat) ≤ gz := by decide
  refine ⟨bkO [] [] Q2, .v (.dat (.int 2)), ?_⟩
  simp only [rS] at *
  generalize Q2 = u2 at *
  generalize P2 = q2 at *
  generalize K2.map krD = l2 at *
  simp! [r__law_raise_10, r__law_raise_9, r__law_raise_8, in19, r__law_raise_7, r__law_raise_6, r__law_raise_5, r__law_raise_4, forRA_0 3 3 rfl h3, e]
theorem r23 (f : Int) : r__law_raise_10 (rS 23 f (bkO (K2.map krD) P2 []) .no) = .err ⟨"NoForth", []⟩ (rS 23 f (bkO (K2.map krD) P2 []) .no) := by
  have t := re0
  simp only [rS]
  generalize P2 = q2 at *
  generalize K2.map krD = l2 at *
  simp! [r__law_raise_10, r__law_raise_9, r__law_raise_8, in19, r__law_raise_7, r__law_raise_6, r__law_raise_5, r__law_raise_4, r__law_raise_3, t, lLC_x, bk_lc bkm_redo]
abbrev BTx : Er := ⟨"BadText", [("at", .int 0)]⟩
theorem cut_split : Txt.split "cut" " " = (["cut"] : List Str) := by decide +kernel
theorem cut_len : ("cut" : Str).length ≤ 1000000 := by decide +kernel
theorem nums_no : m_read_numbers [.dat (.list []), .dat (.int 4)] = .err BTx [.dat (.list []), .dat (.int 4)] := by
  simp! [m_read_numbers, sErrI]
theorem cut_fact : m_read_fact [.dat (.str "cut")] = .err BTx [.dat (.str "cut")] := by
  have o := os_words (i := 0) cut_split cut_len (by decide) [.pin (.dat (.str "cut")), .no, .no] rfl
  have n := nums_no
  have e1 : fEq (.str "cut") (.str "custom") = some (.dat (.bool false)) := fEq_s false (by decide +kernel)
  have k : k_FORMS.contains ("cut" : Str) = true := by decide +kernel
  have l : t_FORMS.lookup ("cut" : Str) = some 4 := by decide +kernel
  change oSplit (vP (pVar 0)) (vP (pC (.str " "))) _ = .ok (.lst [.str "cut"]) _ at o
  have ct : cutD [PyData.str "cut"] (some 1) none = [] := cut_fromN _ 1
  simp! [m_read_fact, r_read_fact_2, r_read_fact_1, o, e1, k, l, ct, n]
theorem cut_deed : m_read_deed [.dat (.str "cut")] = .err BTx [.dat (.str "cut")] := by
  have o := os_words (i := 0) cut_split cut_len (by decide) [.pin (.dat (.str "cut")), .no] rfl
  have n := cut_fact
  have e1 : fInT (.str "cut") (.tuple [.str "strike", .str "keep"]) = some (.dat (.bool false)) := inT_s ["strike", "keep"] false (by decide +kernel)
  change oSplit (vP (pVar 0)) (vP (pC (.str " "))) _ = .ok (.lst [.str "cut"]) _ at o
  simp! [m_read_deed, o, e1, n]
theorem r24 (f : Int) : r__law_raise_10 (rS 24 f (bkO (K2.map krD) P2 []) .no) = .err BTx (rS 24 f (bkO (K2.map krD) P2 []) .no) := by
  have t := cut_deed
  simp only [rS]
  generalize P2 = q2 at *
  generalize K2.map krD = l2 at *
  simp! [r__law_raise_10, r__law_raise_9, r__law_raise_8, in19, r__law_raise_7, r__law_raise_6, r__law_raise_5, r__law_raise_4, r__law_raise_3, t]
/-! each turn -/
theorem turn_all (i : Nat) (hi : i < 25) (f : Int) (h0 : 0 ≤ f) (h1 : f < 1000000000) : ∃ e : Er, m__law_raise [.dat (.int (i : Int)), .dat (.int f)] = .err e [.dat (.int (i : Int)), .dat (.int f)] ∧ m__law_row e = some (.lst (FL i)) ∧ clsF xl_TitheError e.c = some true := by
  have lo : ∀ (i : Nat) (w : Str), i < 17 → cW i = w → (∀ xs, m__law_row ⟨w, xs⟩ = some (.lst (FL i)) ∧ clsF xl_TitheError w = some true) → ∃ e : Er, m__law_raise [.dat (.int (i : Int)), .dat (.int f)] = .err e [.dat (.int (i : Int)), .dat (.int f)] ∧ m__law_row e = some (.lst (FL i)) ∧ clsF xl_TitheError e.c = some true := fun i w hi hw h => by
    obtain ⟨d, e1, e2⟩ := wrong_err i hi f h0 h1
    rw [hw] at e2
    exact ⟨_, raise_lo (i : Int) f (by omega) (wrong_ok (i : Int) f h0 h1 e1) e2, (h []).1, (h []).2⟩
  match i, hi with
  | 0, _ => exact lo 0 _ (by decide) rfl row_BadWord
  | 1, _ => exact lo 1 _ (by decide) rfl row_BadField
  | 2, _ => exact lo 2 _ (by decide) rfl row_BadParish
  | 3, _ => exact lo 3 _ (by decide) rfl row_BadHolder
  | 4, _ => exact lo 4 _ (by decide) rfl row_BadKind
  | 5, _ => exact lo 5 _ (by decide) rfl row_BadTaker
  | 6, _ => exact lo 6 _ (by decide) rfl row_BadDay
  | 7, _ => exact lo 7 _ (by decide) rfl row_BadYear
  | 8, _ => exact lo 8 _ (by decide) rfl row_BadCount
  | 9, _ => exact lo 9 _ (by decide) rfl row_BadSpan
  | 10, _ => exact lo 10 _ (by decide) rfl row_BadWorth
  | 11, _ => exact lo 11 _ (by decide) rfl row_BadCustom
  | 12, _ => exact lo 12 _ (by decide) rfl row_BadAside
  | 13, _ => exact lo 13 _ (by decide) rfl row_BadPence
  | 14, _ => exact lo 14 _ (by decide) rfl row_BadPart
  | 15, _ => exact lo 15 _ (by decide) rfl row_Backward
  | 16, _ => exact lo 16 _ (by decide) rfl row_Same
  | 17, _ => exact ⟨_, raise_hi 17 f (by decide) (r17 f h0), (row_NoBeast []).1, (row_NoBeast []).2⟩
  | 18, _ => exact ⟨_, raise_hi 18 f (by decide) (r18 f h0), (row_NoFact []).1, (row_NoFact []).2⟩
  | 19, _ => exact ⟨_, raise_hi 19 f (by decide) (r19 f), (row_Struck []).1, (row_Struck []).2⟩
  | 20, _ => exact ⟨_, raise_hi 20 f (by decide) (r20 f), (row_Kept []).1, (row_Kept []).2⟩
  | 21, _ =>
    obtain ⟨b, s, e⟩ := r21 f
    exact ⟨_, raise_hi 21 f (by decide) e, (row_Full []).1, (row_Full []).2⟩
  | 22, _ =>
    obtain ⟨b, s, e⟩ := r22 f
    exact ⟨_, raise_hi 22 f (by decide) e, (row_NoBack []).1, (row_NoBack []).2⟩
  | 23, _ => exact ⟨_, raise_hi 23 f (by decide) (r23 f), (row_NoForth []).1, (row_NoForth []).2⟩
  | 24, _ => exact ⟨_, raise_hi 24 f (by decide) (r24 f), (row_BadText [("at", .int 0)]).1, (row_BadText []).2⟩
  | i + 25, h => exact absurd h (by omega)
theorem gd_FL (i : Nat) : Gd 1 (.list (FL i)) := gd_lst (by simp [FL, gz]) fun d hd => by
  obtain ⟨j, _, rfl⟩ := List.mem_map.mp hd
  trivial
abbrev k52S (ns : List Int) (b : List PyData) (f : Int) (s3 s4 : Sl) : Gm := [.pin (.scr ns), .v (.lst b), .v (.dat (.int f)), s3, s4, .no, .no]
theorem k52_turn {ns : List Int} {b : List PyData} {f : Int} (h0 : 0 ≤ f) (h1 : f < 1000000000) (i : Nat) (hi : i < 25) {n : Int} (hn : n = (i : Int)) : b_law_3 (k52S ns b f (.v (.dat (.int n))) .no) = .nx (k52S ns b f (.v (.dat (.int n))) (.v (.dat (.list (FL i))))) := by
  obtain ⟨e, e1, e2, e3⟩ := turn_all i hi f h0 h1
  rw [← hn] at e1
  have ne : fNe (.list (FL i)) (.list (FL i)) = some (.dat (.bool false)) := fNe_refl (gd_FL i) (by decide)
  have c := fl_get i hn (.pin (.scr ns)) (.v (.lst b)) (.v (.dat (.int f))) (.v (.dat (.list (FL i)))) .no
  have c : compRA [6] (gN 6) tYesM e_law_2 [.int 26] _ = _ := c
  clear hn
  simp only [k52S]
  generalize FL i = F at *
  simp! [b_law_3, h_law_1, oHot, e1, e2, e3, c, ne]
theorem k52_loop {ns : List Int} {b : List PyData} {f : Int} (h0 : 0 ≤ f) (h1 : f < 1000000000) : ∀ (n k : Nat), k + n ≤ 25 → forM [3, 4] (gN 3) b_law_3 ((List.range' k n).map fun i : Nat => PyData.int ((0 : Int) + (i : Int))) (k52S ns b f .no .no) = .nx (k52S ns b f .no .no)
  | 0, k, _ => by simp [forM]
  | n + 1, k, h => by
    rw [List.range'_succ, List.map_cons, forM_step (g1 := k52S ns b f (.v (.dat (.int ((0 : Int) + (k : Int))))) .no) rfl (k52_turn h0 h1 k (by omega) (by omega))]
    exact k52_loop h0 h1 n (k + 1) (by omega)
theorem law_true (ns : List Int) (_ : ns.length ≤ 63) : ∃ os, m_law [.scr ns] = .ok (.dat (.bool true)) os := by
  obtain ⟨b, hb, e⟩ := bag_ok ns
  obtain ⟨u, b1, hb1, u1, u2, e1⟩ := pull_ok hb (n := 2) (by decide) (by decide)
  obtain ⟨m, em, m1, m2⟩ := pickI (l := [.int 1, .int 1000000000]) (lo := 1) (hi := 1000000000) rfl u1 u2
  obtain ⟨f, b2, hb2, f1, f2, e2⟩ := pull_ok hb1 (n := m) (by omega) (sm_lit (by omega) (by omega)).log
  have lo := k52_loop (ns := ns) (b := b2) f1 (show f < 1000000000 by omega) 25 0 (by decide)
  rw [← List.range_eq_range'] at lo
  have lo : forM [3, 4] (gN 3) b_law_3 (rng 0 25) (k52S ns b2 f .no .no) = .nx (k52S ns b2 f .no .no) := lo
  have hn : (25 : Nat) ≤ gz := by decide
  have nd : ([1] : List Nat).Nodup := by decide
  refine ⟨[.scr ns], ?_⟩
  simp only [k52S] at lo
  clear hb hb1 hb2
  simp! [m_law, r_law_4, e, e1, nd, fPow9, em, e2, forRA_0 25 25 rfl hn, lo]

end VL
namespace VLD
open PySem PySem.Spec PyProof.Rows L2 VL
abbrev hk : PySem.W.Hook := hookP fa fn ex ts
def ob (s : PySem.W.SharedT) : (He.AlD × Bool) × TabO := (obsP fa fn ex (HandSHeadRun.getT s), tabsP ts (HandSHeadRun.getT s))
theorem ob_eq (s : PySem.W.SharedT) : ob s = hk.obs s.abs := obsP_eq (HandSHeadRun.getT_eq s)
theorem runL (w : World) : RunL R 20000 w := fT_all (P := fun w => RunL R 20000 w) runL_0 runL_1 w
theorem runT (w : World) : RunU R (PySem.W.view R.prog [149]) 20000 loose ts w := fT_all (P := fun w => RunU R (PySem.W.view R.prog [149]) 20000 loose ts w) runT_0 runT_1 w
theorem runP0 (w : World) : RunP R 20000 fa0 fn0 ex0 w := fT_all (P := fun w => RunP R 20000 fa0 fn0 ex0 w) runP0_0 runP0_1 w
theorem runP1 (w : World) : RunP R 20000 fa1 fn1 ex1 w := fT_all (P := fun w => RunP R 20000 fa1 fn1 ex1 w) runP1_0 runP1_1 w
theorem runP2 (w : World) : RunP R 20000 fa2 fn2 ex2 w := fT_all (P := fun w => RunP R 20000 fa2 fn2 ex2 w) runP2_0 runP2_1 w
theorem runP3 (w : World) : RunP R 20000 fa3 fn3 ex3 w := fT_all (P := fun w => RunP R 20000 fa3 fn3 ex3 w) runP3_0 runP3_1 w
theorem runP4 (w : World) : RunP R 20000 fa4 fn4 ex4 w := fT_all (P := fun w => RunP R 20000 fa4 fn4 ex4 w) runP4_0 runP4_1 w
theorem runP5 (w : World) : RunP R 20000 fa5 fn5 ex5 w := fT_all (P := fun w => RunP R 20000 fa5 fn5 ex5 w) runP5_0 runP5_1 w
theorem run (w : World) : HandSHeadRun.RunEq R (PySem.W.view R.prog [149]) hk ob 20000 loose w := run_ofP (runL w) (runT w).s (RunP.app (RunP.app (RunP.app (RunP.app (RunP.app (runP0 w) (runP1 w)) (runP2 w)) (runP3 w)) (runP4 w)) (runP5 w)) (runT w).q
section
variable {P : Program} {w : World} {K : PySem.W.Frag} {mg : Str → Option Value} {base : Heap}
theorem sc_BadText___init__ : FnScope ["self", "at"] ["self", "at"] (defScope (inCls (top 27) 0)) := ⟨rfl, rfl, rfl, by decide +kernel, rfl, by decide +kernel, by decide +kernel⟩
theorem ok_BadText___init__ {h : Heap} (X : K.In h) (G : h.Ns mainGlobals mg) (c : ikcB K "BadText" "TitheError" "at" = true) (D : DfX K "BadText" "BadText.__init__" (inCls (top 27) 0)) : IKc P w K mg base 1 "BadText" "at" :=
  ikc_mk (m := "a text that writes nothing") X G c D sc_BadText___init__ (fun _ _ _ _ _ _ us hl => match us, hl with | [_, _], _ => rfl) fun CT gC sg rd fc f cdv A outer s H E =>
    pss_cons (ps_expr (pe_cinit gC sg rd fc (pa_cons (pv 0) (pa_cons pe_str pa_nil)))) (pss_one (ps_ost (pv 0) (pv 1)))

theorem sc__law_bag : FnScope ["_law_script", "_law_cells", "_law_mark", "_law_cell"] ["_law_script"] (defScope (top 144)) := ⟨rfl, rfl, rfl, by decide +kernel, rfl, by decide +kernel, by decide +kernel⟩
theorem ok__law_bag (D : Df K mg "_law_bag" (top 144)) (n_list : mg "list" = none) (n_len : mg "len" = none) : FK P w K mg base 1 "_law_bag" ["_law_script"] m__law_bag := fk_mk D sc__law_bag rfl rfl (fun _ _ _ _ _ _ us hl => match us, hl with | [_], _ => rfl) fun f cdv A outer s H E hr => by
  have hN := (sc__law_bag).nd
  have hp : PassesOwn (model P w) (cxOf (L2N.CX P w) P w K mg base ["_law_script", "_law_cells", "_law_mark", "_law_cell"] "_law_bag" (defScope (top 144)) f cdv A outer s H E).A (cxOf (L2N.CX P w) P w K mg base ["_law_script", "_law_cells", "_law_mark", "_law_cell"] "_law_bag" (defScope (top 144)) f cdv A outer s H E).env (cxOf (L2N.CX P w) P w K mg base ["_law_script", "_law_cells", "_law_mark", "_law_cell"] "_law_bag" (defScope (top 144)) f cdv A outer s H E).xe := passes_of rfl
  exact dss_cons (ds_set (i := 1) hN (DV.o (DO.v (do_callTy call_list_of g_list n_list (by decide +kernel) (da_cons (DO.v do_slS) da_nil))))) (dss_cons (ds_set (i := 2) hN (DV.o (DP.v (DR.p (dr_bin op_addG g_add (DP.w dp_int) (DP.w (DR.p (dr_callB call_len g_len n_len (by decide +kernel) (dwa_cons (DP.w (dp_var 1)) dwa_nil))))))))) (dss_cons (ds_forL [3] hp (DP.v (dp_var 1)) (dg_name 3 hN) (dss_one (ds_set (i := 2) hN (DV.o (DP.v (DR.p (dr_bin op_mod g_mod (DP.w (DR.p (dr_bin op_addG g_add (DP.w (DR.p (dr_bin op_mulG g_mul (DP.w (dp_var 2)) (DP.w dp_int)))) (DP.w (dp_var 3))))) (DP.w dp_int)))))))) (dss_one (ds_ret (do_lst (da_cons (DP.v (dp_var 1)) (da_cons (DP.v dp_int) (da_cons (DP.v dp_int) (da_cons (DP.v (dp_var 2)) da_nil)))))))))

theorem sc__law_pull : FnScope ["_law_bag_here", "_law_many", "_law_drawn", "_law_seed", "_law_one", "_law_two"] ["_law_bag_here", "_law_many"] (defScope (top 145)) := ⟨rfl, rfl, rfl, by decide +kernel, rfl, by decide +kernel, by decide +kernel⟩
theorem ok__law_pull (D : Df K mg "_law_pull" (top 145)) (n_len : mg "len" = none) : FK P w K mg base 1 "_law_pull" ["_law_bag_here", "_law_many"] m__law_pull := fk_mk D sc__law_pull rfl rfl (fun _ _ _ _ _ _ us hl => match us, hl with | [_, _], _ => rfl) fun f cdv A outer s H E hr => by
  have hN := (sc__law_pull).nd
  exact dss_cons (ds_if (dt_cmpW op_lt g_lt (DP.w (DR.p (dr_ix (dw_var 0) (DP.w dp_int)))) (DP.w dp_int)) (dss_cons (ds_setIx (k := 0) (DP.v (DR.p (dr_bin op_addG g_add (DP.w (DR.p (dr_ix (dw_var 0) (DP.w dp_int)))) (DP.w dp_int)))) (DP.v dp_int)) (dss_cons (ds_set (i := 3) hN (DV.o (DP.v (DR.p (dr_bin op_addG g_add (DP.w (DR.p (dr_ix (dw_var 0) (DP.w dp_int)))) (DP.w (DR.p (dr_bin op_mulG g_mul (DP.w (DR.p (dr_ix (dw_var 0) (DP.w dp_int)))) (DP.w dp_int))))))))) (dss_cons (ds_if (dt_cmpW op_le g_le (DP.w (DR.p (dr_ix (dw_var 0) (DP.w dp_int)))) (DP.w (DR.p (dr_callB call_len g_len n_len (by decide +kernel) (dwa_cons (DP.w (DR.p (dr_ix (dw_var 0) (DP.w dp_int)))) dwa_nil))))) (dss_one (ds_set (i := 3) hN (DV.o (DP.v (DR.p (dr_ix (DP.w (DR.p (dr_ix (dw_var 0) (DP.w dp_int)))) (DP.w (DR.p (dr_bin op_sub g_sub (DP.w (DR.p (dr_ix (dw_var 0) (DP.w dp_int)))) (DP.w dp_int)))))))))) dss_nil) (dss_cons (ds_if (DQ.t (dq_or (dt_cmpW (op_gtG hr.units0) g_gt (DP.w (DR.p (dr_ix (dw_var 0) (DP.w dp_int)))) (DP.w (DR.p (dr_callB call_len g_len n_len (by decide +kernel) (dwa_cons (DP.w (DR.p (dr_ix (dw_var 0) (DP.w dp_int)))) dwa_nil))))) (dq_or1 (dt_cmpW op_lt g_lt (DP.w (dp_var 3)) (DP.w (DR.p (dr_bin op_pow g_pow (DP.w dp_int) (DP.w dp_int)))))))) (dss_cons (ds_set (i := 4) hN (DV.o (DP.v (DR.p (dr_bin op_mod g_mod (DP.w (DR.p (dr_bin op_addG g_add (DP.w (DR.p (dr_bin op_addG g_add (DP.w (DR.p (dr_bin op_mulG g_mul (DP.w (dp_var 3)) (DP.w dp_int)))) (DP.w (DR.p (dr_bin op_mulG g_mul (DP.w (DR.p (dr_ix (dw_var 0) (DP.w dp_int)))) (DP.w dp_int))))))) (DP.w (DR.p (dr_ix (dw_var 0) (DP.w dp_int))))))) (DP.w dp_int)))))) (dss_cons (ds_set (i := 5) hN (DV.o (DP.v (DR.p (dr_bin op_mod g_mod (DP.w (DR.p (dr_bin op_addG g_add (DP.w (DR.p (dr_bin op_mulG g_mul (DP.w (dp_var 4)) (DP.w (dp_var 4))))) (DP.w (DR.p (dr_ix (dw_var 0) (DP.w dp_int))))))) (DP.w dp_int)))))) (dss_one (ds_ret (DR.o (dr_bin op_mod g_mod (DP.w (DR.p (dr_bin op_fdivW g_fdiv (DP.w (DR.p (dr_bin op_mod g_mod (DP.w (DR.p (dr_bin op_addG g_add (DP.w (DR.p (dr_bin op_mulG g_mul (DP.w (dp_var 5)) (DP.w dp_int)))) (DP.w (dp_var 4))))) (DP.w dp_int)))) (DP.w dp_int)))) (DP.w (dp_var 1)))))))) dss_nil) (dss_one (ds_setIx (k := 0) (DP.v (dp_var 3)) (DP.v dp_int))))))) dss_nil) (dss_cons (ds_set (i := 2) hN (DV.o (DP.v (DR.p (dr_bin op_mod g_mod (DP.w (DR.p (dr_ix (dw_var 0) (DP.w dp_int)))) (DP.w (dp_var 1))))))) (dss_cons (ds_setIx (k := 0) (DP.v (DR.p (dr_bin op_fdivW g_fdiv (DP.w (DR.p (dr_ix (dw_var 0) (DP.w dp_int)))) (DP.w (dp_var 1))))) (DP.v dp_int)) (dss_one (ds_ret (DV.o (DP.v (dp_var 2)))))))

theorem sc_need_day : FnScope ["day"] ["day"] (defScope (top 32)) := ⟨rfl, rfl, rfl, by decide +kernel, rfl, by decide +kernel, by decide +kernel⟩
theorem ok_need_day (D : Df K mg "need_day" (top 32)) (k_LAST_DAY : Con K mg "LAST_DAY" c_LAST_DAY) (e_BadDay : EK K mg "BadDay") : FK P w K mg base 1 "need_day" ["day"] m_need_day := fk_mk D sc_need_day rfl rfl (fun _ _ _ _ _ _ us hl => match us, hl with | [_], _ => rfl) fun f cdv A outer s H E hr => by
  have hN := (sc_need_day).nd
  have tk : L2N.Takes (cxOf (L2N.CX P w) P w K mg base ["day"] "need_day" (defScope (top 32)) f cdv A outer s H E) (fun cls d _ H' => E cls d H') := L2N.takes_of rfl rfl rfl rfl
  exact dss_one (ds_if (dt_not (dt_chain op_le op_le g_le g_le (DP.v dp_int) (DP.v (dp_var 0)) (DP.v (dp_con k_LAST_DAY)))) (dss_one (ds_raiseK e_BadDay tk)) dss_nil)

theorem sc_need_field : FnScope ["field"] ["field"] (defScope (top 40)) := ⟨rfl, rfl, rfl, by decide +kernel, rfl, by decide +kernel, by decide +kernel⟩
theorem ok_need_field (D : Df K mg "need_field" (top 40)) (k_FIELDS : Con K mg "FIELDS" c_FIELDS) (e_BadField : EK K mg "BadField") : FK P w K mg base 1 "need_field" ["field"] m_need_field := fk_mk D sc_need_field rfl rfl (fun _ _ _ _ _ _ us hl => match us, hl with | [_], _ => rfl) fun f cdv A outer s H E hr => by
  have hN := (sc_need_field).nd
  have tk : L2N.Takes (cxOf (L2N.CX P w) P w K mg base ["field"] "need_field" (defScope (top 40)) f cdv A outer s H E) (fun cls d _ H' => E cls d H') := L2N.takes_of rfl rfl rfl rfl
  exact dss_one (ds_if (dt_not (dt_chain op_le op_le g_le g_le (DP.v dp_int) (DP.v (dp_var 0)) (DP.v (dp_con k_FIELDS)))) (dss_one (ds_raiseK e_BadField tk)) dss_nil)

theorem sc_need_parish : FnScope ["parish"] ["parish"] (defScope (top 68)) := ⟨rfl, rfl, rfl, by decide +kernel, rfl, by decide +kernel, by decide +kernel⟩
theorem ok_need_parish (D : Df K mg "need_parish" (top 68)) (k_PARISHES : Con K mg "PARISHES" c_PARISHES) (e_BadParish : EK K mg "BadParish") : FK P w K mg base 1 "need_parish" ["parish"] m_need_parish := fk_mk D sc_need_parish rfl rfl (fun _ _ _ _ _ _ us hl => match us, hl with | [_], _ => rfl) fun f cdv A outer s H E hr => by
  have hN := (sc_need_parish).nd
  have tk : L2N.Takes (cxOf (L2N.CX P w) P w K mg base ["parish"] "need_parish" (defScope (top 68)) f cdv A outer s H E) (fun cls d _ H' => E cls d H') := L2N.takes_of rfl rfl rfl rfl
  exact dss_one (ds_if (dt_not (dt_chain op_le op_le g_le g_le (DP.v dp_int) (DP.v (dp_var 0)) (DP.v (dp_con k_PARISHES)))) (dss_one (ds_raiseK e_BadParish tk)) dss_nil)

theorem sc_need_lies : FnScope ["fact"] ["fact"] (defScope (top 115)) := ⟨rfl, rfl, rfl, by decide +kernel, rfl, by decide +kernel, by decide +kernel⟩
theorem ok_need_lies (D : Df K mg "need_lies" (top 115)) (c_need_field : FK P w K mg base 1 "need_field" ["field"] m_need_field) (c_need_parish : FK P w K mg base 1 "need_parish" ["parish"] m_need_parish) (c_need_day : FK P w K mg base 1 "need_day" ["day"] m_need_day) : FK P w K mg base 2 "need_lies" ["fact"] m_need_lies := fk_mk D sc_need_lies rfl rfl (fun _ _ _ _ _ _ us hl => match us, hl with | [_], _ => rfl) fun f cdv A outer s H E hr => by
  have hN := (sc_need_lies).nd
  have tk : L2N.Takes (cxOf (L2N.CX P w) P w K mg base ["fact"] "need_lies" (defScope (top 115)) f cdv A outer s H E) (fun cls d _ H' => E cls d H') := L2N.takes_of rfl rfl rfl rfl
  exact dss_cons (ds_expr (do_fk c_need_field hr (by decide) tk (dl_d (DP.v (DR.p (dr_ix (DP.w (dp_var 0)) (DP.w dp_int)))) dl_nil))) (dss_cons (ds_expr (do_fk c_need_parish hr (by decide) tk (dl_d (DP.v (DR.p (dr_ix (DP.w (dp_var 0)) (DP.w dp_int)))) dl_nil))) (dss_one (ds_expr (do_fk c_need_day hr (by decide) tk (dl_d (DP.v (DR.p (dr_ix (DP.w (dp_var 0)) (DP.w dp_int)))) dl_nil)))))

theorem sc_need_held : FnScope ["fact"] ["fact"] (defScope (top 116)) := ⟨rfl, rfl, rfl, by decide +kernel, rfl, by decide +kernel, by decide +kernel⟩
theorem ok_need_held (D : Df K mg "need_held" (top 116)) (c_need_field : FK P w K mg base 1 "need_field" ["field"] m_need_field) (k_HOLDERS : Con K mg "HOLDERS" c_HOLDERS) (e_BadHolder : EK K mg "BadHolder") (c_need_day : FK P w K mg base 1 "need_day" ["day"] m_need_day) : FK P w K mg base 2 "need_held" ["fact"] m_need_held := fk_mk D sc_need_held rfl rfl (fun _ _ _ _ _ _ us hl => match us, hl with | [_], _ => rfl) fun f cdv A outer s H E hr => by
  have hN := (sc_need_held).nd
  have tk : L2N.Takes (cxOf (L2N.CX P w) P w K mg base ["fact"] "need_held" (defScope (top 116)) f cdv A outer s H E) (fun cls d _ H' => E cls d H') := L2N.takes_of rfl rfl rfl rfl
  exact dss_cons (ds_expr (do_fk c_need_field hr (by decide) tk (dl_d (DP.v (DR.p (dr_ix (DP.w (dp_var 0)) (DP.w dp_int)))) dl_nil))) (dss_cons (ds_if (dt_not (dt_chain op_le op_le g_le g_le (DP.v dp_int) (DP.v (DR.p (dr_ix (DP.w (dp_var 0)) (DP.w dp_int)))) (DP.v (dp_con k_HOLDERS)))) (dss_one (ds_raiseK e_BadHolder tk)) dss_nil) (dss_one (ds_expr (do_fk c_need_day hr (by decide) tk (dl_d (DP.v (DR.p (dr_ix (DP.w (dp_var 0)) (DP.w dp_int)))) dl_nil)))))

theorem sc_need_free : FnScope ["fact"] ["fact"] (defScope (top 117)) := ⟨rfl, rfl, rfl, by decide +kernel, rfl, by decide +kernel, by decide +kernel⟩
theorem ok_need_free (D : Df K mg "need_free" (top 117)) (c_need_field : FK P w K mg base 1 "need_field" ["field"] m_need_field) (c_need_day : FK P w K mg base 1 "need_day" ["day"] m_need_day) (e_Backward : EK K mg "Backward") : FK P w K mg base 2 "need_free" ["fact"] m_need_free := fk_mk D sc_need_free rfl rfl (fun _ _ _ _ _ _ us hl => match us, hl with | [_], _ => rfl) fun f cdv A outer s H E hr => by
  have hN := (sc_need_free).nd
  have tk : L2N.Takes (cxOf (L2N.CX P w) P w K mg base ["fact"] "need_free" (defScope (top 117)) f cdv A outer s H E) (fun cls d _ H' => E cls d H') := L2N.takes_of rfl rfl rfl rfl
  exact dss_cons (ds_expr (do_fk c_need_field hr (by decide) tk (dl_d (DP.v (DR.p (dr_ix (DP.w (dp_var 0)) (DP.w dp_int)))) dl_nil))) (dss_cons (ds_expr (do_fk c_need_day hr (by decide) tk (dl_d (DP.v (DR.p (dr_ix (DP.w (dp_var 0)) (DP.w dp_int)))) dl_nil))) (dss_cons (ds_expr (do_fk c_need_day hr (by decide) tk (dl_d (DP.v (DR.p (dr_ix (DP.w (dp_var 0)) (DP.w dp_int)))) dl_nil))) (dss_one (ds_if (dt_cmpW op_lt g_lt (DP.w (DR.p (dr_ix (DP.w (dp_var 0)) (DP.w dp_int)))) (DP.w (DR.p (dr_ix (DP.w (dp_var 0)) (DP.w dp_int))))) (dss_one (ds_raiseK e_Backward tk)) dss_nil))))

theorem sc_need_year : FnScope ["year"] ["year"] (defScope (top 33)) := ⟨rfl, rfl, rfl, by decide +kernel, rfl, by decide +kernel, by decide +kernel⟩
theorem ok_need_year (D : Df K mg "need_year" (top 33)) (k_LAST_YEAR : Con K mg "LAST_YEAR" c_LAST_YEAR) (e_BadYear : EK K mg "BadYear") : FK P w K mg base 1 "need_year" ["year"] m_need_year := fk_mk D sc_need_year rfl rfl (fun _ _ _ _ _ _ us hl => match us, hl with | [_], _ => rfl) fun f cdv A outer s H E hr => by
  have hN := (sc_need_year).nd
  have tk : L2N.Takes (cxOf (L2N.CX P w) P w K mg base ["year"] "need_year" (defScope (top 33)) f cdv A outer s H E) (fun cls d _ H' => E cls d H') := L2N.takes_of rfl rfl rfl rfl
  exact dss_one (ds_if (dt_not (dt_chain op_le op_le g_le g_le (DP.v dp_int) (DP.v (dp_var 0)) (DP.v (dp_con k_LAST_YEAR)))) (dss_one (ds_raiseK e_BadYear tk)) dss_nil)

theorem sc_need_kind : FnScope ["kind"] ["kind"] (defScope (top 69)) := ⟨rfl, rfl, rfl, by decide +kernel, rfl, by decide +kernel, by decide +kernel⟩
theorem ok_need_kind (D : Df K mg "need_kind" (top 69)) (k_KINDS : Con K mg "KINDS" c_KINDS) (e_BadKind : EK K mg "BadKind") : FK P w K mg base 1 "need_kind" ["kind"] m_need_kind := fk_mk D sc_need_kind rfl rfl (fun _ _ _ _ _ _ us hl => match us, hl with | [_], _ => rfl) fun f cdv A outer s H E hr => by
  have hN := (sc_need_kind).nd
  have tk : L2N.Takes (cxOf (L2N.CX P w) P w K mg base ["kind"] "need_kind" (defScope (top 69)) f cdv A outer s H E) (fun cls d _ H' => E cls d H') := L2N.takes_of rfl rfl rfl rfl
  exact dss_one (ds_if (dt_not (dt_chain op_le op_le g_le g_le (DP.v dp_int) (DP.v (dp_var 0)) (DP.v (dp_con k_KINDS)))) (dss_one (ds_raiseK e_BadKind tk)) dss_nil)

theorem sc_need_pence : FnScope ["pence"] ["pence"] (defScope (top 70)) := ⟨rfl, rfl, rfl, by decide +kernel, rfl, by decide +kernel, by decide +kernel⟩
theorem ok_need_pence (D : Df K mg "need_pence" (top 70)) (k_MOST_PENCE : Con K mg "MOST_PENCE" c_MOST_PENCE) (e_BadPence : EK K mg "BadPence") : FK P w K mg base 1 "need_pence" ["pence"] m_need_pence := fk_mk D sc_need_pence rfl rfl (fun _ _ _ _ _ _ us hl => match us, hl with | [_], _ => rfl) fun f cdv A outer s H E hr => by
  have hN := (sc_need_pence).nd
  have tk : L2N.Takes (cxOf (L2N.CX P w) P w K mg base ["pence"] "need_pence" (defScope (top 70)) f cdv A outer s H E) (fun cls d _ H' => E cls d H') := L2N.takes_of rfl rfl rfl rfl
  exact dss_one (ds_if (dt_not (dt_chain op_le op_le g_le g_le (DP.v dp_int) (DP.v (dp_var 0)) (DP.v (dp_con k_MOST_PENCE)))) (dss_one (ds_raiseK e_BadPence tk)) dss_nil)

theorem sc_need_custom : FnScope ["custom"] ["custom"] (defScope (top 71)) := ⟨rfl, rfl, rfl, by decide +kernel, rfl, by decide +kernel, by decide +kernel⟩
theorem ok_need_custom (D : Df K mg "need_custom" (top 71)) (e_BadCustom : EK K mg "BadCustom") (k_MOST_ASIDE : Con K mg "MOST_ASIDE" c_MOST_ASIDE) (e_BadAside : EK K mg "BadAside") (c_need_pence : FK P w K mg base 1 "need_pence" ["pence"] m_need_pence) : FK P w K mg base 2 "need_custom" ["custom"] m_need_custom := fk_mk D sc_need_custom rfl rfl (fun _ _ _ _ _ _ us hl => match us, hl with | [_], _ => rfl) fun f cdv A outer s H E hr => by
  have hN := (sc_need_custom).nd
  have tk : L2N.Takes (cxOf (L2N.CX P w) P w K mg base ["custom"] "need_custom" (defScope (top 71)) f cdv A outer s H E) (fun cls d _ H' => E cls d H') := L2N.takes_of rfl rfl rfl rfl
  exact dss_cons (ds_if (dt_cmp op_notIn_seq g_notInT (DP.v (DR.p (dr_ix (DP.w (dp_var 0)) (DP.w dp_int)))) (DO.v (do_tup (da_cons (DP.v dp_str) (da_cons (DP.v dp_str) (da_cons (DP.v dp_str) (da_cons (DP.v dp_str) da_nil))))))) (dss_one (ds_raiseK e_BadCustom tk)) dss_nil) (dss_cons (ds_if (DQ.t (dq_and (dt_cmpW (op_eqD hr.units) g_eq (DP.w (DR.p (dr_ix (DP.w (dp_var 0)) (DP.w dp_int)))) (DP.w dp_str)) (dq_and1 (dt_not (dt_chain op_le op_le g_le g_le (DP.v dp_int) (DP.v (DR.p (dr_ix (DP.w (dp_var 0)) (DP.w dp_int)))) (DP.v (dp_con k_MOST_ASIDE))))))) (dss_one (ds_raiseK e_BadAside tk)) dss_nil) (dss_cons (ds_if (dt_cmpW (op_eqD hr.units) g_eq (DP.w (DR.p (dr_ix (DP.w (dp_var 0)) (DP.w dp_int)))) (DP.w dp_str)) (dss_cons (ds_if (dt_not (dt_chain op_le op_le g_le g_le (DP.v dp_int) (DP.v (DR.p (dr_ix (DP.w (dp_var 0)) (DP.w dp_int)))) (DP.v (dp_con k_MOST_ASIDE)))) (dss_one (ds_raiseK e_BadAside tk)) dss_nil) (dss_one (ds_expr (do_fk c_need_pence hr (by decide) tk (dl_d (DP.v (DR.p (dr_ix (DP.w (dp_var 0)) (DP.w dp_int)))) dl_nil))))) dss_nil) (dss_one (ds_if (dt_cmpW (op_eqD hr.units) g_eq (DP.w (DR.p (dr_ix (DP.w (dp_var 0)) (DP.w dp_int)))) (DP.w dp_str)) (dss_one (ds_expr (do_fk c_need_pence hr (by decide) tk (dl_d (DP.v (DR.p (dr_ix (DP.w (dp_var 0)) (DP.w dp_int)))) dl_nil)))) dss_nil))))

theorem sc_need_custom_fact : FnScope ["fact"] ["fact"] (defScope (top 118)) := ⟨rfl, rfl, rfl, by decide +kernel, rfl, by decide +kernel, by decide +kernel⟩
theorem ok_need_custom_fact (D : Df K mg "need_custom_fact" (top 118)) (c_need_parish : FK P w K mg base 1 "need_parish" ["parish"] m_need_parish) (c_need_kind : FK P w K mg base 1 "need_kind" ["kind"] m_need_kind) (c_need_year : FK P w K mg base 1 "need_year" ["year"] m_need_year) (c_need_custom : FK P w K mg base 2 "need_custom" ["custom"] m_need_custom) : FK P w K mg base 3 "need_custom_fact" ["fact"] m_need_custom_fact := fk_mk D sc_need_custom_fact rfl rfl (fun _ _ _ _ _ _ us hl => match us, hl with | [_], _ => rfl) fun f cdv A outer s H E hr => by
  have hN := (sc_need_custom_fact).nd
  have tk : L2N.Takes (cxOf (L2N.CX P w) P w K mg base ["fact"] "need_custom_fact" (defScope (top 118)) f cdv A outer s H E) (fun cls d _ H' => E cls d H') := L2N.takes_of rfl rfl rfl rfl
  exact dss_cons (ds_expr (do_fk c_need_parish hr (by decide) tk (dl_d (DP.v (DR.p (dr_ix (DP.w (dp_var 0)) (DP.w dp_int)))) dl_nil))) (dss_cons (ds_expr (do_fk c_need_kind hr (by decide) tk (dl_d (DP.v (DR.p (dr_ix (DP.w (dp_var 0)) (DP.w dp_int)))) dl_nil))) (dss_cons (ds_expr (do_fk c_need_year hr (by decide) tk (dl_d (DP.v (DR.p (dr_ix (DP.w (dp_var 0)) (DP.w dp_int)))) dl_nil))) (dss_one (ds_expr (do_fk c_need_custom hr (by decide) tk (dl_d (DP.v (DR.p (dr_ix (DP.w (dp_var 0)) (DP.w dp_int)))) dl_nil))))))

theorem sc_divisor : FnScope ["one", "other"] ["one", "other"] (defScope (top 49)) := ⟨rfl, rfl, rfl, by decide +kernel, rfl, by decide +kernel, by decide +kernel⟩
theorem ok_divisor (D : Df K mg "divisor" (top 49))  : FK P w K mg base 1 "divisor" ["one", "other"] m_divisor := fk_mk D sc_divisor rfl rfl (fun _ _ _ _ _ _ us hl => match us, hl with | [_, _], _ => rfl) fun f cdv A outer s H E hr => by
  have hN := (sc_divisor).nd
  have hp : PassesOwn (model P w) (cxOf (L2N.CX P w) P w K mg base ["one", "other"] "divisor" (defScope (top 49)) f cdv A outer s H E).A (cxOf (L2N.CX P w) P w K mg base ["one", "other"] "divisor" (defScope (top 49)) f cdv A outer s H E).env (cxOf (L2N.CX P w) P w K mg base ["one", "other"] "divisor" (defScope (top 49)) f cdv A outer s H E).xe := passes_of rfl
  exact dss_cons (ds_while [] (fuN 0) hp (dt_cmpW (op_gtG hr.units0) g_gt (DP.w (dp_var 0)) (DP.w dp_int)) (dss_one (ds_par (i := 0) (j := 1) hN (DP.v (DR.p (dr_bin op_mod g_mod (DP.w (dp_var 1)) (DP.w (dp_var 0))))) (DP.v (dp_var 0)) (hp := fun _ h => ps_par rfl hN rfl rfl (by decide) rfl rfl h rfl)))) (dss_one (ds_ret (DV.o (DP.v (dp_var 1)))))

theorem sc_is_part : FnScope ["pair"] ["pair"] (defScope (top 51)) := ⟨rfl, rfl, rfl, by decide +kernel, rfl, by decide +kernel, by decide +kernel⟩
theorem ok_is_part (D : Df K mg "is_part" (top 51)) (c_divisor : FK P w K mg base 1 "divisor" ["one", "other"] m_divisor) : FK P w K mg base 2 "is_part" ["pair"] m_is_part := fk_mk D sc_is_part rfl rfl (fun _ _ _ _ _ _ us hl => match us, hl with | [_], _ => rfl) fun f cdv A outer s H E hr => by
  have hN := (sc_is_part).nd
  have tk : L2N.Takes (cxOf (L2N.CX P w) P w K mg base ["pair"] "is_part" (defScope (top 51)) f cdv A outer s H E) (fun cls d _ H' => E cls d H') := L2N.takes_of rfl rfl rfl rfl
  exact dss_one (ds_ret (DV.o (dv_and (DP.v (DR.p (dr_cmp op_ge g_ge (DP.w (DR.p (dr_ix (DP.w (dp_var 0)) (DP.w dp_int)))) (DP.w dp_int)))) (dv_and (DP.v (DR.p (dr_cmp op_ge g_ge (DP.w (DR.p (dr_ix (DP.w (dp_var 0)) (DP.w dp_int)))) (DP.w dp_int)))) (dv_one (DO.v (do_cmp (op_eqD hr.units) g_eq (DO.v (do_fk c_divisor hr (by decide) tk (dl_d (DP.v (DR.p (dr_ix (DP.w (dp_var 0)) (DP.w dp_int)))) (dl_d (DP.v (DR.p (dr_ix (DP.w (dp_var 0)) (DP.w dp_int)))) dl_nil)))) (DP.v dp_int))))))))

theorem sc_below : FnScope ["one", "other"] ["one", "other"] (defScope (top 55)) := ⟨rfl, rfl, rfl, by decide +kernel, rfl, by decide +kernel, by decide +kernel⟩
theorem ok_below (D : Df K mg "below" (top 55))  : FK P w K mg base 1 "below" ["one", "other"] m_below := fk_mk D sc_below rfl rfl (fun _ _ _ _ _ _ us hl => match us, hl with | [_, _], _ => rfl) fun f cdv A outer s H E hr => by
  have hN := (sc_below).nd
  exact dss_one (ds_ret (DR.o (dr_cmp op_lt g_lt (DP.w (DR.p (dr_bin op_mulG g_mul (DP.w (DR.p (dr_ix (DP.w (dp_var 0)) (DP.w dp_int)))) (DP.w (DR.p (dr_ix (DP.w (dp_var 1)) (DP.w dp_int))))))) (DP.w (DR.p (dr_bin op_mulG g_mul (DP.w (DR.p (dr_ix (DP.w (dp_var 1)) (DP.w dp_int)))) (DP.w (DR.p (dr_ix (DP.w (dp_var 0)) (DP.w dp_int))))))))))

theorem sc_need_taker : FnScope ["taker"] ["taker"] (defScope (top 105)) := ⟨rfl, rfl, rfl, by decide +kernel, rfl, by decide +kernel, by decide +kernel⟩
theorem ok_need_taker (D : Df K mg "need_taker" (top 105)) (k_TAKERS : Con K mg "TAKERS" c_TAKERS) (e_BadTaker : EK K mg "BadTaker") : FK P w K mg base 1 "need_taker" ["taker"] m_need_taker := fk_mk D sc_need_taker rfl rfl (fun _ _ _ _ _ _ us hl => match us, hl with | [_], _ => rfl) fun f cdv A outer s H E hr => by
  have hN := (sc_need_taker).nd
  have tk : L2N.Takes (cxOf (L2N.CX P w) P w K mg base ["taker"] "need_taker" (defScope (top 105)) f cdv A outer s H E) (fun cls d _ H' => E cls d H') := L2N.takes_of rfl rfl rfl rfl
  exact dss_one (ds_if (dt_not (dt_chain op_le op_le g_le g_le (DP.v dp_int) (DP.v (dp_var 0)) (DP.v (dp_con k_TAKERS)))) (dss_one (ds_raiseK e_BadTaker tk)) dss_nil)

theorem sc_need_two : FnScope ["first", "part", "second"] ["first", "part", "second"] (defScope (top 106)) := ⟨rfl, rfl, rfl, by decide +kernel, rfl, by decide +kernel, by decide +kernel⟩
theorem ok_need_two (D : Df K mg "need_two" (top 106)) (c_need_taker : FK P w K mg base 1 "need_taker" ["taker"] m_need_taker) (c_is_part : FK P w K mg base 2 "is_part" ["pair"] m_is_part) (k_ALL : Con K mg "ALL" c_ALL) (c_below : FK P w K mg base 1 "below" ["one", "other"] m_below) (e_BadPart : EK K mg "BadPart") (e_Same : EK K mg "Same") : FK P w K mg base 3 "need_two" ["first", "part", "second"] m_need_two := fk_mk D sc_need_two rfl rfl (fun _ _ _ _ _ _ us hl => match us, hl with | [_, _, _], _ => rfl) fun f cdv A outer s H E hr => by
  have hN := (sc_need_two).nd
  have tk : L2N.Takes (cxOf (L2N.CX P w) P w K mg base ["first", "part", "second"] "need_two" (defScope (top 106)) f cdv A outer s H E) (fun cls d _ H' => E cls d H') := L2N.takes_of rfl rfl rfl rfl
  exact dss_cons (ds_expr (do_fk c_need_taker hr (by decide) tk (dl_d (DP.v (dp_var 0)) dl_nil))) (dss_cons (ds_if (DQ.t (dq_or (dt_not (dt_val (DO.v (do_fk c_is_part hr (by decide) tk (dl_d (DP.v (dp_var 1)) dl_nil))))) (dq_or1 (dt_val (DO.v (do_fk c_below hr (by decide) tk (dl_d (DP.v (dp_con k_ALL)) (dl_d (DP.v (dp_var 1)) dl_nil)))))))) (dss_one (ds_raiseK e_BadPart tk)) dss_nil) (dss_cons (ds_expr (do_fk c_need_taker hr (by decide) tk (dl_d (DP.v (dp_var 2)) dl_nil))) (dss_one (ds_if (dt_cmpW (op_eqD hr.units) g_eq (DP.w (dp_var 0)) (DP.w (dp_var 2))) (dss_one (ds_raiseK e_Same tk)) dss_nil))))

theorem sc_need_takers_fact : FnScope ["fact"] ["fact"] (defScope (top 119)) := ⟨rfl, rfl, rfl, by decide +kernel, rfl, by decide +kernel, by decide +kernel⟩
theorem ok_need_takers_fact (D : Df K mg "need_takers_fact" (top 119)) (c_need_parish : FK P w K mg base 1 "need_parish" ["parish"] m_need_parish) (c_need_kind : FK P w K mg base 1 "need_kind" ["kind"] m_need_kind) (c_need_year : FK P w K mg base 1 "need_year" ["year"] m_need_year) (c_need_two : FK P w K mg base 3 "need_two" ["first", "part", "second"] m_need_two) : FK P w K mg base 4 "need_takers_fact" ["fact"] m_need_takers_fact := fk_mk D sc_need_takers_fact rfl rfl (fun _ _ _ _ _ _ us hl => match us, hl with | [_], _ => rfl) fun f cdv A outer s H E hr => by
  have hN := (sc_need_takers_fact).nd
  have tk : L2N.Takes (cxOf (L2N.CX P w) P w K mg base ["fact"] "need_takers_fact" (defScope (top 119)) f cdv A outer s H E) (fun cls d _ H' => E cls d H') := L2N.takes_of rfl rfl rfl rfl
  exact dss_cons (ds_expr (do_fk c_need_parish hr (by decide) tk (dl_d (DP.v (DR.p (dr_ix (DP.w (dp_var 0)) (DP.w dp_int)))) dl_nil))) (dss_cons (ds_expr (do_fk c_need_kind hr (by decide) tk (dl_d (DP.v (DR.p (dr_ix (DP.w (dp_var 0)) (DP.w dp_int)))) dl_nil))) (dss_cons (ds_expr (do_fk c_need_year hr (by decide) tk (dl_d (DP.v (DR.p (dr_ix (DP.w (dp_var 0)) (DP.w dp_int)))) dl_nil))) (dss_one (ds_expr (do_fk c_need_two hr (by decide) tk (dl_d (DP.v (DR.p (dr_ix (DP.w (dp_var 0)) (DP.w dp_int)))) (dl_d (DP.v (DR.p (dr_ix (DP.w (dp_var 0)) (DP.w dp_int)))) (dl_d (DP.v (DR.p (dr_ix (DP.w (dp_var 0)) (DP.w dp_int)))) dl_nil))))))))

theorem sc_need_count : FnScope ["count"] ["count"] (defScope (top 114)) := ⟨rfl, rfl, rfl, by decide +kernel, rfl, by decide +kernel, by decide +kernel⟩
theorem ok_need_count (D : Df K mg "need_count" (top 114)) (k_MOST_COUNT : Con K mg "MOST_COUNT" c_MOST_COUNT) (e_BadCount : EK K mg "BadCount") : FK P w K mg base 1 "need_count" ["count"] m_need_count := fk_mk D sc_need_count rfl rfl (fun _ _ _ _ _ _ us hl => match us, hl with | [_], _ => rfl) fun f cdv A outer s H E hr => by
  have hN := (sc_need_count).nd
  have tk : L2N.Takes (cxOf (L2N.CX P w) P w K mg base ["count"] "need_count" (defScope (top 114)) f cdv A outer s H E) (fun cls d _ H' => E cls d H') := L2N.takes_of rfl rfl rfl rfl
  exact dss_one (ds_if (dt_not (dt_chain op_le op_le g_le g_le (DP.v dp_int) (DP.v (dp_var 0)) (DP.v (dp_con k_MOST_COUNT)))) (dss_one (ds_raiseK e_BadCount tk)) dss_nil)

theorem sc_need_cut : FnScope ["fact"] ["fact"] (defScope (top 120)) := ⟨rfl, rfl, rfl, by decide +kernel, rfl, by decide +kernel, by decide +kernel⟩
theorem ok_need_cut (D : Df K mg "need_cut" (top 120)) (c_need_field : FK P w K mg base 1 "need_field" ["field"] m_need_field) (c_need_kind : FK P w K mg base 1 "need_kind" ["kind"] m_need_kind) (c_need_day : FK P w K mg base 1 "need_day" ["day"] m_need_day) (c_need_count : FK P w K mg base 1 "need_count" ["count"] m_need_count) : FK P w K mg base 2 "need_cut" ["fact"] m_need_cut := fk_mk D sc_need_cut rfl rfl (fun _ _ _ _ _ _ us hl => match us, hl with | [_], _ => rfl) fun f cdv A outer s H E hr => by
  have hN := (sc_need_cut).nd
  have tk : L2N.Takes (cxOf (L2N.CX P w) P w K mg base ["fact"] "need_cut" (defScope (top 120)) f cdv A outer s H E) (fun cls d _ H' => E cls d H') := L2N.takes_of rfl rfl rfl rfl
  exact dss_cons (ds_expr (do_fk c_need_field hr (by decide) tk (dl_d (DP.v (DR.p (dr_ix (DP.w (dp_var 0)) (DP.w dp_int)))) dl_nil))) (dss_cons (ds_expr (do_fk c_need_kind hr (by decide) tk (dl_d (DP.v (DR.p (dr_ix (DP.w (dp_var 0)) (DP.w dp_int)))) dl_nil))) (dss_cons (ds_expr (do_fk c_need_day hr (by decide) tk (dl_d (DP.v (DR.p (dr_ix (DP.w (dp_var 0)) (DP.w dp_int)))) dl_nil))) (dss_one (ds_expr (do_fk c_need_count hr (by decide) tk (dl_d (DP.v (DR.p (dr_ix (DP.w (dp_var 0)) (DP.w dp_int)))) dl_nil))))))

theorem sc_need_born : FnScope ["fact"] ["fact"] (defScope (top 121)) := ⟨rfl, rfl, rfl, by decide +kernel, rfl, by decide +kernel, by decide +kernel⟩
theorem ok_need_born (D : Df K mg "need_born" (top 121)) (c_need_field : FK P w K mg base 1 "need_field" ["field"] m_need_field) (c_need_kind : FK P w K mg base 1 "need_kind" ["kind"] m_need_kind) (c_need_day : FK P w K mg base 1 "need_day" ["day"] m_need_day) (k_MOST_SPAN : Con K mg "MOST_SPAN" c_MOST_SPAN) (k_LAST_DAY : Con K mg "LAST_DAY" c_LAST_DAY) (e_BadSpan : EK K mg "BadSpan") (k_MOST_WORTH : Con K mg "MOST_WORTH" c_MOST_WORTH) (e_BadWorth : EK K mg "BadWorth") : FK P w K mg base 2 "need_born" ["fact"] m_need_born := fk_mk D sc_need_born rfl rfl (fun _ _ _ _ _ _ us hl => match us, hl with | [_], _ => rfl) fun f cdv A outer s H E hr => by
  have hN := (sc_need_born).nd
  have tk : L2N.Takes (cxOf (L2N.CX P w) P w K mg base ["fact"] "need_born" (defScope (top 121)) f cdv A outer s H E) (fun cls d _ H' => E cls d H') := L2N.takes_of rfl rfl rfl rfl
  exact dss_cons (ds_expr (do_fk c_need_field hr (by decide) tk (dl_d (DP.v (DR.p (dr_ix (DP.w (dp_var 0)) (DP.w dp_int)))) dl_nil))) (dss_cons (ds_expr (do_fk c_need_kind hr (by decide) tk (dl_d (DP.v (DR.p (dr_ix (DP.w (dp_var 0)) (DP.w dp_int)))) dl_nil))) (dss_cons (ds_expr (do_fk c_need_day hr (by decide) tk (dl_d (DP.v (DR.p (dr_ix (DP.w (dp_var 0)) (DP.w dp_int)))) dl_nil))) (dss_cons (ds_if (DQ.t (dq_or (dt_not (dt_chain op_le op_le g_le g_le (DP.v dp_int) (DP.v (DR.p (dr_ix (DP.w (dp_var 0)) (DP.w dp_int)))) (DP.v (dp_con k_MOST_SPAN)))) (dq_or1 (dt_cmpW (op_gtG hr.units0) g_gt (DP.w (DR.p (dr_bin op_addG g_add (DP.w (DR.p (dr_ix (DP.w (dp_var 0)) (DP.w dp_int)))) (DP.w (DR.p (dr_ix (DP.w (dp_var 0)) (DP.w dp_int))))))) (DP.w (dp_con k_LAST_DAY)))))) (dss_one (ds_raiseK e_BadSpan tk)) dss_nil) (dss_one (ds_if (dt_not (dt_chain op_le op_le g_le g_le (DP.v dp_int) (DP.v (DR.p (dr_ix (DP.w (dp_var 0)) (DP.w dp_int)))) (DP.v (dp_con k_MOST_WORTH)))) (dss_one (ds_raiseK e_BadWorth tk)) dss_nil)))))

theorem sc_need_driven : FnScope ["fact"] ["fact"] (defScope (top 122)) := ⟨rfl, rfl, rfl, by decide +kernel, rfl, by decide +kernel, by decide +kernel⟩
theorem ok_need_driven (D : Df K mg "need_driven" (top 122)) (c_need_field : FK P w K mg base 1 "need_field" ["field"] m_need_field) (c_need_day : FK P w K mg base 1 "need_day" ["day"] m_need_day) : FK P w K mg base 2 "need_driven" ["fact"] m_need_driven := fk_mk D sc_need_driven rfl rfl (fun _ _ _ _ _ _ us hl => match us, hl with | [_], _ => rfl) fun f cdv A outer s H E hr => by
  have hN := (sc_need_driven).nd
  have tk : L2N.Takes (cxOf (L2N.CX P w) P w K mg base ["fact"] "need_driven" (defScope (top 122)) f cdv A outer s H E) (fun cls d _ H' => E cls d H') := L2N.takes_of rfl rfl rfl rfl
  exact dss_cons (ds_expr (do_fk c_need_field hr (by decide) tk (dl_d (DP.v (DR.p (dr_ix (DP.w (dp_var 0)) (DP.w dp_int)))) dl_nil))) (dss_one (ds_expr (do_fk c_need_day hr (by decide) tk (dl_d (DP.v (DR.p (dr_ix (DP.w (dp_var 0)) (DP.w dp_int)))) dl_nil))))

theorem sc_need_holder : FnScope ["holder"] ["holder"] (defScope (top 41)) := ⟨rfl, rfl, rfl, by decide +kernel, rfl, by decide +kernel, by decide +kernel⟩
theorem ok_need_holder (D : Df K mg "need_holder" (top 41)) (k_HOLDERS : Con K mg "HOLDERS" c_HOLDERS) (e_BadHolder : EK K mg "BadHolder") : FK P w K mg base 1 "need_holder" ["holder"] m_need_holder := fk_mk D sc_need_holder rfl rfl (fun _ _ _ _ _ _ us hl => match us, hl with | [_], _ => rfl) fun f cdv A outer s H E hr => by
  have hN := (sc_need_holder).nd
  have tk : L2N.Takes (cxOf (L2N.CX P w) P w K mg base ["holder"] "need_holder" (defScope (top 41)) f cdv A outer s H E) (fun cls d _ H' => E cls d H') := L2N.takes_of rfl rfl rfl rfl
  exact dss_one (ds_if (dt_not (dt_chain op_le op_le g_le g_le (DP.v dp_int) (DP.v (dp_var 0)) (DP.v (dp_con k_HOLDERS)))) (dss_one (ds_raiseK e_BadHolder tk)) dss_nil)

theorem sc_need_pass : FnScope ["fact"] ["fact"] (defScope (top 123)) := ⟨rfl, rfl, rfl, by decide +kernel, rfl, by decide +kernel, by decide +kernel⟩
theorem ok_need_pass (D : Df K mg "need_pass" (top 123)) (c_need_holder : FK P w K mg base 1 "need_holder" ["holder"] m_need_holder) (e_Same : EK K mg "Same") (c_need_day : FK P w K mg base 1 "need_day" ["day"] m_need_day) : FK P w K mg base 2 "need_pass" ["fact"] m_need_pass := fk_mk D sc_need_pass rfl rfl (fun _ _ _ _ _ _ us hl => match us, hl with | [_], _ => rfl) fun f cdv A outer s H E hr => by
  have hN := (sc_need_pass).nd
  have tk : L2N.Takes (cxOf (L2N.CX P w) P w K mg base ["fact"] "need_pass" (defScope (top 123)) f cdv A outer s H E) (fun cls d _ H' => E cls d H') := L2N.takes_of rfl rfl rfl rfl
  exact dss_cons (ds_expr (do_fk c_need_holder hr (by decide) tk (dl_d (DP.v (DR.p (dr_ix (DP.w (dp_var 0)) (DP.w dp_int)))) dl_nil))) (dss_cons (ds_expr (do_fk c_need_holder hr (by decide) tk (dl_d (DP.v (DR.p (dr_ix (DP.w (dp_var 0)) (DP.w dp_int)))) dl_nil))) (dss_cons (ds_if (dt_cmpW (op_eqD hr.units) g_eq (DP.w (DR.p (dr_ix (DP.w (dp_var 0)) (DP.w dp_int)))) (DP.w (DR.p (dr_ix (DP.w (dp_var 0)) (DP.w dp_int))))) (dss_one (ds_raiseK e_Same tk)) dss_nil) (dss_one (ds_expr (do_fk c_need_day hr (by decide) tk (dl_d (DP.v (DR.p (dr_ix (DP.w (dp_var 0)) (DP.w dp_int)))) dl_nil))))))

theorem sc_need_laid : FnScope ["fact"] ["fact"] (defScope (top 124)) := ⟨rfl, rfl, rfl, by decide +kernel, rfl, by decide +kernel, by decide +kernel⟩
theorem ok_need_laid (D : Df K mg "need_laid" (top 124)) (c_need_holder : FK P w K mg base 1 "need_holder" ["holder"] m_need_holder) (c_need_parish : FK P w K mg base 1 "need_parish" ["parish"] m_need_parish) (c_need_kind : FK P w K mg base 1 "need_kind" ["kind"] m_need_kind) (c_need_day : FK P w K mg base 1 "need_day" ["day"] m_need_day) (c_need_pence : FK P w K mg base 1 "need_pence" ["pence"] m_need_pence) (c_need_count : FK P w K mg base 1 "need_count" ["count"] m_need_count) : FK P w K mg base 2 "need_laid" ["fact"] m_need_laid := fk_mk D sc_need_laid rfl rfl (fun _ _ _ _ _ _ us hl => match us, hl with | [_], _ => rfl) fun f cdv A outer s H E hr => by
  have hN := (sc_need_laid).nd
  have tk : L2N.Takes (cxOf (L2N.CX P w) P w K mg base ["fact"] "need_laid" (defScope (top 124)) f cdv A outer s H E) (fun cls d _ H' => E cls d H') := L2N.takes_of rfl rfl rfl rfl
  exact dss_cons (ds_expr (do_fk c_need_holder hr (by decide) tk (dl_d (DP.v (DR.p (dr_ix (DP.w (dp_var 0)) (DP.w dp_int)))) dl_nil))) (dss_cons (ds_expr (do_fk c_need_parish hr (by decide) tk (dl_d (DP.v (DR.p (dr_ix (DP.w (dp_var 0)) (DP.w dp_int)))) dl_nil))) (dss_cons (ds_expr (do_fk c_need_kind hr (by decide) tk (dl_d (DP.v (DR.p (dr_ix (DP.w (dp_var 0)) (DP.w dp_int)))) dl_nil))) (dss_cons (ds_expr (do_fk c_need_day hr (by decide) tk (dl_d (DP.v (DR.p (dr_ix (DP.w (dp_var 0)) (DP.w dp_int)))) dl_nil))) (dss_one (ds_if (dt_cmpW (op_eqD hr.units) g_eq (DP.w (DR.p (dr_ix (DP.w (dp_var 0)) (DP.w dp_int)))) (DP.w dp_str)) (dss_one (ds_expr (do_fk c_need_pence hr (by decide) tk (dl_d (DP.v (DR.p (dr_ix (DP.w (dp_var 0)) (DP.w dp_int)))) dl_nil)))) (dss_one (ds_expr (do_fk c_need_count hr (by decide) tk (dl_d (DP.v (DR.p (dr_ix (DP.w (dp_var 0)) (DP.w dp_int)))) dl_nil)))))))))

theorem sc_need_claim : FnScope ["fact"] ["fact"] (defScope (top 125)) := ⟨rfl, rfl, rfl, by decide +kernel, rfl, by decide +kernel, by decide +kernel⟩
theorem ok_need_claim (D : Df K mg "need_claim" (top 125)) (c_need_field : FK P w K mg base 1 "need_field" ["field"] m_need_field) (c_need_parish : FK P w K mg base 1 "need_parish" ["parish"] m_need_parish) : FK P w K mg base 2 "need_claim" ["fact"] m_need_claim := fk_mk D sc_need_claim rfl rfl (fun _ _ _ _ _ _ us hl => match us, hl with | [_], _ => rfl) fun f cdv A outer s H E hr => by
  have hN := (sc_need_claim).nd
  have tk : L2N.Takes (cxOf (L2N.CX P w) P w K mg base ["fact"] "need_claim" (defScope (top 125)) f cdv A outer s H E) (fun cls d _ H' => E cls d H') := L2N.takes_of rfl rfl rfl rfl
  exact dss_cons (ds_expr (do_fk c_need_field hr (by decide) tk (dl_d (DP.v (DR.p (dr_ix (DP.w (dp_var 0)) (DP.w dp_int)))) dl_nil))) (dss_one (ds_expr (do_fk c_need_parish hr (by decide) tk (dl_d (DP.v (DR.p (dr_ix (DP.w (dp_var 0)) (DP.w dp_int)))) dl_nil))))

theorem sc_need_fact : FnScope ["fact", "look"] ["fact"] (defScope (top 127)) := ⟨rfl, rfl, rfl, by decide +kernel, rfl, by decide +kernel, by decide +kernel⟩
theorem ok_need_fact (D : Df K mg "need_fact" (top 127)) (tb_LOOKS : TabK K w mg "LOOKS" dv_LOOKS) (e_BadWord : EK K mg "BadWord") (c_need_claim : FK P w K mg base 2 "need_claim" ["fact"] m_need_claim) (ga_need_claim : mg "need_claim" = some (.ref (He.ga K "need_claim"))) (c_need_laid : FK P w K mg base 2 "need_laid" ["fact"] m_need_laid) (ga_need_laid : mg "need_laid" = some (.ref (He.ga K "need_laid"))) (c_need_pass : FK P w K mg base 2 "need_pass" ["fact"] m_need_pass) (ga_need_pass : mg "need_pass" = some (.ref (He.ga K "need_pass"))) (c_need_driven : FK P w K mg base 2 "need_driven" ["fact"] m_need_driven) (ga_need_driven : mg "need_driven" = some (.ref (He.ga K "need_driven"))) (c_need_born : FK P w K mg base 2 "need_born" ["fact"] m_need_born) (ga_need_born : mg "need_born" = some (.ref (He.ga K "need_born"))) (c_need_cut : FK P w K mg base 2 "need_cut" ["fact"] m_need_cut) (ga_need_cut : mg "need_cut" = some (.ref (He.ga K "need_cut"))) (c_need_takers_fact : FK P w K mg base 4 "need_takers_fact" ["fact"] m_need_takers_fact) (ga_need_takers_fact : mg "need_takers_fact" = some (.ref (He.ga K "need_takers_fact"))) (c_need_custom_fact : FK P w K mg base 3 "need_custom_fact" ["fact"] m_need_custom_fact) (ga_need_custom_fact : mg "need_custom_fact" = some (.ref (He.ga K "need_custom_fact"))) (c_need_free : FK P w K mg base 2 "need_free" ["fact"] m_need_free) (ga_need_free : mg "need_free" = some (.ref (He.ga K "need_free"))) (c_need_held : FK P w K mg base 2 "need_held" ["fact"] m_need_held) (ga_need_held : mg "need_held" = some (.ref (He.ga K "need_held"))) (c_need_lies : FK P w K mg base 2 "need_lies" ["fact"] m_need_lies) (ga_need_lies : mg "need_lies" = some (.ref (He.ga K "need_lies"))) : FK P w K mg base 5 "need_fact" ["fact"] m_need_fact := fk_mk D sc_need_fact rfl rfl (fun _ _ _ _ _ _ us hl => match us, hl with | [_], _ => rfl) fun f cdv A outer s H E hr => by
  have hN := (sc_need_fact).nd
  have tk : L2N.Takes (cxOf (L2N.CX P w) P w K mg base ["fact", "look"] "need_fact" (defScope (top 127)) f cdv A outer s H E) (fun cls d _ H' => E cls d H') := L2N.takes_of rfl rfl rfl rfl
  exact dss_cons (ds_if (dt_tabNotIn (kvs := dv_LOOKS) tb_LOOKS (DP.v (DR.p (dr_ix (DP.w (dp_var 0)) (DP.w dp_int))))) (dss_one (ds_raiseK e_BadWord tk)) dss_nil) (dss_look tb_LOOKS (.cons c_need_lies ga_need_lies (by decide) rfl (.cons c_need_held ga_need_held (by decide) rfl (.cons c_need_free ga_need_free (by decide) rfl (.cons c_need_custom_fact ga_need_custom_fact (by decide) rfl (.cons c_need_takers_fact ga_need_takers_fact (by decide) rfl (.cons c_need_cut ga_need_cut (by decide) rfl (.cons c_need_born ga_need_born (by decide) rfl (.cons c_need_driven ga_need_driven (by decide) rfl (.cons c_need_pass ga_need_pass (by decide) rfl (.cons c_need_laid ga_need_laid (by decide) rfl (.cons c_need_laid ga_need_laid (by decide) rfl (.cons c_need_claim ga_need_claim (by decide) rfl .nil)))))))))))) hr tk hN (DP.v (DR.p (dr_ix (DP.w (dp_var 0)) (DP.w dp_int)))) (dl_d (DP.v (dp_var 0)) dl_nil) dss_nil)

theorem sc_Book___init__ : FnScope ["self"] ["self"] (defScope (inCls (top 132) 0)) := ⟨rfl, rfl, rfl, by decide +kernel, rfl, by decide +kernel, by decide +kernel⟩
theorem ok_Book___init__ (D : DfI K mg "Book" "Book.__init__" (inCls (top 132) 0)) (ak_Book_kept : AK K mg "Book" "kept") (ak_Book_past_rows : AK K mg "Book" "past_rows") (ak_Book_future_rows : AK K mg "Book" "future_rows") : CMK P w K mg base 1 "Book" m_Book___init__ := ci_mk D sc_Book___init__ rfl (fun _ _ _ _ _ _ us hl => match us, hl with | [_], _ => rfl) fun f cdv A outer s H E hr => by
  have hN := (sc_Book___init__).nd
  exact dss_cons (ds_fld 0 ak_Book_kept (do_lst da_nil)) (dss_cons (ds_fld 0 ak_Book_past_rows (do_lst da_nil)) (dss_one (ds_fld 0 ak_Book_future_rows (do_lst da_nil))))

theorem sc_Book_remember : FnScope ["self", "deed"] ["self", "deed"] (defScope (inCls (top 132) 1)) := ⟨rfl, rfl, rfl, by decide +kernel, rfl, by decide +kernel, by decide +kernel⟩
theorem ok_Book_remember (D : DfM K mg "Book" "remember" "Book.remember" (inCls (top 132) 1)) (ak_Book_past_rows : AK K mg "Book" "past_rows") (ak_Book_kept : AK K mg "Book" "kept") (n_list : mg "list" = none) (ak_Book_future_rows : AK K mg "Book" "future_rows") : MK P w K mg base 1 "Book" "remember" ["self", "deed"] m_Book_remember := mk_mk D sc_Book_remember rfl rfl (fun _ _ _ _ _ _ us hl => match us, hl with | [_, _], _ => rfl) fun f cdv A outer s H E hr => by
  have hN := (sc_Book_remember).nd
  exact dss_cons (ds_expr (DV.o (dv_mutF 0 ak_Book_past_rows PySem.F.slot_list_append rfl mt_append u_app (dpa_cons (DR.p (dr_tup (dpa_cons (dp_var 1) (dpa_cons (DR.p (dr_callTy call_list_of g_list n_list (by decide +kernel) (dwa_cons (dw_f 0 ak_Book_kept) dwa_nil))) dpa_nil)))) dpa_nil)))) (dss_one (ds_fld 0 ak_Book_future_rows (do_lst da_nil)))

theorem sc_Book_many_of : FnScope ["self", "word", "fact", "good"] ["self", "word"] (defScope (inCls (top 132) 2)) := ⟨rfl, rfl, rfl, by decide +kernel, rfl, by decide +kernel, by decide +kernel⟩
theorem ok_Book_many_of (D : DfM K mg "Book" "many_of" "Book.many_of" (inCls (top 132) 2)) (ak_Book_kept : AK K mg "Book" "kept") (n_len : mg "len" = none) : MK P w K mg base 1 "Book" "many_of" ["self", "word"] m_Book_many_of := mk_mk D sc_Book_many_of rfl rfl (fun _ _ _ _ _ _ us hl => match us, hl with | [_, _], _ => rfl) fun f cdv A outer s H E hr => by
  have hN := (sc_Book_many_of).nd
  exact dss_ro 0 (dss_one (ds_ret (do_callB call_len g_len n_len (by decide +kernel) (da_cons (DO.v (DC.o (dc_compL [("fact", 2), ("good", 3)] hN (DP.v (dp_fa 0 ak_Book_kept)) (blkOk_by (N := ["self", "word", "fact", "good"]) (sc := defScope (inCls (top 132) 2)) (by decide +kernel)) (fun _ _ _ _ _ => dg_tup (dgs_cons (dg_name 2 hN) (dgs_cons (dg_name 3 hN) dgs_nil))) (fun _ _ _ _ _ => dts_one (dt_cmpW (op_eqD hr.units) g_eq (DP.w (DR.p (dr_ix (DP.w (dp_var 2)) (DP.w dp_int)))) (DP.w (dp_var 1)))) (fun _ _ _ _ _ => DP.v (dp_var 2))))) da_nil))))

theorem sc_Book_need_room : FnScope ["self", "fact"] ["self", "fact"] (defScope (inCls (top 132) 3)) := ⟨rfl, rfl, rfl, by decide +kernel, rfl, by decide +kernel, by decide +kernel⟩
theorem ok_Book_need_room (D : DfM K mg "Book" "need_room" "Book.need_room" (inCls (top 132) 3)) (ak_Book_kept : AK K mg "Book" "kept") (n_len : mg "len" = none) (k_MOST_FACTS : Con K mg "MOST_FACTS" c_MOST_FACTS) (e_Full : EK K mg "Full") (mk_Book_many_of : MK P w K mg base 1 "Book" "many_of" ["self", "word"] m_Book_many_of) (k_MOST_BIRTHS : Con K mg "MOST_BIRTHS" c_MOST_BIRTHS) (k_MOST_CLAIMS : Con K mg "MOST_CLAIMS" c_MOST_CLAIMS) : MK P w K mg base 2 "Book" "need_room" ["self", "fact"] m_Book_need_room := mk_mk D sc_Book_need_room rfl rfl (fun _ _ _ _ _ _ us hl => match us, hl with | [_, _], _ => rfl) fun f cdv A outer s H E hr => by
  have hN := (sc_Book_need_room).nd
  have tk : L2N.Takes (cxOf (L2N.CX P w) P w K mg base ["self", "fact"] "Book.need_room" (defScope (inCls (top 132) 3)) f cdv A outer s H E) (fun cls d _ H' => E cls d H') := L2N.takes_of rfl rfl rfl rfl
  exact dss_cons (ds_if (dt_cmpW op_ge g_ge (DP.w (DR.p (dr_callB call_len g_len n_len (by decide +kernel) (dwa_cons (dw_f 0 ak_Book_kept) dwa_nil)))) (DP.w (dp_con k_MOST_FACTS))) (dss_one (ds_raiseK e_Full tk)) dss_nil) (dss_cons (ds_if (DQ.t (dq_and (dt_cmpW (op_eqD hr.units) g_eq (DP.w (DR.p (dr_ix (DP.w (dp_var 1)) (DP.w dp_int)))) (DP.w dp_str)) (dq_and1 (dt_cmp op_ge g_ge (DO.v (do_mk 0 mk_Book_many_of hr (by decide) tk (dl_d (DP.v dp_str) dl_nil))) (DP.v (dp_con k_MOST_BIRTHS)))))) (dss_one (ds_raiseK e_Full tk)) dss_nil) (dss_one (ds_if (DQ.t (dq_and (dt_cmpW (op_eqD hr.units) g_eq (DP.w (DR.p (dr_ix (DP.w (dp_var 1)) (DP.w dp_int)))) (DP.w dp_str)) (dq_and1 (dt_cmp op_ge g_ge (DO.v (do_mk 0 mk_Book_many_of hr (by decide) tk (dl_d (DP.v dp_str) dl_nil))) (DP.v (dp_con k_MOST_CLAIMS)))))) (dss_one (ds_raiseK e_Full tk)) dss_nil)))

theorem sc_Book_need_beast : FnScope ["self", "number"] ["self", "number"] (defScope (inCls (top 132) 4)) := ⟨rfl, rfl, rfl, by decide +kernel, rfl, by decide +kernel, by decide +kernel⟩
theorem ok_Book_need_beast (D : DfM K mg "Book" "need_beast" "Book.need_beast" (inCls (top 132) 4)) (ak_Book_kept : AK K mg "Book" "kept") (n_len : mg "len" = none) (e_NoBeast : EK K mg "NoBeast") : MK P w K mg base 1 "Book" "need_beast" ["self", "number"] m_Book_need_beast := mk_mk D sc_Book_need_beast rfl rfl (fun _ _ _ _ _ _ us hl => match us, hl with | [_, _], _ => rfl) fun f cdv A outer s H E hr => by
  have hN := (sc_Book_need_beast).nd
  have tk : L2N.Takes (cxOf (L2N.CX P w) P w K mg base ["self", "number"] "Book.need_beast" (defScope (inCls (top 132) 4)) f cdv A outer s H E) (fun cls d _ H' => E cls d H') := L2N.takes_of rfl rfl rfl rfl
  exact dss_one (ds_if (DQ.t (dq_or (dt_not (dt_chain op_le op_le g_le g_le (DP.v dp_int) (DP.v (dp_var 1)) (DP.v (DR.p (dr_callB call_len g_len n_len (by decide +kernel) (dwa_cons (dw_f 0 ak_Book_kept) dwa_nil)))))) (dq_or1 (dt_cmpW (op_neD hr.units) g_ne (DP.w (DR.p (dr_ix (DP.w (DR.p (dr_ix (DP.w (DR.p (dr_ix (dw_f 0 ak_Book_kept) (DP.w (DR.p (dr_bin op_sub g_sub (DP.w (dp_var 1)) (DP.w dp_int))))))) (DP.w dp_int)))) (DP.w dp_int)))) (DP.w dp_str))))) (dss_one (ds_raiseK e_NoBeast tk)) dss_nil)

theorem sc_Book_tell : FnScope ["self", "fact"] ["self", "fact"] (defScope (inCls (top 132) 6)) := ⟨rfl, rfl, rfl, by decide +kernel, rfl, by decide +kernel, by decide +kernel⟩
theorem ok_Book_tell (D : DfM K mg "Book" "tell" "Book.tell" (inCls (top 132) 6)) (mk_Book_need_beast : MK P w K mg base 1 "Book" "need_beast" ["self", "number"] m_Book_need_beast) (c_need_fact : FK P w K mg base 5 "need_fact" ["fact"] m_need_fact) (mk_Book_need_room : MK P w K mg base 2 "Book" "need_room" ["self", "fact"] m_Book_need_room) (mk_Book_remember : MK P w K mg base 1 "Book" "remember" ["self", "deed"] m_Book_remember) (ak_Book_kept : AK K mg "Book" "kept") (n_len : mg "len" = none) : MK P w K mg base 6 "Book" "tell" ["self", "fact"] m_Book_tell := mk_mk D sc_Book_tell rfl rfl (fun _ _ _ _ _ _ us hl => match us, hl with | [_, _], _ => rfl) fun f cdv A outer s H E hr => by
  have hN := (sc_Book_tell).nd
  have tk : L2N.Takes (cxOf (L2N.CX P w) P w K mg base ["self", "fact"] "Book.tell" (defScope (inCls (top 132) 6)) f cdv A outer s H E) (fun cls d _ H' => E cls d H') := L2N.takes_of rfl rfl rfl rfl
  exact dss_cons (ds_if (dt_cmpW (op_eqD hr.units) g_eq (DP.w (DR.p (dr_ix (DP.w (dp_var 1)) (DP.w dp_int)))) (DP.w dp_str)) (dss_one (ds_expr (do_mk 0 mk_Book_need_beast hr (by decide) tk (dl_d (DP.v (DR.p (dr_ix (DP.w (dp_var 1)) (DP.w dp_int)))) dl_nil)))) dss_nil) (dss_cons (ds_expr (do_fk c_need_fact hr (by decide) tk (dl_d (DP.v (dp_var 1)) dl_nil))) (dss_cons (ds_expr (do_mk 0 mk_Book_need_room hr (by decide) tk (dl_d (DP.v (dp_var 1)) dl_nil))) (dss_cons (ds_expr (do_mk 0 mk_Book_remember hr (by decide) tk (dl_d (DO.v (do_tup (da_cons (DP.v dp_str) (da_cons (DP.v (dp_var 1)) da_nil)))) dl_nil))) (dss_cons (ds_expr (DV.o (dv_mutF 0 ak_Book_kept PySem.F.slot_list_append rfl mt_append u_app (dpa_cons (DR.p (dr_tup (dpa_cons (dp_var 1) (dpa_cons dp_bl dpa_nil)))) dpa_nil)))) (dss_one (ds_ret (DR.o (dr_callB call_len g_len n_len (by decide +kernel) (dwa_cons (dw_f 0 ak_Book_kept) dwa_nil)))))))))

theorem sc_Book_need_number : FnScope ["self", "number"] ["self", "number"] (defScope (inCls (top 132) 5)) := ⟨rfl, rfl, rfl, by decide +kernel, rfl, by decide +kernel, by decide +kernel⟩
theorem ok_Book_need_number (D : DfM K mg "Book" "need_number" "Book.need_number" (inCls (top 132) 5)) (ak_Book_kept : AK K mg "Book" "kept") (n_len : mg "len" = none) (e_NoFact : EK K mg "NoFact") : MK P w K mg base 1 "Book" "need_number" ["self", "number"] m_Book_need_number := mk_mk D sc_Book_need_number rfl rfl (fun _ _ _ _ _ _ us hl => match us, hl with | [_, _], _ => rfl) fun f cdv A outer s H E hr => by
  have hN := (sc_Book_need_number).nd
  have tk : L2N.Takes (cxOf (L2N.CX P w) P w K mg base ["self", "number"] "Book.need_number" (defScope (inCls (top 132) 5)) f cdv A outer s H E) (fun cls d _ H' => E cls d H') := L2N.takes_of rfl rfl rfl rfl
  exact dss_one (ds_if (dt_not (dt_chain op_le op_le g_le g_le (DP.v dp_int) (DP.v (dp_var 1)) (DP.v (DR.p (dr_callB call_len g_len n_len (by decide +kernel) (dwa_cons (dw_f 0 ak_Book_kept) dwa_nil)))))) (dss_one (ds_raiseK e_NoFact tk)) dss_nil)

theorem sc_Book_strike : FnScope ["self", "number"] ["self", "number"] (defScope (inCls (top 132) 7)) := ⟨rfl, rfl, rfl, by decide +kernel, rfl, by decide +kernel, by decide +kernel⟩
theorem ok_Book_strike (D : DfM K mg "Book" "strike" "Book.strike" (inCls (top 132) 7)) (mk_Book_need_number : MK P w K mg base 1 "Book" "need_number" ["self", "number"] m_Book_need_number) (ak_Book_kept : AK K mg "Book" "kept") (e_Struck : EK K mg "Struck") (mk_Book_remember : MK P w K mg base 1 "Book" "remember" ["self", "deed"] m_Book_remember) : MK P w K mg base 2 "Book" "strike" ["self", "number"] m_Book_strike := mk_mk D sc_Book_strike rfl rfl (fun _ _ _ _ _ _ us hl => match us, hl with | [_, _], _ => rfl) fun f cdv A outer s H E hr => by
  have hN := (sc_Book_strike).nd
  have tk : L2N.Takes (cxOf (L2N.CX P w) P w K mg base ["self", "number"] "Book.strike" (defScope (inCls (top 132) 7)) f cdv A outer s H E) (fun cls d _ H' => E cls d H') := L2N.takes_of rfl rfl rfl rfl
  exact dss_cons (ds_expr (do_mk 0 mk_Book_need_number hr (by decide) tk (dl_d (DP.v (dp_var 1)) dl_nil))) (dss_cons (ds_if (dt_not (dt_val (DP.v (DR.p (dr_ix (DP.w (DR.p (dr_ix (dw_f 0 ak_Book_kept) (DP.w (DR.p (dr_bin op_sub g_sub (DP.w (dp_var 1)) (DP.w dp_int))))))) (DP.w dp_int)))))) (dss_one (ds_raiseK e_Struck tk)) dss_nil) (dss_cons (ds_expr (do_mk 0 mk_Book_remember hr (by decide) tk (dl_d (DO.v (do_tup (da_cons (DP.v dp_str) (da_cons (DP.v (dp_var 1)) da_nil)))) dl_nil))) (dss_one (ds_setF 0 ak_Book_kept (DO.v (do_tup (da_cons (DP.v (DR.p (dr_ix (DP.w (DR.p (dr_ix (dw_f 0 ak_Book_kept) (DP.w (DR.p (dr_bin op_sub g_sub (DP.w (dp_var 1)) (DP.w dp_int))))))) (DP.w dp_int)))) (da_cons (DP.v dp_bl) da_nil)))) (DP.w (DR.p (dr_bin op_sub g_sub (DP.w (dp_var 1)) (DP.w dp_int))))))))

theorem sc_Book_keep : FnScope ["self", "number"] ["self", "number"] (defScope (inCls (top 132) 8)) := ⟨rfl, rfl, rfl, by decide +kernel, rfl, by decide +kernel, by decide +kernel⟩
theorem ok_Book_keep (D : DfM K mg "Book" "keep" "Book.keep" (inCls (top 132) 8)) (mk_Book_need_number : MK P w K mg base 1 "Book" "need_number" ["self", "number"] m_Book_need_number) (ak_Book_kept : AK K mg "Book" "kept") (e_Kept : EK K mg "Kept") (mk_Book_remember : MK P w K mg base 1 "Book" "remember" ["self", "deed"] m_Book_remember) : MK P w K mg base 2 "Book" "keep" ["self", "number"] m_Book_keep := mk_mk D sc_Book_keep rfl rfl (fun _ _ _ _ _ _ us hl => match us, hl with | [_, _], _ => rfl) fun f cdv A outer s H E hr => by
  have hN := (sc_Book_keep).nd
  have tk : L2N.Takes (cxOf (L2N.CX P w) P w K mg base ["self", "number"] "Book.keep" (defScope (inCls (top 132) 8)) f cdv A outer s H E) (fun cls d _ H' => E cls d H') := L2N.takes_of rfl rfl rfl rfl
  exact dss_cons (ds_expr (do_mk 0 mk_Book_need_number hr (by decide) tk (dl_d (DP.v (dp_var 1)) dl_nil))) (dss_cons (ds_if (dt_val (DP.v (DR.p (dr_ix (DP.w (DR.p (dr_ix (dw_f 0 ak_Book_kept) (DP.w (DR.p (dr_bin op_sub g_sub (DP.w (dp_var 1)) (DP.w dp_int))))))) (DP.w dp_int))))) (dss_one (ds_raiseK e_Kept tk)) dss_nil) (dss_cons (ds_expr (do_mk 0 mk_Book_remember hr (by decide) tk (dl_d (DO.v (do_tup (da_cons (DP.v dp_str) (da_cons (DP.v (dp_var 1)) da_nil)))) dl_nil))) (dss_one (ds_setF 0 ak_Book_kept (DO.v (do_tup (da_cons (DP.v (DR.p (dr_ix (DP.w (DR.p (dr_ix (dw_f 0 ak_Book_kept) (DP.w (DR.p (dr_bin op_sub g_sub (DP.w (dp_var 1)) (DP.w dp_int))))))) (DP.w dp_int)))) (da_cons (DP.v dp_bl) da_nil)))) (DP.w (DR.p (dr_bin op_sub g_sub (DP.w (dp_var 1)) (DP.w dp_int))))))))

theorem sc_Book_undo : FnScope ["self", "deed", "kept"] ["self"] (defScope (inCls (top 132) 9)) := ⟨rfl, rfl, rfl, by decide +kernel, rfl, by decide +kernel, by decide +kernel⟩
theorem ok_Book_undo (D : DfM K mg "Book" "undo" "Book.undo" (inCls (top 132) 9)) (ak_Book_past_rows : AK K mg "Book" "past_rows") (e_NoBack : EK K mg "NoBack") (ak_Book_future_rows : AK K mg "Book" "future_rows") (ak_Book_kept : AK K mg "Book" "kept") (n_list : mg "list" = none) : MK P w K mg base 1 "Book" "undo" ["self"] m_Book_undo := mk_mk D sc_Book_undo rfl rfl (fun _ _ _ _ _ _ us hl => match us, hl with | [_], _ => rfl) fun f cdv A outer s H E hr => by
  have hN := (sc_Book_undo).nd
  have tk : L2N.Takes (cxOf (L2N.CX P w) P w K mg base ["self", "deed", "kept"] "Book.undo" (defScope (inCls (top 132) 9)) f cdv A outer s H E) (fun cls d _ H' => E cls d H') := L2N.takes_of rfl rfl rfl rfl
  exact dss_cons (ds_if (dt_cmpW (op_eqD hr.units) g_eq (dw_f 0 ak_Book_past_rows) dw_nil) (dss_one (ds_raiseK e_NoBack tk)) dss_nil) (dss_cons (ds_unp (dg_tup (dgs_cons (dg_name 1 hN) (dgs_cons (dg_name 2 hN) dgs_nil))) (dv_mutF0 0 ak_Book_past_rows PySem.F.slot_list_pop rfl mt_pop u_pop)) (dss_cons (ds_expr (DV.o (dv_mutF 0 ak_Book_future_rows PySem.F.slot_list_append rfl mt_append u_app (dpa_cons (DR.p (dr_tup (dpa_cons (dp_var 1) (dpa_cons (DR.p (dr_callTy call_list_of g_list n_list (by decide +kernel) (dwa_cons (dw_f 0 ak_Book_kept) dwa_nil))) dpa_nil)))) dpa_nil)))) (dss_cons (ds_fld 0 ak_Book_kept (DR.o (dr_callTy call_list_of g_list n_list (by decide +kernel) (dwa_cons (DP.w (dp_var 2)) dwa_nil)))) (dss_one (ds_ret (DV.o (DP.v (dp_var 1))))))))

theorem sc_Book_redo : FnScope ["self", "deed", "kept"] ["self"] (defScope (inCls (top 132) 10)) := ⟨rfl, rfl, rfl, by decide +kernel, rfl, by decide +kernel, by decide +kernel⟩
theorem ok_Book_redo (D : DfM K mg "Book" "redo" "Book.redo" (inCls (top 132) 10)) (ak_Book_future_rows : AK K mg "Book" "future_rows") (e_NoForth : EK K mg "NoForth") (ak_Book_past_rows : AK K mg "Book" "past_rows") (ak_Book_kept : AK K mg "Book" "kept") (n_list : mg "list" = none) : MK P w K mg base 1 "Book" "redo" ["self"] m_Book_redo := mk_mk D sc_Book_redo rfl rfl (fun _ _ _ _ _ _ us hl => match us, hl with | [_], _ => rfl) fun f cdv A outer s H E hr => by
  have hN := (sc_Book_redo).nd
  have tk : L2N.Takes (cxOf (L2N.CX P w) P w K mg base ["self", "deed", "kept"] "Book.redo" (defScope (inCls (top 132) 10)) f cdv A outer s H E) (fun cls d _ H' => E cls d H') := L2N.takes_of rfl rfl rfl rfl
  exact dss_cons (ds_if (dt_cmpW (op_eqD hr.units) g_eq (dw_f 0 ak_Book_future_rows) dw_nil) (dss_one (ds_raiseK e_NoForth tk)) dss_nil) (dss_cons (ds_unp (dg_tup (dgs_cons (dg_name 1 hN) (dgs_cons (dg_name 2 hN) dgs_nil))) (dv_mutF0 0 ak_Book_future_rows PySem.F.slot_list_pop rfl mt_pop u_pop)) (dss_cons (ds_expr (DV.o (dv_mutF 0 ak_Book_past_rows PySem.F.slot_list_append rfl mt_append u_app (dpa_cons (DR.p (dr_tup (dpa_cons (dp_var 1) (dpa_cons (DR.p (dr_callTy call_list_of g_list n_list (by decide +kernel) (dwa_cons (dw_f 0 ak_Book_kept) dwa_nil))) dpa_nil)))) dpa_nil)))) (dss_cons (ds_fld 0 ak_Book_kept (DR.o (dr_callTy call_list_of g_list n_list (by decide +kernel) (dwa_cons (DP.w (dp_var 2)) dwa_nil)))) (dss_one (ds_ret (DV.o (DP.v (dp_var 1))))))))

theorem sc_read_number : FnScope ["word", "sign"] ["word"] (defScope (top 138)) := ⟨rfl, rfl, rfl, by decide +kernel, rfl, by decide +kernel, by decide +kernel⟩
theorem ok_read_number (D : Df K mg "read_number" (top 138)) (n_len : mg "len" = none) (k_MOST_FIGURES : Con K mg "MOST_FIGURES" c_MOST_FIGURES) (ik_BadText : IKc P w K mg base 1 "BadText" "at") (k_FIGURES : Con K mg "FIGURES" c_FIGURES) (n_int : mg "int" = none) : FK P w K mg base 3 "read_number" ["word"] m_read_number := fk_mk D sc_read_number rfl rfl (fun _ _ _ _ _ _ us hl => match us, hl with | [_], _ => rfl) fun f cdv A outer s H E hr => by
  have hN := (sc_read_number).nd
  have tk : L2N.Takes (cxOf (L2N.CX P w) P w K mg base ["word", "sign"] "read_number" (defScope (top 138)) f cdv A outer s H E) (fun cls d _ H' => E cls d H') := L2N.takes_of rfl rfl rfl rfl
  have hp : PassesOwn (model P w) (cxOf (L2N.CX P w) P w K mg base ["word", "sign"] "read_number" (defScope (top 138)) f cdv A outer s H E).A (cxOf (L2N.CX P w) P w K mg base ["word", "sign"] "read_number" (defScope (top 138)) f cdv A outer s H E).env (cxOf (L2N.CX P w) P w K mg base ["word", "sign"] "read_number" (defScope (top 138)) f cdv A outer s H E).xe := passes_of rfl
  exact dss_cons (ds_if (dt_not (dt_chain op_le op_le g_le g_le (DP.v dp_int) (DP.v (DR.p (dr_callB call_len g_len n_len (by decide +kernel) (dwa_cons (DP.w (dp_var 0)) dwa_nil)))) (DP.v (dp_con k_MOST_FIGURES)))) (dss_one (ds_raiseI ik_BadText hr (by decide) tk (DP.v dp_int))) dss_nil) (dss_cons (ds_forS [1] hp (DP.v (dp_var 0)) (dg_name 1 hN) (dss_one (ds_if (dt_cmpW op_notIn_str g_notInS (DP.w (dp_var 1)) (DP.w (dp_con k_FIGURES))) (dss_one (ds_raiseI ik_BadText hr (by decide) tk (DP.v dp_int))) dss_nil))) (dss_cons (ds_if (DQ.t (dq_and (dt_cmpW (op_eqD hr.units) g_eq (DP.w (DR.p (dr_ix (DP.w (dp_var 0)) (DP.w dp_int)))) (DP.w dp_str)) (dq_and1 (dt_cmpW (op_gtG hr.units0) g_gt (DP.w (DR.p (dr_callB call_len g_len n_len (by decide +kernel) (dwa_cons (DP.w (dp_var 0)) dwa_nil)))) (DP.w dp_int))))) (dss_one (ds_raiseI ik_BadText hr (by decide) tk (DP.v dp_int))) dss_nil) (dss_one (ds_ret (DR.o (dr_callTy call_int_str g_intS n_int (by decide +kernel) (dwa_cons (DP.w (dp_var 0)) dwa_nil)))))))

theorem sc_read_numbers : FnScope ["words", "many", "word"] ["words", "many"] (defScope (top 139)) := ⟨rfl, rfl, rfl, by decide +kernel, rfl, by decide +kernel, by decide +kernel⟩
theorem ok_read_numbers (D : Df K mg "read_numbers" (top 139)) (n_len : mg "len" = none) (ik_BadText : IKc P w K mg base 1 "BadText" "at") (c_read_number : FK P w K mg base 3 "read_number" ["word"] m_read_number) (n_tuple : mg "tuple" = none) : FK P w K mg base 4 "read_numbers" ["words", "many"] m_read_numbers := fk_mk D sc_read_numbers rfl rfl (fun _ _ _ _ _ _ us hl => match us, hl with | [_, _], _ => rfl) fun f cdv A outer s H E hr => by
  have hN := (sc_read_numbers).nd
  have tk : L2N.Takes (cxOf (L2N.CX P w) P w K mg base ["words", "many", "word"] "read_numbers" (defScope (top 139)) f cdv A outer s H E) (fun cls d _ H' => E cls d H') := L2N.takes_of rfl rfl rfl rfl
  exact dss_cons (ds_if (dt_cmpW (op_neD hr.units) g_ne (DP.w (DR.p (dr_callB call_len g_len n_len (by decide +kernel) (dwa_cons (DP.w (dp_var 0)) dwa_nil)))) (DP.w (dp_var 1))) (dss_one (ds_raiseI ik_BadText hr (by decide) tk (DP.v dp_int))) dss_nil) (dss_one (ds_ret (do_callTy call_tuple_of g_tuple n_tuple (by decide +kernel) (da_cons (DO.v (do_compXL [("word", 2)] hN tk (DP.v (dp_var 0)) (blkOk_by (N := ["words", "many", "word"]) (sc := defScope (top 139)) (by decide +kernel)) (fun _ _ _ _ _ _ => dg_name 2 hN) (fun _ _ _ _ _ _ => dts_nil) (fun _ _ _ _ _ _ _ tkC => DO.v (do_fk c_read_number hr (by decide) tkC (dl_d (DP.v (dp_var 2)) dl_nil))))) da_nil))))

theorem sc_read_custom : FnScope ["words"] ["words"] (defScope (top 140)) := ⟨rfl, rfl, rfl, by decide +kernel, rfl, by decide +kernel, by decide +kernel⟩
theorem ok_read_custom (D : Df K mg "read_custom" (top 140)) (tb_CUSTOMS : TabK K w mg "CUSTOMS" dv_CUSTOMS) (ik_BadText : IKc P w K mg base 1 "BadText" "at") (c_read_numbers : FK P w K mg base 4 "read_numbers" ["words", "many"] m_read_numbers) : FK P w K mg base 5 "read_custom" ["words"] m_read_custom := fk_mk D sc_read_custom rfl rfl (fun _ _ _ _ _ _ us hl => match us, hl with | [_], _ => rfl) fun f cdv A outer s H E hr => by
  have hN := (sc_read_custom).nd
  have tk : L2N.Takes (cxOf (L2N.CX P w) P w K mg base ["words"] "read_custom" (defScope (top 140)) f cdv A outer s H E) (fun cls d _ H' => E cls d H') := L2N.takes_of rfl rfl rfl rfl
  exact dss_cons (ds_if (DQ.t (dq_or (dt_cmp (op_eqD hr.units) g_eq (DP.v (dp_var 0)) (DO.v (do_lst da_nil))) (dq_or1 (dt_tabNotIn (kvs := dv_CUSTOMS) tb_CUSTOMS (DP.v (DR.p (dr_ix (DP.w (dp_var 0)) (DP.w dp_int)))))))) (dss_one (ds_raiseI ik_BadText hr (by decide) tk (DP.v dp_int))) dss_nil) (dss_one (ds_ret (do_bin op_addG g_add (DO.v (do_tup (da_cons (DP.v (DR.p (dr_ix (DP.w (dp_var 0)) (DP.w dp_int)))) da_nil))) (DO.v (do_fk c_read_numbers hr (by decide) tk (dl_d (DO.v (do_sl (DP.v (dp_var 0)) (dn_some (DP.v dp_int)) dn_none)) (dl_d (DO.v (do_tabIx tb_CUSTOMS (DP.v (DR.p (dr_ix (DP.w (dp_var 0)) (DP.w dp_int)))))) dl_nil)))))))

theorem sc_read_fact : FnScope ["line", "words", "found"] ["line"] (defScope (top 141)) := ⟨rfl, rfl, rfl, by decide +kernel, rfl, by decide +kernel, by decide +kernel⟩
theorem ok_read_fact (D : Df K mg "read_fact" (top 141)) (c_read_numbers : FK P w K mg base 4 "read_numbers" ["words", "many"] m_read_numbers) (c_read_custom : FK P w K mg base 5 "read_custom" ["words"] m_read_custom) (tb_FORMS : TabK K w mg "FORMS" dv_FORMS) (ik_BadText : IKc P w K mg base 1 "BadText" "at") : FK P w K mg base 6 "read_fact" ["line"] m_read_fact := fk_mk D sc_read_fact rfl rfl (fun _ _ _ _ _ _ us hl => match us, hl with | [_], _ => rfl) fun f cdv A outer s H E hr => by
  have hN := (sc_read_fact).nd
  have tk : L2N.Takes (cxOf (L2N.CX P w) P w K mg base ["line", "words", "found"] "read_fact" (defScope (top 141)) f cdv A outer s H E) (fun cls d _ H' => E cls d H') := L2N.takes_of rfl rfl rfl rfl
  exact dss_cons (ds_set (i := 1) hN (DV.o (DO.v (do_split (DP.v (dp_var 0)) (DP.v dp_str))))) (dss_cons (ds_if (dt_cmpW (op_eqD hr.units) g_eq (DP.w (DR.p (dr_ix (DP.w (dp_var 1)) (DP.w dp_int)))) (DP.w dp_str)) (dss_one (ds_ret (do_bin op_addG g_add (DO.v (do_bin op_addG g_add (DO.v (do_tup (da_cons (DP.v dp_str) da_nil))) (DO.v (do_fk c_read_numbers hr (by decide) tk (dl_d (DO.v (do_sl (DP.v (dp_var 1)) (dn_some (DP.v dp_int)) (dn_some (DP.v dp_int)))) (dl_d (DP.v dp_int) dl_nil)))))) (DO.v (do_tup (da_cons (DO.v (do_fk c_read_custom hr (by decide) tk (dl_d (DO.v (do_sl (DP.v (dp_var 1)) (dn_some (DP.v dp_int)) dn_none)) dl_nil))) da_nil)))))) dss_nil) (dss_cons (ds_if (dt_tabNotIn (kvs := dv_FORMS) tb_FORMS (DP.v (DR.p (dr_ix (DP.w (dp_var 1)) (DP.w dp_int))))) (dss_one (ds_raiseI ik_BadText hr (by decide) tk (DP.v dp_int))) dss_nil) (dss_cons (ds_set (i := 2) hN (DV.o (DO.v (do_fk c_read_numbers hr (by decide) tk (dl_d (DO.v (do_sl (DP.v (dp_var 1)) (dn_some (DP.v dp_int)) dn_none)) (dl_d (DO.v (do_tabIx tb_FORMS (DP.v (DR.p (dr_ix (DP.w (dp_var 1)) (DP.w dp_int)))))) dl_nil)))))) (dss_cons (ds_if (dt_cmpW (op_eqD hr.units) g_eq (DP.w (DR.p (dr_ix (DP.w (dp_var 1)) (DP.w dp_int)))) (DP.w dp_str)) (dss_one (ds_set (i := 2) hN (DV.o (DO.v (do_bin op_addG g_add (DO.v (do_sl (DP.v (dp_var 2)) dn_none (dn_some (DP.v dp_int)))) (DO.v (do_tup (da_cons (DO.v (do_sl (DP.v (dp_var 2)) (dn_some (DP.v dp_int)) (dn_some (DP.v dp_int)))) (da_cons (DP.v (DR.p (dr_ix (DP.w (dp_var 2)) (DP.w dp_int)))) da_nil))))))))) dss_nil) (dss_one (ds_ret (do_bin op_addG g_add (DO.v (do_tup (da_cons (DP.v (DR.p (dr_ix (DP.w (dp_var 1)) (DP.w dp_int)))) da_nil))) (DP.v (dp_var 2)))))))))

theorem sc_read_deed : FnScope ["line", "words"] ["line"] (defScope (top 142)) := ⟨rfl, rfl, rfl, by decide +kernel, rfl, by decide +kernel, by decide +kernel⟩
theorem ok_read_deed (D : Df K mg "read_deed" (top 142)) (c_read_numbers : FK P w K mg base 4 "read_numbers" ["words", "many"] m_read_numbers) (c_read_fact : FK P w K mg base 6 "read_fact" ["line"] m_read_fact) : FK P w K mg base 7 "read_deed" ["line"] m_read_deed := fk_mk D sc_read_deed rfl rfl (fun _ _ _ _ _ _ us hl => match us, hl with | [_], _ => rfl) fun f cdv A outer s H E hr => by
  have hN := (sc_read_deed).nd
  have tk : L2N.Takes (cxOf (L2N.CX P w) P w K mg base ["line", "words"] "read_deed" (defScope (top 142)) f cdv A outer s H E) (fun cls d _ H' => E cls d H') := L2N.takes_of rfl rfl rfl rfl
  exact dss_cons (ds_set (i := 1) hN (DV.o (DO.v (do_split (DP.v (dp_var 0)) (DP.v dp_str))))) (dss_cons (ds_if (dt_cmp op_in_seq g_inT (DP.v (DR.p (dr_ix (DP.w (dp_var 1)) (DP.w dp_int)))) (DO.v (do_tup (da_cons (DP.v dp_str) (da_cons (DP.v dp_str) da_nil))))) (dss_one (ds_ret (do_bin op_addG g_add (DO.v (do_tup (da_cons (DP.v (DR.p (dr_ix (DP.w (dp_var 1)) (DP.w dp_int)))) da_nil))) (DO.v (do_fk c_read_numbers hr (by decide) tk (dl_d (DO.v (do_sl (DP.v (dp_var 1)) (dn_some (DP.v dp_int)) dn_none)) (dl_d (DP.v dp_int) dl_nil))))))) dss_nil) (dss_one (ds_ret (do_tup (da_cons (DP.v dp_str) (da_cons (DO.v (do_fk c_read_fact hr (by decide) tk (dl_d (DP.v (dp_var 0)) dl_nil))) da_nil))))))

theorem sc__law_facts_wrong : FnScope ["_law_which", "_law_far", "_law_rows"] ["_law_which", "_law_far"] (defScope (top 146)) := ⟨rfl, rfl, rfl, by decide +kernel, rfl, by decide +kernel, by decide +kernel⟩
theorem ok__law_facts_wrong (D : Df K mg "_law_facts_wrong" (top 146))  : FK P w K mg base 1 "_law_facts_wrong" ["_law_which", "_law_far"] m__law_facts_wrong := fk_mk D sc__law_facts_wrong rfl rfl (fun _ _ _ _ _ _ us hl => match us, hl with | [_, _], _ => rfl) fun f cdv A outer s H E hr => by
  have hN := (sc__law_facts_wrong).nd
  exact dss_cons (ds_set (i := 2) hN (DV.o (DO.v (do_lst (da_cons (DO.v (do_tup (da_cons (DP.v dp_str) (da_cons (DP.v dp_int) da_nil)))) (da_cons (DO.v (do_tup (da_cons (DP.v dp_str) (da_cons (DP.v (DR.p (dr_bin op_addG g_add (DP.w dp_int) (DP.w (dp_var 1))))) (da_cons (DP.v dp_int) (da_cons (DP.v dp_int) da_nil)))))) (da_cons (DO.v (do_tup (da_cons (DP.v dp_str) (da_cons (DP.v dp_int) (da_cons (DP.v (DR.p (dr_bin op_addG g_add (DP.w dp_int) (DP.w (dp_var 1))))) (da_cons (DP.v dp_int) da_nil)))))) (da_cons (DO.v (do_tup (da_cons (DP.v dp_str) (da_cons (DP.v dp_int) (da_cons (DP.v (DR.p (dr_bin op_addG g_add (DP.w dp_int) (DP.w (dp_var 1))))) (da_cons (DP.v dp_int) da_nil)))))) da_nil)))))))) (dss_cons (ds_set (i := 2) hN (DV.o (DO.v (do_bin op_addG g_add (DP.v (dp_var 2)) (DO.v (do_lst (da_cons (DO.v (do_tup (da_cons (DP.v dp_str) (da_cons (DP.v dp_int) (da_cons (DP.v (DR.p (dr_bin op_addG g_add (DP.w dp_int) (DP.w (dp_var 1))))) (da_cons (DP.v dp_int) (da_cons (DP.v dp_int) da_nil))))))) (da_cons (DO.v (do_tup (da_cons (DP.v dp_str) (da_cons (DP.v dp_int) (da_cons (DP.v dp_int) (da_cons (DP.v dp_int) (da_cons (DP.v (DR.p (dr_bin op_addG g_add (DP.w dp_int) (DP.w (dp_var 1))))) (da_cons (DO.v (do_tup (da_cons (DP.v dp_int) (da_cons (DP.v dp_int) da_nil)))) (da_cons (DP.v dp_int) da_nil))))))))) (da_cons (DO.v (do_tup (da_cons (DP.v dp_str) (da_cons (DP.v dp_int) (da_cons (DP.v dp_int) (da_cons (DP.v (DR.p (dr_bin op_addG g_add (DP.w dp_int) (DP.w (dp_var 1))))) da_nil)))))) da_nil))))))))) (dss_cons (ds_set (i := 2) hN (DV.o (DO.v (do_bin op_addG g_add (DP.v (dp_var 2)) (DO.v (do_lst (da_cons (DO.v (do_tup (da_cons (DP.v dp_str) (da_cons (DP.v dp_int) (da_cons (DP.v dp_int) (da_cons (DP.v (DR.p (dr_bin op_addG g_add (DP.w dp_int) (DP.w (dp_var 1))))) (da_cons (DO.v (do_tup (da_cons (DP.v dp_str) da_nil))) da_nil))))))) (da_cons (DO.v (do_tup (da_cons (DP.v dp_str) (da_cons (DP.v dp_int) (da_cons (DP.v dp_int) (da_cons (DP.v dp_int) (da_cons (DP.v (DR.p (dr_bin op_addG g_add (DP.w dp_int) (DP.w (dp_var 1))))) da_nil))))))) (da_cons (DO.v (do_tup (da_cons (DP.v dp_str) (da_cons (DP.v dp_int) (da_cons (DP.v dp_int) (da_cons (DP.v dp_int) (da_cons (DP.v (DR.p (dr_bin op_addG g_add (DP.w dp_int) (DP.w (dp_var 1))))) (da_cons (DP.v dp_int) da_nil)))))))) da_nil))))))))) (dss_cons (ds_set (i := 2) hN (DV.o (DO.v (do_bin op_addG g_add (DP.v (dp_var 2)) (DO.v (do_lst (da_cons (DO.v (do_tup (da_cons (DP.v dp_str) (da_cons (DP.v dp_int) (da_cons (DP.v dp_int) (da_cons (DP.v dp_int) (da_cons (DP.v dp_int) (da_cons (DP.v (DR.p (dr_bin op_addG g_add (DP.w dp_int) (DP.w (dp_var 1))))) da_nil)))))))) (da_cons (DO.v (do_tup (da_cons (DP.v dp_str) (da_cons (DP.v dp_int) (da_cons (DP.v dp_int) (da_cons (DP.v dp_int) (da_cons (DO.v (do_tup (da_cons (DP.v dp_str) (da_cons (DP.v dp_int) da_nil)))) da_nil))))))) da_nil)))))))) (dss_cons (ds_set (i := 2) hN (DV.o (DO.v (do_bin op_addG g_add (DP.v (dp_var 2)) (DO.v (do_lst (da_cons (DO.v (do_tup (da_cons (DP.v dp_str) (da_cons (DP.v dp_int) (da_cons (DP.v dp_int) (da_cons (DP.v dp_int) (da_cons (DO.v (do_tup (da_cons (DP.v dp_str) (da_cons (DP.v (DR.p (dr_bin op_addG g_add (DP.w dp_int) (DP.w (dp_var 1))))) da_nil)))) da_nil))))))) (da_cons (DO.v (do_tup (da_cons (DP.v dp_str) (da_cons (DP.v dp_int) (da_cons (DP.v dp_int) (da_cons (DP.v dp_int) (da_cons (DO.v (do_tup (da_cons (DP.v dp_str) (da_cons (DP.v (DR.p (dr_bin op_addG g_add (DP.w dp_int) (DP.w (dp_var 1))))) da_nil)))) da_nil))))))) da_nil)))))))) (dss_cons (ds_set (i := 2) hN (DV.o (DO.v (do_bin op_addG g_add (DP.v (dp_var 2)) (DO.v (do_lst (da_cons (DO.v (do_tup (da_cons (DP.v dp_str) (da_cons (DP.v dp_int) (da_cons (DP.v dp_int) (da_cons (DP.v dp_int) (da_cons (DP.v dp_int) (da_cons (DO.v (do_tup (da_cons (DP.v dp_int) (da_cons (DP.v dp_int) da_nil)))) (da_cons (DP.v dp_int) da_nil))))))))) (da_cons (DO.v (do_tup (da_cons (DP.v dp_str) (da_cons (DP.v dp_int) (da_cons (DP.v (DR.p (dr_bin op_addG g_add (DP.w dp_int) (DP.w (DR.p (dr_bin op_mod g_mod (DP.w (dp_var 1)) (DP.w dp_int))))))) (da_cons (DP.v dp_int) da_nil)))))) (da_cons (DO.v (do_tup (da_cons (DP.v dp_str) (da_cons (DP.v dp_int) (da_cons (DP.v dp_int) (da_cons (DP.v dp_int) da_nil)))))) da_nil))))))))) (dss_one (ds_ret (DR.o (dr_ix (DP.w (dp_var 2)) (DP.w (dp_var 0)))))))))))

theorem sc__law_raise : FnScope ["_law_which", "_law_far", "_law_book", "_law_k"] ["_law_which", "_law_far"] (defScope (top 147)) := ⟨rfl, rfl, rfl, by decide +kernel, rfl, by decide +kernel, by decide +kernel⟩
theorem ok__law_raise (D : Df K mg "_law_raise" (top 147)) (cm_Book : CMK P w K mg base 1 "Book" m_Book___init__) (mk_Book_tell : MK P w K mg base 6 "Book" "tell" ["self", "fact"] m_Book_tell) (c__law_facts_wrong : FK P w K mg base 1 "_law_facts_wrong" ["_law_which", "_law_far"] m__law_facts_wrong) (c_need_fact : FK P w K mg base 5 "need_fact" ["fact"] m_need_fact) (mk_Book_strike : MK P w K mg base 2 "Book" "strike" ["self", "number"] m_Book_strike) (mk_Book_keep : MK P w K mg base 2 "Book" "keep" ["self", "number"] m_Book_keep) (n_range : mg "range" = none) (mk_Book_undo : MK P w K mg base 1 "Book" "undo" ["self"] m_Book_undo) (mk_Book_redo : MK P w K mg base 1 "Book" "redo" ["self"] m_Book_redo) (c_read_deed : FK P w K mg base 7 "read_deed" ["line"] m_read_deed) : FK P w K mg base 8 "_law_raise" ["_law_which", "_law_far"] m__law_raise := fk_mk D sc__law_raise rfl rfl (fun _ _ _ _ _ _ us hl => match us, hl with | [_, _], _ => rfl) fun f cdv A outer s H E hr => by
  have hN := (sc__law_raise).nd
  have tk : L2N.Takes (cxOf (L2N.CX P w) P w K mg base ["_law_which", "_law_far", "_law_book", "_law_k"] "_law_raise" (defScope (top 147)) f cdv A outer s H E) (fun cls d _ H' => E cls d H') := L2N.takes_of rfl rfl rfl rfl
  have hp : PassesOwn (model P w) (cxOf (L2N.CX P w) P w K mg base ["_law_which", "_law_far", "_law_book", "_law_k"] "_law_raise" (defScope (top 147)) f cdv A outer s H E).A (cxOf (L2N.CX P w) P w K mg base ["_law_which", "_law_far", "_law_book", "_law_k"] "_law_raise" (defScope (top 147)) f cdv A outer s H E).env (cxOf (L2N.CX P w) P w K mg base ["_law_which", "_law_far", "_law_book", "_law_k"] "_law_raise" (defScope (top 147)) f cdv A outer s H E).xe := passes_of rfl
  exact dss_cons (ds_set (i := 2) hN (do_new cm_Book hr (by decide))) (dss_cons (ds_expr (do_mk 2 mk_Book_tell hr (by decide) tk (dl_d (DO.v (do_tup (da_cons (DP.v dp_str) (da_cons (DP.v dp_int) (da_cons (DP.v dp_int) da_nil))))) dl_nil))) (dss_cons (ds_expr (do_mk 2 mk_Book_tell hr (by decide) tk (dl_d (DO.v (do_tup (da_cons (DP.v dp_str) (da_cons (DP.v dp_int) (da_cons (DP.v dp_int) (da_cons (DP.v dp_int) da_nil)))))) dl_nil))) (dss_cons (ds_if (dt_cmpW op_lt g_lt (DP.w (dp_var 0)) (DP.w dp_int)) (dss_one (ds_expr (do_fk c_need_fact hr (by decide) tk (dl_d (DO.v (do_fk c__law_facts_wrong hr (by decide) tk (dl_d (DP.v (dp_var 0)) (dl_d (DP.v (dp_var 1)) dl_nil)))) dl_nil)))) dss_nil) (dss_cons (ds_if (dt_cmpW (op_eqD hr.units) g_eq (DP.w (dp_var 0)) (DP.w dp_int)) (dss_one (ds_expr (do_mk 2 mk_Book_tell hr (by decide) tk (dl_d (DO.v (do_tup (da_cons (DP.v dp_str) (da_cons (DP.v (DR.p (dr_bin op_addG g_add (DP.w dp_int) (DP.w (dp_var 1))))) (da_cons (DP.v dp_int) (da_cons (DP.v dp_int) da_nil)))))) dl_nil)))) dss_nil) (dss_cons (ds_if (dt_cmpW (op_eqD hr.units) g_eq (DP.w (dp_var 0)) (DP.w dp_int)) (dss_one (ds_expr (do_mk 2 mk_Book_strike hr (by decide) tk (dl_d (DP.v (DR.p (dr_bin op_addG g_add (DP.w dp_int) (DP.w (dp_var 1))))) dl_nil)))) dss_nil) (dss_cons (ds_if (dt_cmp op_in_seq g_inTI (DP.v (dp_var 0)) (DO.v (do_tup (da_cons (DP.v dp_int) (da_cons (DP.v dp_int) da_nil))))) (dss_one (ds_expr (do_mk 2 mk_Book_strike hr (by decide) tk (dl_d (DP.v dp_int) dl_nil)))) dss_nil) (dss_cons (ds_if (dt_cmpW (op_eqD hr.units) g_eq (DP.w (dp_var 0)) (DP.w dp_int)) (dss_one (ds_expr (do_mk 2 mk_Book_strike hr (by decide) tk (dl_d (DP.v dp_int) dl_nil)))) dss_nil) (dss_cons (ds_if (dt_cmpW (op_eqD hr.units) g_eq (DP.w (dp_var 0)) (DP.w dp_int)) (dss_cons (ds_expr (do_mk 2 mk_Book_keep hr (by decide) tk (dl_d (DP.v dp_int) dl_nil))) (dss_one (ds_expr (do_mk 2 mk_Book_keep hr (by decide) tk (dl_d (DP.v dp_int) dl_nil))))) dss_nil) (dss_cons (ds_if (dt_cmpW (op_eqD hr.units) g_eq (DP.w (dp_var 0)) (DP.w dp_int)) (dss_one (ds_forR1 [3] hp n_range (DP.v dp_int) (dg_name 3 hN) (dss_one (ds_expr (do_mk 2 mk_Book_tell hr (by decide) tk (dl_d (DO.v (do_tup (da_cons (DP.v dp_str) (da_cons (DP.v dp_int) (da_cons (DP.v dp_int) da_nil))))) dl_nil)))))) dss_nil) (dss_cons (ds_if (dt_cmpW (op_eqD hr.units) g_eq (DP.w (dp_var 0)) (DP.w dp_int)) (dss_one (ds_forR1 [3] hp n_range (DP.v dp_int) (dg_name 3 hN) (dss_one (ds_expr (do_mk0 2 mk_Book_undo hr (by decide) tk))))) dss_nil) (dss_cons (ds_if (dt_cmpW (op_eqD hr.units) g_eq (DP.w (dp_var 0)) (DP.w dp_int)) (dss_one (ds_expr (do_mk0 2 mk_Book_redo hr (by decide) tk))) dss_nil) (dss_one (ds_if (dt_cmpW (op_eqD hr.units) g_eq (DP.w (dp_var 0)) (DP.w dp_int)) (dss_one (ds_expr (do_fk c_read_deed hr (by decide) tk (dl_d (DP.v dp_str) dl_nil)))) dss_nil)))))))))))))

theorem sc__law_row : FnScope ["_law_e", "_law_flags"] ["_law_e"] (defScope (top 148)) := ⟨rfl, rfl, rfl, by decide +kernel, rfl, by decide +kernel, by decide +kernel⟩
theorem ok__law_row (D : Df K mg "_law_row" (top 148)) (io_BadWord : IO K mg "BadWord" xl_BadWord) (n_isinstance : mg "isinstance" = none) (io_BadField : IO K mg "BadField" xl_BadField) (io_BadParish : IO K mg "BadParish" xl_BadParish) (io_BadHolder : IO K mg "BadHolder" xl_BadHolder) (io_BadKind : IO K mg "BadKind" xl_BadKind) (io_BadTaker : IO K mg "BadTaker" xl_BadTaker) (io_BadDay : IO K mg "BadDay" xl_BadDay) (io_BadYear : IO K mg "BadYear" xl_BadYear) (io_BadCount : IO K mg "BadCount" xl_BadCount) (io_BadSpan : IO K mg "BadSpan" xl_BadSpan) (io_BadWorth : IO K mg "BadWorth" xl_BadWorth) (io_BadCustom : IO K mg "BadCustom" xl_BadCustom) (io_BadAside : IO K mg "BadAside" xl_BadAside) (io_BadPence : IO K mg "BadPence" xl_BadPence) (io_BadPart : IO K mg "BadPart" xl_BadPart) (io_Backward : IO K mg "Backward" xl_Backward) (io_Same : IO K mg "Same" xl_Same) (io_NoBeast : IO K mg "NoBeast" xl_NoBeast) (io_NoFact : IO K mg "NoFact" xl_NoFact) (io_Struck : IO K mg "Struck" xl_Struck) (io_Kept : IO K mg "Kept" xl_Kept) (io_Full : IO K mg "Full" xl_Full) (io_NoBack : IO K mg "NoBack" xl_NoBack) (io_NoForth : IO K mg "NoForth" xl_NoForth) (io_BadText : IO K mg "BadText" xl_BadText) (ib_ValueError : IB K mg "ValueError" "ValueError" xl_ValueError) : HK P w K mg base 1 "_law_row" "_law_e" m__law_row := hk_mk D sc__law_row rfl (fun _ _ _ _ _ _ us hl => match us, hl with | [_], _ => rfl) fun f cdv A outer s H E q0 e hot hx hr => by
  obtain ⟨C, d, hC, hdn, hz, hv⟩ := hx.ex
  have hN := (sc__law_row).nd
  exact dss_cons (ds_set (i := 1) hN (DV.o (DO.v (do_lst (da_cons (dv_isHO io_BadWord (List.mem_singleton.mpr rfl) (fun _ h => h) n_isinstance hC hdn hz hv) (da_cons (dv_isHO io_BadField (List.mem_singleton.mpr rfl) (fun _ h => h) n_isinstance hC hdn hz hv) (da_cons (dv_isHO io_BadParish (List.mem_singleton.mpr rfl) (fun _ h => h) n_isinstance hC hdn hz hv) (da_cons (dv_isHO io_BadHolder (List.mem_singleton.mpr rfl) (fun _ h => h) n_isinstance hC hdn hz hv) da_nil)))))))) (dss_cons (ds_set (i := 1) hN (DV.o (DO.v (do_bin op_addG g_add (DP.v (dp_var 1)) (DO.v (do_lst (da_cons (dv_isHO io_BadKind (List.mem_singleton.mpr rfl) (fun _ h => h) n_isinstance hC hdn hz hv) (da_cons (dv_isHO io_BadTaker (List.mem_singleton.mpr rfl) (fun _ h => h) n_isinstance hC hdn hz hv) (da_cons (dv_isHO io_BadDay (List.mem_singleton.mpr rfl) (fun _ h => h) n_isinstance hC hdn hz hv) (da_cons (dv_isHO io_BadYear (List.mem_singleton.mpr rfl) (fun _ h => h) n_isinstance hC hdn hz hv) da_nil)))))))))) (dss_cons (ds_set (i := 1) hN (DV.o (DO.v (do_bin op_addG g_add (DP.v (dp_var 1)) (DO.v (do_lst (da_cons (dv_isHO io_BadCount (List.mem_singleton.mpr rfl) (fun _ h => h) n_isinstance hC hdn hz hv) (da_cons (dv_isHO io_BadSpan (List.mem_singleton.mpr rfl) (fun _ h => h) n_isinstance hC hdn hz hv) (da_cons (dv_isHO io_BadWorth (List.mem_singleton.mpr rfl) (fun _ h => h) n_isinstance hC hdn hz hv) da_nil))))))))) (dss_cons (ds_set (i := 1) hN (DV.o (DO.v (do_bin op_addG g_add (DP.v (dp_var 1)) (DO.v (do_lst (da_cons (dv_isHO io_BadCustom (List.mem_singleton.mpr rfl) (fun _ h => h) n_isinstance hC hdn hz hv) (da_cons (dv_isHO io_BadAside (List.mem_singleton.mpr rfl) (fun _ h => h) n_isinstance hC hdn hz hv) (da_cons (dv_isHO io_BadPence (List.mem_singleton.mpr rfl) (fun _ h => h) n_isinstance hC hdn hz hv) da_nil))))))))) (dss_cons (ds_set (i := 1) hN (DV.o (DO.v (do_bin op_addG g_add (DP.v (dp_var 1)) (DO.v (do_lst (da_cons (dv_isHO io_BadPart (List.mem_singleton.mpr rfl) (fun _ h => h) n_isinstance hC hdn hz hv) (da_cons (dv_isHO io_Backward (List.mem_singleton.mpr rfl) (fun _ h => h) n_isinstance hC hdn hz hv) (da_cons (dv_isHO io_Same (List.mem_singleton.mpr rfl) (fun _ h => h) n_isinstance hC hdn hz hv) (da_cons (dv_isHO io_NoBeast (List.mem_singleton.mpr rfl) (fun _ h => h) n_isinstance hC hdn hz hv) da_nil)))))))))) (dss_cons (ds_set (i := 1) hN (DV.o (DO.v (do_bin op_addG g_add (DP.v (dp_var 1)) (DO.v (do_lst (da_cons (dv_isHO io_NoFact (List.mem_singleton.mpr rfl) (fun _ h => h) n_isinstance hC hdn hz hv) (da_cons (dv_isHO io_Struck (List.mem_singleton.mpr rfl) (fun _ h => h) n_isinstance hC hdn hz hv) (da_cons (dv_isHO io_Kept (List.mem_singleton.mpr rfl) (fun _ h => h) n_isinstance hC hdn hz hv) (da_cons (dv_isHO io_Full (List.mem_singleton.mpr rfl) (fun _ h => h) n_isinstance hC hdn hz hv) da_nil)))))))))) (dss_cons (ds_set (i := 1) hN (DV.o (DO.v (do_bin op_addG g_add (DP.v (dp_var 1)) (DO.v (do_lst (da_cons (dv_isHO io_NoBack (List.mem_singleton.mpr rfl) (fun _ h => h) n_isinstance hC hdn hz hv) (da_cons (dv_isHO io_NoForth (List.mem_singleton.mpr rfl) (fun _ h => h) n_isinstance hC hdn hz hv) (da_cons (dv_isHO io_BadText (List.mem_singleton.mpr rfl) (fun _ h => h) n_isinstance hC hdn hz hv) da_nil))))))))) (dss_one (ds_ret (do_bin op_addG g_add (DP.v (dp_var 1)) (DO.v (do_lst (da_cons (dv_isHB ib_ValueError (List.mem_singleton.mpr rfl) (fun _ h => h) n_isinstance hC hdn hz hv) da_nil))))))))))))

theorem sc_law : FnScope ["_law_script", "_law_bag_here", "_law_far", "_law_which", "_law_row_here", "_law_e", "_law_at"] ["_law_script"] (defScope (top 149)) := ⟨rfl, rfl, rfl, by decide +kernel, rfl, by decide +kernel, by decide +kernel⟩
theorem ok_law {f : Addr} {fd : FuncData} (F : FunD K "law" "law" (defArgs (top 149)) (defBody (top 149)) (defScope (top 149)) [] [] f fd) (c__law_bag : FK P w K mg base 1 "_law_bag" ["_law_script"] m__law_bag) (c__law_pull : FK P w K mg base 1 "_law_pull" ["_law_bag_here", "_law_many"] m__law_pull) (c__law_raise : FK P w K mg base 8 "_law_raise" ["_law_which", "_law_far"] m__law_raise) (c__law_row : HK P w K mg base 1 "_law_row" "_law_e" m__law_row) (x_TitheError : XK K mg "TitheError" xl_TitheError) (n_range : mg "range" = none) : FnOk P w K mg base (L2N.CX P w) 9 f fd ["_law_script"] (spL K mg 1 m_law) := fl_mk F sc_law rfl rfl fun cdv A outer s H E hr => by
  have hN := (sc_law).nd
  have tk : L2N.Takes (cxOf (L2N.CX P w) P w K mg base ["_law_script", "_law_bag_here", "_law_far", "_law_which", "_law_row_here", "_law_e", "_law_at"] "law" (defScope (top 149)) f cdv A outer s H E) (fun cls d _ H' => E cls d H') := L2N.takes_of rfl rfl rfl rfl
  have hp : PassesOwn (model P w) (cxOf (L2N.CX P w) P w K mg base ["_law_script", "_law_bag_here", "_law_far", "_law_which", "_law_row_here", "_law_e", "_law_at"] "law" (defScope (top 149)) f cdv A outer s H E).A (cxOf (L2N.CX P w) P w K mg base ["_law_script", "_law_bag_here", "_law_far", "_law_which", "_law_row_here", "_law_e", "_law_at"] "law" (defScope (top 149)) f cdv A outer s H E).env (cxOf (L2N.CX P w) P w K mg base ["_law_script", "_law_bag_here", "_law_far", "_law_which", "_law_row_here", "_law_e", "_law_at"] "law" (defScope (top 149)) f cdv A outer s H E).xe := passes_of rfl
  exact dss_cons (ds_set (i := 1) hN (do_fk c__law_bag hr (by decide) tk (dl_l 0 dl_nil))) (dss_bar (dss_cons (ds_set (i := 2) hN (DV.o (DO.v (do_fk c__law_pull hr (by decide) tk (dl_l 1 (dl_d (DO.v (do_ix (DO.v (do_lst (da_cons (DP.v dp_int) (da_cons (DP.v (DR.p (dr_bin op_pow g_pow (DP.w dp_int) (DP.w dp_int)))) da_nil)))) (DO.v (do_fk c__law_pull hr (by decide) tk (dl_l 1 (dl_d (DP.v dp_int) dl_nil)))))) dl_nil)))))) (dss_cons (ds_forR1 [3, 4] hp n_range (DP.v dp_int) (dg_name 3 hN) (dss_cons (ds_set (i := 4) hN (DV.o (DO.v (do_lst da_nil)))) (dss_cons (ds_tryAs hN tk (fun _ => trivial) (fun W' pn xe tk2 hp2 => dss_one (ds_expr (do_fk c__law_raise hr (by decide) tk2 (dl_d (DP.v (dp_var 3)) (dl_d (DP.v (dp_var 2)) dl_nil))))) x_TitheError (fun e a oe C d pn hC hdn hz hv => dss_one (ds_set (i := 4) hN (DV.o (DO.v (do_hotS 5 c__law_row hr (by decide) hC hdn hz hv)))))) (dss_one (ds_if (dt_cmp (op_neD hr.units) g_ne (DP.v (dp_var 4)) (DO.v (DC.o (dc_compR1 [("_law_at", 6)] hN n_range (DP.v dp_int) (blkOk_by (N := ["_law_script", "_law_bag_here", "_law_far", "_law_which", "_law_row_here", "_law_e", "_law_at"]) (sc := defScope (top 149)) (by decide +kernel)) (fun _ _ _ _ _ => dg_name 6 hN) (fun _ _ _ _ _ => dts_nil) (fun _ _ _ _ _ => dv_or (DP.v (DR.p (dr_cmp (op_eqD hr.units) g_eq (DP.w (dp_var 6)) (DP.w (dp_var 3))))) (dv_one (DP.v (DR.p (dr_cmp (op_eqD hr.units) g_eq (DP.w (dp_var 6)) (DP.w dp_int)))))))))) (dss_one (ds_ret (DV.o (DP.v dp_bl)))) dss_nil))))) (dss_one (ds_ret (DV.o (DP.v dp_bl)))))))

end
section
variable {P : Program} {w : World} {K : PySem.W.Frag} {h : Heap} {mg : Str → Option Value} {base : Heap} (X : K.In h) (G : h.Ns mainGlobals mg) (cc : SaysN fa fn ex ts w K)
include X G cc
theorem h_n_list : mg "list" = none := by
  have z := cc
  obtain ⟨⟨c, cx⟩, ct⟩ := z
  exact He.free_ok X G (c.fact 50 (f := .free "list") rfl)
theorem h_n_len : mg "len" = none := by
  have z := cc
  obtain ⟨⟨c, cx⟩, ct⟩ := z
  exact He.free_ok X G (c.fact 51 (f := .free "len") rfl)
theorem h_e_BadDay : EK K mg "BadDay" := by
  have z := cc
  obtain ⟨⟨c, cx⟩, ct⟩ := z
  exact ek_of X G (c.fact 52 (f := .glo "BadDay") rfl) (c.fact 53 (f := .exc "BadDay") rfl)
theorem h_e_BadField : EK K mg "BadField" := by
  have z := cc
  obtain ⟨⟨c, cx⟩, ct⟩ := z
  exact ek_of X G (c.fact 54 (f := .glo "BadField") rfl) (c.fact 55 (f := .exc "BadField") rfl)
theorem h_e_BadParish : EK K mg "BadParish" := by
  have z := cc
  obtain ⟨⟨c, cx⟩, ct⟩ := z
  exact ek_of X G (c.fact 56 (f := .glo "BadParish") rfl) (c.fact 57 (f := .exc "BadParish") rfl)
theorem h_e_BadHolder : EK K mg "BadHolder" := by
  have z := cc
  obtain ⟨⟨c, cx⟩, ct⟩ := z
  exact ek_of X G (c.fact 58 (f := .glo "BadHolder") rfl) (c.fact 59 (f := .exc "BadHolder") rfl)
theorem h_e_Backward : EK K mg "Backward" := by
  have z := cc
  obtain ⟨⟨c, cx⟩, ct⟩ := z
  exact ek_of X G (c.fact 60 (f := .glo "Backward") rfl) (c.fact 61 (f := .exc "Backward") rfl)
theorem h_e_BadYear : EK K mg "BadYear" := by
  have z := cc
  obtain ⟨⟨c, cx⟩, ct⟩ := z
  exact ek_of X G (c.fact 62 (f := .glo "BadYear") rfl) (c.fact 63 (f := .exc "BadYear") rfl)
theorem h_e_BadKind : EK K mg "BadKind" := by
  have z := cc
  obtain ⟨⟨c, cx⟩, ct⟩ := z
  exact ek_of X G (c.fact 64 (f := .glo "BadKind") rfl) (c.fact 65 (f := .exc "BadKind") rfl)
theorem h_e_BadPence : EK K mg "BadPence" := by
  have z := cc
  obtain ⟨⟨c, cx⟩, ct⟩ := z
  exact ek_of X G (c.fact 66 (f := .glo "BadPence") rfl) (c.fact 67 (f := .exc "BadPence") rfl)
theorem h_e_BadCustom : EK K mg "BadCustom" := by
  have z := cc
  obtain ⟨⟨c, cx⟩, ct⟩ := z
  exact ek_of X G (c.fact 68 (f := .glo "BadCustom") rfl) (c.fact 69 (f := .exc "BadCustom") rfl)
theorem h_e_BadAside : EK K mg "BadAside" := by
  have z := cc
  obtain ⟨⟨c, cx⟩, ct⟩ := z
  exact ek_of X G (c.fact 70 (f := .glo "BadAside") rfl) (c.fact 71 (f := .exc "BadAside") rfl)
theorem h_e_BadTaker : EK K mg "BadTaker" := by
  have z := cc
  obtain ⟨⟨c, cx⟩, ct⟩ := z
  exact ek_of X G (c.fact 72 (f := .glo "BadTaker") rfl) (c.fact 73 (f := .exc "BadTaker") rfl)
theorem h_e_BadPart : EK K mg "BadPart" := by
  have z := cc
  obtain ⟨⟨c, cx⟩, ct⟩ := z
  exact ek_of X G (c.fact 74 (f := .glo "BadPart") rfl) (c.fact 75 (f := .exc "BadPart") rfl)
theorem h_e_Same : EK K mg "Same" := by
  have z := cc
  obtain ⟨⟨c, cx⟩, ct⟩ := z
  exact ek_of X G (c.fact 76 (f := .glo "Same") rfl) (c.fact 77 (f := .exc "Same") rfl)
theorem h_e_BadCount : EK K mg "BadCount" := by
  have z := cc
  obtain ⟨⟨c, cx⟩, ct⟩ := z
  exact ek_of X G (c.fact 78 (f := .glo "BadCount") rfl) (c.fact 79 (f := .exc "BadCount") rfl)
theorem h_e_BadSpan : EK K mg "BadSpan" := by
  have z := cc
  obtain ⟨⟨c, cx⟩, ct⟩ := z
  exact ek_of X G (c.fact 80 (f := .glo "BadSpan") rfl) (c.fact 81 (f := .exc "BadSpan") rfl)
theorem h_e_BadWorth : EK K mg "BadWorth" := by
  have z := cc
  obtain ⟨⟨c, cx⟩, ct⟩ := z
  exact ek_of X G (c.fact 82 (f := .glo "BadWorth") rfl) (c.fact 83 (f := .exc "BadWorth") rfl)
theorem h_e_BadWord : EK K mg "BadWord" := by
  have z := cc
  obtain ⟨⟨c, cx⟩, ct⟩ := z
  exact ek_of X G (c.fact 85 (f := .glo "BadWord") rfl) (c.fact 86 (f := .exc "BadWord") rfl)
theorem h_e_Full : EK K mg "Full" := by
  have z := cc
  obtain ⟨⟨c, cx⟩, ct⟩ := z
  exact ek_of X G (c.fact 90 (f := .glo "Full") rfl) (c.fact 91 (f := .exc "Full") rfl)
theorem h_e_NoBeast : EK K mg "NoBeast" := by
  have z := cc
  obtain ⟨⟨c, cx⟩, ct⟩ := z
  exact ek_of X G (c.fact 92 (f := .glo "NoBeast") rfl) (c.fact 93 (f := .exc "NoBeast") rfl)
theorem h_e_NoFact : EK K mg "NoFact" := by
  have z := cc
  obtain ⟨⟨c, cx⟩, ct⟩ := z
  exact ek_of X G (c.fact 94 (f := .glo "NoFact") rfl) (c.fact 95 (f := .exc "NoFact") rfl)
theorem h_e_Struck : EK K mg "Struck" := by
  have z := cc
  obtain ⟨⟨c, cx⟩, ct⟩ := z
  exact ek_of X G (c.fact 96 (f := .glo "Struck") rfl) (c.fact 97 (f := .exc "Struck") rfl)
theorem h_e_Kept : EK K mg "Kept" := by
  have z := cc
  obtain ⟨⟨c, cx⟩, ct⟩ := z
  exact ek_of X G (c.fact 98 (f := .glo "Kept") rfl) (c.fact 99 (f := .exc "Kept") rfl)
theorem h_e_NoBack : EK K mg "NoBack" := by
  have z := cc
  obtain ⟨⟨c, cx⟩, ct⟩ := z
  exact ek_of X G (c.fact 100 (f := .glo "NoBack") rfl) (c.fact 101 (f := .exc "NoBack") rfl)
theorem h_e_NoForth : EK K mg "NoForth" := by
  have z := cc
  obtain ⟨⟨c, cx⟩, ct⟩ := z
  exact ek_of X G (c.fact 102 (f := .glo "NoForth") rfl) (c.fact 103 (f := .exc "NoForth") rfl)
theorem h_n_int : mg "int" = none := by
  have z := cc
  obtain ⟨⟨c, cx⟩, ct⟩ := z
  exact He.free_ok X G (c.fact 104 (f := .free "int") rfl)
theorem h_n_tuple : mg "tuple" = none := by
  have z := cc
  obtain ⟨⟨c, cx⟩, ct⟩ := z
  exact He.free_ok X G (c.fact 105 (f := .free "tuple") rfl)
theorem h_n_range : mg "range" = none := by
  have z := cc
  obtain ⟨⟨c, cx⟩, ct⟩ := z
  exact He.free_ok X G (c.fact 108 (f := .free "range") rfl)
theorem h_n_isinstance : mg "isinstance" = none := by
  have z := cc
  obtain ⟨⟨c, cx⟩, ct⟩ := z
  exact He.free_ok X G (c.fact 109 (f := .free "isinstance") rfl)
theorem h_x_TitheError : XK K mg "TitheError" xl_TitheError := by
  have z := cc
  obtain ⟨⟨c, cx⟩, ct⟩ := z
  exact xk_cons X G (c.fact 111 (f := .glo "TitheError") rfl) (c.fact 112 (f := .exm "TitheError" "TitheError" true) rfl) (c.fact 111 (f := .glo "TitheError") rfl) (xk_cons X G (c.fact 74 (f := .glo "BadPart") rfl) (c.fact 113 (f := .exm "BadPart" "TitheError" true) rfl) (c.fact 111 (f := .glo "TitheError") rfl) (xk_cons X G (c.fact 85 (f := .glo "BadWord") rfl) (c.fact 114 (f := .exm "BadWord" "TitheError" true) rfl) (c.fact 111 (f := .glo "TitheError") rfl) (xk_cons X G (c.fact 54 (f := .glo "BadField") rfl) (c.fact 115 (f := .exm "BadField" "TitheError" true) rfl) (c.fact 111 (f := .glo "TitheError") rfl) (xk_cons X G (c.fact 56 (f := .glo "BadParish") rfl) (c.fact 116 (f := .exm "BadParish" "TitheError" true) rfl) (c.fact 111 (f := .glo "TitheError") rfl) (xk_cons X G (c.fact 58 (f := .glo "BadHolder") rfl) (c.fact 117 (f := .exm "BadHolder" "TitheError" true) rfl) (c.fact 111 (f := .glo "TitheError") rfl) (xk_cons X G (c.fact 64 (f := .glo "BadKind") rfl) (c.fact 118 (f := .exm "BadKind" "TitheError" true) rfl) (c.fact 111 (f := .glo "TitheError") rfl) (xk_cons X G (c.fact 72 (f := .glo "BadTaker") rfl) (c.fact 119 (f := .exm "BadTaker" "TitheError" true) rfl) (c.fact 111 (f := .glo "TitheError") rfl) (xk_cons X G (c.fact 52 (f := .glo "BadDay") rfl) (c.fact 120 (f := .exm "BadDay" "TitheError" true) rfl) (c.fact 111 (f := .glo "TitheError") rfl) (xk_cons X G (c.fact 62 (f := .glo "BadYear") rfl) (c.fact 121 (f := .exm "BadYear" "TitheError" true) rfl) (c.fact 111 (f := .glo "TitheError") rfl) (xk_cons X G (c.fact 78 (f := .glo "BadCount") rfl) (c.fact 122 (f := .exm "BadCount" "TitheError" true) rfl) (c.fact 111 (f := .glo "TitheError") rfl) (xk_cons X G (c.fact 80 (f := .glo "BadSpan") rfl) (c.fact 123 (f := .exm "BadSpan" "TitheError" true) rfl) (c.fact 111 (f := .glo "TitheError") rfl) (xk_cons X G (c.fact 82 (f := .glo "BadWorth") rfl) (c.fact 124 (f := .exm "BadWorth" "TitheError" true) rfl) (c.fact 111 (f := .glo "TitheError") rfl) (xk_cons X G (c.fact 68 (f := .glo "BadCustom") rfl) (c.fact 125 (f := .exm "BadCustom" "TitheError" true) rfl) (c.fact 111 (f := .glo "TitheError") rfl) (xk_cons X G (c.fact 70 (f := .glo "BadAside") rfl) (c.fact 126 (f := .exm "BadAside" "TitheError" true) rfl) (c.fact 111 (f := .glo "TitheError") rfl) (xk_cons X G (c.fact 66 (f := .glo "BadPence") rfl) (c.fact 127 (f := .exm "BadPence" "TitheError" true) rfl) (c.fact 111 (f := .glo "TitheError") rfl) (xk_cons X G (c.fact 60 (f := .glo "Backward") rfl) (c.fact 128 (f := .exm "Backward" "TitheError" true) rfl) (c.fact 111 (f := .glo "TitheError") rfl) (xk_cons X G (c.fact 76 (f := .glo "Same") rfl) (c.fact 129 (f := .exm "Same" "TitheError" true) rfl) (c.fact 111 (f := .glo "TitheError") rfl) (xk_cons X G (c.fact 92 (f := .glo "NoBeast") rfl) (c.fact 130 (f := .exm "NoBeast" "TitheError" true) rfl) (c.fact 111 (f := .glo "TitheError") rfl) (xk_cons X G (c.fact 94 (f := .glo "NoFact") rfl) (c.fact 131 (f := .exm "NoFact" "TitheError" true) rfl) (c.fact 111 (f := .glo "TitheError") rfl) (xk_cons X G (c.fact 96 (f := .glo "Struck") rfl) (c.fact 132 (f := .exm "Struck" "TitheError" true) rfl) (c.fact 111 (f := .glo "TitheError") rfl) (xk_cons X G (c.fact 98 (f := .glo "Kept") rfl) (c.fact 133 (f := .exm "Kept" "TitheError" true) rfl) (c.fact 111 (f := .glo "TitheError") rfl) (xk_cons X G (c.fact 90 (f := .glo "Full") rfl) (c.fact 134 (f := .exm "Full" "TitheError" true) rfl) (c.fact 111 (f := .glo "TitheError") rfl) (xk_cons X G (c.fact 100 (f := .glo "NoBack") rfl) (c.fact 135 (f := .exm "NoBack" "TitheError" true) rfl) (c.fact 111 (f := .glo "TitheError") rfl) (xk_cons X G (c.fact 102 (f := .glo "NoForth") rfl) (c.fact 136 (f := .exm "NoForth" "TitheError" true) rfl) (c.fact 111 (f := .glo "TitheError") rfl) (xk_cons X G (c.fact 137 (f := .glo "BadText") rfl) (c.fact 138 (f := .exm "BadText" "TitheError" true) rfl) (c.fact 111 (f := .glo "TitheError") rfl) (xk_nil X G (c.fact 111 (f := .glo "TitheError") rfl)))))))))))))))))))))))))))
theorem h_ga_need_claim : mg "need_claim" = some (.ref (He.ga K "need_claim")) := by
  have z := cc
  obtain ⟨⟨c, cx⟩, ct⟩ := z
  exact He.glo_ok X G (c.fact 26 (f := .glo "need_claim") rfl)
theorem h_ga_need_laid : mg "need_laid" = some (.ref (He.ga K "need_laid")) := by
  have z := cc
  obtain ⟨⟨c, cx⟩, ct⟩ := z
  exact He.glo_ok X G (c.fact 25 (f := .glo "need_laid") rfl)
theorem h_ga_need_pass : mg "need_pass" = some (.ref (He.ga K "need_pass")) := by
  have z := cc
  obtain ⟨⟨c, cx⟩, ct⟩ := z
  exact He.glo_ok X G (c.fact 24 (f := .glo "need_pass") rfl)
theorem h_ga_need_driven : mg "need_driven" = some (.ref (He.ga K "need_driven")) := by
  have z := cc
  obtain ⟨⟨c, cx⟩, ct⟩ := z
  exact He.glo_ok X G (c.fact 22 (f := .glo "need_driven") rfl)
theorem h_ga_need_born : mg "need_born" = some (.ref (He.ga K "need_born")) := by
  have z := cc
  obtain ⟨⟨c, cx⟩, ct⟩ := z
  exact He.glo_ok X G (c.fact 21 (f := .glo "need_born") rfl)
theorem h_ga_need_cut : mg "need_cut" = some (.ref (He.ga K "need_cut")) := by
  have z := cc
  obtain ⟨⟨c, cx⟩, ct⟩ := z
  exact He.glo_ok X G (c.fact 20 (f := .glo "need_cut") rfl)
theorem h_ga_need_takers_fact : mg "need_takers_fact" = some (.ref (He.ga K "need_takers_fact")) := by
  have z := cc
  obtain ⟨⟨c, cx⟩, ct⟩ := z
  exact He.glo_ok X G (c.fact 18 (f := .glo "need_takers_fact") rfl)
theorem h_ga_need_custom_fact : mg "need_custom_fact" = some (.ref (He.ga K "need_custom_fact")) := by
  have z := cc
  obtain ⟨⟨c, cx⟩, ct⟩ := z
  exact He.glo_ok X G (c.fact 12 (f := .glo "need_custom_fact") rfl)
theorem h_ga_need_free : mg "need_free" = some (.ref (He.ga K "need_free")) := by
  have z := cc
  obtain ⟨⟨c, cx⟩, ct⟩ := z
  exact He.glo_ok X G (c.fact 7 (f := .glo "need_free") rfl)
theorem h_ga_need_held : mg "need_held" = some (.ref (He.ga K "need_held")) := by
  have z := cc
  obtain ⟨⟨c, cx⟩, ct⟩ := z
  exact He.glo_ok X G (c.fact 6 (f := .glo "need_held") rfl)
theorem h_ga_need_lies : mg "need_lies" = some (.ref (He.ga K "need_lies")) := by
  have z := cc
  obtain ⟨⟨c, cx⟩, ct⟩ := z
  exact He.glo_ok X G (c.fact 5 (f := .glo "need_lies") rfl)
theorem h_ak_Book_kept : AK K mg "Book" "kept" := by
  have z := cc
  obtain ⟨⟨c, cx⟩, ct⟩ := z
  exact ak_of X G (c.fact 28 (f := .glo "Book") rfl) (c.fact 29 (f := .cls "Book") rfl) (c.fact 87 (f := .noat "Book" "kept") rfl)
theorem h_ak_Book_past_rows : AK K mg "Book" "past_rows" := by
  have z := cc
  obtain ⟨⟨c, cx⟩, ct⟩ := z
  exact ak_of X G (c.fact 28 (f := .glo "Book") rfl) (c.fact 29 (f := .cls "Book") rfl) (c.fact 88 (f := .noat "Book" "past_rows") rfl)
theorem h_ak_Book_future_rows : AK K mg "Book" "future_rows" := by
  have z := cc
  obtain ⟨⟨c, cx⟩, ct⟩ := z
  exact ak_of X G (c.fact 28 (f := .glo "Book") rfl) (c.fact 29 (f := .cls "Book") rfl) (c.fact 89 (f := .noat "Book" "future_rows") rfl)
theorem h_k_LAST_DAY : Con K mg "LAST_DAY" c_LAST_DAY := by
  have z := cc
  obtain ⟨⟨c, cx⟩, ct⟩ := z
  exact kcon_ok X G (He.ba (He.ba (He.ba (He.ba (He.ba (He.ba cx).1).1).1).1).1).1
theorem h_k_FIELDS : Con K mg "FIELDS" c_FIELDS := by
  have z := cc
  obtain ⟨⟨c, cx⟩, ct⟩ := z
  exact kcon_ok X G (He.ba (He.ba (He.ba (He.ba (He.ba (He.ba (He.ba cx).1).1).1).1).1).2).1
theorem h_k_PARISHES : Con K mg "PARISHES" c_PARISHES := by
  have z := cc
  obtain ⟨⟨c, cx⟩, ct⟩ := z
  exact kcon_ok X G (He.ba (He.ba (He.ba (He.ba (He.ba (He.ba (He.ba (He.ba cx).1).1).1).1).1).2).2).1
theorem h_k_HOLDERS : Con K mg "HOLDERS" c_HOLDERS := by
  have z := cc
  obtain ⟨⟨c, cx⟩, ct⟩ := z
  exact kcon_ok X G (He.ba (He.ba (He.ba (He.ba (He.ba (He.ba (He.ba (He.ba (He.ba cx).1).1).1).1).1).2).2).2).1
theorem h_k_LAST_YEAR : Con K mg "LAST_YEAR" c_LAST_YEAR := by
  have z := cc
  obtain ⟨⟨c, cx⟩, ct⟩ := z
  exact kcon_ok X G (He.ba (He.ba (He.ba (He.ba (He.ba (He.ba (He.ba (He.ba (He.ba (He.ba cx).1).1).1).1).1).2).2).2).2).1
theorem h_k_KINDS : Con K mg "KINDS" c_KINDS := by
  have z := cc
  obtain ⟨⟨c, cx⟩, ct⟩ := z
  exact kcon_ok X G (He.ba (He.ba (He.ba (He.ba (He.ba (He.ba (He.ba (He.ba (He.ba (He.ba (He.ba cx).1).1).1).1).1).2).2).2).2).2).1
theorem h_k_MOST_PENCE : Con K mg "MOST_PENCE" c_MOST_PENCE := by
  have z := cc
  obtain ⟨⟨c, cx⟩, ct⟩ := z
  exact kcon_ok X G (He.ba (He.ba (He.ba (He.ba (He.ba (He.ba (He.ba (He.ba (He.ba (He.ba (He.ba (He.ba cx).1).1).1).1).1).2).2).2).2).2).2).1
theorem h_k_MOST_ASIDE : Con K mg "MOST_ASIDE" c_MOST_ASIDE := by
  have z := cc
  obtain ⟨⟨c, cx⟩, ct⟩ := z
  exact kcon_ok X G (He.ba (He.ba (He.ba (He.ba (He.ba (He.ba (He.ba (He.ba (He.ba (He.ba (He.ba (He.ba (He.ba cx).1).1).1).1).1).2).2).2).2).2).2).2).1
theorem h_k_TAKERS : Con K mg "TAKERS" c_TAKERS := by
  have z := cc
  obtain ⟨⟨c, cx⟩, ct⟩ := z
  exact kcon_ok X G (He.ba (He.ba (He.ba (He.ba (He.ba (He.ba cx).1).1).1).1).2).1
theorem h_k_ALL : Con K mg "ALL" c_ALL := by
  have z := cc
  obtain ⟨⟨c, cx⟩, ct⟩ := z
  exact kcon_ok X G (He.ba (He.ba (He.ba (He.ba (He.ba (He.ba (He.ba cx).1).1).1).1).2).2).1
theorem h_k_MOST_COUNT : Con K mg "MOST_COUNT" c_MOST_COUNT := by
  have z := cc
  obtain ⟨⟨c, cx⟩, ct⟩ := z
  exact kcon_ok X G (He.ba (He.ba (He.ba (He.ba (He.ba (He.ba (He.ba (He.ba cx).1).1).1).1).2).2).2).1
theorem h_k_MOST_SPAN : Con K mg "MOST_SPAN" c_MOST_SPAN := by
  have z := cc
  obtain ⟨⟨c, cx⟩, ct⟩ := z
  exact kcon_ok X G (He.ba (He.ba (He.ba (He.ba (He.ba (He.ba (He.ba (He.ba (He.ba cx).1).1).1).1).2).2).2).2).1
theorem h_k_MOST_WORTH : Con K mg "MOST_WORTH" c_MOST_WORTH := by
  have z := cc
  obtain ⟨⟨c, cx⟩, ct⟩ := z
  exact kcon_ok X G (He.ba (He.ba (He.ba (He.ba (He.ba (He.ba (He.ba (He.ba (He.ba (He.ba cx).1).1).1).1).2).2).2).2).2).1
theorem h_k_MOST_FACTS : Con K mg "MOST_FACTS" c_MOST_FACTS := by
  have z := cc
  obtain ⟨⟨c, cx⟩, ct⟩ := z
  exact kcon_ok X G (He.ba (He.ba (He.ba (He.ba (He.ba (He.ba (He.ba (He.ba (He.ba (He.ba (He.ba cx).1).1).1).1).2).2).2).2).2).2).1
theorem h_k_MOST_BIRTHS : Con K mg "MOST_BIRTHS" c_MOST_BIRTHS := by
  have z := cc
  obtain ⟨⟨c, cx⟩, ct⟩ := z
  exact kcon_ok X G (He.ba (He.ba (He.ba (He.ba (He.ba (He.ba (He.ba (He.ba (He.ba (He.ba (He.ba (He.ba cx).1).1).1).1).2).2).2).2).2).2).2).1
theorem h_k_MOST_CLAIMS : Con K mg "MOST_CLAIMS" c_MOST_CLAIMS := by
  have z := cc
  obtain ⟨⟨c, cx⟩, ct⟩ := z
  exact kcon_ok X G (He.ba (He.ba (He.ba (He.ba (He.ba (He.ba (He.ba (He.ba (He.ba (He.ba (He.ba (He.ba (He.ba cx).1).1).1).1).2).2).2).2).2).2).2).2).1
theorem h_k_MOST_FIGURES : Con K mg "MOST_FIGURES" c_MOST_FIGURES := by
  have z := cc
  obtain ⟨⟨c, cx⟩, ct⟩ := z
  exact kcon_ok X G (He.ba (He.ba (He.ba (He.ba (He.ba cx).1).1).1).2).1
theorem h_k_FIGURES : Con K mg "FIGURES" c_FIGURES := by
  have z := cc
  obtain ⟨⟨c, cx⟩, ct⟩ := z
  exact kcon_ok X G (He.ba (He.ba (He.ba (He.ba (He.ba (He.ba cx).1).1).1).2).2).1
theorem h_ikb_BadText : ikcB K "BadText" "TitheError" "at" = true := by
  have z := cc
  obtain ⟨⟨c, cx⟩, ct⟩ := z
  exact (He.ba (He.ba (He.ba (He.ba (He.ba (He.ba (He.ba cx).1).1).1).2).2).2).1
theorem h_io_BadWord : IO K mg "BadWord" xl_BadWord := by
  have z := cc
  obtain ⟨⟨c, cx⟩, ct⟩ := z
  exact ioB_ok X G (He.ba (He.ba (He.ba (He.ba (He.ba (He.ba (He.ba (He.ba cx).1).1).1).2).2).2).2).1
theorem h_io_BadField : IO K mg "BadField" xl_BadField := by
  have z := cc
  obtain ⟨⟨c, cx⟩, ct⟩ := z
  exact ioB_ok X G (He.ba (He.ba (He.ba (He.ba (He.ba (He.ba (He.ba (He.ba (He.ba cx).1).1).1).2).2).2).2).2).1
theorem h_io_BadParish : IO K mg "BadParish" xl_BadParish := by
  have z := cc
  obtain ⟨⟨c, cx⟩, ct⟩ := z
  exact ioB_ok X G (He.ba (He.ba (He.ba (He.ba (He.ba (He.ba (He.ba (He.ba (He.ba (He.ba cx).1).1).1).2).2).2).2).2).2).1
theorem h_io_BadHolder : IO K mg "BadHolder" xl_BadHolder := by
  have z := cc
  obtain ⟨⟨c, cx⟩, ct⟩ := z
  exact ioB_ok X G (He.ba (He.ba (He.ba (He.ba (He.ba (He.ba (He.ba (He.ba (He.ba (He.ba (He.ba cx).1).1).1).2).2).2).2).2).2).2).1
theorem h_io_BadKind : IO K mg "BadKind" xl_BadKind := by
  have z := cc
  obtain ⟨⟨c, cx⟩, ct⟩ := z
  exact ioB_ok X G (He.ba (He.ba (He.ba (He.ba (He.ba (He.ba (He.ba (He.ba (He.ba (He.ba (He.ba (He.ba cx).1).1).1).2).2).2).2).2).2).2).2).1
theorem h_io_BadTaker : IO K mg "BadTaker" xl_BadTaker := by
  have z := cc
  obtain ⟨⟨c, cx⟩, ct⟩ := z
  exact ioB_ok X G (He.ba (He.ba (He.ba (He.ba cx).1).1).2).1
theorem h_io_BadDay : IO K mg "BadDay" xl_BadDay := by
  have z := cc
  obtain ⟨⟨c, cx⟩, ct⟩ := z
  exact ioB_ok X G (He.ba (He.ba (He.ba (He.ba (He.ba cx).1).1).2).2).1
theorem h_io_BadYear : IO K mg "BadYear" xl_BadYear := by
  have z := cc
  obtain ⟨⟨c, cx⟩, ct⟩ := z
  exact ioB_ok X G (He.ba (He.ba (He.ba (He.ba (He.ba (He.ba cx).1).1).2).2).2).1
theorem h_io_BadCount : IO K mg "BadCount" xl_BadCount := by
  have z := cc
  obtain ⟨⟨c, cx⟩, ct⟩ := z
  exact ioB_ok X G (He.ba (He.ba (He.ba (He.ba (He.ba (He.ba (He.ba cx).1).1).2).2).2).2).1
theorem h_io_BadSpan : IO K mg "BadSpan" xl_BadSpan := by
  have z := cc
  obtain ⟨⟨c, cx⟩, ct⟩ := z
  exact ioB_ok X G (He.ba (He.ba (He.ba (He.ba (He.ba (He.ba (He.ba (He.ba cx).1).1).2).2).2).2).2).1
theorem h_io_BadWorth : IO K mg "BadWorth" xl_BadWorth := by
  have z := cc
  obtain ⟨⟨c, cx⟩, ct⟩ := z
  exact ioB_ok X G (He.ba (He.ba (He.ba (He.ba (He.ba (He.ba (He.ba (He.ba (He.ba cx).1).1).2).2).2).2).2).2).1
theorem h_io_BadCustom : IO K mg "BadCustom" xl_BadCustom := by
  have z := cc
  obtain ⟨⟨c, cx⟩, ct⟩ := z
  exact ioB_ok X G (He.ba (He.ba (He.ba (He.ba (He.ba (He.ba (He.ba (He.ba (He.ba (He.ba cx).1).1).2).2).2).2).2).2).2).1
theorem h_io_BadAside : IO K mg "BadAside" xl_BadAside := by
  have z := cc
  obtain ⟨⟨c, cx⟩, ct⟩ := z
  exact ioB_ok X G (He.ba (He.ba (He.ba (He.ba (He.ba (He.ba (He.ba (He.ba (He.ba (He.ba (He.ba cx).1).1).2).2).2).2).2).2).2).2).1
theorem h_io_BadPence : IO K mg "BadPence" xl_BadPence := by
  have z := cc
  obtain ⟨⟨c, cx⟩, ct⟩ := z
  exact ioB_ok X G (He.ba (He.ba (He.ba cx).1).2).1
theorem h_io_BadPart : IO K mg "BadPart" xl_BadPart := by
  have z := cc
  obtain ⟨⟨c, cx⟩, ct⟩ := z
  exact ioB_ok X G (He.ba (He.ba (He.ba (He.ba cx).1).2).2).1
theorem h_io_Backward : IO K mg "Backward" xl_Backward := by
  have z := cc
  obtain ⟨⟨c, cx⟩, ct⟩ := z
  exact ioB_ok X G (He.ba (He.ba (He.ba (He.ba (He.ba cx).1).2).2).2).1
theorem h_io_Same : IO K mg "Same" xl_Same := by
  have z := cc
  obtain ⟨⟨c, cx⟩, ct⟩ := z
  exact ioB_ok X G (He.ba (He.ba (He.ba (He.ba (He.ba (He.ba cx).1).2).2).2).2).1
theorem h_io_NoBeast : IO K mg "NoBeast" xl_NoBeast := by
  have z := cc
  obtain ⟨⟨c, cx⟩, ct⟩ := z
  exact ioB_ok X G (He.ba (He.ba (He.ba (He.ba (He.ba (He.ba (He.ba cx).1).2).2).2).2).2).1
theorem h_io_NoFact : IO K mg "NoFact" xl_NoFact := by
  have z := cc
  obtain ⟨⟨c, cx⟩, ct⟩ := z
  exact ioB_ok X G (He.ba (He.ba (He.ba (He.ba (He.ba (He.ba (He.ba (He.ba cx).1).2).2).2).2).2).2).1
theorem h_io_Struck : IO K mg "Struck" xl_Struck := by
  have z := cc
  obtain ⟨⟨c, cx⟩, ct⟩ := z
  exact ioB_ok X G (He.ba (He.ba (He.ba (He.ba (He.ba (He.ba (He.ba (He.ba (He.ba cx).1).2).2).2).2).2).2).2).1
theorem h_io_Kept : IO K mg "Kept" xl_Kept := by
  have z := cc
  obtain ⟨⟨c, cx⟩, ct⟩ := z
  exact ioB_ok X G (He.ba (He.ba (He.ba (He.ba (He.ba (He.ba (He.ba (He.ba (He.ba (He.ba cx).1).2).2).2).2).2).2).2).2).1
theorem h_io_Full : IO K mg "Full" xl_Full := by
  have z := cc
  obtain ⟨⟨c, cx⟩, ct⟩ := z
  exact ioB_ok X G (He.ba (He.ba cx).2).1
theorem h_io_NoBack : IO K mg "NoBack" xl_NoBack := by
  have z := cc
  obtain ⟨⟨c, cx⟩, ct⟩ := z
  exact ioB_ok X G (He.ba (He.ba (He.ba cx).2).2).1
theorem h_io_NoForth : IO K mg "NoForth" xl_NoForth := by
  have z := cc
  obtain ⟨⟨c, cx⟩, ct⟩ := z
  exact ioB_ok X G (He.ba (He.ba (He.ba (He.ba cx).2).2).2).1
theorem h_io_BadText : IO K mg "BadText" xl_BadText := by
  have z := cc
  obtain ⟨⟨c, cx⟩, ct⟩ := z
  exact ioB_ok X G (He.ba (He.ba (He.ba (He.ba (He.ba cx).2).2).2).2).1
theorem h_ib_ValueError : IB K mg "ValueError" "ValueError" xl_ValueError := by
  have z := cc
  obtain ⟨⟨c, cx⟩, ct⟩ := z
  exact ⟨He.free_ok X G (c.fact 110 (f := .free "ValueError") rfl), by decide +kernel, ikB_ok X G (He.ba (He.ba (He.ba (He.ba (He.ba (He.ba cx).2).2).2).2).2).1⟩
theorem h_vb_LOOKS : He.valsB K (He.ga K "LOOKS") dv_LOOKS = true := by
  have z := cc
  obtain ⟨⟨c, cx⟩, ct⟩ := z
  exact (He.ba (He.ba (He.ba (He.ba (He.ba (He.ba (He.ba cx).2).2).2).2).2).2).1
theorem h_vb_CUSTOMS : He.valsB K (He.ga K "CUSTOMS") dv_CUSTOMS = true := by
  have z := cc
  obtain ⟨⟨c, cx⟩, ct⟩ := z
  exact (He.ba (He.ba (He.ba (He.ba (He.ba (He.ba (He.ba (He.ba cx).2).2).2).2).2).2).2).1
theorem h_vb_FORMS : He.valsB K (He.ga K "FORMS") dv_FORMS = true := by
  have z := cc
  obtain ⟨⟨c, cx⟩, ct⟩ := z
  exact (He.ba (He.ba (He.ba (He.ba (He.ba (He.ba (He.ba (He.ba (He.ba cx).2).2).2).2).2).2).2).2).1
theorem h_tb_LOOKS : TabK K w mg "LOOKS" dv_LOOKS := by
  have z := cc
  obtain ⟨⟨c, cx⟩, ct⟩ := z
  exact tabK_ok X G (c.fact 84 (f := .glo "LOOKS") rfl) (tabs_at ct 0) (h_vb_LOOKS X G cc)
theorem h_tb_CUSTOMS : TabK K w mg "CUSTOMS" dv_CUSTOMS := by
  have z := cc
  obtain ⟨⟨c, cx⟩, ct⟩ := z
  exact tabK_ok X G (c.fact 106 (f := .glo "CUSTOMS") rfl) (tabs_at ct 1) (h_vb_CUSTOMS X G cc)
theorem h_tb_FORMS : TabK K w mg "FORMS" dv_FORMS := by
  have z := cc
  obtain ⟨⟨c, cx⟩, ct⟩ := z
  exact tabK_ok X G (c.fact 107 (f := .glo "FORMS") rfl) (tabs_at ct 2) (h_vb_FORMS X G cc)
theorem h_ik_BadText : IKc P w K mg base 1 "BadText" "at" := by
  have z := cc
  obtain ⟨⟨c, cx⟩, ct⟩ := z
  exact ok_BadText___init__ X G (h_ikb_BadText X G cc) (by
    obtain ⟨fd, F⟩ := c.def_ 48 (d := d_BadText___init__) rfl
    exact ⟨fd, F⟩)
theorem h_c__law_bag : FK P w K mg base 1 "_law_bag" ["_law_script"] m__law_bag := by
  have z := cc
  obtain ⟨⟨c, cx⟩, ct⟩ := z
  exact ok__law_bag (by
    obtain ⟨fd, F⟩ := c.def_ 0 (d := d__law_bag) rfl
    exact ⟨_, fd, F, He.glo_ok X G (c.fact 0 (f := .glo "_law_bag") rfl)⟩) (h_n_list X G cc) (h_n_len X G cc)
theorem h_c__law_pull : FK P w K mg base 1 "_law_pull" ["_law_bag_here", "_law_many"] m__law_pull := by
  have z := cc
  obtain ⟨⟨c, cx⟩, ct⟩ := z
  exact ok__law_pull (by
    obtain ⟨fd, F⟩ := c.def_ 1 (d := d__law_pull) rfl
    exact ⟨_, fd, F, He.glo_ok X G (c.fact 1 (f := .glo "_law_pull") rfl)⟩) (h_n_len X G cc)
theorem h_c_need_day : FK P w K mg base 1 "need_day" ["day"] m_need_day := by
  have z := cc
  obtain ⟨⟨c, cx⟩, ct⟩ := z
  exact ok_need_day (by
    obtain ⟨fd, F⟩ := c.def_ 2 (d := d_need_day) rfl
    exact ⟨_, fd, F, He.glo_ok X G (c.fact 2 (f := .glo "need_day") rfl)⟩) (h_k_LAST_DAY X G cc) (h_e_BadDay X G cc)
theorem h_c_need_field : FK P w K mg base 1 "need_field" ["field"] m_need_field := by
  have z := cc
  obtain ⟨⟨c, cx⟩, ct⟩ := z
  exact ok_need_field (by
    obtain ⟨fd, F⟩ := c.def_ 3 (d := d_need_field) rfl
    exact ⟨_, fd, F, He.glo_ok X G (c.fact 3 (f := .glo "need_field") rfl)⟩) (h_k_FIELDS X G cc) (h_e_BadField X G cc)
theorem h_c_need_parish : FK P w K mg base 1 "need_parish" ["parish"] m_need_parish := by
  have z := cc
  obtain ⟨⟨c, cx⟩, ct⟩ := z
  exact ok_need_parish (by
    obtain ⟨fd, F⟩ := c.def_ 4 (d := d_need_parish) rfl
    exact ⟨_, fd, F, He.glo_ok X G (c.fact 4 (f := .glo "need_parish") rfl)⟩) (h_k_PARISHES X G cc) (h_e_BadParish X G cc)
theorem h_c_need_lies : FK P w K mg base 2 "need_lies" ["fact"] m_need_lies := by
  have z := cc
  obtain ⟨⟨c, cx⟩, ct⟩ := z
  exact ok_need_lies (by
    obtain ⟨fd, F⟩ := c.def_ 5 (d := d_need_lies) rfl
    exact ⟨_, fd, F, He.glo_ok X G (c.fact 5 (f := .glo "need_lies") rfl)⟩) (h_c_need_field X G cc) (h_c_need_parish X G cc) (h_c_need_day X G cc)
theorem h_c_need_held : FK P w K mg base 2 "need_held" ["fact"] m_need_held := by
  have z := cc
  obtain ⟨⟨c, cx⟩, ct⟩ := z
  exact ok_need_held (by
    obtain ⟨fd, F⟩ := c.def_ 6 (d := d_need_held) rfl
    exact ⟨_, fd, F, He.glo_ok X G (c.fact 6 (f := .glo "need_held") rfl)⟩) (h_c_need_field X G cc) (h_k_HOLDERS X G cc) (h_e_BadHolder X G cc) (h_c_need_day X G cc)
theorem h_c_need_free : FK P w K mg base 2 "need_free" ["fact"] m_need_free := by
  have z := cc
  obtain ⟨⟨c, cx⟩, ct⟩ := z
  exact ok_need_free (by
    obtain ⟨fd, F⟩ := c.def_ 7 (d := d_need_free) rfl
    exact ⟨_, fd, F, He.glo_ok X G (c.fact 7 (f := .glo "need_free") rfl)⟩) (h_c_need_field X G cc) (h_c_need_day X G cc) (h_e_Backward X G cc)
theorem h_c_need_year : FK P w K mg base 1 "need_year" ["year"] m_need_year := by
  have z := cc
  obtain ⟨⟨c, cx⟩, ct⟩ := z
  exact ok_need_year (by
    obtain ⟨fd, F⟩ := c.def_ 8 (d := d_need_year) rfl
    exact ⟨_, fd, F, He.glo_ok X G (c.fact 8 (f := .glo "need_year") rfl)⟩) (h_k_LAST_YEAR X G cc) (h_e_BadYear X G cc)
theorem h_c_need_kind : FK P w K mg base 1 "need_kind" ["kind"] m_need_kind := by
  have z := cc
  obtain ⟨⟨c, cx⟩, ct⟩ := z
  exact ok_need_kind (by
    obtain ⟨fd, F⟩ := c.def_ 9 (d := d_need_kind) rfl
    exact ⟨_, fd, F, He.glo_ok X G (c.fact 9 (f := .glo "need_kind") rfl)⟩) (h_k_KINDS X G cc) (h_e_BadKind X G cc)
theorem h_c_need_pence : FK P w K mg base 1 "need_pence" ["pence"] m_need_pence := by
  have z := cc
  obtain ⟨⟨c, cx⟩, ct⟩ := z
  exact ok_need_pence (by
    obtain ⟨fd, F⟩ := c.def_ 10 (d := d_need_pence) rfl
    exact ⟨_, fd, F, He.glo_ok X G (c.fact 10 (f := .glo "need_pence") rfl)⟩) (h_k_MOST_PENCE X G cc) (h_e_BadPence X G cc)
theorem h_c_need_custom : FK P w K mg base 2 "need_custom" ["custom"] m_need_custom := by
  have z := cc
  obtain ⟨⟨c, cx⟩, ct⟩ := z
  exact ok_need_custom (by
    obtain ⟨fd, F⟩ := c.def_ 11 (d := d_need_custom) rfl
    exact ⟨_, fd, F, He.glo_ok X G (c.fact 11 (f := .glo "need_custom") rfl)⟩) (h_e_BadCustom X G cc) (h_k_MOST_ASIDE X G cc) (h_e_BadAside X G cc) (h_c_need_pence X G cc)
theorem h_c_need_custom_fact : FK P w K mg base 3 "need_custom_fact" ["fact"] m_need_custom_fact := by
  have z := cc
  obtain ⟨⟨c, cx⟩, ct⟩ := z
  exact ok_need_custom_fact (by
    obtain ⟨fd, F⟩ := c.def_ 12 (d := d_need_custom_fact) rfl
    exact ⟨_, fd, F, He.glo_ok X G (c.fact 12 (f := .glo "need_custom_fact") rfl)⟩) (h_c_need_parish X G cc) (h_c_need_kind X G cc) (h_c_need_year X G cc) (h_c_need_custom X G cc)
theorem h_c_divisor : FK P w K mg base 1 "divisor" ["one", "other"] m_divisor := by
  have z := cc
  obtain ⟨⟨c, cx⟩, ct⟩ := z
  exact ok_divisor (by
    obtain ⟨fd, F⟩ := c.def_ 13 (d := d_divisor) rfl
    exact ⟨_, fd, F, He.glo_ok X G (c.fact 13 (f := .glo "divisor") rfl)⟩) 
theorem h_c_is_part : FK P w K mg base 2 "is_part" ["pair"] m_is_part := by
  have z := cc
  obtain ⟨⟨c, cx⟩, ct⟩ := z
  exact ok_is_part (by
    obtain ⟨fd, F⟩ := c.def_ 14 (d := d_is_part) rfl
    exact ⟨_, fd, F, He.glo_ok X G (c.fact 14 (f := .glo "is_part") rfl)⟩) (h_c_divisor X G cc)
theorem h_c_below : FK P w K mg base 1 "below" ["one", "other"] m_below := by
  have z := cc
  obtain ⟨⟨c, cx⟩, ct⟩ := z
  exact ok_below (by
    obtain ⟨fd, F⟩ := c.def_ 15 (d := d_below) rfl
    exact ⟨_, fd, F, He.glo_ok X G (c.fact 15 (f := .glo "below") rfl)⟩) 
theorem h_c_need_taker : FK P w K mg base 1 "need_taker" ["taker"] m_need_taker := by
  have z := cc
  obtain ⟨⟨c, cx⟩, ct⟩ := z
  exact ok_need_taker (by
    obtain ⟨fd, F⟩ := c.def_ 16 (d := d_need_taker) rfl
    exact ⟨_, fd, F, He.glo_ok X G (c.fact 16 (f := .glo "need_taker") rfl)⟩) (h_k_TAKERS X G cc) (h_e_BadTaker X G cc)
theorem h_c_need_two : FK P w K mg base 3 "need_two" ["first", "part", "second"] m_need_two := by
  have z := cc
  obtain ⟨⟨c, cx⟩, ct⟩ := z
  exact ok_need_two (by
    obtain ⟨fd, F⟩ := c.def_ 17 (d := d_need_two) rfl
    exact ⟨_, fd, F, He.glo_ok X G (c.fact 17 (f := .glo "need_two") rfl)⟩) (h_c_need_taker X G cc) (h_c_is_part X G cc) (h_k_ALL X G cc) (h_c_below X G cc) (h_e_BadPart X G cc) (h_e_Same X G cc)
theorem h_c_need_takers_fact : FK P w K mg base 4 "need_takers_fact" ["fact"] m_need_takers_fact := by
  have z := cc
  obtain ⟨⟨c, cx⟩, ct⟩ := z
  exact ok_need_takers_fact (by
    obtain ⟨fd, F⟩ := c.def_ 18 (d := d_need_takers_fact) rfl
    exact ⟨_, fd, F, He.glo_ok X G (c.fact 18 (f := .glo "need_takers_fact") rfl)⟩) (h_c_need_parish X G cc) (h_c_need_kind X G cc) (h_c_need_year X G cc) (h_c_need_two X G cc)
theorem h_c_need_count : FK P w K mg base 1 "need_count" ["count"] m_need_count := by
  have z := cc
  obtain ⟨⟨c, cx⟩, ct⟩ := z
  exact ok_need_count (by
    obtain ⟨fd, F⟩ := c.def_ 19 (d := d_need_count) rfl
    exact ⟨_, fd, F, He.glo_ok X G (c.fact 19 (f := .glo "need_count") rfl)⟩) (h_k_MOST_COUNT X G cc) (h_e_BadCount X G cc)
theorem h_c_need_cut : FK P w K mg base 2 "need_cut" ["fact"] m_need_cut := by
  have z := cc
  obtain ⟨⟨c, cx⟩, ct⟩ := z
  exact ok_need_cut (by
    obtain ⟨fd, F⟩ := c.def_ 20 (d := d_need_cut) rfl
    exact ⟨_, fd, F, He.glo_ok X G (c.fact 20 (f := .glo "need_cut") rfl)⟩) (h_c_need_field X G cc) (h_c_need_kind X G cc) (h_c_need_day X G cc) (h_c_need_count X G cc)
theorem h_c_need_born : FK P w K mg base 2 "need_born" ["fact"] m_need_born := by
  have z := cc
  obtain ⟨⟨c, cx⟩, ct⟩ := z
  exact ok_need_born (by
    obtain ⟨fd, F⟩ := c.def_ 21 (d := d_need_born) rfl
    exact ⟨_, fd, F, He.glo_ok X G (c.fact 21 (f := .glo "need_born") rfl)⟩) (h_c_need_field X G cc) (h_c_need_kind X G cc) (h_c_need_day X G cc) (h_k_MOST_SPAN X G cc) (h_k_LAST_DAY X G cc) (h_e_BadSpan X G cc) (h_k_MOST_WORTH X G cc) (h_e_BadWorth X G cc)
theorem h_c_need_driven : FK P w K mg base 2 "need_driven" ["fact"] m_need_driven := by
  have z := cc
  obtain ⟨⟨c, cx⟩, ct⟩ := z
  exact ok_need_driven (by
    obtain ⟨fd, F⟩ := c.def_ 22 (d := d_need_driven) rfl
    exact ⟨_, fd, F, He.glo_ok X G (c.fact 22 (f := .glo "need_driven") rfl)⟩) (h_c_need_field X G cc) (h_c_need_day X G cc)
theorem h_c_need_holder : FK P w K mg base 1 "need_holder" ["holder"] m_need_holder := by
  have z := cc
  obtain ⟨⟨c, cx⟩, ct⟩ := z
  exact ok_need_holder (by
    obtain ⟨fd, F⟩ := c.def_ 23 (d := d_need_holder) rfl
    exact ⟨_, fd, F, He.glo_ok X G (c.fact 23 (f := .glo "need_holder") rfl)⟩) (h_k_HOLDERS X G cc) (h_e_BadHolder X G cc)
theorem h_c_need_pass : FK P w K mg base 2 "need_pass" ["fact"] m_need_pass := by
  have z := cc
  obtain ⟨⟨c, cx⟩, ct⟩ := z
  exact ok_need_pass (by
    obtain ⟨fd, F⟩ := c.def_ 24 (d := d_need_pass) rfl
    exact ⟨_, fd, F, He.glo_ok X G (c.fact 24 (f := .glo "need_pass") rfl)⟩) (h_c_need_holder X G cc) (h_e_Same X G cc) (h_c_need_day X G cc)
theorem h_c_need_laid : FK P w K mg base 2 "need_laid" ["fact"] m_need_laid := by
  have z := cc
  obtain ⟨⟨c, cx⟩, ct⟩ := z
  exact ok_need_laid (by
    obtain ⟨fd, F⟩ := c.def_ 25 (d := d_need_laid) rfl
    exact ⟨_, fd, F, He.glo_ok X G (c.fact 25 (f := .glo "need_laid") rfl)⟩) (h_c_need_holder X G cc) (h_c_need_parish X G cc) (h_c_need_kind X G cc) (h_c_need_day X G cc) (h_c_need_pence X G cc) (h_c_need_count X G cc)
theorem h_c_need_claim : FK P w K mg base 2 "need_claim" ["fact"] m_need_claim := by
  have z := cc
  obtain ⟨⟨c, cx⟩, ct⟩ := z
  exact ok_need_claim (by
    obtain ⟨fd, F⟩ := c.def_ 26 (d := d_need_claim) rfl
    exact ⟨_, fd, F, He.glo_ok X G (c.fact 26 (f := .glo "need_claim") rfl)⟩) (h_c_need_field X G cc) (h_c_need_parish X G cc)
theorem h_c_need_fact : FK P w K mg base 5 "need_fact" ["fact"] m_need_fact := by
  have z := cc
  obtain ⟨⟨c, cx⟩, ct⟩ := z
  exact ok_need_fact (by
    obtain ⟨fd, F⟩ := c.def_ 27 (d := d_need_fact) rfl
    exact ⟨_, fd, F, He.glo_ok X G (c.fact 27 (f := .glo "need_fact") rfl)⟩) (h_tb_LOOKS X G cc) (h_e_BadWord X G cc) (h_c_need_claim X G cc) (h_ga_need_claim X G cc) (h_c_need_laid X G cc) (h_ga_need_laid X G cc) (h_c_need_pass X G cc) (h_ga_need_pass X G cc) (h_c_need_driven X G cc) (h_ga_need_driven X G cc) (h_c_need_born X G cc) (h_ga_need_born X G cc) (h_c_need_cut X G cc) (h_ga_need_cut X G cc) (h_c_need_takers_fact X G cc) (h_ga_need_takers_fact X G cc) (h_c_need_custom_fact X G cc) (h_ga_need_custom_fact X G cc) (h_c_need_free X G cc) (h_ga_need_free X G cc) (h_c_need_held X G cc) (h_ga_need_held X G cc) (h_c_need_lies X G cc) (h_ga_need_lies X G cc)
theorem h_cm_Book : CMK P w K mg base 1 "Book" m_Book___init__ := by
  have z := cc
  obtain ⟨⟨c, cx⟩, ct⟩ := z
  exact ok_Book___init__ (by
    obtain ⟨fd, F⟩ := c.def_ 28 (d := d_Book___init__) rfl
    exact ⟨_, _, fd, He.glo_ok X G (c.fact 28 (f := .glo "Book") rfl), He.mkr_ok (c.fact 30 (f := .mkr "Book") rfl), F⟩) (h_ak_Book_kept X G cc) (h_ak_Book_past_rows X G cc) (h_ak_Book_future_rows X G cc)
theorem h_mk_Book_remember : MK P w K mg base 1 "Book" "remember" ["self", "deed"] m_Book_remember := by
  have z := cc
  obtain ⟨⟨c, cx⟩, ct⟩ := z
  exact ok_Book_remember (by
    obtain ⟨fd, F⟩ := c.def_ 29 (d := d_Book_remember) rfl
    exact ⟨_, _, fd, He.glo_ok X G (c.fact 28 (f := .glo "Book") rfl), He.cls_ok (c.fact 29 (f := .cls "Book") rfl), He.meth_ok (c.fact 31 (f := .meth "Book" "remember") rfl), F⟩) (h_ak_Book_past_rows X G cc) (h_ak_Book_kept X G cc) (h_n_list X G cc) (h_ak_Book_future_rows X G cc)
theorem h_mk_Book_many_of : MK P w K mg base 1 "Book" "many_of" ["self", "word"] m_Book_many_of := by
  have z := cc
  obtain ⟨⟨c, cx⟩, ct⟩ := z
  exact ok_Book_many_of (by
    obtain ⟨fd, F⟩ := c.def_ 30 (d := d_Book_many_of) rfl
    exact ⟨_, _, fd, He.glo_ok X G (c.fact 28 (f := .glo "Book") rfl), He.cls_ok (c.fact 29 (f := .cls "Book") rfl), He.meth_ok (c.fact 32 (f := .meth "Book" "many_of") rfl), F⟩) (h_ak_Book_kept X G cc) (h_n_len X G cc)
theorem h_mk_Book_need_room : MK P w K mg base 2 "Book" "need_room" ["self", "fact"] m_Book_need_room := by
  have z := cc
  obtain ⟨⟨c, cx⟩, ct⟩ := z
  exact ok_Book_need_room (by
    obtain ⟨fd, F⟩ := c.def_ 31 (d := d_Book_need_room) rfl
    exact ⟨_, _, fd, He.glo_ok X G (c.fact 28 (f := .glo "Book") rfl), He.cls_ok (c.fact 29 (f := .cls "Book") rfl), He.meth_ok (c.fact 33 (f := .meth "Book" "need_room") rfl), F⟩) (h_ak_Book_kept X G cc) (h_n_len X G cc) (h_k_MOST_FACTS X G cc) (h_e_Full X G cc) (h_mk_Book_many_of X G cc) (h_k_MOST_BIRTHS X G cc) (h_k_MOST_CLAIMS X G cc)
theorem h_mk_Book_need_beast : MK P w K mg base 1 "Book" "need_beast" ["self", "number"] m_Book_need_beast := by
  have z := cc
  obtain ⟨⟨c, cx⟩, ct⟩ := z
  exact ok_Book_need_beast (by
    obtain ⟨fd, F⟩ := c.def_ 32 (d := d_Book_need_beast) rfl
    exact ⟨_, _, fd, He.glo_ok X G (c.fact 28 (f := .glo "Book") rfl), He.cls_ok (c.fact 29 (f := .cls "Book") rfl), He.meth_ok (c.fact 34 (f := .meth "Book" "need_beast") rfl), F⟩) (h_ak_Book_kept X G cc) (h_n_len X G cc) (h_e_NoBeast X G cc)
theorem h_mk_Book_tell : MK P w K mg base 6 "Book" "tell" ["self", "fact"] m_Book_tell := by
  have z := cc
  obtain ⟨⟨c, cx⟩, ct⟩ := z
  exact ok_Book_tell (by
    obtain ⟨fd, F⟩ := c.def_ 33 (d := d_Book_tell) rfl
    exact ⟨_, _, fd, He.glo_ok X G (c.fact 28 (f := .glo "Book") rfl), He.cls_ok (c.fact 29 (f := .cls "Book") rfl), He.meth_ok (c.fact 35 (f := .meth "Book" "tell") rfl), F⟩) (h_mk_Book_need_beast X G cc) (h_c_need_fact X G cc) (h_mk_Book_need_room X G cc) (h_mk_Book_remember X G cc) (h_ak_Book_kept X G cc) (h_n_len X G cc)
theorem h_mk_Book_need_number : MK P w K mg base 1 "Book" "need_number" ["self", "number"] m_Book_need_number := by
  have z := cc
  obtain ⟨⟨c, cx⟩, ct⟩ := z
  exact ok_Book_need_number (by
    obtain ⟨fd, F⟩ := c.def_ 34 (d := d_Book_need_number) rfl
    exact ⟨_, _, fd, He.glo_ok X G (c.fact 28 (f := .glo "Book") rfl), He.cls_ok (c.fact 29 (f := .cls "Book") rfl), He.meth_ok (c.fact 36 (f := .meth "Book" "need_number") rfl), F⟩) (h_ak_Book_kept X G cc) (h_n_len X G cc) (h_e_NoFact X G cc)
theorem h_mk_Book_strike : MK P w K mg base 2 "Book" "strike" ["self", "number"] m_Book_strike := by
  have z := cc
  obtain ⟨⟨c, cx⟩, ct⟩ := z
  exact ok_Book_strike (by
    obtain ⟨fd, F⟩ := c.def_ 35 (d := d_Book_strike) rfl
    exact ⟨_, _, fd, He.glo_ok X G (c.fact 28 (f := .glo "Book") rfl), He.cls_ok (c.fact 29 (f := .cls "Book") rfl), He.meth_ok (c.fact 37 (f := .meth "Book" "strike") rfl), F⟩) (h_mk_Book_need_number X G cc) (h_ak_Book_kept X G cc) (h_e_Struck X G cc) (h_mk_Book_remember X G cc)
theorem h_mk_Book_keep : MK P w K mg base 2 "Book" "keep" ["self", "number"] m_Book_keep := by
  have z := cc
  obtain ⟨⟨c, cx⟩, ct⟩ := z
  exact ok_Book_keep (by
    obtain ⟨fd, F⟩ := c.def_ 36 (d := d_Book_keep) rfl
    exact ⟨_, _, fd, He.glo_ok X G (c.fact 28 (f := .glo "Book") rfl), He.cls_ok (c.fact 29 (f := .cls "Book") rfl), He.meth_ok (c.fact 38 (f := .meth "Book" "keep") rfl), F⟩) (h_mk_Book_need_number X G cc) (h_ak_Book_kept X G cc) (h_e_Kept X G cc) (h_mk_Book_remember X G cc)
theorem h_mk_Book_undo : MK P w K mg base 1 "Book" "undo" ["self"] m_Book_undo := by
  have z := cc
  obtain ⟨⟨c, cx⟩, ct⟩ := z
  exact ok_Book_undo (by
    obtain ⟨fd, F⟩ := c.def_ 37 (d := d_Book_undo) rfl
    exact ⟨_, _, fd, He.glo_ok X G (c.fact 28 (f := .glo "Book") rfl), He.cls_ok (c.fact 29 (f := .cls "Book") rfl), He.meth_ok (c.fact 39 (f := .meth "Book" "undo") rfl), F⟩) (h_ak_Book_past_rows X G cc) (h_e_NoBack X G cc) (h_ak_Book_future_rows X G cc) (h_ak_Book_kept X G cc) (h_n_list X G cc)
theorem h_mk_Book_redo : MK P w K mg base 1 "Book" "redo" ["self"] m_Book_redo := by
  have z := cc
  obtain ⟨⟨c, cx⟩, ct⟩ := z
  exact ok_Book_redo (by
    obtain ⟨fd, F⟩ := c.def_ 38 (d := d_Book_redo) rfl
    exact ⟨_, _, fd, He.glo_ok X G (c.fact 28 (f := .glo "Book") rfl), He.cls_ok (c.fact 29 (f := .cls "Book") rfl), He.meth_ok (c.fact 40 (f := .meth "Book" "redo") rfl), F⟩) (h_ak_Book_future_rows X G cc) (h_e_NoForth X G cc) (h_ak_Book_past_rows X G cc) (h_ak_Book_kept X G cc) (h_n_list X G cc)
theorem h_c_read_number : FK P w K mg base 3 "read_number" ["word"] m_read_number := by
  have z := cc
  obtain ⟨⟨c, cx⟩, ct⟩ := z
  exact ok_read_number (by
    obtain ⟨fd, F⟩ := c.def_ 39 (d := d_read_number) rfl
    exact ⟨_, fd, F, He.glo_ok X G (c.fact 41 (f := .glo "read_number") rfl)⟩) (h_n_len X G cc) (h_k_MOST_FIGURES X G cc) (h_ik_BadText X G cc) (h_k_FIGURES X G cc) (h_n_int X G cc)
theorem h_c_read_numbers : FK P w K mg base 4 "read_numbers" ["words", "many"] m_read_numbers := by
  have z := cc
  obtain ⟨⟨c, cx⟩, ct⟩ := z
  exact ok_read_numbers (by
    obtain ⟨fd, F⟩ := c.def_ 40 (d := d_read_numbers) rfl
    exact ⟨_, fd, F, He.glo_ok X G (c.fact 42 (f := .glo "read_numbers") rfl)⟩) (h_n_len X G cc) (h_ik_BadText X G cc) (h_c_read_number X G cc) (h_n_tuple X G cc)
theorem h_c_read_custom : FK P w K mg base 5 "read_custom" ["words"] m_read_custom := by
  have z := cc
  obtain ⟨⟨c, cx⟩, ct⟩ := z
  exact ok_read_custom (by
    obtain ⟨fd, F⟩ := c.def_ 41 (d := d_read_custom) rfl
    exact ⟨_, fd, F, He.glo_ok X G (c.fact 43 (f := .glo "read_custom") rfl)⟩) (h_tb_CUSTOMS X G cc) (h_ik_BadText X G cc) (h_c_read_numbers X G cc)
theorem h_c_read_fact : FK P w K mg base 6 "read_fact" ["line"] m_read_fact := by
  have z := cc
  obtain ⟨⟨c, cx⟩, ct⟩ := z
  exact ok_read_fact (by
    obtain ⟨fd, F⟩ := c.def_ 42 (d := d_read_fact) rfl
    exact ⟨_, fd, F, He.glo_ok X G (c.fact 44 (f := .glo "read_fact") rfl)⟩) (h_c_read_numbers X G cc) (h_c_read_custom X G cc) (h_tb_FORMS X G cc) (h_ik_BadText X G cc)
theorem h_c_read_deed : FK P w K mg base 7 "read_deed" ["line"] m_read_deed := by
  have z := cc
  obtain ⟨⟨c, cx⟩, ct⟩ := z
  exact ok_read_deed (by
    obtain ⟨fd, F⟩ := c.def_ 43 (d := d_read_deed) rfl
    exact ⟨_, fd, F, He.glo_ok X G (c.fact 45 (f := .glo "read_deed") rfl)⟩) (h_c_read_numbers X G cc) (h_c_read_fact X G cc)
theorem h_c__law_facts_wrong : FK P w K mg base 1 "_law_facts_wrong" ["_law_which", "_law_far"] m__law_facts_wrong := by
  have z := cc
  obtain ⟨⟨c, cx⟩, ct⟩ := z
  exact ok__law_facts_wrong (by
    obtain ⟨fd, F⟩ := c.def_ 44 (d := d__law_facts_wrong) rfl
    exact ⟨_, fd, F, He.glo_ok X G (c.fact 46 (f := .glo "_law_facts_wrong") rfl)⟩) 
theorem h_c__law_raise : FK P w K mg base 8 "_law_raise" ["_law_which", "_law_far"] m__law_raise := by
  have z := cc
  obtain ⟨⟨c, cx⟩, ct⟩ := z
  exact ok__law_raise (by
    obtain ⟨fd, F⟩ := c.def_ 45 (d := d__law_raise) rfl
    exact ⟨_, fd, F, He.glo_ok X G (c.fact 47 (f := .glo "_law_raise") rfl)⟩) (h_cm_Book X G cc) (h_mk_Book_tell X G cc) (h_c__law_facts_wrong X G cc) (h_c_need_fact X G cc) (h_mk_Book_strike X G cc) (h_mk_Book_keep X G cc) (h_n_range X G cc) (h_mk_Book_undo X G cc) (h_mk_Book_redo X G cc) (h_c_read_deed X G cc)
theorem h_c__law_row : HK P w K mg base 1 "_law_row" "_law_e" m__law_row := by
  have z := cc
  obtain ⟨⟨c, cx⟩, ct⟩ := z
  exact ok__law_row (by
    obtain ⟨fd, F⟩ := c.def_ 46 (d := d__law_row) rfl
    exact ⟨_, fd, F, He.glo_ok X G (c.fact 48 (f := .glo "_law_row") rfl)⟩) (h_io_BadWord X G cc) (h_n_isinstance X G cc) (h_io_BadField X G cc) (h_io_BadParish X G cc) (h_io_BadHolder X G cc) (h_io_BadKind X G cc) (h_io_BadTaker X G cc) (h_io_BadDay X G cc) (h_io_BadYear X G cc) (h_io_BadCount X G cc) (h_io_BadSpan X G cc) (h_io_BadWorth X G cc) (h_io_BadCustom X G cc) (h_io_BadAside X G cc) (h_io_BadPence X G cc) (h_io_BadPart X G cc) (h_io_Backward X G cc) (h_io_Same X G cc) (h_io_NoBeast X G cc) (h_io_NoFact X G cc) (h_io_Struck X G cc) (h_io_Kept X G cc) (h_io_Full X G cc) (h_io_NoBack X G cc) (h_io_NoForth X G cc) (h_io_BadText X G cc) (h_ib_ValueError X G cc)
end
theorem chain {P : Program} {w : World} {K : PySem.W.Frag} {h : Heap} {mg : Str → Option Value} {f : Addr} (X : K.In h) (G : h.Ns mainGlobals mg) (hfa : mg ("law" : Str) = some (.ref f)) (cc : SaysN fa fn ex ts w K) :
    ∃ fd : FuncData, (∀ (s : Shared) (v : Value), BindsTo s fd ⟨[v], []⟩ [("_law_script", v)]) ∧ ∀ base : Heap, K.In base → base.Ns mainGlobals mg → FnOk P w K mg base (L2N.CX P w) 9 f fd ["_law_script"] (spL K mg 1 m_law) := by
  have z := cc
  obtain ⟨⟨c, cx⟩, ct⟩ := z
  obtain ⟨fd, F⟩ := c.def_ 47 (d := d_law) rfl
  have e := hfa.symm.trans (He.glo_ok X G (c.fact 49 (f := .glo "law") rfl))
  cases e
  have b := FunD.bindsA (ps := ["_law_script"]) F fun _ _ _ _ _ _ us hl => match us, hl with | [_], _ => rfl
  refine ⟨fd, fun s v => b s [v] rfl, fun base hB hG => ?_⟩
  exact ok_law F (h_c__law_bag X G cc) (h_c__law_pull X G cc) (h_c__law_raise X G cc) (h_c__law_row X G cc) (h_x_TitheError X G cc) (h_n_range X G cc)
end VLD
open PySem PySem.W PySem.Calls PyProof.Rows VL in
theorem VLD.holds_of_mirror (hm : ∀ ns : List Int, ns.length ≤ 63 → ∃ os, VL.m_law [.scr ns] = .ok (.dat (.bool true)) os) : PySem.Challenge.rw_tithebarn_k52_refusals_apart.Holds := by
  w_on; o_law
  refine HandSHeadRun.head_any (r := VLD.R) (q := view VLD.R.prog [149]) (H := VLD.hk) (ob := VLD.ob) (M := 20000) (loose := VLD.loose) (d := HandSHeadRun.topDef VLD.R.prog 149) (kwd := []) VLD.ob_eq
    (by kernel_rfl) (fun s => by kernel_rfl) VLD.run (by kernel_rfl) (by kernel_rfl) (by kernel_rfl) (by rfl) (by first | assumption | decide +kernel) (by decide +kernel) ⟨rfl, rfl, rfl, rfl, rfl, by decide +kernel⟩ ?hw ?hc
  case hw => w_witness2
  case hc =>
    refine VL.walk_m (l := PySem.Challenge.rw_tithebarn_k52_refusals_apart) (n := 63) (k := 9) (x := "_law_script") (m := VL.m_law) rfl (by decide) (by kernel_rfl) ⟨rfl, by decide, by decide⟩ ?F hm
    intro w mg fa h Y G hmg0
    obtain ⟨K, KX, c⟩ := Y
    have hmg : mg ("law" : PySem.Str) = some (.ref fa) := by
      have e : (HandSHeadRun.topDef VLD.R.prog 149).name = ("law" : PySem.Str) := by kernel_rfl
      rw [← e]
      exact hmg0
    obtain ⟨fd, hb, hF⟩ := VLD.chain (P := (PySem.Challenge.rw_tithebarn_k52_refusals_apart).prog) (w := w) KX G hmg c
    exact ⟨K, fd, KX, hb, hF⟩
theorem PySem.Challenge.cw_tithebarn_k52_refusals_apart_holds : PySem.Challenge.rw_tithebarn_k52_refusals_apart.Holds :=
  VLD.holds_of_mirror VL.law_true
