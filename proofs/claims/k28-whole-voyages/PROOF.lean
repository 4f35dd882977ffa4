import PyProof.Rows.All
import Wide.All
import OpenK.AllK
import Wide.FinOn
import KE.KExcSuper
import KE.SortKeyHeap
import HandS.ForMost
import HandS.ForExc
import HandS.TryMany
import HandS.ExcIs
import HandS.ExcField
import HandS.ExcSuper
import HandS.Evl
import HandS.Star
import HandS.SortInts
import HandS.SortRule
import HandS.DeepEq
import HandS.IsInst
import HandS.Small
import HandS.Style
import HandS.EndTab
import PySem.Challenge.RW_quaybest_k28_whole_voyages
import PyProof.AutoSeq1
set_option Elab.async false
set_option linter.all false
set_option maxRecDepth 100000
set_option maxHeartbeats 8000000
/-! The statements of the text by their places, their scopes, and what the top has written (printed by mkbase.py). -/
namespace Q
open PySem PySem.Spec PyProof.Rows L2
def topS (i : Nat) : Stmt := PySem.Challenge.pw_quaybest_k28_whole_voyages.main.body.getD i (.Pass ⟨0, 0, 0, 0⟩)
abbrev sBad : Stmt := inClass (topS 12) 0
abbrev sFull : Stmt := inClass (topS 14) 0
abbrev sCount : Stmt := topS 4
abbrev sOpened : Stmt := topS 5
abbrev sLoading : Stmt := topS 6
abbrev sVoyg : Stmt := topS 7
abbrev sSimd : Stmt := topS 8
abbrev sIni : Stmt := inClass (topS 15) 0
abbrev sCheck : Stmt := inClass (topS 15) 1
abbrev sLoad : Stmt := inClass (topS 15) 2
abbrev sSail : Stmt := inClass (topS 15) 3
abbrev sStacks : Stmt := inClass (topS 15) 4
abbrev sLifts : Stmt := inClass (topS 15) 5
abbrev sPool : Stmt := topS 17
abbrev sTake : Stmt := topS 18
abbrev sIsint : Stmt := topS 19
abbrev sSame : Stmt := topS 20
abbrev sBoxes : Stmt := topS 21
abbrev sPlan : Stmt := topS 22
abbrev sWork : Stmt := topS 23
abbrev sInto : Stmt := topS 24
abbrev sLoads : Stmt := topS 25
abbrev sDueLoad : Stmt := topS 26
abbrev sDueSail : Stmt := topS 27
abbrev sTold : Stmt := topS 28
abbrev sSeen : Stmt := topS 29
abbrev sAsSim : Stmt := topS 30
abbrev sLaw : Stmt := topS 31
abbrev nCount : List Str := ["plan"]
theorem scCount : FnScope nCount ["plan"] (defScope sCount) := ⟨rfl, rfl, rfl, by decide +kernel, rfl, by decide +kernel, by decide +kernel⟩
abbrev nOpened : List Str := ["stack", "boxes", "port", "box", "places", "work", "put_back", "place"]
theorem scOpened : FnScope nOpened ["stack", "boxes", "port"] (defScope sOpened) := ⟨rfl, rfl, rfl, by decide +kernel, rfl, by decide +kernel, by decide +kernel⟩
abbrev nLoading : List Str := ["boxes", "chosen"]
theorem scLoading : FnScope nLoading ["boxes", "chosen"] (defScope sLoading) := ⟨rfl, rfl, rfl, by decide +kernel, rfl, by decide +kernel, by decide +kernel⟩
abbrev nVoyg : List Str := ["boxes", "plan", "stacks", "events", "pictures", "port", "number", "work", "box", "chosen", "_", "stack"]
theorem scVoyg : FnScope nVoyg ["boxes", "plan"] (defScope sVoyg) := ⟨rfl, rfl, rfl, by decide +kernel, rfl, by decide +kernel, by decide +kernel⟩
abbrev nSimd : List Str := ["boxes", "plan"]
theorem scSimd : FnScope nSimd ["boxes", "plan"] (defScope sSimd) := ⟨rfl, rfl, rfl, by decide +kernel, rfl, by decide +kernel, by decide +kernel⟩
abbrev nIni : List Str := ["self", "stacks", "height", "_"]
theorem scIni : FnScope nIni ["self", "stacks", "height"] (defScope sIni) := ⟨rfl, rfl, rfl, by decide +kernel, rfl, by decide +kernel, by decide +kernel⟩
abbrev nCheck : List Str := ["self", "loads", "number", "stack", "stop", "more", "load"]
theorem scCheck : FnScope nCheck ["self", "loads"] (defScope sCheck) := ⟨rfl, rfl, rfl, by decide +kernel, rfl, by decide +kernel, by decide +kernel⟩
abbrev nLoad : List Str := ["self", "loads", "first", "events", "stack", "chosen", "box", "_", "stop", "number", "load"]
theorem scLoad : FnScope nLoad ["self", "loads"] (defScope sLoad) := ⟨rfl, rfl, rfl, by decide +kernel, rfl, by decide +kernel, by decide +kernel⟩
abbrev nSail : List Str := ["self", "events", "stack", "work", "_", "word", "box"]
theorem scSail : FnScope nSail ["self"] (defScope sSail) := ⟨rfl, rfl, rfl, by decide +kernel, rfl, by decide +kernel, by decide +kernel⟩
abbrev nStacks : List Str := ["self", "stack"]
theorem scStacks : FnScope nStacks ["self"] (defScope sStacks) := ⟨rfl, rfl, rfl, by decide +kernel, rfl, by decide +kernel, by decide +kernel⟩
abbrev nLifts : List Str := ["self"]
theorem scLifts : FnScope nLifts ["self"] (defScope sLifts) := ⟨rfl, rfl, rfl, by decide +kernel, rfl, by decide +kernel, by decide +kernel⟩
abbrev nPool : List Str := ["_law_script", "_law_cell"]
theorem scPool : FnScope nPool ["_law_script"] (defScope sPool) := ⟨rfl, rfl, rfl, by decide +kernel, rfl, by decide +kernel, by decide +kernel⟩
abbrev nTake : List Str := ["_law_pool_here", "_law_many", "_law_digit", "_law_cell", "_law_mixed"]
theorem scTake : FnScope nTake ["_law_pool_here", "_law_many"] (defScope sTake) := ⟨rfl, rfl, rfl, by decide +kernel, rfl, by decide +kernel, by decide +kernel⟩
abbrev nIsint : List Str := ["_law_actual"]
theorem scIsint : FnScope nIsint ["_law_actual"] (defScope sIsint) := ⟨rfl, rfl, rfl, by decide +kernel, rfl, by decide +kernel, by decide +kernel⟩
abbrev nSame : List Str := ["_law_actual", "_law_due", "_law_k"]
theorem scSame : FnScope nSame ["_law_actual", "_law_due"] (defScope sSame) := ⟨rfl, rfl, rfl, by decide +kernel, rfl, by decide +kernel, by decide +kernel⟩
abbrev nBoxes : List Str := ["_law_pool_here", "_law_most", "_law_boxes_here", "_law_high", "_law_k", "_law_start"]
theorem scBoxes : FnScope nBoxes ["_law_pool_here", "_law_most"] (defScope sBoxes) := ⟨rfl, rfl, rfl, by decide +kernel, rfl, by decide +kernel, by decide +kernel⟩
abbrev nPlan : List Str := ["_law_pool_here", "_law_boxes_here", "_law_stacks", "_law_box"]
theorem scPlan : FnScope nPlan ["_law_pool_here", "_law_boxes_here", "_law_stacks"] (defScope sPlan) := ⟨rfl, rfl, rfl, by decide +kernel, rfl, by decide +kernel, by decide +kernel⟩
abbrev nWork : List Str := ["_law_boxes_here", "_law_stack", "_law_port", "_law_low", "_law_events", "_law_lifted", "_law_box", "_law_word", "_law_k"]
theorem scWork : FnScope nWork ["_law_boxes_here", "_law_stack", "_law_port"] (defScope sWork) := ⟨rfl, rfl, rfl, by decide +kernel, rfl, by decide +kernel, by decide +kernel⟩
abbrev nInto : List Str := ["_law_boxes_here", "_law_chosen", "_law_found", "_law_stop", "_law_box"]
theorem scInto : FnScope nInto ["_law_boxes_here", "_law_chosen"] (defScope sInto) := ⟨rfl, rfl, rfl, by decide +kernel, rfl, by decide +kernel, by decide +kernel⟩
abbrev nLoads : List Str := ["_law_pool_here", "_law_box", "_law_loads_here", "_law_k", "_law_stop", "_law_wrong"]
theorem scLoads : FnScope nLoads ["_law_pool_here", "_law_box"] (defScope sLoads) := ⟨rfl, rfl, rfl, by decide +kernel, rfl, by decide +kernel, by decide +kernel⟩
abbrev nDueLoad : List Str := ["_law_box", "_law_loads_here", "_law_k", "_law_stack", "_law_first", "_law_events", "_law_chosen", "_law_load", "_law_one"]
theorem scDueLoad : FnScope nDueLoad ["_law_box", "_law_loads_here"] (defScope sDueLoad) := ⟨rfl, rfl, rfl, by decide +kernel, rfl, by decide +kernel, by decide +kernel⟩
abbrev nDueSail : List Str := ["_law_box", "_law_events", "_law_stacks", "_law_stack", "_law_worked", "_law_event"]
theorem scDueSail : FnScope nDueSail ["_law_box"] (defScope sDueSail) := ⟨rfl, rfl, rfl, by decide +kernel, rfl, by decide +kernel, by decide +kernel⟩
abbrev nTold : List Str := ["_law_voyage", "_law_loads_here", "_law_wrong"]
theorem scTold : FnScope nTold ["_law_voyage", "_law_loads_here"] (defScope sTold) := ⟨rfl, rfl, rfl, by decide +kernel, rfl, by decide +kernel, by decide +kernel⟩
abbrev nSeen : List Str := ["_law_voyage", "_law_box", "_law_counts", "_law_told_here", "_law_stack", "_law_due", "_law_standing", "_law_aboard", "_law_one", "_law_k"]
theorem scSeen : FnScope nSeen ["_law_voyage", "_law_box"] (defScope sSeen) := ⟨rfl, rfl, rfl, by decide +kernel, rfl, by decide +kernel, by decide +kernel⟩
abbrev nAsSim : List Str := ["_law_pool_here", "_law_boxes_here", "_law_plan_here", "_law_voyage", "_law_events", "_law_port", "_law_loads_here", "_law_k"]
theorem scAsSim : FnScope nAsSim ["_law_pool_here"] (defScope sAsSim) := ⟨rfl, rfl, rfl, by decide +kernel, rfl, by decide +kernel, by decide +kernel⟩
abbrev nLaw : List Str := ["_law_script", "_law_pool_here", "_law_boxes_here", "_law_k", "_law_stacks", "_law_box", "_law_voyages", "_law_turn", "_law_at", "_law_loads_here", "_law_one"]
theorem scLaw : FnScope nLaw ["_law_script"] (defScope sLaw) := ⟨rfl, rfl, rfl, by decide +kernel, rfl, by decide +kernel, by decide +kernel⟩
/-- where things stand, and what the defs are -/
structure Ads where
  aCount : Addr
  fCount : FuncData
  aOpened : Addr
  fOpened : FuncData
  aLoading : Addr
  fLoading : FuncData
  aVoyg : Addr
  fVoyg : FuncData
  aSimd : Addr
  fSimd : FuncData
  aIni : Addr
  fIni : FuncData
  aCheck : Addr
  fCheck : FuncData
  aLoad : Addr
  fLoad : FuncData
  aSail : Addr
  fSail : FuncData
  aStacks : Addr
  fStacks : FuncData
  aLifts : Addr
  fLifts : FuncData
  aPool : Addr
  fPool : FuncData
  aTake : Addr
  fTake : FuncData
  aIsint : Addr
  fIsint : FuncData
  aSame : Addr
  fSame : FuncData
  aBoxes : Addr
  fBoxes : FuncData
  aPlan : Addr
  fPlan : FuncData
  aWork : Addr
  fWork : FuncData
  aInto : Addr
  fInto : FuncData
  aLoads : Addr
  fLoads : FuncData
  aDueLoad : Addr
  fDueLoad : FuncData
  aDueSail : Addr
  fDueSail : FuncData
  aTold : Addr
  fTold : FuncData
  aSeen : Addr
  fSeen : FuncData
  aAsSim : Addr
  fAsSim : FuncData
  aLaw : Addr
  fLaw : FuncData
  cV : Addr
  cQuay : Addr
  cOver : Addr
  cBad : Addr
  cMany : Addr
  cFull : Addr
  iBad : Addr
  iFull : Addr
  kc : Addr
  kP : Addr
/-- what the top has written of built-ins, constants and defs -/
structure Txt (K : PySem.W.Frag) (mg : Str → Option Value) (a : Ads) : Prop where
  zmax : mg "max" = none
  zmin : mg "min" = none
  zenumerate : mg "enumerate" = none
  zsorted : mg "sorted" = none
  zrange : mg "range" = none
  zlen : mg "len" = none
  ztuple : mg "tuple" = none
  zlist : mg "list" = none
  zisinstance : mg "isinstance" = none
  zint : mg "int" = none
  zbool : mg "bool" = none
  zstr : mg "str" = none
  zall : mg "all" = none
  zPorts : ∃ t, mg "PORTS" = some (.int 12 t)
  zMost : ∃ t, mg "MOST_BOXES" = some (.int 60 t)
  gCount : mg "stack_count" = some (.ref a.aCount)
  FCount : Fun K "stack_count" "stack_count" sCount a.aCount a.fCount
  bCount : Binds K a.fCount ["plan"] []
  gOpened : mg "opened" = some (.ref a.aOpened)
  FOpened : Fun K "opened" "opened" sOpened a.aOpened a.fOpened
  bOpened : Binds K a.fOpened ["stack", "boxes", "port"] []
  gLoading : mg "loading" = some (.ref a.aLoading)
  FLoading : Fun K "loading" "loading" sLoading a.aLoading a.fLoading
  bLoading : Binds K a.fLoading ["boxes", "chosen"] []
  gVoyg : mg "voyage" = some (.ref a.aVoyg)
  FVoyg : Fun K "voyage" "voyage" sVoyg a.aVoyg a.fVoyg
  bVoyg : Binds K a.fVoyg ["boxes", "plan"] []
  gSimd : mg "simulated" = some (.ref a.aSimd)
  FSimd : Fun K "simulated" "simulated" sSimd a.aSimd a.fSimd
  bSimd : Binds K a.fSimd ["boxes", "plan"] []
  FIni : Fun K "__init__" "Voyage.__init__" sIni a.aIni a.fIni
  bIni : Binds K a.fIni ["self", "stacks", "height"] []
  mCheck : Meth K a.cV "_check" a.aCheck
  FCheck : Fun K "_check" "Voyage._check" sCheck a.aCheck a.fCheck
  bCheck : Binds K a.fCheck ["self", "loads"] []
  mLoad : Meth K a.cV "load" a.aLoad
  FLoad : Fun K "load" "Voyage.load" sLoad a.aLoad a.fLoad
  bLoad : Binds K a.fLoad ["self", "loads"] []
  mSail : Meth K a.cV "sail" a.aSail
  FSail : Fun K "sail" "Voyage.sail" sSail a.aSail a.fSail
  bSail : Binds K a.fSail ["self"] []
  mStacks : Meth K a.cV "stacks" a.aStacks
  FStacks : Fun K "stacks" "Voyage.stacks" sStacks a.aStacks a.fStacks
  bStacks : Binds K a.fStacks ["self"] []
  mLifts : Meth K a.cV "lift_counts" a.aLifts
  FLifts : Fun K "lift_counts" "Voyage.lift_counts" sLifts a.aLifts a.fLifts
  bLifts : Binds K a.fLifts ["self"] []
  gPool : mg "_law_pool" = some (.ref a.aPool)
  FPool : Fun K "_law_pool" "_law_pool" sPool a.aPool a.fPool
  bPool : Binds K a.fPool ["_law_script"] []
  gTake : mg "_law_take" = some (.ref a.aTake)
  FTake : Fun K "_law_take" "_law_take" sTake a.aTake a.fTake
  bTake : Binds K a.fTake ["_law_pool_here", "_law_many"] []
  gIsint : mg "_law_is_integer" = some (.ref a.aIsint)
  FIsint : Fun K "_law_is_integer" "_law_is_integer" sIsint a.aIsint a.fIsint
  bIsint : Binds K a.fIsint ["_law_actual"] []
  gSame : mg "_law_same" = some (.ref a.aSame)
  FSame : Fun K "_law_same" "_law_same" sSame a.aSame a.fSame
  bSame : Binds K a.fSame ["_law_actual", "_law_due"] []
  gBoxes : mg "_law_boxes" = some (.ref a.aBoxes)
  FBoxes : Fun K "_law_boxes" "_law_boxes" sBoxes a.aBoxes a.fBoxes
  bBoxes : Binds K a.fBoxes ["_law_pool_here", "_law_most"] []
  gPlan : mg "_law_plan" = some (.ref a.aPlan)
  FPlan : Fun K "_law_plan" "_law_plan" sPlan a.aPlan a.fPlan
  bPlan : Binds K a.fPlan ["_law_pool_here", "_law_boxes_here", "_law_stacks"] []
  gWork : mg "_law_work" = some (.ref a.aWork)
  FWork : Fun K "_law_work" "_law_work" sWork a.aWork a.fWork
  bWork : Binds K a.fWork ["_law_boxes_here", "_law_stack", "_law_port"] []
  gInto : mg "_law_into" = some (.ref a.aInto)
  FInto : Fun K "_law_into" "_law_into" sInto a.aInto a.fInto
  bInto : Binds K a.fInto ["_law_boxes_here", "_law_chosen"] []
  gLoads : mg "_law_loads" = some (.ref a.aLoads)
  FLoads : Fun K "_law_loads" "_law_loads" sLoads a.aLoads a.fLoads
  bLoads : Binds K a.fLoads ["_law_pool_here", "_law_box"] []
  gDueLoad : mg "_law_due_load" = some (.ref a.aDueLoad)
  FDueLoad : Fun K "_law_due_load" "_law_due_load" sDueLoad a.aDueLoad a.fDueLoad
  bDueLoad : Binds K a.fDueLoad ["_law_box", "_law_loads_here"] []
  gDueSail : mg "_law_due_sail" = some (.ref a.aDueSail)
  FDueSail : Fun K "_law_due_sail" "_law_due_sail" sDueSail a.aDueSail a.fDueSail
  bDueSail : Binds K a.fDueSail ["_law_box"] []
  gTold : mg "_law_told" = some (.ref a.aTold)
  FTold : Fun K "_law_told" "_law_told" sTold a.aTold a.fTold
  bTold : Binds K a.fTold ["_law_voyage", "_law_loads_here"] []
  gSeen : mg "_law_seen" = some (.ref a.aSeen)
  FSeen : Fun K "_law_seen" "_law_seen" sSeen a.aSeen a.fSeen
  bSeen : Binds K a.fSeen ["_law_voyage", "_law_box"] []
  gAsSim : mg "_law_is_as_simulated" = some (.ref a.aAsSim)
  FAsSim : Fun K "_law_is_as_simulated" "_law_is_as_simulated" sAsSim a.aAsSim a.fAsSim
  bAsSim : Binds K a.fAsSim ["_law_pool_here"] []
  gLaw : mg "law" = some (.ref a.aLaw)
  FLaw : Fun K "law" "law" sLaw a.aLaw a.fLaw
  bLaw : Binds K a.fLaw ["_law_script"] []
  gV : mg "Voyage" = some (.ref a.cV)
  mkV : Mk K a.cV a.aIni
  clV : Cls K a.cV
  noHeight : NoAttr K a.cV "height"
  noPort : NoAttr K a.cV "port"
  noStacks : NoAttr K a.cV "_stacks"
  noBoxes : NoAttr K a.cV "_boxes"
  noLifts : NoAttr K a.cV "_lifts"
end Q
/-! An own error class whose __init__ says super().__init__(x) and stores one field: called, raised. -/
namespace QX
open PySem PySem.W PySem.Calls PyProof.Rows PySem.HandSPX
/-- what the written part says of the class at C, its __init__ at fI, the cell of __class__ at cc -/
structure SupTxt (P : Program) (K : Frag) (mg : Str → Option Value) (st : Stmt) (qual x f : Str) (C fI : Addr) : Prop where
  gC : mg x = some (.ref C)
  cls : ∃ nm q N bs bm sn sub ab col dd k0 k1 k2 k3 k5, K.lookup C = some (excClassObj nm q C N bs bm true sn sub ab col dd k0 k1 k2 k3 k5 "ValueError.__new__") ∧ refsVE bm = true
  sa : findIn K (.ref C) "__setattr__" = some (some (.builtin "object.__setattr__"))
  ga : findIn K (.ref C) "__getattribute__" = some (some (.builtin "BaseException.__getattribute__"))
  gg : findIn K (.ref C) "__getattr__" = some none
  noN : findIn K (.ref C) f = some none
  iC : findIn K (.ref C) "__init__" = some (some (.ref fI))
  tC : typeIn K (.ref fI) = some (.type "function")
  kC : keepIn K (.ref C) = true
  exC : subIn K (.ref C) (.type "BaseException") = some true
  veC : subIn K (.ref C) (.type "ValueError") = some true
  tyC : typeIn K (.ref C) = some (.type "type")
  hdC : hasDictIn K C = true
  mrC : mroIn K C (.ref C) = some true
  sup : ks_superIn K C C "__init__" = some (some (.builtin "ValueError.__init__"))
  tp : nsIn K cStatics "thirdparty.any" = some none
  gS : mg "super" = none
  fn : ∃ (oc : Value) (od : Option Addr) (doc pm : Value) (an : Option Addr) (cda cc : Addr) (ct : Value) (osl : Array (Option Value)),
    K.lookup fI = some ⟨oc, od, .func (ksFn "__init__" qual (L2.defArgs st) (L2.defBody st) (L2.defScope st) .none .none doc pm an (.ref cda) ct cc), osl⟩ ∧ codeIn K (.ref cda) qual = true ∧
    (∃ ccl cdd vs ccs file tf, K.lookup cda = some ⟨ccl, cdd, .fields vs, ccs⟩ ∧ vs[2]? = some (.str file tf) ∧ ((P.main.file : Str) == file) = true) ∧ (∃ cl cld csl, K.lookup cc = some ⟨cl, cld, .cell (some (.ref C)), csl⟩)
  top : (P.main.scope.names.lookup ("super" : Str)).isSome = false
theorem cellBad : ∀ y ∈ (L2.defScope Q.sBad).names, y.2 ≠ .cell := by decide +kernel
theorem cellFull : ∀ y ∈ (L2.defScope Q.sFull).names, y.2 ≠ .cell := by decide +kernel
theorem one_fits (v : Value) : [v].length ≤ sizeLine := by
  rw [sizeLine_eq]
  show 1 ≤ 16777216
  omega
theorem ns_keep {h h' : Heap} {L x : Addr} {m : Str → Option Value} (hn : h.Ns L m) (hx : L ≠ x) (k : ∀ b o, b ≠ x → h.get? b = some o → h'.get? b = some o) : h'.Ns L m := by
  obtain ⟨oL, es, ep, hL, r⟩ := hn
  exact ⟨oL, es, ep, k _ _ hx hL, r⟩
/-- what __init__ leaves of a fresh error at x -/
structure SupEnd (h h' : Heap) (f : Str) (x C dx : Addr) (t1 : Addr) (v : Value) : Prop where
  keep : ∀ b o, b ≠ x → h.get? b = some o → h'.get? b = some o
  obj : h'.get? x = some { cls := .ref C, dict := some dx, data := .fields #[.ref t1, .none, .none, .none, .bool false, .none] }
  dbig : h.objs.size ≤ dx
  dne : dx ≠ x
  ns : h'.Ns1 dx (fun y => if y = f then some v else none)
section
variable {prog : Program} {w : World} {A : Around} {E : Value → Shared → Prop} {R : Result → Shared → Prop} {s : Shared} {K : Frag} {mg : Str → Option Value} {st : Stmt} {qual x f : Str} {C fI : Addr}
/-- what callAny asks of a method-wrapper's type -/
theorem wrapper_bound : (Value.type "method-wrapper" == Value.type "method" || Value.type "method-wrapper" == Value.type "builtin_function_or_method" ||
    Value.type "method-wrapper" == Value.type "method-wrapper") = true := by decide
/-- ValueError.__init__ bound to the fresh error at x, called: it writes its arguments anew, at t1 -/
theorem wrapper_runs {hp : Heap} {gs : Array GenState} {dr : Drawn} {tk : Nat} {os : OsState} {b x t0 : Addr} {vs : List Value} {P : Value → Shared → Prop}
    {nm q : Str} {N : Addr} {bs bm : List Value} {hdct : Bool} {sn : List Str} {sub : List Value} {ab : Bool} {col : Option Bool} {dd : Option Addr} {k0 k1 k2 k3 k5 : Option Value}
    (atC : hp.get? C = some (excClassObj nm q C N bs bm hdct sn sub ab col dd k0 k1 k2 k3 k5 "ValueError.__new__")) (atX : hp.get? x = some (excO C t0)) (atB : hp.get? b = some (kxs_mw "ValueError.__init__" x)) (fits : vs.length ≤ sizeLine)
    (then_ : ∀ h1 t1, (∀ a o, a ≠ x → hp.get? a = some o → h1.get? a = some o) → h1.get? x = some (excO C t1) → P .none ⟨h1, gs, dr, tk, os⟩) :
    wpAny (model prog w) A (call (.ref b) vs) P E ⟨hp, gs, dr, tk, os⟩ := by
  have VE := F.excBase_ValueError
  refine wpAny_call (codeAny_of_tree (show wpAny _ A.in1 (callAny (.ref b) ⟨vs, []⟩) _ _ _ from ?_))
  simp only [callAny]
  refine wpAny_bind (wpAny_load atB (?_ : wpAny _ _ _ _ _ _))
  simp only [kxs_mw, wrapper_bound, if_true]
  refine KFB.if_so (by decide) (wpAny_bind (check_bound_init VE.toExcCallFacts atC atX rfl (wpAny_bind (wpAny_pure (wpAny_pure ⟨plainId_quiet VE.init.plain _, codeAny_builtin VE.initEntry ?_⟩)))))
  exact exc_init_tree (cls := .ref C) (t0 := t0) (dv := none) (c2 := .none) (c3 := .none) (b4 := .bool false) atX fits fun h1 k1 at1 _ => then_ h1 _ k1 at1
theorem sup_init (T : SupTxt prog K mg st qual x f C fI) (hf : (st = Q.sBad ∧ f = "box") ∨ (st = Q.sFull ∧ f = "stack")) {e t0 : Addr} {v : Value} (X : K.In s.heap) (hg : s.heap.Ns mainGlobals mg) (hb : ∃ mb, s.heap.Ns builtinsNs mb ∧ ∀ y : Str, y ≠ "__name__" → mb y = bootBuiltins y)
    (hlim : s.heap.NoLimit) (hx : s.heap.get? e = some (excO C t0)) (hnx : K.lookup e = none) (hroom : A.depth < recursionLimit)
    (hq : ∀ h' tk dx t1, SupEnd s.heap h' f e C dx t1 v → R (.ok (.ret .none)) { s with heap := h', toks := tk }) :
    codeAny (model prog w) A (.call (.ref fI) ⟨[.ref e, v], []⟩) R s := by
  obtain ⟨oc, od, doc, pm, an, cda, cc, ct, osl, ho, hcd, ⟨ccl, cdd, vs, ccs, file, tf, hcda, hvs, hfile⟩, ⟨cl, cld, csl, hcc⟩⟩ := T.fn
  obtain ⟨nm, q, N, bs, bm, sn, sub, ab, col, dd, k0, k1, k2, k3, k5, hC, hbm⟩ := T.cls
  have hcl : clsIn K C = some { name := nm, bases := bs, mro := .ref C :: bm, ns := N, qualname := q, hasDict := true, slotNames := sn, subclasses := sub, abstract := ab, collection := col, hasDel := false } := by unfold clsIn; rw [hC] <;> rfl
  obtain ⟨mb, hmb, hmb2⟩ := hb
  have hsup := T.sup
  unfold ks_superIn at hsup
  rw [hcl, Option.bind_some] at hsup
  rcases hf with ⟨rfl, rfl⟩ | ⟨rfl, rfl⟩
  all_goals
    refine ks_codeAny_call_defAt (binds := [("self", .ref e), (_, v)]) hroom (X _ _ ho) rfl hlim (codeRec_of X hcd) rfl (BindsTo.of_eq (by first | rfl | with_unfolding_all rfl)) (by first | exact cellBad | exact cellFull) (List.forall_mem_cons.mpr ⟨rfl, List.forall_mem_cons.mpr ⟨rfl, by simp⟩⟩) (fun h₁ hns k => ?_)
    have X₁ : K.In h₁ := X.keeps k
    have hL : s.heap.objs.size ≠ e := Nat.ne_of_gt (Heap.lt_size hx)
    refine ks_wpAt_execs_cons (ks_wpAt_Expr_any (ks_wpAt_MethodCall ?_))
    have hD1 := X₁ _ _ hC
    refine ks_wpAt_super_base rfl rfl (by decide) rfl (X₁ _ _ ho) rfl rfl rfl (X₁ _ _ hcda) rfl hvs hfile T.top ?_
    refine ks_loadName_global rfl rfl (loadGlobal_builtin (hg.keeps k) T.gS (hmb.keeps k) ((hmb2 _ (by decide +kernel)).trans (by first | boot_by_name | rfl | kernel_rfl)) ⟨rfl, ?_⟩)
    refine wpAny_loadName_free rfl rfl rfl ⟨_, X₁ _ _ hcc, rfl⟩ ?_
    refine wpAny_loadName_local rfl rfl hns rfl ?_
    refine ks_wpAny_isType_cls hD1 rfl ⟨rfl, ?_⟩
    have hx₁ := k _ _ hx
    refine ks_wpAny_call_super hD1 rfl hx₁ rfl (by intro c z; cases z) (looks_mroIn X₁ T.mrC) (fun h₂ hso k₂ => ?_)
    have X₂ : K.In h₂ := X₁.keeps k₂
    have hx₂ := k₂ _ _ hx₁
    have I₂ : InstAt h₂ e (excO C t0) C none := ⟨hx₂, rfl, rfl, trivial⟩
    refine kxs_getMethod kxs_ValueError hso (looks_opaque X₂ T.tp) (l₀ := .ref C :: bm) (fun A Q E s k q => wpAny_bind ((looks_clsIn X₂ hcl) A _ E s k (wpAny_pure q))) rfl X₂ hsup (I₂.type.andThen (looks_subIn X₂ T.veC)) (ks_ne X₂ I₂ hcl) (by decide) ?_
    have k₃ : ∀ b o, h₂.get? b = some o → (h₂.push (kxs_mw "ValueError.__init__" e)).get? b = some o := fun b o z => Heap.get?_push_of_some _ z
    have hns₃ := (hns.keeps k₂).keeps k₃
    refine kxs_callWith (i := "ValueError.__init__") (x := e) (by rfl) (evalArgs_plain ?_)
    refine spliced_cons (ESX.ldL hns₃ rfl (spliced_nil ⟨Heap.get?_push_size _ rfl, ?_⟩))
    refine wrapper_runs (k₃ _ _ (X₂ _ _ hC)) (k₃ _ _ hx₂) (Heap.get?_push_size _ rfl) (one_fits v) fun h₄ t1 k₄ hx₄ => ?_
    have kk : ∀ b o, b ≠ e → s.heap.get? b = some o → h₄.get? b = some o := fun b o hb z => k₄ b o hb (k₃ b o (k₂ b o (k b o z)))
    have hns₄ := ns_keep hns₃ hL k₄
    have X₄ : K.In h₄ := fun b o z => kk b o (fun y => by rw [y, hnx] at z; cases z) (X b o z)
    -- self.f = f
    refine wpAt_of_wpAny ?_
    refine wpAny_execs_cons (plainObj_wpAny_Assign_Attribute ?_)
    refine ESX.ldL hns₄ rfl (ESX.ldL hns₄ rfl ?_)
    refine set_plain X₄ (ox := excO C t1) (od := none) ⟨hx₄, rfl, rfl, trivial⟩ T.sa ?_
    refine exc_osa X₄ hx₄ hcl (show refsVE (.ref C :: bm) = true from hbm) rfl T.noN (fun h₅ tk₅ dx k₅ dn dne hx₅ hn₅ => ?_)
    have z : s.heap.objs.size ≤ dx := by
      obtain ⟨oL, _, _, hLo, _⟩ := hns₄
      exact Nat.le_of_lt (Nat.lt_of_lt_of_le (Heap.lt_size hLo) dn)
    exact wpAny_execs_nil (hq h₅ tk₅ dx t1 ⟨fun b o hb y => k₅ b o hb (kk b o hb y), hx₅, z, dne, hn₅⟩)
end
end QX
/-! raise of such an error; raise C(); try with several «except C as n». -/
namespace QX
open PySem PySem.W PySem.Calls PyProof.Rows PySem.HandSPX
/-- such an error, made -/
structure SupMade (h h' : Heap) (f : Str) (e C d : Addr) (v : Value) : Prop where
  keep : ∀ b o, h.get? b = some o → h'.get? b = some o
  new : h.objs.size ≤ e
  obj : ∃ oe vs, h'.get? e = some oe ∧ oe.cls = .ref C ∧ oe.dict = some d ∧ oe.data = .fields vs ∧ vs[1]? = some .none
  dbig : h.objs.size ≤ d
  dne : d ≠ e
  ns : h'.Ns1 d (fun y => if y = f then some v else none)
section
variable {prog : Program} {w : World} {A : Around} {E : Value → Shared → Prop} {R : Result → Shared → Prop} {s : Shared} {K : Frag} {mg : Str → Option Value} {st : Stmt} {qual x f : Str} {C fI : Addr}
theorem sup_made (T : SupTxt prog K mg st qual x f C fI) (hf : (st = Q.sBad ∧ f = "box") ∨ (st = Q.sFull ∧ f = "stack")) {v : Value} (X : K.In s.heap) (hg : s.heap.Ns mainGlobals mg)
    (hb : ∃ mb, s.heap.Ns builtinsNs mb ∧ ∀ y : Str, y ≠ "__name__" → mb y = bootBuiltins y) (hlim : s.heap.NoLimit) (hroom : A.depth + 1 < recursionLimit)
    (hq : ∀ h' tk e d, SupMade s.heap h' f e C d v → R (.ok (.ret (.ref e))) { s with heap := h', toks := tk }) :
    codeAny (model prog w) A (.call (.ref C) ⟨[v], []⟩) R s := by
  obtain ⟨nm, q, N, bs, bm, sn, sub, ab, col, dd, k0, k1, k2, k3, k5, hC, hbm⟩ := T.cls
  obtain ⟨hp, g, dr, tk, os⟩ := s
  obtain ⟨mb, hmb, hmb2⟩ := hb
  have k : ∀ b o, hp.get? b = some o → ((hp.push (kdv_tup [v])).push (excO C hp.objs.size)).get? b = some o := fun b o e => Heap.get?_push_of_some _ (Heap.get?_push_of_some _ e)
  have hget : ((hp.push (kdv_tup [v])).push (excO C hp.objs.size)).get? (hp.objs.size + 1) = some (excO C hp.objs.size) := by heap_get
  have hnx : K.lookup (hp.objs.size + 1) = none := by
    cases e : K.lookup (hp.objs.size + 1) with
    | none => rfl
    | some o => exact absurd (Nat.lt_of_succ_lt (Heap.lt_size (X _ _ e))) (Nat.lt_irrefl _)
  refine call_own F.excBase_ValueError (fun X => refsVE_contains X bm hbm) (X _ _ hC) (looks_findIn X T.iC) (fun self => bind_fn X self T.tC) (one_fits v) ?_
  refine sup_init (s := ⟨(hp.push (kdv_tup [v])).push (excO C hp.objs.size), g, dr, tk, os⟩) T hf (X.keeps k) (hg.keeps k) ⟨mb, hmb.keeps k, hmb2⟩ (hlim.keeps k) hget hnx (show A.depth + 1 < recursionLimit from hroom) fun h' tk' dx t1 ⟨k', hx, dn, dne, hns⟩ => ?_
  have old : ∀ b o, hp.get? b = some o → h'.get? b = some o := fun b o e => k' b o (Nat.ne_of_lt (Nat.lt_succ_of_lt (Heap.lt_size e))) (k b o e)
  have z : hp.objs.size + 1 + 1 ≤ dx := by
    have q := dn
    rw [Heap.size_push, Heap.size_push] at q
    exact q
  exact ⟨rfl, hq h' tk' (hp.objs.size + 1) dx ⟨old, Nat.le_succ _, ⟨_, _, hx, rfl, rfl, rfl, rfl⟩, Nat.le_trans (Nat.le_trans (Nat.le_succ _) (Nat.le_succ _)) z, dne, hns⟩⟩
end
end QX
namespace QX
open PySem PySem.Spec PyProof.Rows L2
theorem relO_one {v : V} {v' : Value} (r : RelV v v') (f0 f : Str) : RelO (List.lookup f [(f0, v)]) (if f = f0 then some v' else none) := by
  by_cases hw : f = f0
  · subst hw
    rw [if_pos rfl]
    have q : List.lookup f [(f, v)] = some v := by simp [List.lookup]
    rw [q]
    exact r
  · rw [if_neg hw]
    have qw : (f == f0) = false := by simpa using hw
    have q2 : List.lookup f [(f0, v)] = none := by simp [List.lookup, qw]
    rw [q2]
    trivial
/-- C(e), C as above -/
def tMkSup (C : Addr) (f : Str) (ta : TA) : L2.St → Hp → XK → Prop := fun σ H Q => ta σ H fun vs H1 => ∃ v, vs = [v] ∧ ∀ d, H1 d = none → Q (.ref C) (some d) (upd H1 d (.xd [(f, v)]))
section
variable {X : Cx} {st : Stmt} {qual x f : Str} {C fI : Addr}
theorem pmk_sup {a : Expr} {ta : TA} {p pos : Pos} {k : Nat} (T : SupTxt X.prog X.K X.mg st qual x f C fI) (hf : (st = Q.sBad ∧ f = "box") ∨ (st = Q.sFull ∧ f = "stack")) (hr : Room k X.A) (ha : PA X [a] ta) (hg : Gl X x)
    (hdb : (x == ("__debug__" : Str)) = false := by decide) (he : starEach (a :: []) X.env = (false, eval a X.env) :: starEach [] X.env := by rfl) (hpl : (backTo pos (starEach [] X.env)).any (·.1) = false := by rfl) :
    PMk X (.Call (.Name x p) [a] [] pos) (tMkSup C f ta) := by
  intro pins s σ H Q I h
  refine wpAny_Call_Name_kw (ld_glob I hg T.gC ?_ hdb)
  refine PySem.W.callWith_K (h₀ := X.base) I.ok.mod.kin T.kC (thn (ha.run pos pins s σ H _ I h) fun us s1 hh => ?_) he hpl
  obtain ⟨vs, H1, I1, r1, v, ev, q1⟩ := hh
  subst ev
  refine ⟨I1.kIn, ?_⟩
  obtain ⟨v', rfl, rv⟩ := vals1 r1
  show wpAny _ _ (call (.ref C) [v']) _ _ _
  have hlim := I1.nolimit
  have hgl := I1.mod.glob.keeps I1.bk
  have hbl : ∃ mb, s1.heap.Ns builtinsNs mb ∧ ∀ y : Str, y ≠ "__name__" → mb y = bootBuiltins y := by
    obtain ⟨mb, h1, h2⟩ := I1.mod.blt
    exact ⟨mb, h1.keeps I1.bk, h2⟩
  obtain ⟨hp, g, dr, tk, os⟩ := s1
  refine wpAny_call (sup_made T hf I1.kIn hgl hbl hlim (by have := hr.dp; omega) fun h' tk' e d M => ?_)
  show MkP X pins σ Q (.ref e) ⟨h', g, dr, tk', os⟩
  obtain ⟨oe, fv, hoe, hc, hd, hdat, h1⟩ := M.obj
  have hns := M.ns
  obtain ⟨G', g1, g2⟩ := restrict h' fun b => decide (b ≠ e)
  have gk : ∀ b, b ≠ e → G'.get? b = h'.get? b := fun b hb => g1 b (decide_eq_true hb)
  have ge : G'.get? e = none := g2 e (by simp)
  have old : ∀ b o, hp.get? b = some o → G'.get? b = some o := fun b o q => (gk b (Nat.ne_of_lt (Nat.lt_of_lt_of_le (Heap.lt_size q) M.new))).trans (M.keep b o q)
  have ob : ObjOk X.prog X.w (upd H1 d (.xd [(f, v)])) G' d (.xd [(f, v)]) := ⟨_, hns.at (fun o q => (gk d M.dne).trans q), fun y => relO_one rv f y⟩
  have J : Inv X pins σ (upd H1 d (.xd [(f, v)])) ⟨G', g, dr, tk', os⟩ := I1.laid (t' := tk') old M.dbig ob
  refine ⟨e, oe, fv, ⟨G', g, dr, tk', os⟩, _, .ref C, some d, rfl, J, fun b o q => ?_, ge, hoe, ⟨hc, hd⟩, hdat, h1, ?_, rfl, I1.bare, raises_own T.exC T.tyC, q1 d (I1.hok.fresh M.dbig)⟩
  · by_cases hb : b = e
    · rw [show G'.get? b = none from by rw [hb]; exact ge] at q
      cases q
    · exact (gk b hb).symm.trans q
  · rw [upd_ne (Ne.symm M.dne)]
    exact I1.hok.fresh M.new
/-- C(), a class without own __init__, no argument -/
theorem pmk_own0 {bmB : List Value} {B newId initId : String} {p pos : Pos} (F : ExcBaseFacts B newId initId bmB) (q : PySem.W.excIn X.K C bmB newId = true) (gC : X.mg x = some (.ref C)) (kC : PySem.W.keepIn X.K (.ref C) = true) (r : Raises X (.ref C)) (hg : Gl X x)
    (hdb : (x == ("__debug__" : Str)) = false := by decide) : PMk X (.Call (.Name x p) [] [] pos) (fun _ H Q => Q (.ref C) none H) := by
  intro pins s σ H Q I h
  refine wpAny_Call_Name_kw (ld_glob I hg gC ?_ hdb)
  refine PySem.W.callWith_K0 I.kIn kC ?_
  show wpAny _ _ (call (.ref C) []) _ _ _
  obtain ⟨bm, N, nm, qn, bs, hdct, sn, sub, ab, col, dd, k0, k1, k2, k3, k5, mN, hC, hN, hni, T⟩ := exc_obj I.kIn q
  refine wpAny_call_exc_subT F T hC hN hni (fun h' e hm => ?_) (Nat.zero_le _)
  exact mk_of I hm r h (I.hok.gone hm.new)
end
/-! ### several clauses, each with a name or without -/
/-- a clause: its class, the slot of its name, its suite's reading -/
structure Cl where
  c : Value
  i : Option Nat
  ts : Addr → Value → Option Addr → TS
def clEnds (i : Option Nat) (D : Ends) : Ends := match i with
  | none => D
  | some i => { nx := fun σ' H' => D.nx (σ'.set i none) H', rt := D.rt, bk := fun σ' H' => D.bk (σ'.set i none) H', ct := fun σ' H' => D.ct (σ'.set i none) H' }
def clSet (i : Option Nat) (a : Addr) (σ : L2.St) : L2.St := match i with
  | none => σ
  | some i => σ.set i (some (.ref a))
def wCls (K : PySem.W.Frag) (Wout : WX) (D : Ends) : List Cl → WX
  | [] => Wout
  | k :: r => fun cls d σ H => ∃ b, PySem.W.exmOne K cls k.c = some b ∧ (b = true → ∀ a, H a = none → k.ts a cls d (clEnds k.i D) (clSet k.i a σ) H) ∧ (b = false → wCls K Wout D r cls d σ H)
/-- the name of a clause and its slot agree -/
def NameOk (X : Cx) (n : Option Str) (i : Option Nat) : Prop := match n, i with
  | none, none => True
  | some n, some i => X.N[i]? = some n ∧ X.env.kindOf n = some .local
  | _, _ => False
inductive ClsOk (X : Cx) : List ExceptHandler → List Cl → Prop
  | nil : ClsOk X [] []
  | cons {x : Str} {n : Option Str} {k : Cl} {b₀ : Stmt} {suite : List Stmt} {np pos' : Pos} {hds : List ExceptHandler} {l : List Cl} (hc : Names X x k.c) (hn : NameOk X n k.i)
      (hsu : ∀ (a : Addr) (oe : Obj) (cls : Value) (d : Option Addr) (pn : List (Addr × Obj)), Zc cls d oe → (∃ vs, oe.data = .fields vs) → PSs (X.suite a ((a, oe) :: pn)) (b₀ :: suite) (k.ts a cls d)) (r : ClsOk X hds l) :
      ClsOk X (.ExceptHandler (some (.Name x np)) n (b₀ :: suite) pos' :: hds) (k :: l)
/-! What is caught is kept in one record; each step of the handling is a lemma about it. -/
section
variable {X : Cx} {pins : List (Addr × Obj)}
/-- from the ends of one reading to the ends of another at the same slots -/
theorem ends_via {Y : Cx} {p q : List (Addr × Obj)} {D : Ends} {f : Flow} {t : Shared} (go : ∀ {σ H}, Inv Y p σ H t → Inv X q σ H t) : SP Y p D f t → SP X q D f t := by
  cases f with
  | ret u => exact fun ⟨v, σ, H, J, r⟩ => ⟨v, σ, H, go J, r⟩
  | next => exact fun ⟨σ, H, J, r⟩ => ⟨σ, H, go J, r⟩
  | brk => exact fun ⟨σ, H, J, r⟩ => ⟨σ, H, go J, r⟩
  | cont => exact fun ⟨σ, H, J, r⟩ => ⟨σ, H, go J, r⟩
/-- at t the error at a has come down to the frame of X; without it the state was that of σ and H -/
structure Caught (X : Cx) (pins : List (Addr × Obj)) (σ : L2.St) (H : Hp) (a : Addr) (c : Value) (d : Option Addr) (B : Heap) (t₀ t : Shared) : Prop where
  inv : Inv X pins σ H t₀
  ground : ∀ b o, t₀.heap.get? b = some o → b ∉ frs X.stack → B.get? b = some o
  grown : t₀.heap.UpToSlots t.heap
  fly : HandSPX.FlyingZ B (X.env :: X.outer) a (Zc c d) t.heap
  free : H a = none
  world : t.os = t₀.os
  bare : AllBare t.gens
variable {σ : L2.St} {H : Hp} {a : Addr} {c : Value} {d : Option Addr} {B : Heap} {t₀ t : Shared}
theorem Caught.moved (x : Caught X pins σ H a c d B t₀ t) {h : Heap} (fl : HandSPX.FlyingZ B (X.env :: X.outer) a (Zc c d) h) (up : t.heap.UpToSlots h) : Caught X pins σ H a c d B t₀ { t with heap := h } :=
  ⟨x.inv, x.ground, x.grown.trans up, fl, x.free, x.world, x.bare⟩
/-- the frames are no records: the error's place is none of theirs -/
theorem Caught.apart (x : Caught X pins σ H a c d B t₀ t) : a ∉ frs (X.env :: X.outer) := by
  intro inFrames
  obtain ⟨_, _, _, fly⟩ := x.fly
  obtain ⟨o₁, vs, _, _, _, at₁, _, data₁, _⟩ := fly
  obtain ⟨_, o₂, at₂, noRec⟩ := x.fly.2.2.1.mem inFrames
  cases at₁.symm.trans at₂
  exact noRec _ data₁
/-- what a suite of a clause starts from -/
theorem Caught.start (hf : X.env.frame = some X.env.locals) (x : Caught X pins σ H a c d B t₀ t) :
    ∃ oe vs, t.heap.get? a = some oe ∧ Zc c d oe ∧ oe.data = .fields vs ∧ Inv (X.suite a ((a, oe) :: (X.pn ++ pins))) [] σ H t := by
  obtain ⟨oe, vs, at_, z, data_⟩ := x.fly.there
  have far := x.apart
  have away : ∀ e ∈ X.env :: X.outer, e.frame ≠ some a := fun e he q => far (List.mem_filterMap.mpr ⟨e, he, q⟩)
  refine ⟨oe, vs, at_, z, data_, (x.inv.landed x.ground x.fly.1 x.grown x.world x.bare).suite at_ data_ x.free (fun q => away _ List.mem_cons_self (by rw [hf, q])) (fun inFs => ?_)⟩
  obtain ⟨e, he, q⟩ := List.mem_filterMap.mp inFs
  exact away e (.tail _ he) q
/-- no clause takes it: it goes on -/
theorem Caught.goesOn (hs : X.stack = X.env :: X.outer) (hf : X.env.frame = some X.env.locals) (x : Caught X pins σ H a c d B t₀ t) {W : WX} (tk : Takes X W) (w : W c d σ H) {Q : Flow → Shared → Prop} :
    wpAny (model X.prog X.w) X.A (handleBy (.ref a) X.env []) Q X.xe t := by
  have rest : wpAny (model X.prog X.w) X.A (setFlight (.ref a) X.env.frame) (fun _ t₁ => wpAny (model X.prog X.w) X.A (throw (.ref a) : Sem Flow) Q X.xe t₁) X.xe t := by
    rw [hf]
    exact HandSPX.setFlight_upZ x.fly fun h₁ held up => wpAny_throw (tk _ _ ⟨a, B, t₀, pins, σ, H, c, d, rfl, x.inv, x.ground, x.grown.trans up, .inr (.inr (hs ▸ held)), x.free, x.world, x.bare, w⟩)
  obtain ⟨oe, vs, T, _, _, at_, _, data_, slot1, _⟩ := x.fly.2.2.2
  refine wpAny_handleBy_nil (show wpAny _ _ (PySem.passOn _ _ _) _ _ _ from ?_)
  unfold PySem.passOn
  refine wpAny_bind (wpAny_field at_ data_ slot1 ?_)
  rw [if_neg (by simp : ¬ (Value.ref T == Value.none) = true)]
  first
    | exact wpAny_bind rest
    | exact wpAny_bind (wpAny_pure (wpAny_bind rest))
/-- the test of a clause: its class read, then asked -/
theorem Caught.asked (hf : X.env.frame = some X.env.locals) (x : Caught X pins σ H a c d B t₀ t) {y : Str} {p : Pos} {cv : Value} {b : Bool} (hc : Names X y cv) (hb : PySem.W.exmOne X.K c cv = some b) {Q : Bool → Shared → Prop} {E : Value → Shared → Prop} (q : Q b t) :
    wpAny (model X.prog X.w) (X.A.mark (some (.ref a))) (eval (.Name y p) X.env) (fun v t₁ => wpAny (model X.prog X.w) (X.A.mark (some (.ref a))) (excMatches (.ref a) v) Q E t₁) E t := by
  obtain ⟨oe, vs, at_, z, _, S⟩ := x.start hf
  have told := (PySem.W.exm_one (M := model X.prog X.w) S.kIn (e := a) (fun _ _ _ _ k r => wpAny_typeOf_ref (k _ _ at_) (z.1.symm ▸ r)) hb).here (A := X.A.mark (some (.ref a))) (E := E) (Q := Q) q
  obtain ⟨hg, hdb, hm | ⟨hm, hv, hn⟩⟩ := hc
  · exact ld_glob (X := X.suite a _) S hg hm told hdb
  · exact ld_blt (X := X.suite a _) S hg hm hv told hn hdb
variable {k : Cl} {n : Option Str} {b₀ : Stmt} {suite : List Stmt} {D : Ends} {pos : Pos}
/-- the suite of the clause that takes it -/
theorem Caught.taken (ok : X.Ok) (hf : X.env.frame = some X.env.locals) (hN : X.N.Nodup) (x : Caught X pins σ H a c d B t₀ t) (hn : NameOk X n k.i)
    (hsu : ∀ (a : Addr) (oe : Obj) (cls : Value) (d : Option Addr) (pn : List (Addr × Obj)), Zc cls d oe → (∃ vs, oe.data = .fields vs) → PSs (X.suite a ((a, oe) :: pn)) (b₀ :: suite) (k.ts a cls d))
    (w : k.ts a c d (clEnds k.i D) (clSet k.i a σ) H) {R : Result → Shared → Prop}
    (hR : ∀ f t₁, (match n with | none => SP X pins D f t₁ | some n => wpAny (model X.prog X.w) X.A (do bindName X.env n .none; unbindBehindTheSuite X.env n pos) (fun _ t₂ => SP X pins D f t₂) X.xe t₁) → R (.ok f) t₁) :
    codeAny (model X.prog X.w) (X.A.mark (some (.ref a))) (.handlers (.ref a) [.ExceptHandler none n (b₀ :: suite) pos] X.env) R t := by
  obtain ⟨kc, ki, kts⟩ := k
  cases n with
  | none =>
    cases ki with
    | some _ => exact hn.elim
    | none =>
      refine codeAny_handlers_suite (HandSPX.lands_againZ x.fly fun h₁ fl up => ?_)
      obtain ⟨oe, vs, _, z, data_, S⟩ := (x.moved fl up).start hf
      exact wpAny_mono ((hsu a oe c d _ z ⟨_, data_⟩).run [] _ _ _ _ S w) (fun f t₁ e => hR f t₁ (ends_via (fun J => J.unsuite ok) e)) fun _ _ no => False.elim no
  | some n =>
    cases ki with
    | none => exact hn.elim
    | some i =>
      refine codeAny_handlers_suite_as (HandSPX.lands_againZ x.fly fun h₁ fl up => ?_)
      obtain ⟨oe, vs, _, z, data_, S⟩ := (x.moved fl up).start hf
      refine store_ok (X := X.suite a _) (v := .ref a) S hN hn.1 (Or.inl hn.2 : Loc X.env.scope n) rfl (fun t₁ S₁ => ?_) (.inr hn.2)
      refine wpAny_mono ((hsu a oe c d _ z ⟨_, data_⟩).run [] _ _ _ _ S₁ w) (fun f t₂ e => hR f t₂ ?_) fun _ _ no => False.elim no
      cases f with
      | ret u =>
        obtain ⟨v, _, _, S₂, r, q⟩ := e
        exact gone_ok (S₂.unsuite ok) hN hn.1 hn.2 fun _ J => ⟨v, _, _, J, r, q⟩
      | next => exact e.elim fun _ e => e.elim fun _ e => gone_ok (e.1.unsuite ok) hN hn.1 hn.2 fun _ J => ⟨_, _, J, e.2⟩
      | brk => exact e.elim fun _ e => e.elim fun _ e => gone_ok (e.1.unsuite ok) hN hn.1 hn.2 fun _ J => ⟨_, _, J, e.2⟩
      | cont => exact e.elim fun _ e => e.elim fun _ e => gone_ok (e.1.unsuite ok) hN hn.1 hn.2 fun _ J => ⟨_, _, J, e.2⟩
/-- the clauses, one after the other -/
theorem Caught.handled (ok : X.Ok) (hs : X.stack = X.env :: X.outer) (hf : X.env.frame = some X.env.locals) (hN : X.N.Nodup) (x : Caught X pins σ H a c d B t₀ t) {W : WX} (tk : Takes X W) :
    ∀ {hds : List ExceptHandler} {l : List Cl}, ClsOk X hds l → wCls X.K W D l c d σ H → wpAny (model X.prog X.w) X.A (handleBy (.ref a) X.env hds) (SP X pins D) X.xe t
  | _, _, .nil, w => x.goesOn hs hf tk w
  | _, _, .cons hc hn hsu r, w => by
    obtain ⟨b, asks, yes, no⟩ := w
    refine wpAny_handleBy_cons (codeAny_handlers_test (x.asked hf hc asks ?_)) (by intro q; cases q)
    cases b with
    | true => exact x.taken ok hf hN hn hsu (yes rfl a x.free) fun f t₁ e => by rename_i n _ _ _ _ _ _ _ _; cases n <;> exact e
    | false => exact x.handled ok hs hf hN tk r (no rfl)
end
section
variable {X : Cx} {body : List Stmt} {h₀ : ExceptHandler} {hds : List ExceptHandler} {l : List Cl} {pos : Pos} {tb : WX → TS} {Wout : WX}
/-- try with any number of clauses, each with a name or without -/
theorem ps_try_cls (hs : X.stack = X.env :: X.outer) (hf : X.env.frame = some X.env.locals) (hN : X.N.Nodup) (tk : Takes X Wout)
    (hb : ∀ (W : WX) (pn : List (Addr × Obj)) (xe : Value → Shared → Prop), Takes (X.tr pn xe) W → PassesOwn (model X.prog X.w) X.A X.env xe → PSs (X.tr pn xe) body (tb W))
    (hh : ClsOk X (h₀ :: hds) l) : PS X (.Try body (h₀ :: hds) [] [] pos) (fun D σ H => tb (wCls X.K Wout D l) D σ H) := by
  refine ⟨fun pins s σ H D I h => wpAny_Try_except (wpAny_mono ((hb (wCls X.K Wout D l) (X.pn ++ pins) _ ?_ PassesOwn.looking).run [] s σ H D (I.toTry _) h) (fun f t e => ?_) fun _ _ e => e)⟩
  · rintro _ t ⟨a, B, t₀, _, σ₁, H₁, c, d, rfl, J, ground, grown, sky, free, world, bare, w⟩
    have J₁ : Inv X pins σ₁ H₁ t₀ := J.ofTry I.ok
    exact Sky.land Zc.steady (I.ok.frames.trans (congrArg some hs)) hf (hs ▸ sky) fun h₁ fl up =>
      Caught.handled I.ok hs hf hN (t₀ := t₀) (t := { t with heap := h₁ }) ⟨J₁, ground, grown.trans up, fl, free, world, bare⟩ tk hh w
  · have z := ends_via (fun J => J.ofTry I.ok) e
    cases f with
    | next => exact wpAny_execs_nil z
    | ret _ => exact z
    | brk => exact z
    | cont => exact z
end
end QX
/-! sorted(l, key=lambda box: (-boxes[box][1], box)), boxes captured: the rule. -/
namespace Q
open L2
/-- a natural number as a value -/
abbrev nV (n : Nat) : V := .int (n : Int)
end Q
namespace QL
open PySem PySem.Spec PySem.Calls PyProof.Rows PySem.W L2 LamX Q
/-- the lambda's scope, its parameters, its body -/
def lScope : Scope := { kind := .function, names := [("box", .local), ("boxes", .free)], isGenerator := false, isCoroutine := false, more := [] }
def lArgs (q : Pos) : Arguments := { posonlyargs := [], args := [{ arg := "box", annotation := none, pos := q }], vararg := none, kwonlyargs := [], kw_defaults := [], kwarg := none, defaults := [] }
def lBody (p1 p2 p3 p4 p5 p6 p7 p8 : Pos) : Expr := .Tuple [.UnaryOp .USub (.Subscript (.Subscript (.Name "boxes" p1) (.Name "box" p2) p3) (.Constant (.int 1) 0 p4) p5) p6, .Name "box" p7] 0 p8
theorem lScope_cell : ∀ y ∈ lScope.names, y.2 ≠ .cell := by decide +kernel
section
variable {prog : Program} {w : World} {A : Around} {E : Value → Shared → Prop} {s : Shared}
/-- the body, run -/
theorem body_run {env : Env} {m : Str → Option Value} {n : Nat} {z : Int} {tn tz : Tok} {c lb tu : Addr} {its : List Value} {v0 : Value} {p1 p2 p3 p4 p5 p6 p7 p8 : Pos} (hns : s.heap.Ns env.locals m) (hm : m "box" = some (.int n tn))
    (hk : env.scope.kind = .function) (hb : env.kindOf "box" = some .local) (hbs : env.kindOf "boxes" = some .free) (hc : env.cells.lookup ("boxes" : Str) = some c) (hcell : s.heap.IsCell c (some (.ref lb)))
    (hl : s.heap.IsList lb its.toArray) (hn : its[n]? = some (.ref tu)) (hlen : its.length ≤ sizeLine) (ht : IsTup s.heap tu #[v0, .int z tz]) :
    wpAny (model prog w) A (eval (lBody p1 p2 p3 p4 p5 p6 p7 p8) env) (fun v s' => ∃ tk t1, v = .ref s.heap.objs.size ∧ s' = { s with heap := s.heap.push { cls := .type "tuple", data := .seq #[.int (-z) t1, .int n tn] }, toks := tk }) E s := by
  have hn63 := line63
  have hnl : n < its.length := (List.getElem?_eq_some_iff.mp hn).1
  refine wpAny_Tuple_spliced (Calls.spliced_cons (UnaryOp_ (Subscript_ (Subscript_ ?_))))
  refine wpAny_Name (wpAny_loadName_free hk hbs hc hcell ?_) (by decide)
  refine wpAny_Name (wpAny_loadName_local hk hb hns hm ?_) (by decide)
  refine item_listR hl (Int.natCast_nonneg n) (by omega) (by rw [Int.toNat_natCast]; simpa using hn) ?_ (by with_unfolding_all rfl)
  refine wpAny_Constant_int ?_
  refine subscriptTail_builtinR (x := .int z tz) (show Shared.TypeIs { s with toks := s.toks + 1 } (.ref tu) "tuple" from ht.typeIs) slot_tuple_getitem.lookup (PyProof.Rows.getItem_tuple (s := { s with toks := s.toks + 1 }) (k := 1) (u := s.toks) (j := 1) (x := .int z tz) ht (by decide) (by decide) (show seqIndex? 1 2 = some 1 by decide +kernel) rfl ⟨rfl, ?_⟩) (by with_unfolding_all rfl)
  refine PyProof.Rows.neg_int ?_
  refine Calls.spliced_cons (wpAny_Name (wpAny_loadName_local hk hb hns hm ?_) (by decide))
  refine Calls.spliced_nil ⟨(by show 2 ≤ sizeLine; decide), ?_⟩
  exact ⟨_, _, rfl, rfl⟩
/-- the lambda, called by the sort with the int n, in a heap h that keeps all -/
theorem lam_call {cl : List (Str × Addr)} {qual : Str} {pm ctv : Value} {q : Pos} {f c' c lb tu : Addr} {n : Nat} {z : Int} {tn tz : Tok} {its : List Value} {v0 : Value} {p1 p2 p3 p4 p5 p6 p7 p8 : Pos}
    (hroom : A.depth < recursionLimit) (hlim : s.heap.NoLimit) (hf : s.heap.get? f = some (kla_obj "<lambda>" qual (lArgs q) (lBody p1 p2 p3 p4 p5 p6 p7 p8) lScope cl pm c' ctv)) (hcd : s.heap.CodeRec (.ref c') qual)
    (hc : cl.lookup ("boxes" : Str) = some c) (hcell : s.heap.IsCell c (some (.ref lb))) (hl : s.heap.IsList lb its.toArray) (hn : its[n]? = some (.ref tu)) (hlen : its.length ≤ sizeLine) (ht : IsTup s.heap tu #[v0, .int z tz]) :
    wpAny (model prog w) A (call (.ref f) [.int n tn]) (KeyPure (PyData.tuple [PyData.int (-z), PyData.int (n : Int)]) s) (fun _ _ => False) s := by
  have rc : codeAny (model prog w) A (.call (.ref f) ⟨[.int n tn], []⟩) (fun r s' => match r with | .ok (.ret v) => KeyPure (PyData.tuple [PyData.int (-z), PyData.int (n : Int)]) s v s' | _ => False) s := by
    refine kla_callFunE hroom hf rfl rfl rfl rfl hcd ?_
    rw [show bindArgs (kla_fn "<lambda>" qual (lArgs q) (lBody p1 p2 p3 p4 p5 p6 p7 p8) lScope cl pm (.ref c') ctv) ⟨[.int n tn], []⟩ = pure [(("box" : Str), Value.int n tn)] from by first | rfl | with_unfolding_all rfl]
    refine wpAny_pure (wpAny_newFunctionEnv lScope_cell (List.forall_mem_cons.mpr ⟨rfl, by simp⟩) (fun h₁ hns hsb => ⟨hlim.fresh _ hsb, ?_⟩) rfl)
    have kp (b : Addr) (o : Obj) (there : s.heap.get? b = some o) : h₁.get? b = some o := hsb.extBut _ _ (fun same => Nat.lt_irrefl _ (same ▸ Heap.lt_size there)) (Heap.get?_push_of_some _ there)
    refine kla_codeExpr (wpAny_mono (body_run (E := fun _ _ => False) (s := { s with heap := h₁, toks := s.toks + 1 }) (c := c) (lb := lb) (tu := tu) (its := its) (v0 := v0) (z := z) (tz := tz) hns (tn := tn) (n := n) rfl rfl rfl rfl hc ?_ ?_ hn hlen ?_) (fun v s' hv => ?_) fun _ _ hF => ?_)
    · obtain ⟨o, ho, hd⟩ := hcell
      exact ⟨o, kp _ _ ho, hd⟩
    · obtain ⟨o, ho, hr⟩ := hl
      exact ⟨o, kp _ _ ho, hr⟩
    · obtain ⟨o, ho, hr⟩ := ht
      exact ⟨o, kp _ _ ho, hr⟩
    · obtain ⟨tk, t1, rfl, rfl⟩ := hv
      refine ⟨_, tk, rfl, fun b o e => Heap.get?_push_of_some _ (kp b o e), ?_⟩
      refine Reads.tuple (as := []) (Heap.get?_push_size _ rfl) rfl rfl ?_
      exact ReadsAll.cons (as := []) (bs := []) (Reads.int _ _) (ReadsAll.cons (as := []) (bs := []) (Reads.int _ _) ReadsAll.nil)
    · exact (show False from hF).elim
  refine wpAny_call (codeAny_mono rc fun r s' hq => ?_)
  cases r with
  | error e => exact hq.elim
  | ok fl =>
    cases fl with
    | ret u => exact hq
    | next => exact hq.elim
    | brk => exact hq.elim
    | cont => exact hq.elim
end
/-- the order of the boxes of one load: the later a box's to, the lower; of equal ones the smaller number -/
def leTo (to : Nat → Int) (x y : Nat) : Bool := decide (-(to x) < -(to y) ∨ (-(to x) = -(to y) ∧ (x : Int) ≤ (y : Int)))
/-- the reading of sorted(l, key=lambda box: (-boxes[box][1], box)), boxes in slot 0 -/
def tSortKey (K : Frag) (T : List (Addr × Str)) (tl : TE) : TE := fun σ H Q => tl σ H fun x H1 => ∃ (a lb : Addr) (ns : List Nat) (xs : List V) (to : Nat → Int), x = .ref a ∧ SqL K H1 a (ns.map nV) ∧ ns.length ≤ sizeLine ∧ σ[0]? = some (some (.ref lb)) ∧ Tabs T H1 ∧
  SqL K H1 lb xs ∧ (∀ n ∈ ns, ∃ (t : Addr) (v0 : V), xs[n]? = some (.ref t) ∧ SqT K H1 t [v0, .int (to n)]) ∧
  ∀ H2 p, ExtN H1 H2 → Tabs T H2 → H2 p = none → Q (.ref p) (upd H2 p (.lst ((ns.mergeSort (leTo to)).map nV)))
theorem ext_l {K : Frag} {H H' : Hp} {a : Addr} {xs : List V} (e : ExtN H H') (h : SqL K H a xs) : SqL K H' a xs := by
  rcases h with (h | ⟨o, h⟩) | h
  · exact .inl (.inl (e _ _ h fun ps z => nomatch z))
  · exact .inl (.inr ⟨o, e _ _ h fun ps z => nomatch z⟩)
  · exact .inr h
theorem ext_t {K : Frag} {H H' : Hp} {a : Addr} {xs : List V} (e : ExtN H H') (h : SqT K H a xs) : SqT K H' a xs := by
  rcases h with (h | ⟨o, h⟩) | h
  · exact .inl (.inl (e _ _ h fun ps z => nomatch z))
  · exact .inl (.inr ⟨o, e _ _ h fun ps z => nomatch z⟩)
  · exact .inr h
theorem each_ints : ∀ {ns : List Nat} {its : List Value}, Vals (ns.map nV) its → EachIs (fun (v : Value) (n : Nat) => ∃ t, v = .int n t) its ns
  | [], _, r => by
    cases r
    exact .nil
  | n :: ns, _, r => by
    cases r with
    | cons rv r => exact .cons rv (each_ints r)
theorem ints_each : ∀ {ns : List Nat} {its : List Value}, EachIs (fun (v : Value) (n : Nat) => ∃ t, v = .int n t) its ns → Vals (ns.map nV) its
  | _, _, .nil => .nil
  | _, _, .cons h r => .cons h (ints_each r)
section
variable {X : Cx}
theorem pe_sortKey {T : List (Addr × Str)} {c P : Addr} {k : Nat} {p kpos lpos pos q p1 p2 p3 p4 p5 p6 p7 p8 : Pos} {l : Expr} {tl : TE} (hg : Gl X "sorted") (hm : X.mg "sorted" = none) (TB : TabB X.base X.mg c P) (hcode : X.env.code = .ref c)
    (hmT : (P, X.env.qual ++ "<lambda>") ∈ T) (hu : ∀ p ∈ T, p.1 = P → p.2 = X.env.qual ++ "<lambda>") (hr : Room k X.A) (hN : X.N[0]? = some ("boxes" : Str)) (hfree : X.env.scope.names.lookup ("boxes" : Str) = some .cell) (hl : PE X l tl)
    (hst : starEach (l :: []) X.env = (false, eval l X.env) :: starEach [] X.env := by rfl)
    (he : backTo pos (starEach (l :: []) X.env) = (false, eval l X.env) :: backTo pos (starEach [] X.env) := by rfl) (hpl : (backTo pos (starEach (l :: []) X.env)).any (·.1) = false := by rfl) :
    PE X (.Call (.Name "sorted" p) [l] [⟨some "key", .Lambda (lArgs q) (lBody p1 p2 p3 p4 p5 p6 p7 p8) lScope lpos, kpos⟩] pos) (tSortKey X.K T tl) := by
  refine ⟨fun pins s σ H Q I h => ?_⟩
  refine wpAny_Call_Name_kw (ld_blt I hg hm boot_sorted ?_)
  refine PyProof.Rows.callWith_kw ?_ he hpl rfl rfl
  rw [he]
  refine Calls.spliced_cons (thn (hl.run pins s σ H _ I h) fun u s1 ⟨x, H1, I1, r1, a, lb, ns, xs, to, ev, hS, hlen, hσ, hT, hL, hB, q⟩ => Calls.spliced_nil ?_)
  subst ev
  obtain rfl : u = Value.ref a := r1
  show wpAny _ _ (evalAll ((do let v ← eval (.Lambda (lArgs _) (lBody _ _ _ _ _ _ _ _) lScope lpos) X.env; standAt pos; pure v) :: [])) _ _ s1
  have fr : ∀ y ∈ lScope.names, y.2 = .free → ∃ c, X.env.cells.lookup y.1 = some c := fun y hy e => by
    have hy' : y = (("box" : Str), NameKind.local) ∨ y = (("boxes" : Str), NameKind.free) := by simpa [lScope] using hy
    rcases hy' with rfl | rfl
    · cases e
    · exact I.ok.has _ (.inl hfree)
  refine wpAny_evalAll_cons (wpAny_bind (lam_make2 I1 TB hcode hmT hu hT rfl fr fun f c' pm ctv H2 s2 I2 eN T2 hf hfn hfr hco => wpAny_bind (wpAny_standAt (wpAny_pure ?_))))
  refine wpAny_evalAll_nil ?_
  show wpAny _ _ (call (.builtin "sorted") [.ref a] [(PySem.Str.ofString "key", .ref f)]) _ _ s2
  obtain ⟨its, rv, hpl1, hz1⟩ := I2.list (ext_l eN hS)
  obtain ⟨itb, rvb, hpl2, hz2⟩ := I2.list (ext_l eN hL)
  obtain ⟨cB, hcB⟩ := I.ok.has "boxes" (.inl hfree)
  have hcl : (cloFrom X.env.cells lScope.names []).lookup ("boxes" : Str) = some cB := by
    unfold lScope
    simp [cloFrom, hcB]
  have hcell : s2.heap.IsCell cB (some (.ref lb)) := by
    obtain ⟨m, hn, hlk⟩ := I2.loc
    obtain ⟨u', ru, q2⟩ := hlk 0 "boxes" (.ref lb) hN hσ (.inr (.inl hfree))
    obtain rfl : u' = Value.ref lb := ru
    rcases q2 with ⟨k', _⟩ | ⟨_, c2, e2, z⟩
    · rw [show X.env.kindOf "boxes" = some NameKind.cell from hfree] at k'
      cases k'
    · rw [hcB] at e2
      cases e2
      exact z
  obtain ⟨⟨oc, vc, tc, hoc, hdc, hvc⟩, _, _⟩ := I2.hok c' _ hco
  have hun := hr.un
  refine sorted_key_data (R := fun (v : Value) (n : Nat) => ∃ t, v = .int n t) (bs := ns) (b := false) (fun n : Nat => PyData.tuple [PyData.int (-(to n)), PyData.int (n : Int)]) hpl1.isList (each_ints rv) (AllAlike.of fun _ _ => rfl) (Sortable.tuples fun b => ⟨_, _, rfl⟩) hlen (fun x _ => ?_) (ksk_s1 _ _) (fun _ => ksk_l1 _ _) (fun _ => ksk_t1 f _) (fun v n hR hn h tk kp => ?_) fun out e h2 tk kp fresh hD hl2 hE => ?_
  · show X.A.units + 2 + 1 < cLine
    omega
  · obtain ⟨tn, rfl⟩ := hR
    obtain ⟨tu, v0, hx, hTu⟩ := hB n hn
    obtain ⟨w1, hw1, rw1⟩ := rvb.get hx
    obtain rfl : w1 = Value.ref tu := rw1
    obtain ⟨it2, rv2, hpt, _⟩ := I2.tuple (ext_t eN hTu)
    obtain ⟨y1, y2, rfl, ry1, ⟨tz, rfl⟩⟩ := vals2 rv2
    have hd := hr.dp
    have hl3 := hpl2.isList
    refine lam_call (s := { s2 with heap := h, toks := tk }) (c := cB) (lb := lb) (tu := tu) (its := itb) (v0 := y1) (tz := tz) (show X.A.depth < recursionLimit by omega) (I2.nolimit.keeps kp) (kp _ _ hf) ⟨c', oc, vc, tc, rfl, kp _ _ hoc, hdc, hvc⟩ hcl ?_ ?_ hw1 (by rw [← rvb.length]; exact hz2) ?_
    · obtain ⟨o, ho, hd⟩ := hcell
      exact ⟨o, kp _ _ ho, hd⟩
    · obtain ⟨o, ho, hr⟩ := hl3
      exact ⟨o, kp _ _ ho, hr⟩
    · obtain ⟨o, ho, hr⟩ := hpt
      exact ⟨o, kp _ _ ho, hr⟩
  · rw [dataLe_ii] at hE
    refine ⟨.ref _, upd H2 (s2.heap.objs.size + 1) (.lst ((ns.mergeSort (leTo to)).map nV)), I2.laid (t' := tk) kp (Nat.le_succ _) ⟨?_, out, e, ints_each hE, hD⟩, rfl, q _ _ eN T2 (I2.hok.fresh (Nat.le_succ _))⟩
    rw [List.length_map, List.length_mergeSort]
    exact hlen
end
end QL
/-! Data in the heap; what is kept; what expressions evaluate to, up to data. -/
namespace Q
open PySem PySem.Spec PyProof.Rows L2 Evl LamX
/-- ints, texts, tuples of such -/
inductive Dat where
  | int (i : Int)
  | str (s : Str)
  | tup (ds : List Dat)
mutual
inductive DAt (H : Hp) : V → Dat → Prop
  | int (i : Int) : DAt H (.int i) (.int i)
  | str (s : Str) : DAt H (.str s) (.str s)
  | tup {a : Addr} {vs : List V} {ds : List Dat} : H a = some (.tup vs) → DsAt H vs ds → DAt H (.ref a) (.tup ds)
inductive DsAt (H : Hp) : List V → List Dat → Prop
  | nil : DsAt H [] []
  | cons {v : V} {d : Dat} {vs : List V} {ds : List Dat} : DAt H v d → DsAt H vs ds → DsAt H (v :: vs) (d :: ds)
end
/-- tuples are kept -/
def TK (H H' : Hp) : Prop := ∀ b xs, H b = some (.tup xs) → H' b = some (.tup xs)
mutual
theorem DAt.tk {H H' : Hp} (e : TK H H') {v : V} {d : Dat} : DAt H v d → DAt H' v d
  | .int i => .int i
  | .str s => .str s
  | .tup h r => .tup (e _ _ h) (DsAt.tk e r)
theorem DsAt.tk {H H' : Hp} (e : TK H H') {vs : List V} {ds : List Dat} : DsAt H vs ds → DsAt H' vs ds
  | .nil => .nil
  | .cons h r => .cons (DAt.tk e h) (DsAt.tk e r)
end
theorem TK.ex {H H' : Hp} (e : Ex H H') : TK H H' := fun b _ h => e b _ h
theorem DsAt.length {H : Hp} : ∀ {vs : List V} {ds : List Dat}, DsAt H vs ds → vs.length = ds.length
  | _, _, .nil => rfl
  | _, _, .cons _ r => by rw [List.length_cons, List.length_cons, DsAt.length r]
theorem DsAt.get {H : Hp} : ∀ {vs : List V} {ds : List Dat} {n : Nat} {d : Dat}, DsAt H vs ds → ds[n]? = some d → ∃ v, vs[n]? = some v ∧ DAt H v d
  | _, _, n, d, .nil, h => by simp at h
  | _, _, 0, d, .cons h r, e => by
    simp at e
    subst e
    exact ⟨_, rfl, h⟩
  | _, _, n + 1, d, .cons h r, e => by
    obtain ⟨v, h1, h2⟩ := DsAt.get (n := n) r (by simpa using e)
    exact ⟨v, by simpa using h1, h2⟩
theorem DsAt.get' {H : Hp} : ∀ {vs : List V} {ds : List Dat} {n : Nat} {v : V}, DsAt H vs ds → vs[n]? = some v → ∃ d, ds[n]? = some d ∧ DAt H v d
  | _, _, n, d, .nil, h => by simp at h
  | _, _, 0, d, .cons h r, e => by
    simp at e
    subst e
    exact ⟨_, rfl, h⟩
  | _, _, n + 1, d, .cons h r, e => by
    obtain ⟨v, h1, h2⟩ := DsAt.get' (n := n) r (by simpa using e)
    exact ⟨v, by simpa using h1, h2⟩
theorem DsAt.app {H : Hp} : ∀ {vs ws : List V} {ds es : List Dat}, DsAt H vs ds → DsAt H ws es → DsAt H (vs ++ ws) (ds ++ es)
  | _, _, _, _, .nil, r => r
  | _, _, _, _, .cons h q, r => .cons h (q.app r)
theorem DsAt.one {H : Hp} {v : V} {d : Dat} (h : DAt H v d) : DsAt H [v] [d] := .cons h .nil
theorem DsAt.take {H : Hp} : ∀ {vs : List V} {ds : List Dat} (n : Nat), DsAt H vs ds → DsAt H (vs.take n) (ds.take n)
  | _, _, 0, _ => .nil
  | _, _, n + 1, .nil => .nil
  | _, _, n + 1, .cons h r => .cons h (r.take n)
theorem DsAt.drop {H : Hp} : ∀ {vs : List V} {ds : List Dat} (n : Nat), DsAt H vs ds → DsAt H (vs.drop n) (ds.drop n)
  | _, _, 0, r => r
  | _, _, n + 1, .nil => .nil
  | _, _, n + 1, .cons h r => r.drop n
theorem DsAt.reverse {H : Hp} : ∀ {vs : List V} {ds : List Dat}, DsAt H vs ds → DsAt H vs.reverse ds.reverse
  | _, _, .nil => .nil
  | _, _, .cons h r => by
    rw [List.reverse_cons, List.reverse_cons]
    exact r.reverse.app (.one h)
def dn (n : Nat) : Dat := .int (n : Int)
theorem DsAt.nats {H : Hp} : ∀ {vs : List V} {ns : List Nat}, DsAt H vs (ns.map dn) → vs = ns.map nV
  | _, [], .nil => rfl
  | _, n :: ns, .cons h r => by
    cases h
    rw [DsAt.nats r]
    rfl
theorem DsAt.ofNats {H : Hp} : ∀ (ns : List Nat), DsAt H (ns.map nV) (ns.map dn)
  | [] => .nil
  | n :: ns => .cons (.int _) (DsAt.ofNats ns)
theorem DsAt.ints {H : Hp} : ∀ {vs : List V} {ns : List Int}, DsAt H vs (ns.map Dat.int) → vs = ns.map V.int
  | _, [], .nil => rfl
  | _, n :: ns, .cons h r => by
    cases h
    rw [DsAt.ints r]
    rfl
theorem DsAt.ofInts {H : Hp} : ∀ (ns : List Int), DsAt H (ns.map V.int) (ns.map Dat.int)
  | [] => .nil
  | n :: ns => .cons (.int _) (DsAt.ofInts ns)
theorem DAt.i {H : Hp} {v : V} {i : Int} (h : DAt H v (.int i)) : v = .int i := by
  cases h
  rfl
theorem DAt.s {H : Hp} {v : V} {s : Str} (h : DAt H v (.str s)) : v = .str s := by
  cases h
  rfl
theorem DAt.t {H : Hp} {v : V} {ds : List Dat} (h : DAt H v (.tup ds)) : ∃ a vs, v = .ref a ∧ H a = some (.tup vs) ∧ DsAt H vs ds := by
  cases h with
  | tup h r => exact ⟨_, _, rfl, h, r⟩
/-- a list of data -/
def LstD (H : Hp) (l : Addr) (ds : List Dat) : Prop := ∃ vs, H l = some (.lst vs) ∧ DsAt H vs ds
theorem LstD.nats {H : Hp} {l : Addr} {ns : List Nat} (h : LstD H l (ns.map dn)) : H l = some (.lst (ns.map nV)) := by
  obtain ⟨vs, h1, h2⟩ := h
  rw [DsAt.nats h2] at h1
  exact h1
theorem LstD.ofNats {H : Hp} {l : Addr} {ns : List Nat} (h : H l = some (.lst (ns.map nV))) : LstD H l (ns.map dn) := ⟨_, h, .ofNats ns⟩
theorem LstD.ints {H : Hp} {l : Addr} {ns : List Int} (h : LstD H l (ns.map Dat.int)) : H l = some (.lst (ns.map V.int)) := by
  obtain ⟨vs, h1, h2⟩ := h
  rw [DsAt.ints h2] at h1
  exact h1
theorem LstD.ofInts {H : Hp} {l : Addr} {ns : List Int} (h : H l = some (.lst (ns.map V.int))) : LstD H l (ns.map Dat.int) := ⟨_, h, .ofInts ns⟩
theorem LstD.ex {H H' : Hp} {l : Addr} {ds : List Dat} (h : LstD H l ds) (e : Ex H H') : LstD H' l ds := by
  obtain ⟨vs, h1, h2⟩ := h
  exact ⟨vs, e _ _ h1, h2.tk (.ex e)⟩
theorem LstD.at {H : Hp} {l : Addr} {ds : List Dat} (h : LstD H l ds) : ∃ o, H l = some o := by
  obtain ⟨vs, h1, _⟩ := h
  exact ⟨_, h1⟩
/-! ### what is kept -/
def lamQ : Str := "loading.<locals>.<lambda>"
def Imm : HO → Prop
  | .tup _ => True
  | .frz _ _ => True
  | .own _ => True
  | .xd _ => True
  | .met _ _ => True
  | .rng _ _ => True
  | .ext _ => True
  | _ => False
def NoTbl (o : HO) : Prop := ∀ ps, o ≠ .tbl ps
theorem noTbl_lst {xs : List V} : NoTbl (.lst xs) := fun _ z => nomatch z
theorem noTbl_tup {xs : List V} : NoTbl (.tup xs) := fun _ z => nomatch z
theorem noTbl_dK {xs : List (Key × V)} : NoTbl (.dK xs) := fun _ z => nomatch z
theorem noTbl_ins {C dx : Addr} {fs : List (Str × V)} : NoTbl (.ins C dx fs) := fun _ z => nomatch z
theorem noTbl_own {x : Addr} : NoTbl (.own x) := fun _ z => nomatch z
/-- no object there but perhaps a table -/
def Fre (H : Hp) (p : Addr) : Prop := ∀ o, H p = some o → ¬ NoTbl o
theorem Fre.of {H : Hp} {p : Addr} (h : H p = none) : Fre H p := fun o e => by
  rw [h] at e
  cases e
theorem Fre.ne {H : Hp} {p b : Addr} {o : HO} (h : Fre H p) (e : H b = some o) (n : NoTbl o) : b ≠ p := fun z => by
  subst z
  exact h o e n
/-- all but M (and the tables) is kept; nothing goes; the lambda's table stays one -/
structure Kp (P : Addr) (M : Addr → Prop) (H H' : Hp) : Prop where
  keep : ∀ b o, H b = some o → NoTbl o → (¬ M b ∨ Imm o) → H' b = some o
  there : ∀ b o, H b = some o → NoTbl o → ∃ o', H' b = some o' ∧ NoTbl o'
  tab : TabS H P lamQ → TabS H' P lamQ
section
variable {P : Addr} {M M' : Addr → Prop} {H H1 H2 H' : Hp}
theorem Kp.ex (e : Ex H H') : Kp P M H H' := ⟨fun b o h _ _ => e b o h, fun b o h n => ⟨o, e b o h, n⟩, fun t => t.ext e⟩
theorem Kp.refl : Kp P M H H := .ex (Ex.refl H)
theorem Kp.mono (a : Kp P M H H1) (h : ∀ b, M b → M' b) : Kp P M' H H1 := ⟨fun c o e n m => a.keep c o e n (m.imp (fun z y => z (h _ y)) id), a.there, a.tab⟩
/-- what is changed later is changed anyhow, or new -/
theorem Kp.then (a : Kp P M H H1) (b : Kp P M' H1 H2) (h : ∀ c, M' c → M c ∨ Fre H c) : Kp P M H H2 := ⟨fun c o e n m => b.keep c o (a.keep c o e n m) n (m.imp (fun z y => by
    rcases h c y with w | w
    · exact z w
    · exact w o e n) id), fun c o h n => by
  obtain ⟨o', h', n'⟩ := a.there c o h n
  exact b.there c o' h' n', fun t => b.tab (a.tab t)⟩
theorem Kp.trans (a : Kp P M H H1) (b : Kp P M H1 H2) : Kp P M H H2 := a.then b fun _ h => .inl h
theorem Kp.tk (a : Kp P M H H') : TK H H' := fun b xs h => a.keep b _ h noTbl_tup (.inr trivial)
theorem Kp.fresh (a : Kp P M H H') {p : Addr} (h : Fre H' p) : Fre H p := fun o e n => by
  obtain ⟨o', h', n'⟩ := a.there p o e n
  exact h o' h' n'
theorem LstD.kp {l : Addr} {ds : List Dat} (h : LstD H l ds) (a : Kp P M H H') (n : ¬ M l) : LstD H' l ds := by
  obtain ⟨vs, h1, h2⟩ := h
  exact ⟨vs, a.keep _ _ h1 noTbl_lst (.inl n), h2.tk a.tk⟩
theorem TK.upd {l : Addr} {xs : List V} {o' : HO} (h1 : H l = some (.lst xs)) : TK H (L2.upd H l o') := fun b ys h => by
  rw [upd_ne (fun z => by rw [z, h1] at h; cases h)]
  exact h
/-- a list written: another list -/
theorem LstD.upd {l l' : Addr} {ds : List Dat} {xs : List V} {o' : HO} (h : LstD H l ds) (h1 : H l' = some (.lst xs)) (n : l ≠ l') : LstD (L2.upd H l' o') l ds := by
  obtain ⟨vs, e1, e2⟩ := h
  exact ⟨vs, by rw [upd_ne n]; exact e1, e2.tk (.upd h1)⟩
/-- all but M is kept, tables too; nothing goes -/
def ImmT (o : HO) : Prop := Imm o ∨ ∃ ps, o = .tbl ps
structure Mo (M : Addr → Prop) (H H' : Hp) : Prop where
  keep : ∀ b o, H b = some o → (¬ M b ∨ ImmT o) → H' b = some o
  there : ∀ b o, H b = some o → ∃ o', H' b = some o' ∧ (NoTbl o → NoTbl o')
theorem Mo.ex (e : Ex H H') : Mo M H H' := ⟨fun b o h _ => e b o h, fun b o h => ⟨o, e b o h, id⟩⟩
theorem Mo.refl : Mo M H H := .ex (Ex.refl H)
theorem Mo.then (a : Mo M H H1) (b : Mo M' H1 H2) (h : ∀ c, M' c → M c ∨ H c = none) : Mo M H H2 := ⟨fun c o e m => b.keep c o (a.keep c o e m) (m.imp (fun z y => by
    rcases h c y with w | w
    · exact z w
    · rw [w] at e
      cases e) id), fun c o h => by
  obtain ⟨o', h', n'⟩ := a.there c o h
  obtain ⟨o2, h2, n2⟩ := b.there c o' h'
  exact ⟨o2, h2, n2 ∘ n'⟩⟩
theorem Mo.trans (a : Mo M H H1) (b : Mo M H1 H2) : Mo M H H2 := a.then b fun _ h => .inl h
theorem Mo.step (a : Mo M H H1) (e : Ex H1 H2) : Mo M H H2 := a.trans (.ex e)
theorem Mo.mono (a : Mo M H H1) (h : ∀ b, M b → M' b) : Mo M' H H1 := ⟨fun c o e m => a.keep c o e (m.imp (fun z y => z (h _ y)) id), a.there⟩
theorem Mo.kp (a : Mo M H H') : Kp P M H H' := ⟨fun b o h n m => a.keep b o h (m.imp id .inl), fun b o h n => by
  obtain ⟨o', h', n'⟩ := a.there b o h
  exact ⟨o', h', n' n⟩, fun t => by
  obtain ⟨ps, h1, h2, h3⟩ := t
  refine ⟨ps, a.keep _ _ h1 (.inr (.inr ⟨ps, rfl⟩)), h2, fun pos cv hc => ?_⟩
  obtain ⟨c, e1, e2⟩ := h3 pos cv hc
  exact ⟨c, e1, a.keep _ _ e2 (.inr (.inl trivial))⟩⟩
theorem Mo.tk (a : Mo M H H') : TK H H' := fun b xs h => a.keep b _ h (.inr (.inl trivial))
theorem Mo.fresh (a : Mo M H H') {p : Addr} (h : H' p = none) : H p = none := by
  cases e : H p with
  | none => rfl
  | some o =>
    obtain ⟨o', h', _⟩ := a.there p o e
    rw [h] at h'
    cases h'
theorem Mo.toEx (a : Mo M H H') (h : ∀ b, M b → H b = none) : Ex H H' := fun b o e => a.keep b o e (.inl fun m => by
  rw [h b m] at e
  cases e)
theorem Mo.back (e : Ex H H1) (a : Mo M H1 H2) (h : ∀ b, M b → H b = none) : Ex H H2 := ((Mo.ex (M := fun _ => False) e).then a fun c m => .inr (h c m)).toEx fun _ z => z.elim
theorem Mo.upd {l : Addr} {o o' : HO} (a : Mo M H H1) (h1 : H1 l = some o) (hi : ¬ ImmT o) (hn : NoTbl o') (hm : M l ∨ H l = none) : Mo M H (L2.upd H1 l o') := ⟨fun b u e m => by
    have hb : b ≠ l := fun z => by
      subst z
      rcases hm with w | w
      · rcases m with m | m
        · exact m w
        · have y := a.keep b u e (.inr m)
          rw [h1] at y
          cases y
          exact hi m
      · rw [w] at e
        cases e
    rw [upd_ne hb]
    exact a.keep b u e m, fun b u e => by
    by_cases hb : b = l
    · subst hb
      exact ⟨_, upd_same, fun _ => hn⟩
    · rw [upd_ne hb]
      exact a.there b u e⟩
theorem immT_lst {xs : List V} : ¬ ImmT (.lst xs) := fun z => by
  rcases z with z | ⟨ps, z⟩
  · exact z
  · cases z
theorem immT_ins {C dx : Addr} {fs : List (Str × V)} : ¬ ImmT (.ins C dx fs) := fun z => by
  rcases z with z | ⟨ps, z⟩
  · exact z
  · cases z
theorem immT_dK {fs : List (Key × V)} : ¬ ImmT (.dK fs) := fun z => by
  rcases z with z | ⟨ps, z⟩
  · exact z
  · cases z
theorem Mo.updL {l : Addr} {xs ys : List V} (a : Mo M H H1) (h1 : H1 l = some (.lst xs)) (hm : M l ∨ H l = none) : Mo M H (L2.upd H1 l (.lst ys)) := a.upd h1 immT_lst noTbl_lst hm
theorem LstD.mo {l : Addr} {ds : List Dat} (h : LstD H l ds) (a : Mo M H H') (n : ¬ M l) : LstD H' l ds := by
  obtain ⟨vs, h1, h2⟩ := h
  exact ⟨vs, a.keep _ _ h1 (.inl n), h2.tk a.tk⟩
end
end Q
/-! What expressions evaluate to, up to data: EvD a value, EvLs some list, EvLD a new list. -/
namespace Q
open PySem PySem.Spec PyProof.Rows L2 Evl LamX
def EvD (te : TE) (σ : L2.St) (H : Hp) (d : Dat) : Prop := ∀ H1, Ex H H1 → ∀ Q : VK, (∀ v H2, Ex H1 H2 → DAt H2 v d → Q v H2) → te σ H1 Q
def EvLs (te : TE) (σ : L2.St) (H : Hp) (ds : List Dat) : Prop := ∀ H1, Ex H H1 → ∀ Q : VK, (∀ p H2, Ex H1 H2 → LstD H2 p ds → Q (.ref p) H2) → te σ H1 Q
def EvLD (te : TE) (σ : L2.St) (H : Hp) (ds : List Dat) : Prop := ∀ H1, Ex H H1 → ∀ Q : VK, (∀ p H2, H1 p = none → Ex H1 H2 → LstD H2 p ds → Q (.ref p) H2) → te σ H1 Q
def EvAD (ta : TA) (σ : L2.St) (H : Hp) (ds : List Dat) : Prop := ∀ H1, Ex H H1 → ∀ Q : List V → Hp → Prop, (∀ vs H2, Ex H1 H2 → DsAt H2 vs ds → Q vs H2) → ta σ H1 Q
section
variable {K : PySem.W.Frag} {σ : L2.St} {H H' : Hp} {ta tb te tx : TE} {x y z v : V} {d d' : Dat} {ds es : List Dat}
theorem EvD.mono (e : Ex H H') (h : EvD te σ H d) : EvD te σ H' d := fun H1 a Q q => h H1 (e.trans a) Q q
theorem EvLs.mono (e : Ex H H') (h : EvLs te σ H ds) : EvLs te σ H' ds := fun H1 a Q q => h H1 (e.trans a) Q q
theorem EvLD.mono (e : Ex H H') (h : EvLD te σ H ds) : EvLD te σ H' ds := fun H1 a Q q => h H1 (e.trans a) Q q
theorem EvAD.mono {ta : TA} (e : Ex H H') (h : EvAD ta σ H ds) : EvAD ta σ H' ds := fun H1 a Q q => h H1 (e.trans a) Q q
theorem evd_i {i : Int} (h : Ev te σ H (.int i)) : EvD te σ H (.int i) := fun H1 e Q q => h H1 e Q fun H2 e2 => q _ H2 e2 (.int i)
theorem evd_s {s : Str} (h : Ev te σ H (.str s)) : EvD te σ H (.str s) := fun H1 e Q q => h H1 e Q fun H2 e2 => q _ H2 e2 (.str s)
theorem evd_v (h : Ev te σ H v) (hd : DAt H v d) : EvD te σ H d := fun H1 e Q q => h H1 e Q fun H2 e2 => q _ H2 e2 (hd.tk (.ex (e.trans e2)))
theorem ev_i {i : Int} (h : EvD te σ H (.int i)) : Ev te σ H (.int i) := fun H1 e Q q => h H1 e Q fun v H2 e2 hv => by
  cases hv
  exact q H2 e2
theorem ev_s {s : Str} (h : EvD te σ H (.str s)) : Ev te σ H (.str s) := fun H1 e Q q => h H1 e Q fun v H2 e2 hv => by
  cases hv
  exact q H2 e2
theorem evd_var {i : Nat} (h : σ[i]? = some (some v)) (hd : DAt H v d) : EvD (tVar i) σ H d := evd_v (ev_var h) hd
theorem evd_cs {s : Str} : EvD (tC (.str s)) σ H (.str s) := evd_s ev_c
theorem evd_ci {i : Int} : EvD (tC (.int i)) σ H (.int i) := evd_i ev_c
theorem evs_v {l : Addr} (h : Ev te σ H (.ref l)) (hd : LstD H l ds) : EvLs te σ H ds := fun H1 e Q q => h H1 e Q fun H2 e2 => q _ H2 e2 (hd.ex (e.trans e2))
theorem evs_var {i : Nat} {l : Addr} (h : σ[i]? = some (some (.ref l))) (hd : LstD H l ds) : EvLs (tVar i) σ H ds := evs_v (ev_var h) hd
theorem evs_new (h : EvLD te σ H ds) : EvLs te σ H ds := fun H1 e Q q => h H1 e Q fun p H2 _ e2 hp => q p H2 e2 hp
theorem ead_nil : EvAD tNil σ H [] := fun H1 _ _ q => q _ H1 (Ex.refl H1) .nil
theorem ead_cons {tr : TA} (h : EvD ta σ H d) (hr : EvAD tr σ H ds) : EvAD (tCons ta tr) σ H (d :: ds) := fun H1 e _ q =>
  h H1 e _ fun v H2 e2 hv => hr H2 (e.trans e2) _ fun vs H3 e3 hvs => q _ H3 (e2.trans e3) (.cons (hv.tk (.ex e3)) hvs)
theorem evd_tup {ta : TA} (h : EvAD ta σ H ds) (hl : ds.length ≤ 100000) : EvD (tTup ta) σ H (.tup ds) := fun H1 e _ q =>
  h H1 e _ fun vs H2 e2 hvs => ⟨sz_of (by rw [hvs.length]; exact hl), fun p hp => q _ _ (e2.trans (Ex.new hp)) (.tup upd_same (hvs.tk (.ex (Ex.new hp))))⟩
theorem eld_lst {ta : TA} (h : EvAD ta σ H ds) (hl : ds.length ≤ 100000) : EvLD (tLst ta) σ H ds := fun H1 e _ q =>
  h H1 e _ fun vs H2 e2 hvs => ⟨sz_of (by rw [hvs.length]; exact hl), fun p hp => q _ _ (fresh_back e2 hp) (e2.trans (Ex.new hp)) ⟨vs, upd_same, hvs.tk (.ex (Ex.new hp))⟩⟩
theorem eld_nil : EvLD (tLst tNil) σ H [] := eld_lst ead_nil (by decide)
/-- l[n], t[n] -/
theorem evd_ixL {n : Nat} (ha : EvLs ta σ H ds) (hb : Ev tb σ H (.int n)) (hn : ds[n]? = some d) : EvD (tOp (rIxL K) ta tb) σ H d := fun H1 e _ q =>
  ha H1 e _ fun p H2 e2 hp => hb H2 (e.trans e2) _ fun H3 e3 => by
    obtain ⟨vs, h1, h2⟩ := hp.ex e3
    obtain ⟨v, h3, h4⟩ := h2.get hn
    exact ⟨p, vs, n, v, rfl, rfl, sq_of h1, atI_nat h3, q v H3 (e2.trans e3) h4⟩
theorem evd_ixT {n : Nat} (ha : EvD ta σ H (.tup ds)) (hb : Ev tb σ H (.int n)) (hn : ds[n]? = some d) : EvD (tOp (rIxT K) ta tb) σ H d := fun H1 e _ q =>
  ha H1 e _ fun p H2 e2 hp => hb H2 (e.trans e2) _ fun H3 e3 => by
    obtain ⟨a, vs, rfl, h1, h2⟩ := DAt.t hp
    obtain ⟨v, h3, h4⟩ := h2.get hn
    exact ⟨a, vs, n, v, rfl, rfl, st_of (e3 _ _ h1), atI_nat h3, q v H3 (e2.trans e3) (h4.tk (.ex e3))⟩
/-- len, tuple(l) -/
theorem ev_lenD (ha : EvLs ta σ H ds) : Ev (tCB (rLenS K) (tCons ta tNil)) σ H (.int (ds.length : Int)) := fun H1 e Q q => ha H1 e _ fun p H2 e2 hp => by
  obtain ⟨vs, h1, h2⟩ := hp
  refine ⟨p, vs, rfl, .inl (sq_of h1), ?_⟩
  rw [h2.length]
  exact q H2 e2
theorem ev_lenT (ha : EvD ta σ H (.tup ds)) : Ev (tCB (rLenS K) (tCons ta tNil)) σ H (.int (ds.length : Int)) := fun H1 e Q q => ha H1 e _ fun p H2 e2 hp => by
  obtain ⟨a, vs, rfl, h1, h2⟩ := DAt.t hp
  refine ⟨a, vs, rfl, .inr (st_of h1), ?_⟩
  rw [h2.length]
  exact q H2 e2
def rTupS (K : PySem.W.Frag) : List V → Hp → VK → Prop := fun xs H Q => ∃ p ys, xs = [.ref p] ∧ ((SqL K H p ys ∧ ∀ l, H l = none → Q (.ref l) (upd H l (.tup ys))) ∨ (SqT K H p ys ∧ Q (.ref p) H))
theorem evd_tuple (ha : EvLs ta σ H ds) : EvD (tCB (rTupS K) (tCons ta tNil)) σ H (.tup ds) := fun H1 e Q q => ha H1 e _ fun p H2 e2 hp => by
  obtain ⟨vs, h1, h2⟩ := hp
  exact ⟨p, vs, rfl, .inl ⟨sq_of h1, fun l hl => q _ _ (e2.trans (Ex.new hl)) (.tup upd_same (h2.tk (.ex (Ex.new hl))))⟩⟩
/-- + -/
theorem eld_cat (ha : EvLs ta σ H ds) (hb : EvLs tb σ H es) (hl : ds.length + es.length ≤ 100000) : EvLD (tOp rCat ta tb) σ H (ds ++ es) := fun H1 e Q q =>
  ha H1 e _ fun p H2 e2 hp => hb H2 (e.trans e2) _ fun p2 H3 e3 hp2 => by
    obtain ⟨vs, h1, h2⟩ := hp.ex e3
    obtain ⟨ws, h3, h4⟩ := hp2
    exact ⟨p, p2, vs, ws, rfl, rfl, h1, h3, sz_of (by rw [h2.length, h4.length]; exact hl), fun r hr => q r _ (fresh_back (e2.trans e3) hr) ((e2.trans e3).trans (Ex.new hr)) ⟨_, upd_same, (h2.app h4).tk (.ex (Ex.new hr))⟩⟩
/-- l[n:], l[:n], l[::-1] -/
theorem cut_drop {n : Nat} (xs : List V) : cutV xs (some (n : Int)) none = xs.drop n := by
  unfold cutV
  rw [show HT.sIx xs.length 0 (some (n : Int)) = min n xs.length from HT.sIx_nat xs.length 0 n, HT.sIx_none]
  rw [List.take_of_length_le (by rw [List.length_drop]; omega)]
  rcases Nat.le_total n xs.length with h | h
  · rw [Nat.min_eq_left h]
  · rw [Nat.min_eq_right h, List.drop_eq_nil_of_le h, List.drop_eq_nil_of_le (Nat.le_refl _)]
theorem cut_take {n : Nat} (xs : List V) : cutV xs none (some (n : Int)) = xs.take n := by
  unfold cutV
  rw [show HT.sIx xs.length xs.length (some (n : Int)) = min n xs.length from HT.sIx_nat xs.length xs.length n, HT.sIx_none]
  rw [List.drop_zero, Nat.sub_zero]
  rcases Nat.le_total n xs.length with h | h
  · rw [Nat.min_eq_left h]
  · rw [Nat.min_eq_right h, List.take_of_length_le h, List.take_of_length_le (Nat.le_refl _)]
theorem eld_drop {n : Nat} (ha : EvLs ta σ H ds) (hb : Ev tb σ H (.int n)) : EvLD (tSl (rSlL K) ta (tPart tb) tNoPart) σ H (ds.drop n) := fun H1 e Q q =>
  ha H1 e _ fun p H2 e2 hp => hb H2 (e.trans e2) _ fun H3 e3 => by
    obtain ⟨vs, h1, h2⟩ := hp.ex e3
    refine ⟨(n : Int), rfl, p, vs, rfl, sq_of h1, fun r hr => ?_⟩
    rw [cut_drop]
    exact q r _ (fresh_back (e2.trans e3) hr) ((e2.trans e3).trans (Ex.new hr)) ⟨_, upd_same, (h2.drop n).tk (.ex (Ex.new hr))⟩
theorem eld_take {n : Nat} (ha : EvLs ta σ H ds) (hb : Ev tb σ H (.int n)) : EvLD (tSl (rSlL K) ta tNoPart (tPart tb)) σ H (ds.take n) := fun H1 e Q q =>
  ha H1 e _ fun p H2 e2 hp => hb H2 (e.trans e2) _ fun H3 e3 => by
    obtain ⟨vs, h1, h2⟩ := hp.ex e3
    refine ⟨(n : Int), rfl, p, vs, rfl, sq_of h1, fun r hr => ?_⟩
    rw [cut_take]
    exact q r _ (fresh_back (e2.trans e3) hr) ((e2.trans e3).trans (Ex.new hr)) ⟨_, upd_same, (h2.take n).tk (.ex (Ex.new hr))⟩
theorem eld_rev (ha : EvLs ta σ H ds) : EvLD (tRevL K ta) σ H ds.reverse := fun H1 e Q q => ha H1 e _ fun p H2 e2 hp => by
  obtain ⟨vs, h1, h2⟩ := hp
  exact ⟨p, vs, rfl, sq_of h1, fun r hr => q r _ (fresh_back e2 hr) (e2.trans (Ex.new hr)) ⟨_, upd_same, h2.reverse.tk (.ex (Ex.new hr))⟩⟩
/-- o.f, d["k"] -/
theorem ev_fld {p C dx : Addr} {fs : List (Str × V)} {f : Str} (h : Ev te σ H (.ref p)) (ho : H p = some (.ins C dx fs)) (hc : Cls K C) (hn : NoAttr K C f) (hl : fs.lookup f = some v) : Ev (tFld K te f) σ H v := fun H1 e Q q =>
  h H1 e _ fun H2 e2 => ⟨p, C, dx, fs, v, rfl, (e.trans e2) _ _ ho, hc, hn, hl, q H2 e2⟩
theorem ev_dget {p : Addr} {kvs : List (Key × V)} {k : Str} (h : Ev te σ H (.ref p)) (ho : H p = some (.dK kvs)) (hl : valV kvs (.inr k) = some v) : Ev (tDGet te (tC (.str k))) σ H v := fun H1 e Q q =>
  h H1 e _ fun H2 e2 => ⟨p, v, rfl, by rw [← hl]; exact DGet.k (k := Sum.inr k) ((e.trans e2) _ _ ho), q H2 e2⟩
/-- arithmetic -/
theorem ev_add {i j : Int} (ha : Ev ta σ H (.int i)) (hb : Ev tb σ H (.int j)) : Ev (tOp (rI0 fun i j => .int (i + j)) ta tb) σ H (.int (i + j)) := ev_op ha hb rv_I0
theorem ev_sub {i j : Int} (ha : Ev ta σ H (.int i)) (hb : Ev tb σ H (.int j)) : Ev (tOp (rI0 fun i j => .int (i - j)) ta tb) σ H (.int (i - j)) := ev_op ha hb rv_I0
theorem et_cmp {g : Int → Int → Bool} {i j : Int} (ha : Ev ta σ H (.int i)) (hb : Ev tb σ H (.int j)) : EvT (tTest (tOp (rI0 fun i j => .bl (g i j)) ta tb)) σ H (g i j) := et_test (ev_op ha hb rv_I0)
theorem et_eqI {i j : Int} (ha : Ev ta σ H (.int i)) (hb : Ev tb σ H (.int j)) : EvT (tTest (tOp rEq ta tb)) σ H (decide (i = j)) :=
  et_is (et_test (ev_op ha hb (rv_eq rfl))) (by by_cases h : i = j <;> simp [h])
theorem et_eqS {i j : Str} (ha : Ev ta σ H (.str i)) (hb : Ev tb σ H (.str j)) : EvT (tTest (tOp rEq ta tb)) σ H (decide (i = j)) :=
  et_is (et_test (ev_op ha hb (rv_eq rfl))) (by by_cases h : i = j <;> simp [h])
/-! ### comprehensions -/
def givD (n : Nat) (f : Nat → Bool) (v : Nat → Dat) : List Dat := ((List.range n).filter f).map v
theorem givD_yes {n : Nat} {f : Nat → Bool} {v : Nat → Dat} (h : f n = true) : givD (n + 1) f v = givD n f v ++ [v n] := by
  simp [givD, List.range_succ, h]
theorem givD_no {n : Nat} {f : Nat → Bool} {v : Nat → Dat} (h : f n = false) : givD (n + 1) f v = givD n f v := by
  simp [givD, List.range_succ, h]
theorem givD_len (n : Nat) (f : Nat → Bool) (v : Nat → Dat) : (givD n f v).length ≤ n := by
  have few : (givD n f v).length ≤ (List.range n).length := (List.length_map (f := v)).symm ▸ List.length_filter_le _ _
  simpa using few
def CwD (H : Hp) (f : Nat → Bool) (v : Nat → Dat) (Dl : Addr) (i : Nat) (H' : Hp) : Prop := H Dl = none ∧ Ex H H' ∧ LstD H' Dl (givD i f v)
theorem cwD_turn {H H' : Hp} {t : TT} {f : Nat → Bool} {v : Nat → Dat} {Dl : Addr} {i : Nat} {σ2 : L2.St} (p : CwD H f v Dl i H') (hi : i < 50000) (ht : EvT t σ2 H' (f i)) (he : f i = true → EvD te σ2 H' (v i)) :
    t σ2 H' fun b H3 => if b = true then te σ2 H3 fun y H4 => ∃ acc, H4 Dl = some (.lst acc) ∧ acc.length < sizeLine ∧ CwD H f v Dl (i + 1) (upd H4 Dl (.lst (acc ++ [y]))) else CwD H f v Dl (i + 1) H3 := by
  obtain ⟨p1, p2, p3⟩ := p
  refine ht H' (Ex.refl _) _ fun H3 e3 => ?_
  cases hf : f i with
  | true =>
    refine iteT ?_
    refine he hf H3 e3 _ fun y H4 e4 hy => ?_
    obtain ⟨acc, h1, h2⟩ := p3.ex (e3.trans e4)
    refine ⟨acc, h1, sz_lt (by rw [h2.length]; have := givD_len i f v; omega), p1, Ex.mut ((p2.trans e3).trans e4) p1, acc ++ [y], upd_same, ?_⟩
    rw [givD_yes hf]
    exact (h2.app (.one hy)).tk (.upd h1)
  | false =>
    refine iteF ?_
    refine ⟨p1, p2.trans e3, ?_⟩
    rw [givD_no hf]
    exact p3.ex e3
/-- over a list that stands -/
theorem eld_lcL {tl : TE} {t : TT} {j : Nat} {vs : List Nat} (f : Nat → Bool) (v : Nat → Dat) (h : EvLs tl σ H ds) (hz : ds.length ≤ 40000) (hw : ∀ x, wipe ((wipe σ vs).set j (some x)) vs = wipe σ vs)
    (ht : ∀ (i : Nat) (x : V) (d : Dat) H1, Ex H H1 → ds[i]? = some d → DAt H1 x d → EvT t ((wipe σ vs).set j (some x)) H1 (f i)) (he : ∀ (i : Nat) (x : V) (d : Dat) H1, Ex H H1 → ds[i]? = some d → DAt H1 x d → f i = true → EvD te ((wipe σ vs).set j (some x)) H1 (v i)) :
    EvLD (tLc (iList K tl) (gName j) t te vs) σ H (givD ds.length f v) := fun H0 e Q q => h H0 e _ fun a H1 e1 hx => by
  obtain ⟨xs, h1, h2⟩ := hx
  refine ⟨a, rfl, ⟨xs, sq_of h1⟩, fun Dl hD => ?_⟩
  refine lc_list (xs := xs) (CwD H1 f v Dl) ⟨hD, Ex.new hD, _, upd_same, .nil⟩ (fun i H' _ p => sq_of (p.2.1 _ _ h1)) (fun i x H' hi p => ⟨hw x, ?_⟩) (fun H' p => ?_)
  · obtain ⟨d, hd, hx⟩ := h2.get' hi
    have hdx := hx.tk (.ex p.2.1)
    have hE := (e.trans e1).trans p.2.1
    exact cwD_turn p (by have := (List.getElem?_eq_some_iff.mp hd).1; omega) (ht i x d H' hE hd hdx) (he i x d H' hE hd hdx)
  · have p3 := p.2.2
    rw [h2.length] at p3
    exact q Dl H' (fresh_back e1 p.1) (e1.trans p.2.1) p3
/-- over range(n) -/
theorem eld_lcR {ta : TA} {t : TT} {j : Nat} {vs : List Nat} {n : Nat} (f : Nat → Bool) (v : Nat → Dat) (h : EvA ta σ H [.int n]) (hn : n ≤ 40000) (hw : ∀ x, wipe ((wipe σ vs).set j (some x)) vs = wipe σ vs)
    (ht : ∀ (i : Nat) H1, Ex H H1 → i < n → EvT t ((wipe σ vs).set j (some (nV i))) H1 (f i)) (he : ∀ (i : Nat) H1, Ex H H1 → i < n → f i = true → EvD te ((wipe σ vs).set j (some (nV i))) H1 (v i)) :
    EvLD (tLc (iRng1 ta) (gName j) t te vs) σ H (givD n f v) := fun H0 e Q q => h H0 e _ fun H1 e1 => ⟨n, rfl, by omega, by omega, fun Dl hD =>
  lc_range (lo := 0) (n := ((n : Nat) : Int).toNat) (CwD H1 f v Dl) ⟨hD, Ex.new hD, _, upd_same, .nil⟩ (fun i H' hi p => by
    rw [Int.zero_add (i : Int)]
    have hi' : i < n := by omega
    have hE := (e.trans e1).trans p.2.1
    exact ⟨hw _, cwD_turn p (by omega) (ht i H' hE hi') (fun hf => he i H' hE hi' hf)⟩) (fun H' p => q Dl H' (fresh_back e1 p.1) (e1.trans p.2.1) (by have p3 := p.2.2; rw [Int.toNat_natCast] at p3; exact p3))⟩
/-- over enumerate(l), two names -/
theorem eld_lcE {tl : TE} {t : TT} {j k : Nat} {vs : List Nat} (f : Nat → Bool) (v : Nat → Dat) (h : EvLs tl σ H ds) (hz : ds.length ≤ 40000) (hw : ∀ x y, wipe (((wipe σ vs).set j (some x)).set k (some y)) vs = wipe σ vs)
    (ht : ∀ (i : Nat) (x : V) (d : Dat) H1, Ex H H1 → ds[i]? = some d → DAt H1 x d → EvT t (((wipe σ vs).set j (some (nV i))).set k (some x)) H1 (f i))
    (he : ∀ (i : Nat) (x : V) (d : Dat) H1, Ex H H1 → ds[i]? = some d → DAt H1 x d → f i = true → EvD te (((wipe σ vs).set j (some (nV i))).set k (some x)) H1 (v i)) :
    EvLD (tLc (iEnum K (tCons tl tNil)) (gTup K 2 (gCons (gName j) (gCons (gName k) gNil))) t te vs) σ H (givD ds.length f v) := fun H0 e Q q => h H0 e _ fun a H1 e1 hx => by
  obtain ⟨xs, h1, h2⟩ := hx
  refine ⟨a, xs, rfl, sq_of h1, fun Dl hD => ?_⟩
  refine ⟨fun i m H => m = xs.length - i ∧ i ≤ xs.length ∧ CwD H1 f v Dl i H, ⟨xs.length, by simp, Nat.zero_le _, hD, Ex.new hD, _, upd_same, .nil⟩, ?_⟩
  rintro i m H' ⟨rfl, hi, p⟩
  have hS : SqL K H' a xs := sq_of (p.2.1 _ _ h1)
  by_cases hlt : i < xs.length
  · refine .inr ⟨⟨xs, xs[i], hS, List.getElem?_eq_getElem hlt⟩, CwD H1 f v Dl (i + 1), fun H' p' => ⟨xs.length - (i + 1), by omega, rfl, by omega, p'⟩, fun y H2 hy => ?_⟩
    obtain ⟨T, x, rfl, nT, rfl, fx⟩ := hy
    have hx' := fx _ hS
    obtain ⟨d, hd, hx⟩ := h2.get' hx'
    have eT : Ex H' (upd H' T (.tup [.int (i : Nat), x])) := Ex.new nT
    have hdx := hx.tk (.ex (p.2.1.trans eT))
    have hE := ((e.trans e1).trans p.2.1).trans eT
    have p' : CwD H1 f v Dl i (upd H' T (.tup [.int (i : Nat), x])) := ⟨p.1, p.2.1.trans eT, p.2.2.ex eT⟩
    refine ⟨T, _, rfl, st_of upd_same, rfl, _, _, rfl, _, _, rfl, rfl, hw _ _, ?_⟩
    exact cwD_turn p' (by have := (List.getElem?_eq_some_iff.mp hd).1; omega) (ht i x d _ hE hd hdx) (he i x d _ hE hd hdx)
  · have ei : i = xs.length := by omega
    subst ei
    refine .inl ⟨⟨xs, hS, Nat.le_refl _⟩, ?_⟩
    have p3 := p.2.2
    rw [h2.length] at p3
    exact q Dl H' (fresh_back e1 p.1) (e1.trans p.2.1) p3
/-- over a list of any values, each element told by its value -/
theorem eld_lcV {tl : TE} {t : TT} {j : Nat} {vs : List Nat} {a : Addr} {xs : List V} (f : Nat → Bool) (v : Nat → Dat) (h : Ev tl σ H (.ref a)) (hx : SqL K H a xs) (hz : xs.length ≤ 40000) (hw : ∀ x, wipe ((wipe σ vs).set j (some x)) vs = wipe σ vs)
    (ht : ∀ (i : Nat) (x : V) H1, Ex H H1 → xs[i]? = some x → EvT t ((wipe σ vs).set j (some x)) H1 (f i)) (he : ∀ (i : Nat) (x : V) H1, Ex H H1 → xs[i]? = some x → f i = true → EvD te ((wipe σ vs).set j (some x)) H1 (v i)) :
    EvLD (tLc (iList K tl) (gName j) t te vs) σ H (givD xs.length f v) := fun H0 e Q q => h H0 e _ fun H1 e1 => by
  have hx1 : SqL K H1 a xs := ex_l (e.trans e1) hx
  refine ⟨a, rfl, ⟨xs, hx1⟩, fun Dl hD => ?_⟩
  refine lc_list (xs := xs) (CwD H1 f v Dl) ⟨hD, Ex.new hD, _, upd_same, .nil⟩ (fun i H' _ p => ex_l p.2.1 hx1) (fun i x H' hi p => ⟨hw x, ?_⟩) (fun H' p => q Dl H' (fresh_back e1 p.1) (e1.trans p.2.1) p.2.2)
  have hE := (e.trans e1).trans p.2.1
  exact cwD_turn p (by have := (List.getElem?_eq_some_iff.mp hi).1; omega) (ht i x H' hE hi) (he i x H' hE hi)
theorem et_yes : EvT tYes σ H true := fun H1 _ _ q => q H1 (Ex.refl H1)
/-! ### statements -/
variable {D : Ends} {tu tz : TS}
theorem q_asgD {i : Nat} (h : EvD te σ H d) (k : ∀ v H1, Ex H H1 → DAt H1 v d → tz D (σ.set i (some v)) H1) : tSeq (tAsg te (gName i)) tz D σ H := h H (Ex.refl H) _ fun v H1 e hv => k v H1 e hv
theorem q_asgLD {i : Nat} (h : EvLD te σ H ds) (k : ∀ p H1, H p = none → Ex H H1 → LstD H1 p ds → tz D (σ.set i (some (.ref p))) H1) : tSeq (tAsg te (gName i)) tz D σ H := h H (Ex.refl H) _ fun p H1 hp e hl => k p H1 hp e hl
theorem s_retD (h : EvD te σ H d) (k : ∀ v H1, Ex H H1 → DAt H1 v d → D.rt v H1) : tRet te D σ H := h H (Ex.refl H) _ k
theorem s_retLD (h : EvLD te σ H ds) (k : ∀ p H1, H p = none → Ex H H1 → LstD H1 p ds → D.rt (.ref p) H1) : tRet te D σ H := h H (Ex.refl H) _ k
/-- l.append(e) -/
theorem s_appD {l : Addr} (hl : LstD H l ds) (ha : Ev ta σ H (.ref l)) (h : EvD te σ H d) (hz : ds.length < 100000) (k : ∀ H1, Mo (fun b => b = l) H H1 → LstD H1 l (ds ++ [d]) → D.nx σ H1) :
    tDrop (tBM K "list" rAppend ta (tCons te tNil)) D σ H := ha H (Ex.refl H) _ fun H1 e1 => by
  obtain ⟨xs, h1, h2⟩ := hl.ex e1
  refine ⟨Or.inl ⟨rfl, xs, sq_of h1⟩, h H1 e1 _ fun v H2 e2 hv => ?_⟩
  have h1' := e2 _ _ h1
  refine ⟨l, xs, v, rfl, rfl, h1', sz_lt (by rw [h2.length]; exact hz), k _ ((Mo.ex (e1.trans e2)).updL h1' (.inl rfl)) ⟨_, upd_same, ((h2.tk (.ex e2)).app (.one hv)).tk (.upd h1')⟩⟩
theorem q_appD {l : Addr} (hl : LstD H l ds) (ha : Ev ta σ H (.ref l)) (h : EvD te σ H d) (hz : ds.length < 100000) (k : ∀ H1, Mo (fun b => b = l) H H1 → LstD H1 l (ds ++ [d]) → tz D σ H1) :
    tSeq (tDrop (tBM K "list" rAppend ta (tCons te tNil))) tz D σ H := s_appD (D := { D with nx := tz D }) hl ha h hz k
/-- l.extend(m) -/
theorem s_extD {l : Addr} (hl : LstD H l ds) (ha : Ev ta σ H (.ref l)) (h : EvLs te σ H es) (hz : ds.length + es.length ≤ 100000) (k : ∀ H1, Mo (fun b => b = l) H H1 → LstD H1 l (ds ++ es) → D.nx σ H1) :
    tDrop (tBM K "list" rExtend ta (tCons te tNil)) D σ H := ha H (Ex.refl H) _ fun H1 e1 => by
  obtain ⟨xs, h1, h2⟩ := hl.ex e1
  refine ⟨Or.inl ⟨rfl, xs, sq_of h1⟩, h H1 e1 _ fun p H2 e2 hp => ?_⟩
  have h1' := e2 _ _ h1
  obtain ⟨ys, g1, g2⟩ := hp
  refine ⟨l, p, xs, ys, rfl, rfl, h1', g1, sz_of (by rw [h2.length, g2.length]; exact hz), k _ ((Mo.ex (e1.trans e2)).updL h1' (.inl rfl)) ⟨_, upd_same, ((h2.tk (.ex e2)).app g2).tk (.upd h1')⟩⟩
theorem q_extD {l : Addr} (hl : LstD H l ds) (ha : Ev ta σ H (.ref l)) (h : EvLs te σ H es) (hz : ds.length + es.length ≤ 100000) (k : ∀ H1, Mo (fun b => b = l) H H1 → LstD H1 l (ds ++ es) → tz D σ H1) :
    tSeq (tDrop (tBM K "list" rExtend ta (tCons te tNil))) tz D σ H := s_extD (D := { D with nx := tz D }) hl ha h hz k
end
end Q
/-! The mathematics: opened stacks, the order of a load, a ship's state. No Python here. -/
namespace QM
open PySem Q QL
abbrev Bx := List (Int × Int)
abbrev Ld := List (Int × Int)
def toB (B : Bx) (n : Nat) : Int := (B.getD n (0, 0)).2
def bD (b : Int × Int) : Dat := .tup [.int b.1, .int b.2]
structure Evt where
  p : Int
  w : Str
  b : Nat
def evD (e : Evt) : Dat := .tup [.int e.p, .str e.w, dn e.b]
def hit (B : Bx) (p : Int) (n : Nat) : Bool := decide (toB B n = p)
def suf (B : Bx) (p : Int) (st : List Nat) : List Nat := st.dropWhile fun n => !hit B p n
def pre (B : Bx) (p : Int) (st : List Nat) : List Nat := st.takeWhile fun n => !hit B p n
def opnE1 (B : Bx) (p : Int) (l : List Nat) : List Evt := l.map fun n => ⟨p, if hit B p n then "discharge" else "lift", n⟩
def opnE (B : Bx) (p : Int) (st : List Nat) : List Evt := opnE1 B p (suf B p st).reverse ++ ((suf B p st).filter fun n => !hit B p n).map fun n => ⟨p, "restow", n⟩
def opnS (B : Bx) (p : Int) (st : List Nat) : List Nat := st.filter fun n => !hit B p n
/-- the places of the hits -/
def plc (B : Bx) (p : Int) (st : List Nat) : List Nat := (List.range st.length).filter fun i => hit B p (st.getD i 0)
theorem takeW_filter {f : Nat → Bool} : ∀ (st : List Nat), st.takeWhile f ++ (st.dropWhile f).filter f = st.filter f
  | [] => rfl
  | x :: r => by
    cases h : f x with
    | true => simp [List.takeWhile, List.dropWhile, h, takeW_filter r]
    | false => simp [List.takeWhile, List.dropWhile, h]
theorem cut_at {f : Nat → Bool} : ∀ (st : List Nat) (k : Nat), k < st.length → f (st.getD k 0) = false → (∀ j < k, f (st.getD j 0) = true) → st.take k = st.takeWhile f ∧ st.drop k = st.dropWhile f
  | [], k, h, _, _ => by simp at h
  | x :: r, 0, _, h, _ => by
    have h' : f x = false := by simpa using h
    simp [List.takeWhile, List.dropWhile, h']
  | x :: r, k + 1, hl, h, hj => by
    have h0 : f x = true := by simpa using hj 0 (by omega)
    obtain ⟨a, b⟩ := cut_at r k (by simpa using hl) (by simpa using h) (fun j hjk => by simpa using hj (j + 1) (by omega))
    simp [List.takeWhile, List.dropWhile, h0, a, b]
theorem dropW_nil {f : Nat → Bool} : ∀ {st : List Nat}, (∀ n ∈ st, f n = true) → st.dropWhile f = []
  | [], _ => rfl
  | x :: r, h => by
    rw [List.dropWhile_cons, if_pos (h x List.mem_cons_self), dropW_nil fun n hn => h n (List.mem_cons_of_mem _ hn)]
theorem flatMap_congrL {α β : Type} {f g : α → List β} : ∀ {l : List α}, (∀ a ∈ l, f a = g a) → l.flatMap f = l.flatMap g
  | [], _ => rfl
  | x :: r, h => by rw [List.flatMap_cons, List.flatMap_cons, h x List.mem_cons_self, flatMap_congrL fun a ha => h a (List.mem_cons_of_mem _ ha)]
theorem plc_nil {B : Bx} {p : Int} {st : List Nat} (h : plc B p st = []) : opnE B p st = [] ∧ opnS B p st = st := by
  have h1 : ∀ n ∈ st, (!hit B p n) = true := by
    intro n hn
    obtain ⟨i, hi, rfl⟩ := List.mem_iff_getElem.mp hn
    have := List.filter_eq_nil_iff.mp h i (List.mem_range.mpr hi)
    simpa [hi] using this
  have h2 : suf B p st = [] := dropW_nil h1
  refine ⟨by unfold opnE; rw [h2]; rfl, ?_⟩
  unfold opnS
  rw [List.filter_eq_self]
  exact h1
theorem plc_cons {B : Bx} {p : Int} {st : List Nat} {k : Nat} {r : List Nat} (h : plc B p st = k :: r) : st.take k = pre B p st ∧ st.drop k = suf B p st := by
  have h1 : (plc B p st).head? = some k := by rw [h]; rfl
  unfold plc at h1
  rw [List.head?_filter, List.find?_range_eq_some] at h1
  obtain ⟨h1, h2, h3⟩ := h1
  have h2 := List.mem_range.mp h2
  exact cut_at (f := fun n => !hit B p n) st k h2 (by simp only [h1]; rfl) (fun j hj => h3 j hj)
theorem pre_suf (B : Bx) (p : Int) (st : List Nat) : pre B p st ++ (suf B p st).filter (fun n => !hit B p n) = opnS B p st := takeW_filter st
theorem suf_sub (B : Bx) (p : Int) (st : List Nat) : (suf B p st).Sublist st := List.dropWhile_sublist _
theorem opnE_len (B : Bx) (p : Int) (st : List Nat) : (opnE B p st).length ≤ 2 * st.length := by
  unfold opnE opnE1
  rw [List.length_append, List.length_map, List.length_map, List.length_reverse]
  have h1 := (suf_sub B p st).length_le
  have h2 := List.length_filter_le (fun n => !hit B p n) (suf B p st)
  omega
theorem opnS_len (B : Bx) (p : Int) (st : List Nat) : (opnS B p st).length ≤ st.length := List.length_filter_le _ _
theorem opn_nil (B : Bx) (p : Int) : opnE B p [] = [] ∧ opnS B p [] = [] := ⟨rfl, rfl⟩
theorem opnS_mem {B : Bx} {p : Int} {st : List Nat} {n : Nat} (h : n ∈ opnS B p st) : n ∈ st := (List.mem_filter.mp h).1
theorem opnE_mem {B : Bx} {p : Int} {st : List Nat} {e : Evt} (h : e ∈ opnE B p st) : e.b ∈ st := by
  unfold opnE opnE1 at h
  rcases List.mem_append.mp h with h | h
  · obtain ⟨n, h1, rfl⟩ := List.mem_map.mp h
    exact (suf_sub B p st).subset (List.mem_reverse.mp h1)
  · obtain ⟨n, h1, rfl⟩ := List.mem_map.mp h
    exact (suf_sub B p st).subset (List.mem_filter.mp h1).1
theorem hit_congr {B C : Bx} {p : Int} {n : Nat} (h : toB B n = toB C n) : hit B p n = hit C p n := by unfold hit; rw [h]
theorem dropW_congr {f g : Nat → Bool} : ∀ {st : List Nat}, (∀ n ∈ st, f n = g n) → st.dropWhile f = st.dropWhile g
  | [], _ => rfl
  | x :: r, h => by
    rw [List.dropWhile_cons, List.dropWhile_cons, h x List.mem_cons_self, dropW_congr fun n hn => h n (List.mem_cons_of_mem _ hn)]
theorem opn_congr {B C : Bx} {p : Int} {st : List Nat} (h : ∀ n ∈ st, toB B n = toB C n) : opnE B p st = opnE C p st ∧ opnS B p st = opnS C p st := by
  have h1 : ∀ n ∈ st, (!hit B p n) = (!hit C p n) := fun n hn => by rw [hit_congr (h n hn)]
  have h2 : suf B p st = suf C p st := dropW_congr h1
  have h3 : ∀ n ∈ suf C p st, (!hit B p n) = (!hit C p n) := fun n hn => h1 n ((suf_sub C p st).subset hn)
  refine ⟨?_, List.filter_congr h1⟩
  unfold opnE opnE1
  rw [h2, List.filter_congr h3]
  congr 1
  refine List.map_congr_left fun n hn => ?_
  rw [hit_congr (h n ((suf_sub C p st).subset (List.mem_reverse.mp hn)))]
/-! ### the order of a load -/
theorem leTo_trans (to : Nat → Int) (a b c : Nat) (h1 : leTo to a b = true) (h2 : leTo to b c = true) : leTo to a c = true := by
  unfold leTo at *
  simp only [decide_eq_true_eq] at *
  omega
theorem leTo_total (to : Nat → Int) (a b : Nat) : (leTo to a b || leTo to b a) = true := by
  unfold leTo
  simp only [Bool.or_eq_true, decide_eq_true_eq]
  omega
theorem leTo_anti (to : Nat → Int) (a b : Nat) (h1 : leTo to a b = true) (h2 : leTo to b a = true) : a = b := by
  unfold leTo at *
  simp only [decide_eq_true_eq] at *
  omega
theorem leTo_congr {to to' : Nat → Int} {a b : Nat} (h1 : to a = to' a) (h2 : to b = to' b) : leTo to a b = leTo to' a b := by unfold leTo; rw [h1, h2]
theorem sort_congr {to to' : Nat → Int} {l : List Nat} (h : ∀ n ∈ l, to n = to' n) : l.mergeSort (leTo to) = l.mergeSort (leTo to') := by
  refine List.Perm.eq_of_pairwise (le := fun a b => leTo to a b = true) (fun a b _ _ => leTo_anti to a b) (List.pairwise_mergeSort (leTo_trans to) (leTo_total to) l) ?_ ((List.mergeSort_perm _ _).trans (List.mergeSort_perm _ _).symm)
  refine (List.pairwise_mergeSort (leTo_trans to') (leTo_total to') l).imp_of_mem fun {a b} ha hb hab => ?_
  rw [leTo_congr (h a (List.mem_mergeSort.mp ha)) (h b (List.mem_mergeSort.mp hb))]
  exact hab
theorem parts_perm {α : Type} (f : α → Nat) (ch : List α) : ∀ m, ((List.range m).flatMap fun i => ch.filter fun n => decide (f n = i)).Perm (ch.filter fun n => decide (f n < m))
  | 0 => by
    rw [show (List.range 0).flatMap (fun i => ch.filter fun n => decide (f n = i)) = [] from rfl, show (ch.filter fun n => decide (f n < 0)) = [] from List.filter_eq_nil_iff.mpr (by simp)]
  | m + 1 => by
    rw [List.range_succ, List.flatMap_append]
    refine ((parts_perm f ch m).append_right _).trans ?_
    have h := List.filter_append_perm (fun n => decide (f n < m)) (ch.filter fun n => decide (f n < m + 1))
    rw [List.filter_filter, List.filter_filter] at h
    refine List.Perm.trans (List.Perm.of_eq ?_) h
    congr 1
    · refine List.filter_congr fun n _ => ?_
      simp only [← Bool.decide_and]
      exact decide_eq_decide.mpr (by omega)
    · rw [List.flatMap_cons, List.flatMap_nil, List.append_nil]
      refine List.filter_congr fun n _ => ?_
      rw [← decide_not, ← Bool.decide_and]
      exact decide_eq_decide.mpr (by omega)
theorem parts_all {α : Type} (f : α → Nat) (ch : List α) (m : Nat) (h : ∀ n ∈ ch, f n < m) : ((List.range m).flatMap fun i => ch.filter fun n => decide (f n = i)).Perm ch := by
  refine (parts_perm f ch m).trans (List.Perm.of_eq ?_)
  rw [List.filter_eq_self]
  exact fun n hn => decide_eq_true (h n hn)
def intoL (B : Bx) (ch : List Nat) (m : Nat) : List Nat := (List.range m).flatMap fun (i : Nat) => ch.filter fun n => decide (toB B n = 11 - (i : Int))
theorem into_sort {B : Bx} {ch : List Nat} (hp : ch.Pairwise (· < ·)) (h : ∀ n ∈ ch, 1 ≤ toB B n ∧ toB B n ≤ 11) : ch.mergeSort (leTo (toB B)) = intoL B ch 11 := by
  refine List.Perm.eq_of_pairwise (le := fun a b => leTo (toB B) a b = true) (fun a b _ _ => leTo_anti _ a b) (List.pairwise_mergeSort (leTo_trans _) (leTo_total _) ch) ?_ ((List.mergeSort_perm _ _).trans ?_)
  · unfold intoL
    refine List.pairwise_flatMap.mpr ⟨fun i _ => List.pairwise_filter.mpr (hp.imp fun {a b} hab h1 h2 => ?_), ?_⟩
    · have h1 := of_decide_eq_true h1
      have h2 := of_decide_eq_true h2
      unfold leTo
      rw [decide_eq_true_eq]
      omega
    · refine List.pairwise_lt_range.imp fun {i j} hij x hx y hy => ?_
      have h1 := of_decide_eq_true (List.mem_filter.mp hx).2
      have h2 := of_decide_eq_true (List.mem_filter.mp hy).2
      unfold leTo
      rw [decide_eq_true_eq]
      omega
  · have q := (parts_all (fun n => (11 - toB B n).toNat) ch 11 (fun n hn => by have := h n hn; omega)).symm
    refine q.trans (List.Perm.of_eq ?_)
    unfold intoL
    refine flatMap_congrL fun i hi => List.filter_congr fun n hn => decide_eq_decide.mpr ?_
    have := h n hn
    have := List.mem_range.mp hi
    omega
end QM
/-! A ship's state; what load and sail make of it; what stays true of it. -/
namespace QM
open PySem Q QL
structure Ship where
  port : Int
  height : Int
  stacks : List (List Nat)
  boxes : Bx
  lifted : List Nat
inductive Er where
  | over
  | bad (k : Nat)
  | many
  | full (j : Nat)
def erD : Er → Dat
  | .over => .str "over"
  | .bad k => .tup [.str "bad", dn k]
  | .many => .str "many"
  | .full j => .tup [.str "full", dn j]
def ldAt (ls : Ld) (k : Nat) : Int × Int := ls.getD k (0, 0)
def badL (S : Ship) (l : Int × Int) : Bool := (!(decide (0 ≤ l.1) && decide (l.1 < (S.stacks.length : Int)))) || (!(decide (S.port < l.2) && decide (l.2 < 12)))
def badAt (S : Ship) (ls : Ld) (k : Nat) : Bool := badL S (ldAt ls k)
def cho (ls : Ld) (j : Nat) : List Nat := (List.range ls.length).filter fun k => decide ((ldAt ls k).1 = (j : Int))
def stk (S : Ship) (j : Nat) : List Nat := S.stacks.getD j []
def fullAt (S : Ship) (ls : Ld) (j : Nat) : Bool := decide (((stk S j).length : Int) + ((cho ls j).length : Int) > S.height)
def chk (S : Ship) (ls : Ld) : Option Er :=
  if S.port = 11 then some .over else
  match (List.range ls.length).find? (badAt S ls) with
  | some k => some (.bad k)
  | none => if S.boxes.length + ls.length > 60 then some .many else
    match (List.range S.stacks.length).find? (fullAt S ls) with
    | some j => some (.full j)
    | none => none
def lodB (S : Ship) (ls : Ld) : Bx := S.boxes ++ ls.map fun l => (S.port, l.2)
def lodN (S : Ship) (ls : Ld) (j : Nat) : List Nat := (cho ls j).map (S.boxes.length + ·)
def lodC (S : Ship) (ls : Ld) (j : Nat) : List Nat := (lodN S ls j).mergeSort (leTo (toB (lodB S ls)))
def lodE1 (p : Int) (l : List Nat) : List Evt := l.map fun n => ⟨p, "load", n⟩
def lodE (S : Ship) (ls : Ld) (i : Nat) : List Evt := (List.range i).flatMap fun j => lodE1 S.port (lodC S ls j)
def lodS (S : Ship) (ls : Ld) (i : Nat) : List (List Nat) := (List.range S.stacks.length).map fun j => if j < i then stk S j ++ lodC S ls j else stk S j
def lod (S : Ship) (ls : Ld) : Ship := { S with stacks := lodS S ls S.stacks.length, boxes := lodB S ls }
def sailE (S : Ship) (i : Nat) : List Evt := (List.range i).flatMap fun j => opnE S.boxes (S.port + 1) (stk S j)
def sailS (S : Ship) (i : Nat) : List (List Nat) := (List.range S.stacks.length).map fun j => if j < i then opnS S.boxes (S.port + 1) (stk S j) else stk S j
def liftsOf (es : List Evt) : List Nat := (es.filter fun e => decide (e.w = ("lift" : Str))).map Evt.b
def sil (S : Ship) : Ship := { S with port := S.port + 1, stacks := sailS S S.stacks.length, lifted := S.lifted ++ liftsOf (sailE S S.stacks.length) }
def resLoad (S : Ship) (ls : Ld) : Dat × Ship := match chk S ls with
  | some e => (erD e, S)
  | none => (.tup ((lodE S ls S.stacks.length).map evD), lod S ls)
def resSail (S : Ship) : Dat × Ship := if S.port = 11 then (.str "over", S) else (.tup ((sailE S S.stacks.length).map evD), sil S)
def cnt (l : List Nat) (k : Nat) : Nat := (l.filter fun n => decide (n = k)).length
def cnts (n : Nat) (l : List Nat) : List Nat := (List.range n).map (cnt l)
/-! ### lists changed place by place -/
theorem stg_get {f g : Nat → List Nat} {n i : Nat} (h : i < n) : ((List.range n).map fun j => if j < i then f j else g j)[i]? = some (g i) := by
  rw [List.getElem?_map, List.getElem?_range h]
  simp
theorem stg_set {f g : Nat → List Nat} {n i : Nat} (h : i < n) : ((List.range n).map fun j => if j < i then f j else g j).set i (f i) = (List.range n).map fun j => if j < i + 1 then f j else g j := by
  refine List.ext_getElem (by simp) fun k h1 h2 => ?_
  rw [List.getElem_set]
  simp only [List.getElem_map, List.getElem_range]
  by_cases hk : i = k
  · subst hk
    rw [if_pos rfl, if_pos (by omega)]
  · rw [if_neg hk]
    by_cases hlt : k < i
    · rw [if_pos hlt, if_pos (by omega)]
    · rw [if_neg hlt, if_neg (by omega)]
theorem stg_zero {f g : Nat → List Nat} {n : Nat} : ((List.range n).map fun j => if j < 0 then f j else g j) = (List.range n).map g := List.map_congr_left fun j _ => if_neg (by omega)
theorem stg_full {f g : Nat → List Nat} {n : Nat} : ((List.range n).map fun j => if j < n then f j else g j) = (List.range n).map f := List.map_congr_left fun j hj => if_pos (List.mem_range.mp hj)
theorem getD_id (l : List (List Nat)) : (List.range l.length).map (fun j => l.getD j []) = l := by
  refine List.ext_getElem (by simp) fun k h1 h2 => ?_
  simp [h2]
theorem lodS_zero (S : Ship) (ls : Ld) : lodS S ls 0 = S.stacks := by
  unfold lodS
  rw [stg_zero]
  exact getD_id _
theorem sailS_zero (S : Ship) : sailS S 0 = S.stacks := by
  unfold sailS
  rw [stg_zero]
  exact getD_id _
theorem stk_at {S : Ship} {i : Nat} (h : i < S.stacks.length) : S.stacks[i]? = some (stk S i) := by
  unfold stk
  simp [h]
theorem stk_mem {S : Ship} {i : Nat} (h : i < S.stacks.length) : stk S i ∈ S.stacks := List.mem_of_getElem? (stk_at h)
theorem sailE_succ (S : Ship) (i : Nat) : sailE S (i + 1) = sailE S i ++ opnE S.boxes (S.port + 1) (stk S i) := by
  unfold sailE
  rw [List.range_succ, List.flatMap_append]
  simp
theorem lodE_succ (S : Ship) (ls : Ld) (i : Nat) : lodE S ls (i + 1) = lodE S ls i ++ lodE1 S.port (lodC S ls i) := by
  unfold lodE
  rw [List.range_succ, List.flatMap_append]
  simp
/-! ### counts -/
theorem cnt_app (l m : List Nat) (k : Nat) : cnt (l ++ m) k = cnt l k + cnt m k := by unfold cnt; rw [List.filter_append, List.length_append]
theorem cnt_one (b k : Nat) : cnt [b] k = if b = k then 1 else 0 := by
  unfold cnt
  by_cases h : b = k <;> simp [h]
theorem cnts_len (n : Nat) (l : List Nat) : (cnts n l).length = n := by unfold cnts; simp
theorem cnts_get {n : Nat} {l : List Nat} {k : Nat} (h : k < n) : (cnts n l)[k]? = some (cnt l k) := by
  unfold cnts
  rw [List.getElem?_map, List.getElem?_range h]
  rfl
theorem cnts_set {n : Nat} {l : List Nat} {b : Nat} (h : b < n) : (cnts n l).set b (cnt l b + 1) = cnts n (l ++ [b]) := by
  refine List.ext_getElem? fun k => ?_
  by_cases hk : k < n
  · rw [cnts_get hk, List.getElem?_set]
    by_cases hb : b = k
    · subst hb
      rw [if_pos rfl, cnts_len, if_pos hk, cnt_app, cnt_one, if_pos rfl]
    · rw [if_neg hb, cnts_get hk, cnt_app, cnt_one, if_neg hb]
      rfl
  · rw [List.getElem?_eq_none (by rw [List.length_set, cnts_len]; omega), List.getElem?_eq_none (by rw [cnts_len]; omega)]
theorem cnt_zero {l : List Nat} {k : Nat} (h : ∀ b ∈ l, b < k) : cnt l k = 0 := by
  unfold cnt
  rw [List.length_eq_zero_iff, List.filter_eq_nil_iff]
  intro b hb
  have := h b hb
  simp
  omega
theorem cnts_more {n m : Nat} {l : List Nat} (h : ∀ b ∈ l, b < n) : cnts (n + m) l = cnts n l ++ List.replicate m 0 := by
  unfold cnts
  rw [List.range_add, List.map_append, List.map_map]
  congr 1
  refine List.ext_getElem (by simp) fun k h1 h2 => ?_
  simp
  refine cnt_zero fun b hb => ?_
  have := h b hb
  omega
/-! ### what is true of a ship -/
structure Wf (S : Ship) : Prop where
  p0 : 0 ≤ S.port
  p11 : S.port ≤ 11
  ns : S.stacks.length ≤ 5
  h : 1 ≤ S.height ∧ S.height ≤ 60
  nb : S.boxes.length ≤ 60
  tos : ∀ k < S.boxes.length, 1 ≤ toB S.boxes k ∧ toB S.boxes k ≤ 11
  perm : S.stacks.flatten.Perm ((List.range S.boxes.length).filter fun k => decide (toB S.boxes k > S.port))
  low : ∀ st ∈ S.stacks, (st.length : Int) ≤ S.height
  lif : ∀ b ∈ S.lifted, b < S.boxes.length
  nl : (S.lifted.length : Int) ≤ 60 * S.port
theorem Wf.mem {S : Ship} (w : Wf S) {st : List Nat} (h : st ∈ S.stacks) {n : Nat} (hn : n ∈ st) : n < S.boxes.length := by
  have h1 := w.perm.subset (List.mem_flatten.mpr ⟨st, h, hn⟩)
  exact List.mem_range.mp (List.mem_filter.mp h1).1
theorem Wf.flat {S : Ship} (w : Wf S) : S.stacks.flatten.length ≤ 60 := by
  rw [w.perm.length_eq]
  have h1 := List.length_filter_le (fun k => decide (toB S.boxes k > S.port)) (List.range S.boxes.length)
  rw [List.length_range] at h1
  have := w.nb
  omega
theorem Wf.len {S : Ship} (w : Wf S) {st : List Nat} (h : st ∈ S.stacks) : st.length ≤ 60 := by
  have h1 := w.low st h
  have h2 := w.h
  omega
theorem wf_new {h : Int} {n : Nat} (hh : 1 ≤ h ∧ h ≤ 60) (hn : n ≤ 5) : Wf { port := 0, height := h, stacks := List.replicate n [], boxes := [], lifted := [] } where
  p0 := by show (0 : Int) ≤ 0; omega
  p11 := by show (0 : Int) ≤ 11; omega
  ns := by simpa using hn
  h := hh
  nb := by simp
  tos := by simp
  perm := by simp
  low := by
    intro st hst
    have := List.eq_of_mem_replicate hst
    subst this
    show ((0 : Nat) : Int) ≤ h
    omega
  lif := by simp
  nl := by simp
theorem flat_filter (f : Nat → Bool) : ∀ l : List (List Nat), (l.map fun st => st.filter f).flatten = l.flatten.filter f
  | [] => rfl
  | x :: r => by rw [List.map_cons, List.flatten_cons, List.flatten_cons, List.filter_append, flat_filter f r]
theorem sailS_all (S : Ship) : sailS S S.stacks.length = S.stacks.map (opnS S.boxes (S.port + 1)) := by
  unfold sailS
  rw [stg_full]
  conv => rhs; rw [← getD_id S.stacks]
  rw [List.map_map]
  rfl
theorem sailE_all (S : Ship) : sailE S S.stacks.length = S.stacks.flatMap (opnE S.boxes (S.port + 1)) := by
  unfold sailE
  conv => rhs; rw [← getD_id S.stacks]
  rw [List.flatMap_map]
  rfl
theorem liftsOf_app (a b : List Evt) : liftsOf (a ++ b) = liftsOf a ++ liftsOf b := by unfold liftsOf; rw [List.filter_append, List.map_append]
theorem lifts_opn (B : Bx) (p : Int) (st : List Nat) : (liftsOf (opnE B p st)).length ≤ st.length := by
  unfold opnE
  rw [liftsOf_app]
  have h0 : liftsOf (((suf B p st).filter fun n => !hit B p n).map fun n => (⟨p, "restow", n⟩ : Evt)) = [] := by
    unfold liftsOf
    rw [List.map_eq_nil_iff, List.filter_eq_nil_iff]
    intro e he
    obtain ⟨n, _, rfl⟩ := List.mem_map.mp he
    simp only [decide_eq_true_eq]
    decide
  rw [h0, List.append_nil]
  unfold liftsOf opnE1
  rw [List.length_map]
  refine Nat.le_trans (List.length_filter_le _ _) ?_
  rw [List.length_map, List.length_reverse]
  exact (suf_sub B p st).length_le
theorem lifts_flat (B : Bx) (p : Int) : ∀ l : List (List Nat), (liftsOf (l.flatMap (opnE B p))).length ≤ l.flatten.length
  | [] => by simp [liftsOf]
  | x :: r => by
    rw [List.flatMap_cons, liftsOf_app, List.flatten_cons, List.length_append, List.length_append]
    have h1 := lifts_opn B p x
    have h2 := lifts_flat B p r
    omega
theorem len_flat (B : Bx) (p : Int) : ∀ l : List (List Nat), (l.flatMap (opnE B p)).length ≤ 2 * l.flatten.length
  | [] => by simp
  | x :: r => by
    rw [List.flatMap_cons, List.flatten_cons, List.length_append, List.length_append]
    have h1 := opnE_len B p x
    have h2 := len_flat B p r
    omega
theorem sailE_mem {S : Ship} (w : Wf S) {e : Evt} (h : e ∈ sailE S S.stacks.length) : e.b < S.boxes.length := by
  rw [sailE_all] at h
  obtain ⟨st, h1, h2⟩ := List.mem_flatMap.mp h
  exact w.mem h1 (opnE_mem h2)
theorem wf_sail {S : Ship} (w : Wf S) (hp : ¬ S.port = 11) : Wf (sil S) where
  p0 := by have := w.p0; show 0 ≤ S.port + 1; omega
  p11 := by have := w.p11; show S.port + 1 ≤ 11; omega
  ns := by
    show (sailS S S.stacks.length).length ≤ 5
    rw [sailS_all, List.length_map]
    exact w.ns
  h := w.h
  nb := w.nb
  tos := w.tos
  perm := by
    show (sailS S S.stacks.length).flatten.Perm ((List.range S.boxes.length).filter fun k => decide (toB S.boxes k > S.port + 1))
    rw [sailS_all]
    unfold opnS
    rw [flat_filter]
    refine (w.perm.filter _).trans (List.Perm.of_eq ?_)
    rw [List.filter_filter]
    refine List.filter_congr fun k _ => ?_
    unfold hit
    rw [← decide_not, ← Bool.decide_and]
    exact decide_eq_decide.mpr (by omega)
  low := by
    intro st hst
    have hst : st ∈ sailS S S.stacks.length := hst
    rw [sailS_all] at hst
    obtain ⟨s0, h1, rfl⟩ := List.mem_map.mp hst
    have := w.low s0 h1
    have := opnS_len S.boxes (S.port + 1) s0
    show ((opnS S.boxes (S.port + 1) s0).length : Int) ≤ S.height
    omega
  lif := by
    intro b hb
    have hb : b ∈ S.lifted ++ liftsOf (sailE S S.stacks.length) := hb
    rcases List.mem_append.mp hb with h | h
    · exact w.lif b h
    · unfold liftsOf at h
      obtain ⟨e, h1, rfl⟩ := List.mem_map.mp h
      exact sailE_mem w (List.mem_filter.mp h1).1
  nl := by
    show (((S.lifted ++ liftsOf (sailE S S.stacks.length)).length : Nat) : Int) ≤ 60 * (S.port + 1)
    rw [List.length_append, sailE_all]
    have h1 := lifts_flat S.boxes (S.port + 1) S.stacks
    have h2 := w.flat
    have h3 := w.nl
    omega
theorem chk_none {S : Ship} {ls : Ld} (h : chk S ls = none) : ¬ S.port = 11 ∧ (∀ k < ls.length, badAt S ls k = false) ∧ S.boxes.length + ls.length ≤ 60 ∧ ∀ j < S.stacks.length, fullAt S ls j = false := by
  unfold chk at h
  by_cases hp : S.port = 11
  · rw [if_pos hp] at h
    cases h
  · rw [if_neg hp] at h
    cases h1 : (List.range ls.length).find? (badAt S ls) with
    | some k =>
      rw [h1] at h
      cases h
    | none =>
      rw [h1] at h
      by_cases hm : S.boxes.length + ls.length > 60
      · rw [if_pos hm] at h
        cases h
      · rw [if_neg hm] at h
        cases h2 : (List.range S.stacks.length).find? (fullAt S ls) with
        | some j =>
          rw [h2] at h
          cases h
        | none =>
          refine ⟨hp, fun k hk => by simpa using List.find?_range_eq_none.mp h1 k hk, by omega, fun j hj => by simpa using List.find?_range_eq_none.mp h2 j hj⟩
theorem badAt_false {S : Ship} {ls : Ld} {k : Nat} (h : badAt S ls k = false) : 0 ≤ (ldAt ls k).1 ∧ (ldAt ls k).1 < (S.stacks.length : Int) ∧ S.port < (ldAt ls k).2 ∧ (ldAt ls k).2 < 12 := by
  unfold badAt badL at h
  simp at h
  omega
theorem ldAt_get {ls : Ld} {k : Nat} (h : k < ls.length) : ls[k]? = some (ldAt ls k) := by
  unfold ldAt
  simp [h]
theorem toB_old {S : Ship} {ls : Ld} {k : Nat} (h : k < S.boxes.length) : toB (lodB S ls) k = toB S.boxes k := by
  unfold toB lodB
  simp [List.getD_eq_getElem?_getD, List.getElem?_append_left h]
theorem toB_new {S : Ship} {ls : Ld} {k : Nat} (h : k < ls.length) : toB (lodB S ls) (S.boxes.length + k) = (ldAt ls k).2 := by
  unfold toB lodB ldAt
  simp [List.getD_eq_getElem?_getD, List.getElem?_append_right, h]
theorem lodB_len (S : Ship) (ls : Ld) : (lodB S ls).length = S.boxes.length + ls.length := by
  unfold lodB
  rw [List.length_append, List.length_map]
theorem cho_mem {ls : Ld} {j k : Nat} (h : k ∈ cho ls j) : k < ls.length := List.mem_range.mp (List.mem_filter.mp h).1
theorem lodC_mem {S : Ship} {ls : Ld} {j n : Nat} (h : n ∈ lodC S ls j) : ∃ k, k < ls.length ∧ n = S.boxes.length + k := by
  have h1 := List.mem_mergeSort.mp h
  obtain ⟨k, h2, rfl⟩ := List.mem_map.mp h1
  exact ⟨k, cho_mem h2, rfl⟩
theorem lodC_len (S : Ship) (ls : Ld) (j : Nat) : (lodC S ls j).length = (cho ls j).length := by
  unfold lodC lodN
  rw [List.length_mergeSort, List.length_map]
theorem cho_len (ls : Ld) (j : Nat) : (cho ls j).length ≤ ls.length := by
  have h := List.length_filter_le (fun k => decide ((ldAt ls k).1 = (j : Int))) (List.range ls.length)
  rw [List.length_range] at h
  exact h
theorem lodS_all (S : Ship) (ls : Ld) : lodS S ls S.stacks.length = (List.range S.stacks.length).map fun j => stk S j ++ lodC S ls j := by
  unfold lodS
  rw [stg_full]
theorem flat_app (f g : Nat → List Nat) : ∀ l : List Nat, ((l.map fun j => f j ++ g j).flatten).Perm ((l.map f).flatten ++ l.flatMap g)
  | [] => List.Perm.refl _
  | x :: r => by
    rw [List.map_cons, List.flatten_cons, List.map_cons, List.flatten_cons, List.flatMap_cons]
    have h := flat_app f g r
    have h1 : (f x ++ g x ++ (r.map fun j => f j ++ g j).flatten).Perm (f x ++ (g x ++ ((r.map f).flatten ++ r.flatMap g))) := by
      rw [List.append_assoc]
      exact (h.append_left _).append_left _
    refine h1.trans ?_
    rw [List.append_assoc]
    refine List.Perm.append_left _ ?_
    rw [← List.append_assoc, ← List.append_assoc]
    exact List.Perm.append_right _ List.perm_append_comm
theorem flatMap_perm {f g : Nat → List Nat} : ∀ {l : List Nat}, (∀ j, (f j).Perm (g j)) → (l.flatMap f).Perm (l.flatMap g)
  | [], _ => List.Perm.refl _
  | x :: r, h => by
    rw [List.flatMap_cons, List.flatMap_cons]
    exact (h x).append (flatMap_perm h)
theorem wf_load {S : Ship} {ls : Ld} (w : Wf S) (hc : chk S ls = none) : Wf (lod S ls) := by
  obtain ⟨hp, hb, hm, hf⟩ := chk_none hc
  refine ⟨w.p0, w.p11, ?_, w.h, ?_, ?_, ?_, ?_, ?_, w.nl⟩
  · show (lodS S ls S.stacks.length).length ≤ 5
    rw [lodS_all, List.length_map, List.length_range]
    exact w.ns
  · show (lodB S ls).length ≤ 60
    rw [lodB_len]
    exact hm
  · intro k hk
    have hk : k < (lodB S ls).length := hk
    rw [lodB_len] at hk
    show 1 ≤ toB (lodB S ls) k ∧ toB (lodB S ls) k ≤ 11
    by_cases h : k < S.boxes.length
    · rw [toB_old h]
      exact w.tos k h
    · obtain ⟨m, rfl⟩ : ∃ m, k = S.boxes.length + m := ⟨k - S.boxes.length, by omega⟩
      rw [toB_new (by omega)]
      have := badAt_false (hb m (by omega))
      have := w.p0
      omega
  · show (lodS S ls S.stacks.length).flatten.Perm ((List.range (lodB S ls).length).filter fun k => decide (toB (lodB S ls) k > S.port))
    rw [lodS_all, lodB_len, List.range_add, List.filter_append]
    refine (flat_app _ _ _).trans ?_
    rw [show (List.range S.stacks.length).map (fun j => stk S j) = S.stacks from getD_id S.stacks]
    refine List.Perm.append (w.perm.trans (List.Perm.of_eq (List.filter_congr fun k hk => ?_))) ?_
    · rw [toB_old (List.mem_range.mp hk)]
    · have h1 : ((List.range S.stacks.length).flatMap fun j => lodC S ls j).Perm ((List.range S.stacks.length).flatMap fun j => (cho ls j).map (S.boxes.length + ·)) := flatMap_perm fun j => List.mergeSort_perm _ _
      refine h1.trans ?_
      have h2 : ((List.range S.stacks.length).flatMap fun j => (cho ls j).map (S.boxes.length + ·)) = ((List.range S.stacks.length).flatMap fun j => cho ls j).map (S.boxes.length + ·) := by rw [List.map_flatMap]
      rw [h2]
      have h3 : ((List.range ls.length).map (fun x => S.boxes.length + x)).filter (fun k => decide (toB (lodB S ls) k > S.port)) = (List.range ls.length).map (fun x => S.boxes.length + x) := by
        rw [List.filter_eq_self]
        intro k hk
        obtain ⟨m, hm, rfl⟩ := List.mem_map.mp hk
        have hm := List.mem_range.mp hm
        rw [toB_new hm]
        exact decide_eq_true (badAt_false (hb m hm)).2.2.1
      rw [h3]
      refine List.Perm.map _ ?_
      have h4 := parts_all (fun k => (ldAt ls k).1.toNat) (List.range ls.length) S.stacks.length (fun k hk => by
        have := badAt_false (hb k (List.mem_range.mp hk))
        omega)
      refine (List.Perm.of_eq ?_).trans h4
      refine flatMap_congrL fun j _ => List.filter_congr fun k hk => decide_eq_decide.mpr ?_
      have := badAt_false (hb k (List.mem_range.mp hk))
      omega
  · intro st hst
    have hst : st ∈ lodS S ls S.stacks.length := hst
    rw [lodS_all] at hst
    obtain ⟨j, hj, rfl⟩ := List.mem_map.mp hst
    have hj := List.mem_range.mp hj
    have h1 := hf j hj
    unfold fullAt at h1
    have h2 := of_decide_eq_false h1
    show ((stk S j ++ lodC S ls j).length : Int) ≤ S.height
    rw [List.length_append, lodC_len]
    omega
  · intro b hb
    have := w.lif b hb
    show b < (lodB S ls).length
    rw [lodB_len]
    omega
theorem lodN_sorted (S : Ship) (ls : Ld) (j : Nat) : (lodN S ls j).Pairwise (· < ·) := by
  unfold lodN cho
  rw [List.pairwise_map]
  refine List.pairwise_filter.mpr (List.pairwise_lt_range.imp fun {a b} h _ _ => ?_)
  omega
theorem lodC_into {S : Ship} {ls : Ld} (w : Wf S) (hc : chk S ls = none) (j : Nat) : lodC S ls j = intoL (lodB S ls) (lodN S ls j) 11 := by
  refine into_sort (lodN_sorted S ls j) fun n hn => ?_
  obtain ⟨k, h1, rfl⟩ := List.mem_map.mp hn
  have w' := wf_load w hc
  have h2 := cho_mem h1
  exact w'.tos (S.boxes.length + k) (by show _ < (lodB S ls).length; rw [lodB_len]; omega)
theorem wf_resLoad {S : Ship} {ls : Ld} (w : Wf S) : Wf (resLoad S ls).2 := by
  unfold resLoad
  cases h : chk S ls with
  | some e => exact w
  | none => exact wf_load w h
theorem wf_resSail {S : Ship} (w : Wf S) : Wf (resSail S).2 := by
  unfold resSail
  by_cases h : S.port = 11
  · rw [if_pos h]
    exact w
  · rw [if_neg h]
    exact wf_sail w h
end QM
/-! The promises of the program's defs and of the law's. -/
namespace Q
open PySem PySem.Spec PyProof.Rows L2 Evl LamX QM
/-- inner lists -/
structure Sks (H : Hp) (as : List Addr) (sts : List (List Nat)) : Prop where
  len : as.length = sts.length
  at_ : ∀ (i : Nat) (s : Addr) (st : List Nat), as[i]? = some s → sts[i]? = some st → H s = some (.lst (st.map nV))
theorem Sks.get {H : Hp} {as : List Addr} {sts : List (List Nat)} (h : Sks H as sts) {i : Nat} {st : List Nat} (hi : sts[i]? = some st) : ∃ s, as[i]? = some s ∧ H s = some (.lst (st.map nV)) := by
  have hl := (List.getElem?_eq_some_iff.mp hi).1
  have hl' : i < as.length := by rw [h.len]; exact hl
  exact ⟨as[i], List.getElem?_eq_getElem hl', h.at_ i _ st (List.getElem?_eq_getElem hl') hi⟩
theorem Sks.get' {H : Hp} {as : List Addr} {sts : List (List Nat)} (h : Sks H as sts) {i : Nat} {s : Addr} (hi : as[i]? = some s) : ∃ st, sts[i]? = some st ∧ H s = some (.lst (st.map nV)) := by
  have hl := (List.getElem?_eq_some_iff.mp hi).1
  have hl' : i < sts.length := by rw [← h.len]; exact hl
  exact ⟨sts[i], List.getElem?_eq_getElem hl', h.at_ i s _ hi (List.getElem?_eq_getElem hl')⟩
theorem Sks.kp {H H' : Hp} {as : List Addr} {sts : List (List Nat)} (h : Sks H as sts) (k : ∀ (b : Addr) (xs : List V), b ∈ as → H b = some (.lst xs) → H' b = some (.lst xs)) : Sks H' as sts :=
  ⟨h.len, fun i s st h1 h2 => k s _ (List.mem_of_getElem? h1) (h.at_ i s st h1 h2)⟩
theorem Sks.ex {H H' : Hp} {as : List Addr} {sts : List (List Nat)} (h : Sks H as sts) (e : Ex H H') : Sks H' as sts := h.kp fun b xs _ q => e b _ q
/-- place i changed: address and stack -/
theorem Sks.set {H H' : Hp} {as : List Addr} {sts : List (List Nat)} (h : Sks H as sts) {i : Nat} {s : Addr} {st : List Nat} (k : ∀ (j : Nat) (b : Addr), j ≠ i → as[j]? = some b → ∀ xs, H b = some (.lst xs) → H' b = some (.lst xs)) (hs : H' s = some (.lst (st.map nV))) : Sks H' (as.set i s) (sts.set i st) := by
  refine ⟨by rw [List.length_set, List.length_set, h.len], fun j b t h1 h2 => ?_⟩
  by_cases hj : i = j
  · subst hj
    rw [List.getElem?_set] at h1 h2
    rw [if_pos rfl] at h1 h2
    split at h1
    · split at h2
      · cases h1
        cases h2
        exact hs
      · cases h2
    · cases h1
  · rw [List.getElem?_set_ne hj] at h1 h2
    exact k j b (fun z => hj z.symm) h1 _ (h.at_ j b t h1 h2)
abbrev bxs (B : Bx) : List Dat := B.map bD
abbrev evs (es : List Evt) : List Dat := es.map evD
/-- boxes[box][1] -/
theorem bx_at {B : Bx} {n : Nat} (h : n < B.length) : (bxs B)[n]? = some (.tup [.int (B.getD n (0, 0)).1, .int (toB B n)]) := by
  unfold toB
  simp [bxs, bD, h]
/-! ### the program -/
def spCount (K : PySem.W.Frag) : Sp := fun vs H Q _ => ∃ (l : Addr) (ns : List Nat), vs = [.ref l] ∧ H l = some (.lst (ns.map nV)) ∧ ns.length ≤ 1000 ∧ ∀ H', Ex H H' → Q (.int (((ns.foldl Nat.max 0 : Nat) : Int) + (if ns = [] then 0 else 1))) H'
def spOpened : Sp := fun vs H Q _ => ∃ (s lb : Addr) (st : List Nat) (B : Bx) (p : Int), vs = [.ref s, .ref lb, .int p] ∧ H s = some (.lst (st.map nV)) ∧ LstD H lb (bxs B) ∧ (∀ n ∈ st, n < B.length) ∧ st.length ≤ 1000 ∧
  ∀ (w s' t : Addr) (H' : Hp), Ex H H' → H w = none → (s' = s ∨ H s' = none) → w ≠ s' → H' t = some (.tup [.ref w, .ref s']) → LstD H' w (evs (opnE B p st)) → H' s' = some (.lst ((opnS B p st).map nV)) → Q (.ref t) H'
def spLoading (P : Addr) : Sp := fun vs H Q _ => ∃ (lb l : Addr) (ns : List Nat) (B : Bx), vs = [.ref lb, .ref l] ∧ LstD H lb (bxs B) ∧ H l = some (.lst (ns.map nV)) ∧ (∀ n ∈ ns, n < B.length) ∧ ns.length ≤ 1000 ∧ TabS H P lamQ ∧
  ∀ (p : Addr) (H' : Hp), Kp P (fun _ => False) H H' → TabS H' P lamQ → Fre H p → H' p = some (.lst ((ns.mergeSort (QL.leTo (toB B))).map nV)) → Q (.ref p) H'
/-! ### a voyage at v -/
def vfs (h p : Int) (l lb ll : Addr) : List (Str × V) := [("height", .int h), ("port", .int p), ("_stacks", .ref l), ("_boxes", .ref lb), ("_lifts", .ref ll)]
section
variable {h p q : Int} {l lb ll : Addr}
theorem vfs_height : (vfs h p l lb ll).lookup ("height" : Str) = some (.int h) := rfl
theorem vfs_port : (vfs h p l lb ll).lookup ("port" : Str) = some (.int p) := rfl
theorem vfs_stacks : (vfs h p l lb ll).lookup ("_stacks" : Str) = some (.ref l) := rfl
theorem vfs_boxes : (vfs h p l lb ll).lookup ("_boxes" : Str) = some (.ref lb) := rfl
theorem vfs_lifts : (vfs h p l lb ll).lookup ("_lifts" : Str) = some (.ref ll) := rfl
theorem vfs_mCheck : (vfs h p l lb ll).lookup ("_check" : Str) = none := rfl
theorem vfs_mLoad : (vfs h p l lb ll).lookup ("load" : Str) = none := rfl
theorem vfs_mSail : (vfs h p l lb ll).lookup ("sail" : Str) = none := rfl
theorem vfs_mStacks : (vfs h p l lb ll).lookup ("stacks" : Str) = none := rfl
theorem vfs_mLifts : (vfs h p l lb ll).lookup ("lift_counts" : Str) = none := rfl
theorem vfs_put : putF "port" (.int q) (vfs h p l lb ll) = vfs h q l lb ll := rfl
end
structure VoyAt (c : Addr) (H : Hp) (v l lb ll : Addr) (as : List Addr) (S : Ship) : Prop where
  ob : ∃ dx, H v = some (.ins c dx (vfs S.height S.port l lb ll))
  li : H l = some (.lst (as.map V.ref))
  nd : (l :: lb :: ll :: as).Nodup
  sk : Sks H as S.stacks
  bx : LstD H lb (bxs S.boxes)
  lf : H ll = some (.lst ((cnts S.boxes.length S.lifted).map nV))
/-- what a voyage owns -/
def VOw (v l lb ll : Addr) (as : List Addr) (b : Addr) : Prop := b = v ∨ b = l ∨ b = lb ∨ b = ll ∨ b ∈ as
theorem VoyAt.kp {c : Addr} {H H' : Hp} {v l lb ll P : Addr} {as : List Addr} {S : Ship} {M : Addr → Prop} (V : VoyAt c H v l lb ll as S) (k : Kp P M H H') (hm : ∀ b, VOw v l lb ll as b → ¬ M b) : VoyAt c H' v l lb ll as S := by
  obtain ⟨⟨dx, h1⟩, h2, h3, h4, h5, h6⟩ := V
  exact ⟨⟨dx, k.keep _ _ h1 noTbl_ins (.inl (hm _ (.inl rfl)))⟩, k.keep _ _ h2 noTbl_lst (.inl (hm _ (.inr (.inl rfl)))), h3, h4.kp fun b xs hb q => k.keep _ _ q noTbl_lst (.inl (hm _ (.inr (.inr (.inr (.inr hb)))))), h5.kp k (hm _ (.inr (.inr (.inl rfl)))), k.keep _ _ h6 noTbl_lst (.inl (hm _ (.inr (.inr (.inr (.inl rfl))))))⟩
theorem VoyAt.ex {c : Addr} {H H' : Hp} {v l lb ll : Addr} {as : List Addr} {S : Ship} (V : VoyAt c H v l lb ll as S) (e : Ex H H') : VoyAt c H' v l lb ll as S := by
  obtain ⟨⟨dx, h1⟩, h2, h3, h4, h5, h6⟩ := V
  exact ⟨⟨dx, e _ _ h1⟩, e _ _ h2, h3, h4.ex e, h5.ex e, e _ _ h6⟩
/-- loads -/
abbrev lds (ls : Ld) : List Dat := ls.map fun l => Dat.tup [.int l.1, .int l.2]
def spIni (c : Addr) : Sp := fun vs H Q _ => ∃ (v dx : Addr) (n : Nat) (h : Int), vs = [.ref v, .int n, .int h] ∧ H v = some (.ins c dx []) ∧ n ≤ 1000 ∧
  ∀ (l lb ll : Addr) (as : List Addr) (H' : Hp), VoyAt c H' v l lb ll as { port := 0, height := h, stacks := List.replicate n [], boxes := [], lifted := [] } → (∀ b, VOw v l lb ll as b → b = v ∨ H b = none) → (∀ b o, H b = some o → b ≠ v → H' b = some o) → Q .non H'
/-- the error that is due -/
def raisesEr (a : Ads) (E : XK) (H : Hp) : Er → Prop
  | .over => ∀ H', Ex H H' → E (.ref a.cOver) none H'
  | .bad k => ∀ d H', Ex H H' → H' d = some (.xd [("box", nV k)]) → E (.ref a.cBad) (some d) H'
  | .many => ∀ H', Ex H H' → E (.ref a.cMany) none H'
  | .full j => ∀ d H', Ex H H' → H' d = some (.xd [("stack", nV j)]) → E (.ref a.cFull) (some d) H'
def spCheck (a : Ads) : Sp := fun vs H Q E => ∃ (v l lb ll ld : Addr) (as : List Addr) (S : Ship) (ls : Ld), vs = [.ref v, .ref ld] ∧ VoyAt a.cV H v l lb ll as S ∧ LstD H ld (lds ls) ∧ ls.length ≤ 1000 ∧ Wf S ∧
  (∀ e, chk S ls = some e → raisesEr a E H e) ∧ (chk S ls = none → ∀ H', Ex H H' → Q .non H')
def spLoad (a : Ads) : Sp := fun vs H Q E => ∃ (v l lb ll ld : Addr) (as : List Addr) (S : Ship) (ls : Ld), vs = [.ref v, .ref ld] ∧ VoyAt a.cV H v l lb ll as S ∧ LstD H ld (lds ls) ∧ ls.length ≤ 1000 ∧ Wf S ∧ TabS H a.kP lamQ ∧ ¬ VOw v l lb ll as ld ∧
  (∀ e, chk S ls = some e → raisesEr a E H e) ∧ (chk S ls = none → ∀ (t : V) (H' : Hp), Kp a.kP (VOw v l lb ll as) H H' → VoyAt a.cV H' v l lb ll as (lod S ls) → DAt H' t (.tup (evs (lodE S ls S.stacks.length))) → Q t H')
def spSail (a : Ads) : Sp := fun vs H Q E => ∃ (v l lb ll : Addr) (as : List Addr) (S : Ship), vs = [.ref v] ∧ VoyAt a.cV H v l lb ll as S ∧ Wf S ∧
  (S.port = 11 → raisesEr a E H .over) ∧ (¬ S.port = 11 → ∀ (t : V) (as' : List Addr) (H' : Hp), Kp a.kP (VOw v l lb ll as) H H' → VoyAt a.cV H' v l lb ll as' (sil S) → (∀ b ∈ as', b ∈ as ∨ H b = none) → DAt H' t (.tup (evs (sailE S S.stacks.length))) → Q t H')
abbrev stD (sts : List (List Nat)) : Dat := .tup (sts.map fun st => Dat.tup (st.map dn))
def spStacks (a : Ads) : Sp := fun vs H Q _ => ∃ (v l lb ll : Addr) (as : List Addr) (S : Ship), vs = [.ref v] ∧ VoyAt a.cV H v l lb ll as S ∧ Wf S ∧ ∀ (t : V) (H' : Hp), Ex H H' → DAt H' t (stD S.stacks) → Q t H'
def spLifts (a : Ads) : Sp := fun vs H Q _ => ∃ (v l lb ll : Addr) (as : List Addr) (S : Ship), vs = [.ref v] ∧ VoyAt a.cV H v l lb ll as S ∧ Wf S ∧ ∀ (t : V) (H' : Hp), Ex H H' → DAt H' t (.tup ((cnts S.boxes.length S.lifted).map dn)) → Q t H'
end Q
/-! Rules of the layer with the written part named. -/
namespace Q
open PySem PySem.Spec PyProof.Rows L2 Evl LamX QM
section
variable {X : Cx}
theorem ixl (K : PySem.W.Frag) (h : X.K = K := by rfl) : IxR X (rIxL K) := h ▸ ix_list
theorem ixt (K : PySem.W.Frag) (h : X.K = K := by rfl) : IxR X (rIxT K) := h ▸ ix_tup
theorem fldK (K : PySem.W.Frag) {e : Expr} {f : Str} {pos : Pos} {ta : TE} (he : PE X e ta) (h : X.K = K := by rfl) (hb : attributeBase e f X.env (eval e X.env) = eval e X.env := by rfl) : PE X (.Attribute e f pos) (tFld K ta f) := h ▸ pe_fld he hb
theorem lenK (K : PySem.W.Frag) (h : X.K = K := by rfl) : CallR X (.builtin "len") (rLenS K) := h ▸ call_len_seq
theorem tupK (K : PySem.W.Frag) (h : X.K = K := by rfl) : CallR X (.type "tuple") (rTupS K) := h ▸ call_tuple_of
theorem pilK (K : PySem.W.Frag) {tg e : Expr} {tl : TE} (hl : PE X e tl) (h : X.K = K := by rfl) : PI X tg e (iList K tl) := h ▸ pi_list hl
theorem pitK (K : PySem.W.Frag) {tg e : Expr} {tl : TE} (hl : PE X e tl) (h : X.K = K := by rfl) : PI X tg e (iTup K tl) := h ▸ pi_tup hl
/-- what the truth of a value is, as the heap has it -/
def rTru (K : PySem.W.Frag) (Q : Bool → Hp → Prop) : VK := fun v H => ∃ b, TruV K v H b ∧ Q b H
def tTru (K : PySem.W.Frag) (te : TE) : TT := fun σ H Q => te σ H (rTru K Q)
theorem ptTru (K : PySem.W.Frag) {e : Expr} {ta : TE} (ha : PE X e ta) (h : X.K = K := by rfl) (he : ∀ whole, isTrue e X.env whole = (do let v ← whole; standAt e.pos; holding [v] (truthy v)) := by intro _; rfl) : PT X e (tTru K ta) := h ▸ pt_truth ha he
end
section
variable {K : PySem.W.Frag} {σ : L2.St} {H H' : Hp} {ta tb te tv tx : TE} {x y z v : V} {ds : List Dat} {D : Ends} {tu tz : TS}
theorem et_truD (h : EvLs te σ H ds) : EvT (tTru K te) σ H (!ds.isEmpty) := fun H1 e Q q => h H1 e _ fun p H2 e2 hp => by
  obtain ⟨vs, h1, h2⟩ := hp
  refine ⟨_, .inl ⟨vs, sq_of h1, rfl⟩, ?_⟩
  have : vs.isEmpty = ds.isEmpty := by
    cases h2 <;> rfl
  rw [this]
  exact q H2 e2
theorem el_of_eld {ns : List Nat} (h : EvLD te σ H (ns.map dn)) : EvL te σ H (ns.map nV) := fun H1 e Q q => h H1 e _ fun p H2 hp e2 hl => q p H2 hp e2 hl.nats
theorem ea_one (h : Ev te σ H x) : EvA (tCons te tNil) σ H [x] := ea_cons h ea_nil
/-- o.f = e -/
theorem s_fld {p C dx : Addr} {fs : List (Str × V)} {f : Str} (hv : Ev tv σ H v) (ho : Ev ta σ H (.ref p)) (h : H p = some (.ins C dx fs)) (hc : Cls K C) (hn : NoAttr K C f) (hl : fs.length < 1000) (k : ∀ H1, Ex H H1 → D.nx σ (upd H1 p (.ins C dx (putF f v fs)))) : sFld K ta tv f D σ H :=
  hv H (Ex.refl H) _ fun H1 e1 => ho H1 e1 _ fun H2 e2 => ⟨p, C, dx, fs, rfl, (e1.trans e2) _ _ h, hc, hn, hl, k H2 (e1.trans e2)⟩
theorem q_fld {p C dx : Addr} {fs : List (Str × V)} {f : Str} (hv : Ev tv σ H v) (ho : Ev ta σ H (.ref p)) (h : H p = some (.ins C dx fs)) (hc : Cls K C) (hn : NoAttr K C f) (hl : fs.length < 1000) (k : ∀ H1, Ex H H1 → tz D σ (upd H1 p (.ins C dx (putF f v fs)))) : tSeq (sFld K ta tv f) tz D σ H :=
  s_fld (D := { D with nx := tz D }) hv ho h hc hn hl k
theorem s_fldL {p C dx : Addr} {fs : List (Str × V)} {f : Str} (hv : EvLD tv σ H ds) (ho : Ev ta σ H (.ref p)) (h : H p = some (.ins C dx fs)) (hc : Cls K C) (hn : NoAttr K C f) (hl : fs.length < 1000) (k : ∀ l H1, H l = none → Ex H H1 → LstD H1 l ds → D.nx σ (upd H1 p (.ins C dx (putF f (.ref l) fs)))) : sFld K ta tv f D σ H :=
  hv H (Ex.refl H) _ fun l H1 hl1 e1 hd => ho H1 e1 _ fun H2 e2 => ⟨p, C, dx, fs, rfl, (e1.trans e2) _ _ h, hc, hn, hl, k l H2 hl1 (e1.trans e2) (hd.ex e2)⟩
theorem q_fldL {p C dx : Addr} {fs : List (Str × V)} {f : Str} (hv : EvLD tv σ H ds) (ho : Ev ta σ H (.ref p)) (h : H p = some (.ins C dx fs)) (hc : Cls K C) (hn : NoAttr K C f) (hl : fs.length < 1000) (k : ∀ l H1, H l = none → Ex H H1 → LstD H1 l ds → tz D σ (upd H1 p (.ins C dx (putF f (.ref l) fs)))) : tSeq (sFld K ta tv f) tz D σ H :=
  s_fldL (D := { D with nx := tz D }) hv ho h hc hn hl k
/-- l.reverse() -/
theorem q_revD {l : Addr} (hl : LstD H l ds) (ha : Ev ta σ H (.ref l)) (k : ∀ H1, Mo (fun b => b = l) H H1 → LstD H1 l ds.reverse → tz D σ H1) : tSeq (tDrop (tBM0 K "list" rReverse ta)) tz D σ H := ha H (Ex.refl H) _ fun H1 e1 => by
  obtain ⟨xs, h1, h2⟩ := hl.ex e1
  exact ⟨Or.inl ⟨rfl, xs, sq_of h1⟩, l, xs, rfl, rfl, h1, k _ ((Mo.ex e1).updL h1 (.inl rfl)) ⟨_, upd_same, (h2.reverse).tk (.upd h1)⟩⟩
/-- (port, word, box) -/
theorem evd_evt {t1 t2 t3 : TE} {p : Int} {w : Str} {n : Nat} (h1 : Ev t1 σ H (.int p)) (h2 : Ev t2 σ H (.str w)) (h3 : Ev t3 σ H (nV n)) : EvD (tTup (tCons t1 (tCons t2 (tCons t3 tNil)))) σ H (evD ⟨p, w, n⟩) :=
  evd_tup (ead_cons (evd_i h1) (ead_cons (evd_s h2) (ead_cons (evd_i h3) ead_nil))) (by show 3 ≤ 100000; decide)
theorem evd_pair {t1 t2 : TE} {p q : Int} (h1 : Ev t1 σ H (.int p)) (h2 : Ev t2 σ H (.int q)) : EvD (tTup (tCons t1 (tCons t2 tNil))) σ H (bD (p, q)) :=
  evd_tup (ead_cons (evd_i h1) (ead_cons (evd_i h2) ead_nil)) (by show 2 ≤ 100000; decide)
theorem givD_map {α : Type} (l : List α) (z : α) (f : α → Bool) (v : α → Dat) : givD l.length (fun i => f (l.getD i z)) (fun i => v (l.getD i z)) = (l.filter f).map v := by
  have h : (List.range l.length).map (fun i => l.getD i z) = l := by
    refine List.ext_getElem (by simp) fun k h1 h2 => ?_
    simp [h2]
  unfold givD
  conv => rhs; rw [← h]
  rw [List.filter_map, List.map_map]
  rfl
theorem map_get {α : Type} {l : List α} {z : α} {e : α → Dat} {i : Nat} {d : Dat} (h : (l.map e)[i]? = some d) : d = e (l.getD i z) ∧ l.getD i z ∈ l ∧ i < l.length := by
  rw [List.getElem?_map] at h
  cases q : l[i]? with
  | none =>
    rw [q] at h
    cases h
  | some a =>
    rw [q] at h
    cases h
    have : l.getD i z = a := by simp [List.getD_eq_getElem?_getD, q]
    rw [this]
    exact ⟨rfl, List.mem_of_getElem? q, (List.getElem?_eq_some_iff.mp q).1⟩
/-- [v(a) for a in l if f(a)] -/
theorem eld_lcA {α : Type} {tl : TE} {t : TT} {j : Nat} {vs : List Nat} {l : List α} (z : α) {e : α → Dat} (f : α → Bool) (v : α → Dat) (h : EvLs tl σ H (l.map e)) (hz : l.length ≤ 40000) (hw : ∀ x, wipe ((wipe σ vs).set j (some x)) vs = wipe σ vs)
    (ht : ∀ (x : V) (a : α) H1, Ex H H1 → a ∈ l → DAt H1 x (e a) → EvT t ((wipe σ vs).set j (some x)) H1 (f a)) (he : ∀ (x : V) (a : α) H1, Ex H H1 → a ∈ l → DAt H1 x (e a) → f a = true → EvD te ((wipe σ vs).set j (some x)) H1 (v a)) :
    EvLD (tLc (iList K tl) (gName j) t te vs) σ H ((l.filter f).map v) := by
  rw [← givD_map l z f v]
  have q := eld_lcL (K := K) (t := t) (te := te) (j := j) (vs := vs) (fun i => f (l.getD i z)) (fun i => v (l.getD i z)) h (by rw [List.length_map]; exact hz) hw (fun i x d H1 e1 hd hx => by
    obtain ⟨rfl, h2, _⟩ := map_get (z := z) hd
    exact ht x _ H1 e1 h2 hx) (fun i x d H1 e1 hd hx hf => by
    obtain ⟨rfl, h2, _⟩ := map_get (z := z) hd
    exact he x _ H1 e1 h2 hx hf)
  rw [List.length_map] at q
  exact q
theorem filter_yes {α : Type} (l : List α) : l.filter (fun _ => true) = l := List.filter_eq_self.mpr fun _ _ => rfl
/-- [v(a) for a in l] -/
theorem eld_lcM {α : Type} {tl : TE} {j : Nat} {vs : List Nat} {l : List α} (z : α) {e : α → Dat} (v : α → Dat) (h : EvLs tl σ H (l.map e)) (hz : l.length ≤ 40000) (hw : ∀ x, wipe ((wipe σ vs).set j (some x)) vs = wipe σ vs)
    (he : ∀ (x : V) (a : α) H1, Ex H H1 → a ∈ l → DAt H1 x (e a) → EvD te ((wipe σ vs).set j (some x)) H1 (v a)) :
    EvLD (tLc (iList K tl) (gName j) tYes te vs) σ H (l.map v) := by
  have q := eld_lcA (K := K) (te := te) (j := j) (vs := vs) z (fun _ => true) v h hz hw (fun x a H1 _ _ _ => et_yes) (fun x a H1 e1 ha hx _ => he x a H1 e1 ha hx)
  rw [filter_yes] at q
  exact q
end
end Q
/-! opened -/
namespace Q
open PySem PySem.Spec PyProof.Rows L2 Evl LamX QM
section
variable {P : Program} {w : World} {K : PySem.W.Frag} {mg : Str → Option Value} {base : Heap} {a : Ads}
/-- boxes[box][1] == port -/
theorem et_hit {σ : L2.St} {H : Hp} {B : Bx} {lb : Addr} {n i j k : Nat} {p : Int} (hb : σ[i]? = some (some (.ref lb))) (hB : LstD H lb (bxs B)) (hn : σ[j]? = some (some (nV n))) (hp : σ[k]? = some (some (.int p))) (hl : n < B.length) :
    EvT (tTest (tOp rEq (tOp (rIxT K) (tOp (rIxL K) (tVar i) (tVar j)) (tC (.int 1))) (tVar k))) σ H (hit B p n) :=
  et_eqI (ev_i (evd_ixT (n := 1) (evd_ixL (evs_var hb hB) (ev_var hn) (bx_at hl)) ev_c rfl)) (ev_var hp)
theorem getD_nat {st : List Nat} {i : Nat} {x : V} (h : (st.map nV)[i]? = some x) : x = nV (st.getD i 0) ∧ i < st.length := by
  rw [List.getElem?_map] at h
  cases e : st[i]? with
  | none =>
    rw [e] at h
    cases h
  | some n =>
    rw [e] at h
    cases h
    exact ⟨by simp [List.getD_eq_getElem?_getD, e], (List.getElem?_eq_some_iff.mp e).1⟩
theorem givD_plc (B : Bx) (p : Int) (st : List Nat) : givD st.length (fun i => hit B p (st.getD i 0)) dn = (plc B p st).map dn := rfl
theorem ok_opened (T : Txt K mg a) : FnOk P w K mg base CX0 1 a.aOpened a.fOpened ["stack", "boxes", "port"] spOpened := by
  refine T.FOpened.ok scOpened (fun vs H Q E h => ?_) (fun cdv A outer s H vs Q E hr h => ⟨_, (pss_cons (ps_setLc (i := 4) (own := [("place", 7), ("box", 3)]) (g := gTup K 2 (gCons (gName 7) (gCons (gName 3) gNil))) rfl scOpened.nd rfl rfl (sw_true rfl rfl rfl (by decide +kernel)) (pi_enum (by rfl) T.zenumerate (pa_cons (pv 0) pa_nil)) (blkOk_by (N := nOpened) (sc := defScope sOpened) (by decide +kernel)) (fun _ _ _ _ _ => (pg_tup rfl (pgs_cons (pg_name (i := 7) scOpened.nd rfl (by first | exact .inl rfl | exact .inr rfl)) (pgs_cons (pg_name (i := 3) scOpened.nd rfl (by first | exact .inl rfl | exact .inr rfl)) pgs_nil)))) (fun _ _ _ _ _ => pts_one (pt_cmpR op_eq (pe_ix (ixt K) (pe_ix (ixl K) (pv 1) (pv 3) (fun _ _ => rfl)) pe_int (fun _ _ => rfl)) (pv 2) (nomark _))) (fun _ _ _ _ _ => (pv 7)))
      (pss_cons (ps_if (pt_not (ptTru K (pv 4))) (pss_one (ps_ret (pe_tup (pa_cons (pe_lst pa_nil) (pa_cons (pv 0) pa_nil))))) pss_nil)
      (pss_cons (ps_set (i := 5) scOpened.nd rfl (by first | exact .inl rfl | exact .inr rfl) (pe_lst pa_nil))
      (pss_cons (ps_set (i := 6) scOpened.nd rfl (by first | exact .inl rfl | exact .inr rfl) (pe_lst pa_nil))
      (pss_cons (ps_for PassesOwn.never rfl (pilK K (pe_revL (pe_slice sl_list (pv 0) (po_some (pe_ix (ixl K) (pv 4) pe_int (fun _ _ => rfl))) po_none))) (pg_name (i := 3) scOpened.nd rfl (by first | exact .inl rfl | exact .inr rfl)) (pss_one (ps_if (pt_cmpR op_eq (pe_ix (ixt K) (pe_ix (ixl K) (pv 1) (pv 3) (fun _ _ => rfl)) pe_int (fun _ _ => rfl)) (pv 2) (nomark _)) (pss_one (ps_expr (pe_bm PySem.F.plainAttrs_list PySem.F.slot_list_append PySem.F.type_list_append mt_append (pv 5) (pa_cons (pe_tup (pa_cons (pv 2) (pa_cons pe_str (pa_cons (pv 3) pa_nil)))) pa_nil)))) (pss_cons (ps_expr (pe_bm PySem.F.plainAttrs_list PySem.F.slot_list_append PySem.F.type_list_append mt_append (pv 5) (pa_cons (pe_tup (pa_cons (pv 2) (pa_cons pe_str (pa_cons (pv 3) pa_nil)))) pa_nil)))
      (pss_one (ps_expr (pe_bm PySem.F.plainAttrs_list PySem.F.slot_list_append PySem.F.type_list_append mt_append (pv 6) (pa_cons (pv 3) pa_nil))))))))
      (pss_cons (ps_expr (pe_bm0 PySem.F.plainAttrs_list PySem.F.slot_list_reverse PySem.F.type_list_reverse mt_reverse (pv 6)))
      (pss_cons (ps_expr (pe_bm PySem.F.plainAttrs_list PySem.F.slot_list_extend PySem.F.type_list_extend mt_extend (pv 5) (pa_cons (pe_lc (own := [("box", 3)]) (g := gName 3) (tt := tYes) rfl scOpened.nd (pilK K (pv 6)) (blkOk_by (N := nOpened) (sc := defScope sOpened) (by decide +kernel)) (fun _ _ _ _ _ => (pg_name (i := 3) scOpened.nd rfl (by first | exact .inl rfl | exact .inr rfl))) (fun _ _ _ _ _ => pts_nil) (fun _ _ _ _ _ => (pe_tup (pa_cons (pv 2) (pa_cons pe_str (pa_cons (pv 3) pa_nil)))))) pa_nil)))
      (pss_one (ps_ret (pe_tup (pa_cons (pv 5) (pa_cons (pe_op op_cat (pe_slice sl_list (pv 0) po_none (po_some (pe_ix (ixl K) (pv 4) pe_int (fun _ _ => rfl)))) (pv 6)) pa_nil)))))))))))), ?_⟩)
  · obtain ⟨s, lb, st, B, p, rfl, _⟩ := h
    rfl
  · obtain ⟨s, lb, st, B, p, rfl, hs, hB, hm, hl, k⟩ := h
    have hsD : LstD H s (st.map dn) := .ofNats hs
    have hlen : (st.map dn).length = st.length := List.length_map ..
    refine q_asgLD (ds := (plc B p st).map dn) ?_ fun pl H1 npl e1 hpl => ?_
    · rw [← givD_plc, ← hlen]
      refine eld_lcE _ _ (evs_var rfl hsD) (by rw [hlen]; omega) (fun x y => rfl) (fun i x d H2 e2 hd hx => ?_) (fun i x d H2 e2 hd hx _ => evd_i (ev_var rfl))
      have hd' : d = dn (st.getD i 0) ∧ i < st.length := by
        rw [List.getElem?_map] at hd
        cases e : st[i]? with
        | none =>
          rw [e] at hd
          cases hd
        | some n =>
          rw [e] at hd
          cases hd
          exact ⟨by simp [List.getD_eq_getElem?_getD, e], (List.getElem?_eq_some_iff.mp e).1⟩
      obtain ⟨rfl, hi⟩ := hd'
      have hx := hx.i
      subst hx
      exact et_hit rfl (hB.ex e2) rfl rfl (hm _ (by rw [show st.getD i 0 = st[i] from by simp [hi]]; exact List.getElem_mem hi))
    have hs1 := e1 _ _ hs
    refine q_when (et_not (et_truD (evs_var rfl hpl))) (fun hb H2 e2 => ?_) (fun hb H2 e2 => ?_)
    · have hn : plc B p st = [] := by simpa using hb
      obtain ⟨g1, g2⟩ := plc_nil hn
      refine ⟨by show 0 ≤ sizeLine; decide, fun w hw => ⟨_, rfl, ⟨by show 2 ≤ sizeLine; decide, fun t ht => ?_⟩⟩⟩
      have hs2 : upd H2 w (.lst []) s = some (.lst (st.map nV)) := by rw [upd_ne (ne_of_none (e2 _ _ hs1) hw)]; exact e2 _ _ hs1
      have et := Ex.new (o := .tup [V.ref w, V.ref s]) ht
      refine k w s t _ (((e1.trans e2).trans (Ex.new hw)).trans et) (fresh_back (e1.trans e2) hw) (.inl rfl) (ne_of_none (e2 _ _ hs1) hw).symm upd_same ⟨[], et _ _ upd_same, ?_⟩ ?_
      · rw [g1]
        exact .nil
      · rw [g2]
        exact et _ _ hs2
    · obtain ⟨j, r, hj⟩ : ∃ j r, plc B p st = j :: r := by
        cases e : plc B p st with
        | nil =>
          rw [e] at hb
          cases hb
        | cons j r => exact ⟨j, r, rfl⟩
      obtain ⟨g1, g2⟩ := plc_cons hj
      refine q_asgLD eld_nil fun lw H3 n3 e3 hw => ?_
      refine q_asgLD eld_nil fun lu H4 n4 e4 hu => ?_
      have e24 : Ex H H4 := ((e1.trans e2).trans e3).trans e4
      have hplc : LstD H4 pl ((plc B p st).map dn) := hpl.ex ((e2.trans e3).trans e4)
      have hidx : Ev (tOp (rIxL K) (tVar 4) (tC (.int 0))) [some (.ref s), some (.ref lb), some (.int p), none, some (.ref pl), some (.ref lw), some (.ref lu), none] H4 (.int ((j : Nat) : Int)) :=
        ev_i (evd_ixL (n := 0) (evs_var rfl hplc) ev_c (by rw [hj]; rfl))
      have hsl0 : EvLD (tRevL K (tSl (rSlL K) (tVar 0) (tPart (tOp (rIxL K) (tVar 4) (tC (.int 0)))) tNoPart)) [some (.ref s), some (.ref lb), some (.int p), none, some (.ref pl), some (.ref lw), some (.ref lu), none] H4 ((st.map dn).drop j).reverse :=
        eld_rev (evs_new (eld_drop (evs_var (i := 0) rfl (hsD.ex e24)) hidx))
      obtain ⟨rl, hrl⟩ : ∃ rl, rl = (suf B p st).reverse := ⟨_, rfl⟩
      have hsl : EvLD (tRevL K (tSl (rSlL K) (tVar 0) (tPart (tOp (rIxL K) (tVar 4) (tC (.int 0)))) tNoPart)) [some (.ref s), some (.ref lb), some (.int p), none, some (.ref pl), some (.ref lw), some (.ref lu), none] H4 (rl.map dn) := by
        rw [← List.map_drop, ← List.map_reverse, g2, ← hrl] at hsl0
        exact hsl0
      have hrm : ∀ n ∈ rl, n < B.length := fun n hn => hm n ((suf_sub B p st).subset (List.mem_reverse.mp (by rw [← hrl]; exact hn)))
      have hrn : rl.length ≤ 1000 := by
        rw [hrl, List.length_reverse]
        exact Nat.le_trans (suf_sub B p st).length_le hl
      have hw4 := hw.ex e4
      obtain ⟨ow, how⟩ := hw4.at
      obtain ⟨ou, hou⟩ := hu.at
      have n3' : H lw = none := fresh_back (e1.trans e2) n3
      have n4' : H lu = none := fresh_back ((e1.trans e2).trans e3) n4
      have nwu : lw ≠ lu := ne_of_none (hw.at.choose_spec) n4
      have frM : ∀ b, b = lw ∨ b = lu → H b = none := fun b z => by
        rcases z with rfl | rfl
        · exact n3'
        · exact n4'
      have nfr : ∀ {b o}, H b = some o → ¬ (b = lw ∨ b = lu) := fun {b o} hb z => by
        rw [frM b z] at hb
        cases hb
      refine q_forNLn (el_of_eld hsl) (fun q i σ' H' => (∃ x, σ' = [some (.ref s), some (.ref lb), some (.int p), x, some (.ref pl), some (.ref lw), some (.ref lu), none]) ∧ H' q = some (.lst (rl.map nV)) ∧ ¬ (q = lw ∨ q = lu) ∧ Mo (fun b => b = lw ∨ b = lu) H4 H' ∧
        LstD H' lw (evs (opnE1 B p (rl.take i))) ∧ LstD H' lu (((rl.take i).filter fun n => !hit B p n).map dn)) (fun q H5 nq e5 hq => ?_) (fun q i σ' H' hi Pv => sq_of Pv.2.1) (fun q i x σ' H' hi Pv => ?_) (fun q σ' H' Pv => ?_)
      · exact ⟨⟨_, rfl⟩, hq, (by
          intro z
          rcases z with rfl | rfl
          · rw [nq] at how
            cases how
          · rw [nq] at hou
            cases hou), .ex e5, hw4.ex e5, hu.ex e5⟩
      · obtain ⟨⟨y, rfl⟩, hq, nq, m, h1, h2⟩ := Pv
        obtain ⟨rfl, hi'⟩ := getD_nat hi
        have hmem : rl.getD i 0 ∈ rl := by rw [show rl.getD i 0 = rl[i] from by simp [hi']]; exact List.getElem_mem hi'
        have hlt := hrm _ hmem
        have ht : rl.take (i + 1) = rl.take i ++ [rl.getD i 0] := by
          rw [List.take_add_one]
          simp [hi']
        have z1 : (evs (opnE1 B p (rl.take i))).length ≤ 1000 := by
          unfold opnE1 evs
          rw [List.length_map, List.length_map, List.length_take]
          omega
        have z2 : (((rl.take i).filter fun n => !hit B p n).map dn).length ≤ 1000 := by
          rw [List.length_map]
          refine Nat.le_trans (List.length_filter_le _ _) ?_
          rw [List.length_take]
          omega
        have hB' : LstD H' lb (bxs B) := (hB.ex e24).mo m (nfr hB.at.choose_spec)
        refine s_if (et_hit rfl hB' rfl rfl hlt) (fun hb H5 e5 => ?_) (fun hb H5 e5 => ?_)
        · refine s_appD (d := evD ⟨p, "discharge", rl.getD i 0⟩) (h1.ex e5) (ev_var rfl) (evd_evt (ev_var rfl) ev_c (ev_var rfl)) (by omega) fun H6 m6 h6 => ?_
          refine ⟨⟨_, rfl⟩, m6.keep _ _ (e5 _ _ hq) (.inl fun z => nq (.inl z)), nq, (m.step e5).then m6 fun c z => .inl (.inl z), ?_, ?_⟩
          · rw [ht]
            unfold opnE1 at h6 ⊢
            rw [List.map_append]
            simp only [evs, List.map_append, List.map_cons, List.map_nil, hb] at h6 ⊢
            exact h6
          · rw [ht, List.filter_append]
            simp only [List.filter_cons, hb, Bool.not_true, Bool.false_eq_true, if_false, List.filter_nil, List.append_nil]
            exact (h2.ex e5).mo m6 nwu.symm
        · refine q_appD (d := evD ⟨p, "lift", rl.getD i 0⟩) (h1.ex e5) (ev_var rfl) (evd_evt (ev_var rfl) ev_c (ev_var rfl)) (by omega) fun H6 m6 h6 => ?_
          refine s_appD (d := dn (rl.getD i 0)) ((h2.ex e5).mo m6 nwu.symm) (ev_var rfl) (evd_var rfl (.int _)) (by omega) fun H7 m7 h7 => ?_
          refine ⟨⟨_, rfl⟩, m7.keep _ _ (m6.keep _ _ (e5 _ _ hq) (.inl fun z => nq (.inl z))) (.inl fun z => nq (.inr z)), nq, ((m.step e5).then m6 fun c z => .inl (.inl z)).then m7 fun c z => .inl (.inr z), ?_, ?_⟩
          · rw [ht]
            unfold opnE1 at h6 ⊢
            rw [List.map_append]
            simp only [evs, List.map_append, List.map_cons, List.map_nil, hb] at h6 ⊢
            exact h6.mo m7 nwu
          · rw [ht, List.filter_append]
            simp only [List.filter_cons, hb, Bool.not_false, if_true, List.filter_nil, List.map_append, List.map_cons, List.map_nil]
            exact h7
      · obtain ⟨⟨y, rfl⟩, hq, nq, m, h1, h2⟩ := Pv
        rw [List.length_map, List.take_length] at h1 h2
        refine q_revD h2 (ev_var rfl) fun H5 m5 h5 => ?_
        have hput : (((rl.filter fun n => !hit B p n).map dn).reverse) = ((suf B p st).filter fun n => !hit B p n).map dn := by
          rw [← List.map_reverse, hrl, ← List.filter_reverse, List.reverse_reverse]
        rw [hput] at h5
        have h1' := h1.mo m5 nwu
        have zs : ((suf B p st).filter fun n => !hit B p n).length ≤ 1000 := Nat.le_trans (List.length_filter_le _ _) (Nat.le_trans (suf_sub B p st).length_le hl)
        have z1 : (evs (opnE1 B p rl)).length ≤ 1000 := by
          unfold opnE1 evs
          rw [List.length_map, List.length_map]
          omega
        have hlc : EvLD (tLc (iList K (tVar 6)) (gName 3) tYes (tTup (tCons (tVar 2) (tCons (tC (.str "restow")) (tCons (tVar 3) tNil)))) [3]) [some (.ref s), some (.ref lb), some (.int p), y, some (.ref pl), some (.ref lw), some (.ref lu), none] H5 (((suf B p st).filter fun n => !hit B p n).map fun n => evD ⟨p, "restow", n⟩) := by
          refine eld_lcM 0 (e := dn) (fun n => evD ⟨p, "restow", n⟩) (evs_var rfl h5) (by omega) (fun x => rfl) (fun x n H6 e6 hn hx => ?_)
          have hx := hx.i
          subst hx
          exact evd_evt (ev_var rfl) ev_c (ev_var rfl)
        refine q_extD h1' (ev_var rfl) (evs_new hlc) (by rw [List.length_map (as := List.filter _ _)]; omega) fun H6 m6 h6 => ?_
        have h5' := h5.mo m6 nwu.symm
        have m46 : Mo (fun b => b = lw ∨ b = lu) H4 H6 := (m.then m5 fun c z => .inl (.inr z)).then m6 fun c z => .inl (.inl z)
        have eH6 : Ex H H6 := Mo.back e24 m46 frM
        have hidx6 : Ev (tOp (rIxL K) (tVar 4) (tC (.int 0))) [some (.ref s), some (.ref lb), some (.int p), y, some (.ref pl), some (.ref lw), some (.ref lu), none] H6 (.int ((j : Nat) : Int)) :=
          ev_i (evd_ixL (n := 0) (evs_var rfl (hplc.mo m46 fun z => by
            obtain ⟨op, hop⟩ := hpl.at
            rcases z with rfl | rfl
            · rw [e2 _ _ hop] at n3
              cases n3
            · rw [e3 _ _ (e2 _ _ hop)] at n4
              cases n4)) ev_c (by rw [hj]; rfl))
        have hcat := eld_cat (σ := [some (.ref s), some (.ref lb), some (.int p), y, some (.ref pl), some (.ref lw), some (.ref lu), none]) (evs_new (eld_take (K := K) (evs_var (i := 0) rfl (hsD.ex eH6)) hidx6)) (evs_var (i := 6) rfl h5') (by rw [List.length_take, List.length_map (as := List.filter _ _), hlen]; omega)
        refine ⟨_, rfl, hcat H6 (Ex.refl _) _ fun s' H7 ns' e7 hs' => ⟨by show 2 ≤ sizeLine; decide, fun t ht => ?_⟩⟩
        have et := Ex.new (o := .tup [V.ref lw, V.ref s']) ht
        have e6t := (eH6.trans e7).trans et
        rw [← List.map_take, ← List.map_append, g1, pre_suf] at hs'
        refine k lw s' t _ e6t n3' (.inr (fresh_back eH6 ns')) (ne_of_none h6.at.choose_spec ns') upd_same ?_ (et _ _ hs'.nats)
        have h6' := (h6.ex e7).ex et
        unfold opnE
        rw [evs, List.map_append, ← hrl, List.map_map]
        exact h6'
end
end Q
/-! stack_count, loading, Voyage.__init__, stacks, lift_counts -/
namespace Q
open PySem PySem.Spec PyProof.Rows L2 Evl LamX QM
/-- a new list of n new empty lists -/
def EvFr (te : TE) (σ : L2.St) (H : Hp) (n : Nat) : Prop := ∀ H1, Ex H H1 → ∀ Q : VK, (∀ (p : Addr) (as : List Addr) (H2 : Hp), H1 p = none → Ex H1 H2 → H2 p = some (.lst (as.map V.ref)) → as.length = n → (p :: as).Nodup → (∀ b ∈ as, H1 b = none ∧ H2 b = some (.lst [])) → Q (.ref p) H2) → te σ H1 Q
theorem efr_lc {σ : L2.St} {H : Hp} {ta : TA} {j : Nat} {vs : List Nat} {n : Nat} (h : EvA ta σ H [.int n]) (hn : n ≤ 40000) (hw : ∀ x, wipe ((wipe σ vs).set j (some x)) vs = wipe σ vs) : EvFr (tLc (iRng1 ta) (gName j) tYes (tLst tNil) vs) σ H n := fun H0 e Q q => h H0 e _ fun H1 e1 => ⟨n, rfl, by omega, by omega, fun Dl hD =>
  lc_range (lo := 0) (n := ((n : Nat) : Int).toNat) (fun i H' => Ex H1 H' ∧ ∃ as : List Addr, H' Dl = some (.lst (as.map V.ref)) ∧ as.length = i ∧ (Dl :: as).Nodup ∧ ∀ b ∈ as, H1 b = none ∧ H' b = some (.lst [])) ⟨Ex.new hD, [], upd_same, rfl, by simp, by simp⟩ (fun i H' hi p => by
    obtain ⟨p1, as, p2, p3, p4, p5⟩ := p
    refine ⟨hw _, ?_⟩
    unfold tYes
    show (if true = true then _ else _)
    rw [if_pos rfl]
    refine ⟨by show 0 ≤ sizeLine; decide, fun b hb => ?_⟩
    have nb : Dl ≠ b := ne_of_none p2 hb
    have hD' : upd H' b (.lst []) Dl = some (.lst (as.map V.ref)) := by rw [upd_ne nb]; exact p2
    refine ⟨as.map V.ref, hD', sz_lt (by rw [List.length_map]; omega), Ex.mut (p1.trans (Ex.new hb)) hD, as ++ [b], ?_, by rw [List.length_append, p3]; rfl, ?_, fun c hc => ?_⟩
    · rw [upd_same, List.map_append]
      rfl
    · have nin : b ∉ as := fun hm => by
        rw [(p5 b hm).2] at hb
        cases hb
      rw [List.nodup_cons] at p4 ⊢
      refine ⟨fun hm => ?_, ?_⟩
      · rcases List.mem_append.mp hm with hm | hm
        · exact p4.1 hm
        · exact nb (List.mem_singleton.mp hm)
      · exact List.nodup_append.mpr ⟨p4.2, by simp, fun x hx y hy => by
          rw [List.mem_singleton.mp hy]
          exact fun z => nin (by rw [← z]; exact hx)⟩
    · rcases List.mem_append.mp hc with hc | hc
      · have nc : c ≠ Dl := fun z => (List.nodup_cons.mp p4).1 (by rw [← z]; exact hc)
        have nb' : c ≠ b := ne_of_none (p5 c hc).2 hb
        refine ⟨(p5 c hc).1, ?_⟩
        rw [upd_ne nc, upd_ne nb']
        exact (p5 c hc).2
      · rw [List.mem_singleton.mp hc]
        refine ⟨fresh_back p1 hb, ?_⟩
        rw [upd_ne nb.symm, upd_same]) (fun H' p => by
    obtain ⟨p1, as, p2, p3, p4, p5⟩ := p
    exact q Dl as H' (fresh_back e1 hD) (e1.trans p1) p2 (by rw [p3]; exact Int.toNat_natCast n) p4 fun b hb => ⟨fresh_back e1 (p5 b hb).1, (p5 b hb).2⟩)⟩
section
variable {P : Program} {w : World} {K : PySem.W.Frag} {mg : Str → Option Value} {base : Heap} {a : Ads}
/-- n is one above the greatest of ns, or 0 -/
def MaxP (ns : List Nat) (n : Nat) : Prop := (∀ x ∈ ns, x < n) ∧ ∀ k, n = k + 1 → k ∈ ns
def spCnt (K : PySem.W.Frag) : Sp := fun vs H Q _ => ∃ (l : Addr) (ns : List Nat), vs = [.ref l] ∧ H l = some (.lst (ns.map nV)) ∧ ns.length ≤ 1000 ∧ ∀ (n : Nat) H', MaxP ns n → Ex H H' → Q (nV n) H'
theorem ok_count (T : Txt K mg a) : FnOk P w K mg base CX0 1 a.aCount a.fCount ["plan"] (spCnt K) := by
  refine T.FCount.ok scCount (fun vs H Q E h => ?_) (fun cdv A outer s H vs Q E hr h => ⟨_, (pss_one (ps_ret (pe_op op_add (pe_callB (cr_max rfl) (by rfl) T.zmax (by decide +kernel) (pa_cons (pe_lst (pa_cons (pe_un un_neg pe_int) (StX.pa_star (pv 0) pa_nil))) pa_nil)) pe_int))), ?_⟩)
  · obtain ⟨l, ns, rfl, _⟩ := h
    rfl
  · obtain ⟨l, ns, rfl, hl, hn, k⟩ := h
    refine ⟨1, rfl, _, rfl, l, _, rfl, .inr (sq_of hl), ?_⟩
    refine ⟨sz_of (by show (ns.map nV ++ []).length + 1 ≤ _; rw [List.append_nil, List.length_map]; omega), fun p hp => ⟨p, (-1) :: ns.map (fun n : Nat => (n : Int)), rfl, ?_, by simp, fun m hm hy => ?_⟩⟩
    · refine sq_of ?_
      rw [upd_same, List.append_nil, List.map_cons, List.map_map]
      rfl
    · refine ⟨m, 1, rfl, rfl, ?_⟩
      have h0 : -1 ≤ m := hy (-1) (by simp)
      obtain ⟨n, hn'⟩ : ∃ n : Nat, m + 1 = (n : Int) := ⟨(m + 1).toNat, by omega⟩
      show Q (.int (m + 1)) _
      rw [hn']
      refine k n _ ⟨fun x hx => ?_, fun j hj => ?_⟩ (Ex.new hp)
      · have := hy x (List.mem_cons_of_mem _ (List.mem_map.mpr ⟨x, hx, rfl⟩))
        omega
      · rcases List.mem_cons.mp hm with e | e
        · omega
        · obtain ⟨x, hx, rfl⟩ := List.mem_map.mp e
          have : x = j := by omega
          rw [← this]
          exact hx
theorem ok_stacks (T : Txt K mg a) : FnOk P w K mg base CX0 1 a.aStacks a.fStacks ["self"] (spStacks a) := by
  refine T.FStacks.ok scStacks (fun vs H Q E h => ?_) (fun cdv A outer s H vs Q E hr h => ⟨_, (pss_one (ps_ret (pe_callTy (tupK K) (by rfl) T.ztuple (by decide +kernel) (pa_cons (pe_lc (own := [("stack", 1)]) (g := gName 1) (tt := tYes) rfl scStacks.nd (pilK K (fldK K (pv 0))) (blkOk_by (N := nStacks) (sc := defScope sStacks) (by decide +kernel)) (fun _ _ _ _ _ => (pg_name (i := 1) scStacks.nd rfl (by first | exact .inl rfl | exact .inr rfl))) (fun _ _ _ _ _ => pts_nil) (fun _ _ _ _ _ => (pe_callTy (tupK K) (by rfl) T.ztuple (by decide +kernel) (pa_cons (pv 1) pa_nil)))) pa_nil)))), ?_⟩)
  · obtain ⟨v, l, lb, ll, as, S, rfl, _⟩ := h
    rfl
  · obtain ⟨v, l, lb, ll, as, S, rfl, Va, W, k⟩ := h
    obtain ⟨dx, hob⟩ := Va.ob
    have hf : Ev (tFld K (tVar 0) "_stacks") [some (.ref v), none] H (.ref l) := ev_fld (ev_var rfl) hob T.clV T.noStacks vfs_stacks
    have hn : as.length ≤ 5 := by rw [Va.sk.len]; exact W.ns
    have hlc := eld_lcV (K := K) (tl := tFld K (tVar 0) "_stacks") (t := tYes) (te := tCB (rTupS K) (tCons (tVar 1) tNil)) (j := 1) (vs := [1]) (fun _ => true) (fun i => Dat.tup ((stk S i).map dn)) hf (sq_of Va.li) (by rw [List.length_map]; omega) (fun x => rfl) (fun i x H1 e hx => et_yes) (fun i x H1 e hx _ => by
      rw [List.getElem?_map] at hx
      cases q : as[i]? with
      | none =>
        rw [q] at hx
        cases hx
      | some b =>
        rw [q] at hx
        cases hx
        obtain ⟨st, h1, h2⟩ := Va.sk.get' q
        have : stk S i = st := by
          unfold stk
          simp [List.getD_eq_getElem?_getD, h1]
        rw [this]
        exact evd_tuple (evs_var rfl (.ofNats (e _ _ h2))))
    refine s_retD (evd_tuple (evs_new hlc)) fun t H1 e ht => k t H1 e ?_
    have : givD (as.map V.ref).length (fun _ => true) (fun i => Dat.tup ((stk S i).map dn)) = S.stacks.map fun st => Dat.tup (st.map dn) := by
      rw [List.length_map, Va.sk.len]
      have := givD_map S.stacks [] (fun _ => true) (fun st => Dat.tup (st.map dn))
      rw [filter_yes] at this
      exact this
    rw [this] at ht
    exact ht
theorem ok_lifts (T : Txt K mg a) : FnOk P w K mg base CX0 1 a.aLifts a.fLifts ["self"] (spLifts a) := by
  refine T.FLifts.ok scLifts (fun vs H Q E h => ?_) (fun cdv A outer s H vs Q E hr h => ⟨_, (pss_one (ps_ret (pe_callTy (tupK K) (by rfl) T.ztuple (by decide +kernel) (pa_cons (fldK K (pv 0)) pa_nil)))), ?_⟩)
  · obtain ⟨v, l, lb, ll, as, S, rfl, _⟩ := h
    rfl
  · obtain ⟨v, l, lb, ll, as, S, rfl, Va, W, k⟩ := h
    obtain ⟨dx, hob⟩ := Va.ob
    exact s_retD (evd_tuple (evs_v (ev_fld (ev_var rfl) hob T.clV T.noLifts vfs_lifts) (.ofNats Va.lf))) fun t H1 e ht => k t H1 e ht
theorem q_fldF {p C dx : Addr} {fs : List (Str × V)} {f : Str} {σ : L2.St} {H : Hp} {n : Nat} {tv ta : TE} {D : Ends} {tz : TS} (hv : EvFr tv σ H n) (ho : Ev ta σ H (.ref p)) (h : H p = some (.ins C dx fs)) (hc : Cls K C) (hn : NoAttr K C f) (hl : fs.length < 1000)
    (k : ∀ (l : Addr) (as : List Addr) (H2 : Hp), H l = none → Ex H H2 → H2 l = some (.lst (as.map V.ref)) → as.length = n → (l :: as).Nodup → (∀ b ∈ as, H b = none ∧ H2 b = some (.lst [])) → tz D σ (upd H2 p (.ins C dx (putF f (.ref l) fs)))) : tSeq (sFld K ta tv f) tz D σ H :=
  hv H (Ex.refl H) _ fun l as H1 h1 e1 h2 h3 h4 h5 => ho H1 e1 _ fun H2 e2 => ⟨p, C, dx, fs, rfl, (e1.trans e2) _ _ h, hc, hn, hl, k l as H2 h1 (e1.trans e2) (e2 _ _ h2) h3 h4 fun b hb => ⟨(h5 b hb).1, e2 _ _ (h5 b hb).2⟩⟩
theorem ok_ini (T : Txt K mg a) : FnOk P w K mg base CX0 1 a.aIni a.fIni ["self", "stacks", "height"] (spIni a.cV) := by
  refine T.FIni.ok scIni (fun vs H Q E h => ?_) (fun cdv A outer s H vs Q E hr h => ⟨_, (pss_cons (ps_fld (pv 0) (pv 2) rfl)
      (pss_cons (ps_fld (pv 0) pe_int rfl)
      (pss_cons (ps_fld (pv 0) (pe_lc (own := [("_", 3)]) (g := gName 3) (tt := tYes) rfl scIni.nd (pi_range1 (by rfl) T.zrange (pa_cons (pv 1) pa_nil)) (blkOk_by (N := nIni) (sc := defScope sIni) (by decide +kernel)) (fun _ _ _ _ _ => (pg_name (i := 3) scIni.nd rfl (by first | exact .inl rfl | exact .inr rfl))) (fun _ _ _ _ _ => pts_nil) (fun _ _ _ _ _ => (pe_lst pa_nil))) rfl)
      (pss_cons (ps_fld (pv 0) (pe_lst pa_nil) rfl)
      (pss_one (ps_fld (pv 0) (pe_lst pa_nil) rfl)))))), ?_⟩)
  · obtain ⟨v, dx, n, h, rfl, _⟩ := h
    rfl
  · obtain ⟨v, dx, n, h, rfl, hv, hn, k⟩ := h
    refine q_fld (ev_var rfl) (ev_var rfl) hv T.clV T.noHeight (by show 0 < 1000; decide) fun H1 e1 => ?_
    refine q_fld ev_c (ev_var rfl) upd_same T.clV T.noPort (by show 1 < 1000; decide) fun H2 e2 => ?_
    have f1 : ∀ b o, H b = some o → b ≠ v → upd H1 v (.ins a.cV dx (putF "height" (.int h) [])) b = some o := fun b o e hb => by rw [upd_ne hb]; exact e1 _ _ e
    have f2 : ∀ b o, H b = some o → b ≠ v → upd H2 v (.ins a.cV dx (putF "port" (.int 0) (putF "height" (.int h) []))) b = some o := fun b o e hb => by rw [upd_ne hb]; exact e2 _ _ (f1 b o e hb)
    have hfr : EvFr (tLc (iRng1 (tCons (tVar 1) tNil)) (gName 3) tYes (tLst tNil) [3]) [some (.ref v), some (nV n), some (.int h), none] (upd H2 v (.ins a.cV dx (putF "port" (.int 0) (putF "height" (.int h) [])))) n := efr_lc (ea_one (ev_var rfl)) (by omega) (fun x => rfl)
    refine q_fldF hfr (ev_var rfl) upd_same T.clV T.noStacks (by show 2 < 1000; decide) fun l as H3 nl e3 hl hlen hnd has => ?_
    have fr : ∀ {b}, upd H2 v (.ins a.cV dx (putF "port" (.int 0) (putF "height" (.int h) []))) b = none → b ≠ v ∧ H b = none := fun {b} hb => by
      have hbv : b ≠ v := fun z => by
        rw [z, upd_same] at hb
        cases hb
      refine ⟨hbv, ?_⟩
      cases q : H b with
      | none => rfl
      | some o =>
        rw [f2 b o q hbv] at hb
        cases hb
    obtain ⟨nlv, nlH⟩ := fr nl
    have hl3 : upd H3 v (.ins a.cV dx (putF "_stacks" (.ref l) (putF "port" (.int 0) (putF "height" (.int h) [])))) l = some (.lst (as.map V.ref)) := by rw [upd_ne nlv]; exact hl
    have has3 : ∀ b ∈ as, upd H3 v (.ins a.cV dx (putF "_stacks" (.ref l) (putF "port" (.int 0) (putF "height" (.int h) [])))) b = some (.lst []) := fun b hb => by rw [upd_ne (fr (has b hb).1).1]; exact (has b hb).2
    refine q_fldL eld_nil (ev_var rfl) upd_same T.clV T.noBoxes (by show 3 < 1000; decide) fun lb H4 nlb e4 hlb => ?_
    have nbv : lb ≠ v := fun z => by
      rw [z, upd_same] at nlb
      cases nlb
    refine s_fldL eld_nil (ev_var rfl) upd_same T.clV T.noLifts (by show 4 < 1000; decide) fun ll H5 nll e5 hll => ?_
    have ncv : ll ≠ v := fun z => by
      rw [z, upd_same] at nll
      cases nll
    have step4 : ∀ {b o}, b ≠ v → upd H3 v (.ins a.cV dx (putF "_stacks" (.ref l) (putF "port" (.int 0) (putF "height" (.int h) [])))) b = some o → H5 b = some o := fun {b o} hb q => e5 _ _ (by rw [upd_ne hb]; exact e4 _ _ q)
    have hlb5 : LstD H5 lb [] := by
      obtain ⟨vs, g1, g2⟩ := hlb
      cases g2
      exact ⟨[], e5 _ _ (by rw [upd_ne nbv]; exact g1), .nil⟩
    have nlb2 : ∀ {b o}, upd H3 v (.ins a.cV dx (putF "_stacks" (.ref l) (putF "port" (.int 0) (putF "height" (.int h) [])))) b = some o → b ≠ lb := fun {b o} q => ne_of_none q nlb
    have nll2 : ∀ {b o}, b ≠ v → upd H3 v (.ins a.cV dx (putF "_stacks" (.ref l) (putF "port" (.int 0) (putF "height" (.int h) [])))) b = some o → b ≠ ll := fun {b o} hb q => ne_of_none (show upd H4 v _ b = some o by rw [upd_ne hb]; exact e4 _ _ q) nll
    have nlbl : lb ≠ ll := by
      obtain ⟨o, ho⟩ := hlb.at
      exact ne_of_none (show upd H4 v _ lb = some o by rw [upd_ne nbv]; exact ho) nll
    have f5 : ∀ b o, H b = some o → b ≠ v → H5 b = some o := fun b o q hb => step4 hb (by rw [upd_ne hb]; exact e3 _ _ (f2 b o q hb))
    have fr5 : ∀ {b}, H5 b = none → b ≠ v → H b = none := fun {b} hb hbv => by
      cases q : H b with
      | none => rfl
      | some o =>
        rw [f5 b o q hbv] at hb
        cases hb
    refine k l lb ll as _ ⟨⟨dx, upd_same⟩, by rw [upd_ne nlv]; exact step4 nlv hl3, ?_, ⟨by rw [hlen, List.length_replicate], fun i s st h1 h2 => ?_⟩, ?_, ?_⟩ (fun b hb => ?_) (fun b o q hb => by rw [upd_ne hb]; exact f5 b o q hb)
    · rw [List.nodup_cons] at hnd
      refine List.nodup_cons.mpr ⟨fun hm => ?_, List.nodup_cons.mpr ⟨fun hm => ?_, List.nodup_cons.mpr ⟨fun hm => ?_, hnd.2⟩⟩⟩
      · rcases List.mem_cons.mp hm with e | hm
        · exact nlb2 hl3 e
        · rcases List.mem_cons.mp hm with e | hm
          · exact nll2 nlv hl3 e
          · exact hnd.1 hm
      · rcases List.mem_cons.mp hm with e | hm
        · exact nlbl e
        · exact nlb2 (has3 _ hm) rfl
      · exact nll2 (fr (has _ hm).1).1 (has3 _ hm) rfl
    · have hm := List.mem_of_getElem? h1
      have hst : st = [] := List.eq_of_mem_replicate (List.mem_of_getElem? h2)
      subst hst
      rw [upd_ne (fr (has _ hm).1).1]
      exact step4 (fr (has _ hm).1).1 (has3 _ hm)
    · obtain ⟨vs, g1, g2⟩ := hlb5
      exact ⟨vs, by rw [upd_ne nbv]; exact g1, by cases g2; exact .nil⟩
    · obtain ⟨vs, g1, g2⟩ := hll
      cases g2
      rw [upd_ne ncv]
      exact g1
    · rcases hb with e | e | e | e | hm
      · exact .inl e
      · exact .inr (by rw [e]; exact nlH)
      · refine .inr ?_
        rw [e]
        cases q : H lb with
        | none => rfl
        | some o => exact absurd rfl (nlb2 (show upd H3 v _ lb = some o by rw [upd_ne nbv]; exact e3 _ _ (f2 _ _ q nbv)))
      · refine .inr ?_
        rw [e]
        cases q : H ll with
        | none => rfl
        | some o => exact absurd rfl (nll2 ncv (show upd H3 v _ ll = some o by rw [upd_ne ncv]; exact e3 _ _ (f2 _ _ q ncv)))
      · exact .inr (fr (has _ hm).1).2
/-- a def whose code object is known -/
structure FunC (K : PySem.W.Frag) (x qual : Str) (st : Stmt) (f : Addr) (fd : FuncData) (c P : Addr) : Prop where
  ex : ∃ (oc : Value) (od : Option Addr) (kV doc pm : Value) (an : Option Addr) (ct : Value) (osl : Array (Option Value)),
    fd = PySem.W.fnOf x qual (defArgs st) (defBody st) (defScope st) .none kV doc pm an (.ref c) ct ∧ K.lookup f = some ⟨oc, od, .func fd, osl⟩ ∧ PySem.W.codeIn K (.ref c) qual = true
  hd : PySem.W.codeHdIn K c P = true
theorem FunC.ok {x qual : Str} {st : Stmt} {f c P0 : Addr} {fd : FuncData} {N ps : List Str} {k : Nat} {sp : Sp} (F : FunC K x qual st f fd c P0) (S : FnScope N ps (defScope st)) (len : ∀ vs H Q E, sp vs H Q E → vs.length = ps.length)
    (hbody : ∀ (A : Around) (outer : List Env) (s : Shared) (H : Hp) (vs : List V) (Q : VK) (E : XK), Room k (A.deeper (envOfC qual (defScope st) s.heap.objs.size f (.ref c))) → sp vs H Q E →
      ∃ t, PSs (cxOf CX0 P w K mg base N qual (defScope st) f (.ref c) A outer s H E).nox (defBody st) t ∧ t { nx := fun _ H' => Q .non H', rt := Q } (start N vs) H) : FnOk P w K mg base CX0 (k + 1) f fd ps sp := by
  obtain ⟨oc, od, kV, doc, pm, an, ct, osl, rfl, lk, hcd⟩ := F.ex
  refine fn_of lk hcd S len fun A outer s H vs Q E hr hsp => ?_
  obtain ⟨t, h, q⟩ := hbody A outer s H vs Q E hr hsp
  exact ⟨t, h.nox, q⟩
theorem bx_get {H : Hp} {lb : Addr} {B : Bx} (h : LstD H lb (bxs B)) : ∃ xs, H lb = some (.lst xs) ∧ ∀ n, n < B.length → ∃ (t : Addr) (v0 : V), xs[n]? = some (.ref t) ∧ H t = some (.tup [v0, .int (toB B n)]) := by
  obtain ⟨xs, h1, h2⟩ := h
  refine ⟨xs, h1, fun n hn => ?_⟩
  obtain ⟨v, h3, h4⟩ := h2.get (bx_at hn)
  obtain ⟨t, vs, rfl, h5, h6⟩ := h4.t
  cases h6 with
  | cons a1 r1 =>
    cases r1 with
    | cons a2 r2 =>
      cases r2
      have := a2.i
      subst this
      exact ⟨t, _, h3, h5⟩
theorem ok_loading (T : Txt K mg a) (F : FunC K "loading" "loading" sLoading a.aLoading a.fLoading a.kc a.kP) (TB : TabB base mg a.kc a.kP) : FnOk P w K mg base CX0 2 a.aLoading a.fLoading ["boxes", "chosen"] (spLoading a.kP) := by
  refine F.ok scLoading (fun vs H Q E h => ?_) (fun A outer s H vs Q E hr h => ⟨_, (pss_one (ps_ret (QL.pe_sortKey (T := [(a.kP, lamQ)]) (by rfl) T.zsorted TB rfl (List.mem_singleton.mpr rfl) (fun p hp _ => by rw [List.mem_singleton.mp hp]; rfl) hr rfl (by rfl) (pv 1)))), ?_⟩)
  · obtain ⟨lb, l, ns, B, rfl, _⟩ := h
    rfl
  · obtain ⟨lb, l, ns, B, rfl, hB, hl, hm, hn, ht, k⟩ := h
    obtain ⟨xs, h1, h2⟩ := bx_get hB
    refine ⟨_, rfl, l, lb, ns, xs, toB B, rfl, sq_of hl, sz_of (by omega), rfl, fun p hp => by rw [List.mem_singleton.mp hp]; exact ht, sq_of h1, fun n hn => ?_, fun H2 p e hT hp => ?_⟩
    · obtain ⟨t, v0, h3, h4⟩ := h2 n (hm n hn)
      exact ⟨t, v0, h3, st_of h4⟩
    · have hT2 : TabS H2 a.kP lamQ := hT _ (List.mem_singleton.mpr rfl)
      have he : Ex H2 (upd H2 p (.lst ((ns.mergeSort (QL.leTo (toB B))).map nV))) := Ex.new hp
      exact k p _ ⟨fun b o hb nt _ => he _ _ (e b o hb nt), fun b o hb nt => ⟨o, he _ _ (e b o hb nt), nt⟩, fun _ => hT2.ext he⟩ (hT2.ext he) (fun o ho nt => by
        rw [e _ _ ho nt] at hp
        cases hp) upd_same
end
end Q
/-! Voyage._check -/
namespace Q
open PySem PySem.Spec PyProof.Rows L2 Evl LamX QM
section
variable {P : Program} {w : World} {K : PySem.W.Frag} {mg : Str → Option Value} {base : Heap} {a : Ads}
/-- what the top has written of the own errors -/
structure ErrTxt (P : Program) (K : PySem.W.Frag) (mg : Str → Option Value) (a : Ads) : Prop where
  bad : QX.SupTxt P K mg sBad "BadStack.__init__" "BadStack" "box" a.cBad a.iBad
  full : QX.SupTxt P K mg sFull "StackFull.__init__" "StackFull" "stack" a.cFull a.iFull
  gO : mg "VoyageOver" = some (.ref a.cOver)
  qO : PySem.W.excIn K a.cOver [.type "ValueError", .type "Exception", .type "BaseException", .type "object"] "ValueError.__new__" = true
  kO : PySem.W.keepIn K (.ref a.cOver) = true
  eO : PySem.W.subIn K (.ref a.cOver) (.type "BaseException") = some true
  tO : PySem.W.typeIn K (.ref a.cOver) = some (.type "type")
  gM : mg "TooManyBoxes" = some (.ref a.cMany)
  qM : PySem.W.excIn K a.cMany [.type "ValueError", .type "Exception", .type "BaseException", .type "object"] "ValueError.__new__" = true
  kM : PySem.W.keepIn K (.ref a.cMany) = true
  eM : PySem.W.subIn K (.ref a.cMany) (.type "BaseException") = some true
  tM : PySem.W.typeIn K (.ref a.cMany) = some (.type "type")
theorem getK {X : Cx} (K : PySem.W.Frag) (h : X.K = K := by rfl) : PGet X (fun o i H Q => ∃ (p : Addr) (xs : List V) (j : Nat) (v : V), o = .ref p ∧ i = .int (j : Int) ∧ H p = some (.lst xs) ∧ xs[j]? = some v ∧ Q v H) := by
  intro pins s σ H o i ov iv Q I ro ri q
  obtain ⟨p, xs, j, v, rfl, rfl, hp, hj, q⟩ := q
  cases ro
  obtain ⟨t, rfl⟩ := ri
  obtain ⟨its, n, r, ho, hz⟩ := I.lst hp
  obtain ⟨u, hu, ru⟩ := r.get hj
  have hl := (List.getElem?_eq_some_iff.mp hj).1
  have hn := line63
  obtain ⟨its', r', pl, hz'⟩ := I.list (sq_of (K := X.K) hp)
  obtain ⟨u', hu', ru'⟩ := r'.get hj
  exact getItem_listL pl.isList (by omega) (by omega) (by rw [Int.toNat_natCast]; exact hu') ⟨v, H, I, ru', q⟩
theorem et_chain {σ : L2.St} {H : Hp} {ta tb tc : TE} {F G : Int → Int → Bool} {i j k : Int} (ha : Ev ta σ H (.int i)) (hb : Ev tb σ H (.int j)) (hc : Ev tc σ H (.int k)) : EvT (tTest (tChain (rI0 fun i j => .bl (F i j)) (rI0 fun i j => .bl (G i j)) ta tb tc)) σ H (F i j && G j k) := fun H1 e Q q =>
  ha H1 e _ fun H2 e2 => hb H2 (e.trans e2) _ fun H3 e3 => ⟨i, j, rfl, rfl, F i j, rfl, by
    cases hF : F i j with
    | true =>
      refine iteT ?_
      refine hc H3 ((e.trans e2).trans e3) _ fun H4 e4 => ⟨j, k, rfl, rfl, _, rfl, ?_⟩
      rw [hF] at q
      exact q H4 ((e2.trans e3).trans e4)
    | false =>
      refine iteF ?_
      rw [hF] at q
      exact ⟨_, rfl, q H3 (e2.trans e3)⟩⟩
/-- for i, x in enumerate(l), l a list that stands -/
theorem s_forE {σ : L2.St} {H : Hp} {tl : TE} {g : TG} {tu : TS} {D : Ends} {l : Addr} {xs : List V} (h : Ev tl σ H (.ref l)) (hx : SqL K H l xs) (Pv : Nat → L2.St → Hp → Prop) (h0 : ∀ H1, Ex H H1 → Pv 0 σ H1) (hl : ∀ i σ' H', i ≤ xs.length → Pv i σ' H' → SqL K H' l xs)
    (hs : ∀ i x σ' H' T, xs[i]? = some x → Pv i σ' H' → H' T = none → g (.ref T) σ' (upd H' T (.tup [nV i, x])) fun σ2 H2 => tu { D with nx := Pv (i + 1), ct := Pv (i + 1), bk := D.nx } σ2 H2) (hd : ∀ σ' H', Pv xs.length σ' H' → D.nx σ' H') : tFor (iEnum K (tCons tl tNil)) g tu D σ H :=
  h H (Ex.refl H) _ fun H1 e => ⟨l, xs, rfl, ex_l e hx, fun i m σ' H' => m = xs.length - i ∧ i ≤ xs.length ∧ Pv i σ' H', ⟨xs.length, by simp, Nat.zero_le _, h0 H1 e⟩, by
    rintro i m σ' H' ⟨rfl, hi, p⟩
    have q := hl i σ' H' hi p
    by_cases hlt : i < xs.length
    · refine .inr ⟨⟨xs, xs[i], q, by simp [hlt]⟩, Pv (i + 1), fun σ' H' p' => ⟨xs.length - (i + 1), by omega, rfl, hlt, p'⟩, fun x H' y => ?_⟩
      obtain ⟨T, x, rfl, nT, rfl, fx⟩ := y
      exact hs i x σ' _ T (fx _ q) p nT
    · have e : i = xs.length := by omega
      subst e
      exact .inl ⟨⟨xs, q, Nat.le_refl _⟩, hd σ' H' p⟩⟩
theorem q_forE {σ : L2.St} {H : Hp} {tl : TE} {g : TG} {tu tz : TS} {D : Ends} {l : Addr} {xs : List V} (h : Ev tl σ H (.ref l)) (hx : SqL K H l xs) (Pv : Nat → L2.St → Hp → Prop) (h0 : ∀ H1, Ex H H1 → Pv 0 σ H1) (hl : ∀ i σ' H', i ≤ xs.length → Pv i σ' H' → SqL K H' l xs)
    (hs : ∀ i x σ' H' T, xs[i]? = some x → Pv i σ' H' → H' T = none → g (.ref T) σ' (upd H' T (.tup [nV i, x])) fun σ2 H2 => tu { D with nx := Pv (i + 1), ct := Pv (i + 1), bk := tz D } σ2 H2) (hd : ∀ σ' H', Pv xs.length σ' H' → tz D σ' H') : tSeq (tFor (iEnum K (tCons tl tNil)) g tu) tz D σ H :=
  s_forE (D := { D with nx := tz D }) h hx Pv h0 hl hs hd
theorem ld_get {H : Hp} {xs : List V} {ls : Ld} (h : DsAt H xs (lds ls)) {i : Nat} {x : V} (hx : xs[i]? = some x) : i < ls.length ∧ DAt H x (.tup [.int (ldAt ls i).1, .int (ldAt ls i).2]) := by
  obtain ⟨d, h1, h2⟩ := h.get' hx
  obtain ⟨rfl, _, h3⟩ := map_get (z := (0, 0)) h1
  exact ⟨h3, h2⟩
/-- the loads of one stack -/
theorem cho_filter (ls : Ld) (j : Nat) : (cho ls j).length = (ls.filter fun l => decide (l.1 = (j : Int))).length := by
  have := givD_map ls (0, 0) (fun l => decide (l.1 = (j : Int))) (fun _ => Dat.int 0)
  have h := congrArg List.length this
  unfold givD at h
  rw [List.length_map, List.length_map] at h
  exact h
theorem find_none {n : Nat} {f : Nat → Bool} (h : ∀ i < n, f i = false) : (List.range n).find? f = none := by
  rw [List.find?_range_eq_none]
  intro i hi
  rw [h i hi]
  rfl
theorem find_some {n i : Nat} {f : Nat → Bool} (hi : i < n) (hf : f i = true) (h : ∀ j < i, f j = false) : (List.range n).find? f = some i := by
  rw [List.find?_range_eq_some]
  refine ⟨hf, List.mem_range.mpr hi, fun j hj => ?_⟩
  rw [h j hj]
  rfl
theorem ok_check (T : Txt K mg a) (Et : ErrTxt P K mg a) : FnOk P w K mg base (L2.CX P w) 3 a.aCheck a.fCheck ["self", "loads"] (spCheck a) := by
  refine T.FCheck.okX scCheck (fun vs H Q E h => ?_) (fun cdv A outer s H vs Q E hr h => ?_)
  · obtain ⟨v, l, lb, ll, ld, as, S, ls, rfl, _⟩ := h
    rfl
  have tk : Takes (cxOf (L2.CX P w) P w K mg base nCheck "Voyage._check" (defScope sCheck) a.aCheck cdv A outer s H E) (fun cls d _ H => E cls d H) := takes_of rfl rfl rfl rfl
  refine ⟨_, (pss_cons (ps_if (pt_cmpR op_eq (fldK K (pv 0)) (pe_op op_sub (pe_glob (v := .int 12) rfl T.zPorts.choose_spec ⟨_, rfl⟩) pe_int) (nomark _)) (pss_one (ps_raise rfl tk (QX.pmk_own0 PySem.F.excBase_ValueError Et.qO Et.gO Et.kO (raises_own Et.eO Et.tO) (by rfl)))) pss_nil)
      (pss_cons (ps_for (passes_of rfl) rfl (pi_enum (by rfl) T.zenumerate (pa_cons (pv 1) pa_nil)) (pg_tup rfl (pgs_cons (pg_name (i := 2) scCheck.nd rfl (by first | exact .inl rfl | exact .inr rfl)) (pgs_cons (pg_tup rfl (pgs_cons (pg_name (i := 3) scCheck.nd rfl (by first | exact .inl rfl | exact .inr rfl)) (pgs_cons (pg_name (i := 4) scCheck.nd rfl (by first | exact .inl rfl | exact .inr rfl)) pgs_nil))) pgs_nil))) (pss_one (ps_if (PW.pt (pw_or (pt_not (pt_chain op_le op_lt pe_int (pv 3) (pe_callB (lenK K) (by rfl) T.zlen PySem.boot_len (pa_cons (fldK K (pv 0)) pa_nil)))) (pw_or1 (pt_not (pt_chain op_lt op_lt (fldK K (pv 0)) (pv 4) (pe_glob (v := .int 12) rfl T.zPorts.choose_spec ⟨_, rfl⟩)))))) (pss_one (ps_raise rfl tk (QX.pmk_sup Et.bad (.inl ⟨rfl, rfl⟩) hr (pa_cons (pv 2) pa_nil) (by rfl)))) pss_nil)))
      (pss_cons (ps_if (pt_cmpR op_gt (pe_op op_add (pe_callB (lenK K) (by rfl) T.zlen PySem.boot_len (pa_cons (fldK K (pv 0)) pa_nil)) (pe_callB (lenK K) (by rfl) T.zlen PySem.boot_len (pa_cons (pv 1) pa_nil))) (pe_glob (v := .int 60) rfl T.zMost.choose_spec ⟨_, rfl⟩) (nomark _)) (pss_one (ps_raise rfl tk (QX.pmk_own0 PySem.F.excBase_ValueError Et.qM Et.gM Et.kM (raises_own Et.eM Et.tM) (by rfl)))) pss_nil)
      (pss_one (ps_for (passes_of rfl) rfl (pi_range1 (by rfl) T.zrange (pa_cons (pe_callB (lenK K) (by rfl) T.zlen PySem.boot_len (pa_cons (fldK K (pv 0)) pa_nil)) pa_nil)) (pg_name (i := 3) scCheck.nd rfl (by first | exact .inl rfl | exact .inr rfl)) (pss_cons (ps_set (i := 5) scCheck.nd rfl (by first | exact .inl rfl | exact .inr rfl) (pe_callB (lenK K) (by rfl) T.zlen PySem.boot_len (pa_cons (pe_lc (own := [("load", 6)]) (g := gName 6) rfl scCheck.nd (pilK K (pv 1)) (blkOk_by (N := nCheck) (sc := defScope sCheck) (by decide +kernel)) (fun _ _ _ _ _ => (pg_name (i := 6) scCheck.nd rfl (by first | exact .inl rfl | exact .inr rfl))) (fun _ _ _ _ _ => pts_one (pt_cmpR op_eq (pe_ix (ixt K) (pv 6) pe_int (fun _ _ => rfl)) (pv 3) (nomark _))) (fun _ _ _ _ _ => (pv 6))) pa_nil)))
      (pss_one (ps_if (pt_cmpR op_gt (pe_op op_add (pe_callB (lenK K) (by rfl) T.zlen PySem.boot_len (pa_cons (pe_ix (ixl K) (fldK K (pv 0)) (pv 3) (fun _ _ => rfl)) pa_nil)) (pv 5)) (fldK K (pv 0)) (nomark _)) (pss_one (ps_raise rfl tk (QX.pmk_sup Et.full (.inr ⟨rfl, rfl⟩) hr (pa_cons (pv 3) pa_nil) (by rfl)))) pss_nil)))))))), ?_⟩
  obtain ⟨v, l, lb, ll, ld, as, S, ls, rfl, Va, hls, hln, W, kE, k⟩ := h
  obtain ⟨dx, hob⟩ := Va.ob
  obtain ⟨xs, hxs, hxd⟩ := hls
  have hlsD : LstD H ld (lds ls) := ⟨xs, hxs, hxd⟩
  have hxl : xs.length = ls.length := by rw [hxd.length, List.length_map]
  have fPort : ∀ {σ : L2.St} {H1 : Hp}, σ[0]? = some (some (.ref v)) → Ex H H1 → Ev (tFld K (tVar 0) "port") σ H1 (.int S.port) := fun h0 e => ev_fld (ev_var h0) (e _ _ hob) T.clV T.noPort vfs_port
  have fHei : ∀ {σ : L2.St} {H1 : Hp}, σ[0]? = some (some (.ref v)) → Ex H H1 → Ev (tFld K (tVar 0) "height") σ H1 (.int S.height) := fun h0 e => ev_fld (ev_var h0) (e _ _ hob) T.clV T.noHeight vfs_height
  have fSt : ∀ {σ : L2.St} {H1 : Hp}, σ[0]? = some (some (.ref v)) → Ex H H1 → Ev (tFld K (tVar 0) "_stacks") σ H1 (.ref l) := fun h0 e => ev_fld (ev_var h0) (e _ _ hob) T.clV T.noStacks vfs_stacks
  have fBx : ∀ {σ : L2.St} {H1 : Hp}, σ[0]? = some (some (.ref v)) → Ex H H1 → EvLs (tFld K (tVar 0) "_boxes") σ H1 (bxs S.boxes) := fun h0 e => evs_v (ev_fld (ev_var h0) (e _ _ hob) T.clV T.noBoxes vfs_boxes) (Va.bx.ex e)
  have lenSt : ∀ {σ : L2.St} {H1 : Hp}, σ[0]? = some (some (.ref v)) → Ex H H1 → Ev (tCB (rLenS K) (tCons (tFld K (tVar 0) "_stacks") tNil)) σ H1 (nV S.stacks.length) := fun h0 e => by
    have q := ev_len (K := K) (fSt h0 e) (sq_of (e _ _ Va.li))
    rw [List.length_map, Va.sk.len] at q
    exact q
  refine q_when (et_eqI (fPort rfl (Ex.refl H)) (ev_sub ev_c ev_c)) (fun hb H1 e1 => ?_) (fun hb H1 e1 => ?_)
  · refine kE .over ?_ H1 e1
    unfold chk
    rw [if_pos (show S.port = 11 from of_decide_eq_true hb)]
  have hp : ¬ S.port = 11 := of_decide_eq_false hb
  refine q_forE (ev_var rfl) (sq_of (e1 _ _ hxs)) (fun i σ' H' => (∃ x2 x3 x4, σ' = [some (.ref v), some (.ref ld), x2, x3, x4, none, none]) ∧ Ex H H' ∧ ∀ k < i, badAt S ls k = false) (fun H2 e2 => ⟨⟨_, _, _, rfl⟩, e1.trans e2, fun k hk => absurd hk (by omega)⟩) (fun i σ' H' _ p => sq_of (p.2.1 _ _ hxs)) (fun i x σ' H' t hx p ht => ?_) (fun σ' H' p => ?_)
  · obtain ⟨⟨x2, x3, x4, rfl⟩, e', hk⟩ := p
    obtain ⟨hi, hd⟩ := ld_get hxd hx
    have et := Ex.new (o := .tup [nV i, x]) ht
    have e3 := e'.trans et
    obtain ⟨t2, vs2, rfl, ht2, hd2⟩ := (hd.tk (.ex e3)).t
    have hvs2 : vs2 = [.int (ldAt ls i).1, .int (ldAt ls i).2] := by
      cases hd2 with
      | cons a1 r1 =>
        cases r1 with
        | cons a2 r2 =>
          cases r2
          rw [a1.i, a2.i]
    subst hvs2
    refine ⟨t, _, rfl, st_of upd_same, rfl, _, _, rfl, _, _, rfl, t2, _, rfl, st_of ht2, rfl, _, _, rfl, _, _, rfl, rfl, rfl, ?_⟩
    refine s_when (et_or (et_not (et_chain ev_c (ev_var rfl) (lenSt rfl e3))) (fun _ => et_not (et_chain (fPort rfl e3) (ev_var rfl) ev_c))) (fun hb2 H4 e4 => ?_) (fun hb2 H4 e4 => ?_)
    · refine ⟨_, rfl, _, rfl, fun d hd4 => ?_⟩
      refine kE (.bad i) ?_ d _ ((e3.trans e4).trans (Ex.new hd4)) upd_same
      unfold chk
      rw [if_neg hp, find_some hi hb2 hk]
    · refine ⟨⟨_, _, _, rfl⟩, e3.trans e4, fun k hk2 => ?_⟩
      by_cases hki : k < i
      · exact hk k hki
      · have : k = i := by omega
        subst this
        exact hb2
  · obtain ⟨⟨x2, x3, x4, rfl⟩, e', hk⟩ := p
    rw [hxl] at hk
    have hnb := find_none hk
    have lb1 := ev_lenD (K := K) (fBx (σ := [some (.ref v), some (.ref ld), x2, x3, x4, none, none]) rfl e')
    have lb2 := ev_lenD (K := K) (σ := [some (.ref v), some (.ref ld), x2, x3, x4, none, none]) (ta := tVar 1) (evs_var rfl (hlsD.ex e'))
    rw [List.length_map] at lb1 lb2
    refine q_when (et_cmp (g := fun i j => decide (i > j)) (ev_add lb1 lb2) ev_c) (fun hb3 H4 e4 => ?_) (fun hb3 H4 e4 => ?_)
    · refine kE .many ?_ _ (e'.trans e4)
      have := of_decide_eq_true hb3
      unfold chk
      rw [if_neg hp, hnb]
      show (if S.boxes.length + ls.length > 60 then some Er.many else _) = _
      rw [if_pos (by omega)]
    · have hmany : ¬ S.boxes.length + ls.length > 60 := by
        have := of_decide_eq_false hb3
        omega
      have e04 := e'.trans e4
      refine s_forR1 (n := (S.stacks.length : Int)) (ea_one (lenSt rfl e04)) (by have := W.ns; omega) (fun i σ' H' => (∃ y2 y3 y4 y5, σ' = [some (.ref v), some (.ref ld), y2, y3, y4, y5, none]) ∧ Ex H H' ∧ ∀ k < i, fullAt S ls k = false) (fun H5 e5 => ⟨⟨_, _, _, _, rfl⟩, e04.trans e5, fun k hk => absurd hk (by omega)⟩) (fun i σ' H' hi p => ?_) (fun σ' H' p => ?_)
      · obtain ⟨⟨y2, y3, y4, y5, rfl⟩, e5, hk5⟩ := p
        have hi' : i < S.stacks.length := by omega
        have hlc : EvLD (tLc (iList K (tVar 1)) (gName 6) (tTest (tOp rEq (tOp (rIxT K) (tVar 6) (tC (.int 0))) (tVar 3))) (tVar 6) [6]) [some (.ref v), some (.ref ld), y2, some (nV i), y4, y5, none] H' ((ls.filter fun l => decide (l.1 = (i : Int))).map fun l => Dat.tup [.int l.1, .int l.2]) := by
          refine eld_lcA (0, 0) (fun l : Int × Int => decide (l.1 = (i : Int))) (fun l => Dat.tup [.int l.1, .int l.2]) (evs_var rfl (hlsD.ex e5)) (by omega) (fun x => rfl) (fun x b H6 e6 hb hx => ?_) (fun x b H6 e6 hb hx _ => evd_var rfl hx)
          exact et_eqI (ev_i (evd_ixT (n := 0) (evd_var rfl hx) ev_c rfl)) (ev_var rfl)
        have hlen := ev_lenD (K := K) (evs_new hlc)
        rw [List.length_map, ← cho_filter] at hlen
        refine q_asg hlen fun H6 e6 => ?_
        obtain ⟨b, hb1, hb2⟩ := Va.sk.get (stk_at hi')
        have e06 := e5.trans e6
        have hst : Ev (tCB (rLenS K) (tCons (tOp (rIxL K) (tFld K (tVar 0) "_stacks") (tVar 3)) tNil)) [some (.ref v), some (.ref ld), y2, some (nV i), y4, some (.int ((cho ls i).length : Int)), none] H6 (nV (stk S i).length) := by
          have q := ev_len (K := K) (ev_op (r := rIxL K) (z := .ref b) (fSt (σ := [some (.ref v), some (.ref ld), y2, some (nV i), y4, some (.int ((cho ls i).length : Int)), none]) rfl e06) (ev_var (i := 3) rfl) (rv_ixL (sq_of (e06 _ _ Va.li)) (atI_nat (by rw [List.getElem?_map, hb1]; rfl)))) (sq_of (e06 _ _ hb2))
          rw [List.length_map] at q
          exact q
        refine s_when (et_cmp (g := fun i j => decide (i > j)) (ev_add hst (ev_var rfl)) (fHei rfl e06)) (fun hb7 H7 e7 => ?_) (fun hb7 H7 e7 => ?_)
        · refine ⟨_, rfl, _, rfl, fun d hd => ?_⟩
          refine kE (.full i) ?_ d _ ((e06.trans e7).trans (Ex.new hd)) upd_same
          unfold chk
          rw [if_neg hp, hnb]
          show (if S.boxes.length + ls.length > 60 then some Er.many else _) = _
          rw [if_neg hmany, find_some hi' hb7 hk5]
        · refine ⟨⟨_, _, _, _, rfl⟩, e06.trans e7, fun k hk2 => ?_⟩
          by_cases hki : k < i
          · exact hk5 k hki
          · have : k = i := by omega
            subst this
            exact hb7
      · obtain ⟨⟨y2, y3, y4, y5, rfl⟩, e5, hk5⟩ := p
        refine k ?_ H' e5
        rw [Int.toNat_natCast] at hk5
        unfold chk
        rw [if_neg hp, hnb]
        show (if S.boxes.length + ls.length > 60 then some Er.many else _) = _
        rw [if_neg hmany, find_none hk5]
end
end Q
/-! Voyage.load -/
namespace Q
open PySem PySem.Spec PyProof.Rows L2 Evl LamX QM
section
variable {P : Program} {w : World} {K : PySem.W.Frag} {mg : Str → Option Value} {base : Heap} {a : Ads}
/-- [v(..) for x, y in l], l a list of pairs of ints -/
theorem eld_lcP {σ : L2.St} {H : Hp} {tl te : TE} {j k : Nat} {vs : List Nat} {l : Ld} (v : Int × Int → Dat) (h : EvLs tl σ H (lds l)) (hz : l.length ≤ 40000) (hw : ∀ x y, wipe (((wipe σ vs).set j (some x)).set k (some y)) vs = wipe σ vs)
    (he : ∀ (b : Int × Int) H1, Ex H H1 → b ∈ l → EvD te (((wipe σ vs).set j (some (.int b.1))).set k (some (.int b.2))) H1 (v b)) :
    EvLD (tLc (iList K tl) (gTup K 2 (gCons (gName j) (gCons (gName k) gNil))) tYes te vs) σ H (l.map v) := fun H0 e Q q => h H0 e _ fun a H1 e1 hx => by
  obtain ⟨xs, h1, h2⟩ := hx
  refine ⟨a, rfl, ⟨xs, sq_of h1⟩, fun Dl hD => ?_⟩
  refine lc_list (xs := xs) (CwD H1 (fun _ => true) (fun i => v (ldAt l i)) Dl) ⟨hD, Ex.new hD, _, upd_same, .nil⟩ (fun i H' _ p => sq_of (p.2.1 _ _ h1)) (fun i x H' hi p => ?_) (fun H' p => ?_)
  · obtain ⟨d, hd, hx⟩ := h2.get' hi
    obtain ⟨rfl, hm, hl⟩ := map_get (z := (0, 0)) hd
    obtain ⟨t2, vs2, rfl, ht2, hd2⟩ := (hx.tk (.ex p.2.1)).t
    have hvs2 : vs2 = [.int (ldAt l i).1, .int (ldAt l i).2] := by
      cases hd2 with
      | cons a1 r1 =>
        cases r1 with
        | cons a2 r2 =>
          cases r2
          rw [a1.i, a2.i]
          rfl
    subst hvs2
    exact ⟨t2, _, rfl, st_of ht2, rfl, _, _, rfl, _, _, rfl, rfl, hw _ _, cwD_turn p (by omega) et_yes (fun _ => he (ldAt l i) H' ((e.trans e1).trans p.2.1) hm)⟩
  · have p3 := p.2.2
    have : givD xs.length (fun _ => true) (fun i => v (ldAt l i)) = l.map v := by
      rw [h2.length, List.length_map]
      have q := givD_map l (0, 0) (fun _ => true) v
      rw [filter_yes] at q
      exact q
    rw [this] at p3
    exact q Dl H' (fresh_back e1 p.1) (e1.trans p.2.1) p3
theorem VoyAt.ne {c : Addr} {H : Hp} {v l lb ll : Addr} {as : List Addr} {S : Ship} (Va : VoyAt c H v l lb ll as S) {b : Addr} {xs : List V} (hb : H b = some (.lst xs)) : b ≠ v := by
  obtain ⟨dx, ho⟩ := Va.ob
  exact ne_of hb ho (by intro z; cases z)
theorem VoyAt.has {c : Addr} {H : Hp} {v l lb ll : Addr} {as : List Addr} {S : Ship} (Va : VoyAt c H v l lb ll as S) {b : Addr} (h : VOw v l lb ll as b) : ∃ o, H b = some o ∧ NoTbl o ∧ ¬ Imm o := by
  rcases h with rfl | rfl | rfl | rfl | h
  · obtain ⟨dx, ho⟩ := Va.ob
    exact ⟨_, ho, noTbl_ins, fun z => z⟩
  · exact ⟨_, Va.li, noTbl_lst, fun z => z⟩
  · obtain ⟨xs, h1, _⟩ := Va.bx
    exact ⟨_, h1, noTbl_lst, fun z => z⟩
  · exact ⟨_, Va.lf, noTbl_lst, fun z => z⟩
  · obtain ⟨i, hi⟩ := List.getElem?_of_mem h
    obtain ⟨st, _, h2⟩ := Va.sk.get' hi
    exact ⟨_, h2, noTbl_lst, fun z => z⟩
theorem VoyAt.free {c : Addr} {H : Hp} {v l lb ll : Addr} {as : List Addr} {S : Ship} (Va : VoyAt c H v l lb ll as S) {p : Addr} (h : Fre H p) : ¬ VOw v l lb ll as p := fun z => by
  obtain ⟨o, h1, h2, _⟩ := Va.has z
  exact h o h1 h2
theorem set_id {α : Type} : ∀ {as : List α} {i : Nat} {b : α}, as[i]? = some b → as.set i b = as
  | [], _, _, h => by simp at h
  | x :: r, 0, b, h => by
    simp at h
    rw [h]
    rfl
  | x :: r, i + 1, b, h => by
    rw [List.set_cons_succ, set_id (by simpa using h)]
theorem nd_ne {as : List Addr} (nd : as.Nodup) {i j : Nat} {b c : Addr} (hi : as[i]? = some b) (hj : as[j]? = some c) (h : j ≠ i) : c ≠ b := fun z => by
  subst z
  have h1 := (List.getElem?_eq_some_iff.mp hi)
  have h2 := (List.getElem?_eq_some_iff.mp hj)
  obtain ⟨l1, e1⟩ := h1
  obtain ⟨l2, e2⟩ := h2
  have hp := List.pairwise_iff_getElem.mp nd
  by_cases hlt : i < j
  · exact hp i j l1 l2 hlt (e1.trans e2.symm)
  · exact hp j i l2 l1 (by omega) (e2.trans e1.symm)
/-- an inner list is written -/
theorem VoyAt.put {c : Addr} {H H1 : Hp} {v l lb ll : Addr} {as : List Addr} {S : Ship} (Va : VoyAt c H v l lb ll as S) {i : Nat} {b : Addr} {st : List Nat} (hi : as[i]? = some b) (m : Mo (fun x => x = b) H H1) (hb : H1 b = some (.lst (st.map nV))) :
    VoyAt c H1 v l lb ll as { S with stacks := S.stacks.set i st } := by
  obtain ⟨st0, _, hb0⟩ := Va.sk.get' hi
  have nv := Va.ne hb0
  have nd := Va.nd
  rw [List.nodup_cons, List.nodup_cons, List.nodup_cons] at nd
  have hm := List.mem_of_getElem? hi
  have n1 : l ≠ b := fun z => nd.1 (by rw [z]; simp [hm])
  have n2 : lb ≠ b := fun z => nd.2.1 (by rw [z]; simp [hm])
  have n3 : ll ≠ b := fun z => nd.2.2.1 (by rw [z]; exact hm)
  obtain ⟨dx, ho⟩ := Va.ob
  refine ⟨⟨dx, m.keep _ _ ho (.inl (Ne.symm nv))⟩, m.keep _ _ Va.li (.inl n1), Va.nd, ?_, Va.bx.mo m n2, m.keep _ _ Va.lf (.inl n3)⟩
  have q := Va.sk.set (H' := H1) (i := i) (s := b) (st := st) (fun j d hj hd xs hx => m.keep _ _ hx (.inl (nd_ne nd.2.2.2 hi hd hj))) hb
  rw [set_id hi] at q
  exact q
theorem tSeq_for {wi : TI} {g : TG} {tu tz : TS} {D : Ends} {σ : L2.St} {H : Hp} (h : tFor wi g tu { D with nx := tz D } σ H) : tSeq (tFor wi g tu) tz D σ H := h
theorem s_forCall {sp : Sp} {dvs vs : List V} {E : XK} {ta : TA} {g : TG} {tu : TS} {D : Ends} {σ : L2.St} {H : Hp} (h : EvA ta σ H vs)
    (k : ∀ H1, Ex H H1 → sp (vs ++ dvs) H1 (fun x H2 => ∃ p, x = .ref p ∧ (∃ xs, SqL K H2 p xs) ∧ ∃ W : Nat → Nat → L2.St → Hp → Prop, (∃ m, W 0 m σ H2) ∧ ∀ i m σ H, W i m σ H → ((Itl K p).stop i H ∧ D.nx σ H) ∨ ((Itl K p).go i H ∧ ∃ N : L2.St → Hp → Prop,
      (∀ σ' H', N σ' H' → ∃ m', m' < m ∧ W (i + 1) m' σ' H') ∧ ∀ x H', (Itl K p).yld i H x H' → g x σ H' fun σ2 H2 => tu { D with nx := N, ct := N, bk := D.nx } σ2 H2)) E) : tFor (iList K (tCall sp dvs E ta)) g tu D σ H := h H (Ex.refl H) _ k
theorem lodE1_len (p : Int) (l : List Nat) : (lodE1 p l).length = l.length := List.length_map ..
theorem lodE_len (S : Ship) (ls : Ld) : ∀ i, (lodE S ls i).length ≤ i * ls.length
  | 0 => Nat.zero_le _
  | i + 1 => by
    rw [lodE_succ, List.length_append, lodE1_len, lodC_len]
    have h1 := lodE_len S ls i
    have h2 := cho_len ls i
    rw [Nat.succ_mul]
    omega
theorem ok_load (T : Txt K mg a) (Et : ErrTxt P K mg a) (F : FunC K "loading" "loading" sLoading a.aLoading a.fLoading a.kc a.kP) (TB : TabB base mg a.kc a.kP) : FnOk P w K mg base (L2.CX P w) 4 a.aLoad a.fLoad ["self", "loads"] (spLoad a) := by
  have GCheck : FnOk P w K mg base (L2.CX P w) 3 a.aCheck a.fCheck ["self", "loads"] (spCheck a) := ok_check T Et
  have GLoading : FnOk P w K mg base CX0 2 a.aLoading a.fLoading ["boxes", "chosen"] (spLoading a.kP) := ok_loading T F TB
  refine T.FLoad.okX scLoad (fun vs H Q E h => ?_) (fun cdv A outer s H vs Q E hr h => ?_)
  · obtain ⟨v, l, lb, ll, ld, as, S, ls, rfl, _⟩ := h
    rfl
  have tk : Takes (cxOf (L2.CX P w) P w K mg base nLoad "Voyage.load" (defScope sLoad) a.aLoad cdv A outer s H E) (fun cls d _ H => E cls d H) := takes_of rfl rfl rfl rfl
  refine ⟨_, (pss_cons (ps_expr (pe_meth (pv 0) T.clV T.mCheck GCheck (hr.mono (by decide)) T.bCheck .nil (passes_call tk fun _ _ _ _ h => h) (pa_cons (pv 1) pa_nil)))
      (pss_cons (ps_set (i := 2) scLoad.nd rfl (by first | exact .inl rfl | exact .inr rfl) (pe_callB (lenK K) (by rfl) T.zlen PySem.boot_len (pa_cons (fldK K (pv 0)) pa_nil)))
      (pss_cons (ps_expr (pe_bm PySem.F.plainAttrs_list PySem.F.slot_list_extend PySem.F.type_list_extend mt_extend (fldK K (pv 0)) (pa_cons (pe_lc (own := [("_", 7), ("stop", 8)]) (g := gTup K 2 (gCons (gName 7) (gCons (gName 8) gNil))) (tt := tYes) rfl scLoad.nd (pilK K (pv 1)) (blkOk_by (N := nLoad) (sc := defScope sLoad) (by decide +kernel)) (fun _ _ _ _ _ => (pg_tup rfl (pgs_cons (pg_name (i := 7) scLoad.nd rfl (by first | exact .inl rfl | exact .inr rfl)) (pgs_cons (pg_name (i := 8) scLoad.nd rfl (by first | exact .inl rfl | exact .inr rfl)) pgs_nil)))) (fun _ _ _ _ _ => pts_nil) (fun _ _ _ _ _ => (pe_tup (pa_cons (fldK K (pv 0)) (pa_cons (pv 8) pa_nil))))) pa_nil)))
      (pss_cons (ps_expr (pe_bm PySem.F.plainAttrs_list PySem.F.slot_list_extend PySem.F.type_list_extend mt_extend (fldK K (pv 0)) (pa_cons (pe_lc (own := [("_", 7)]) (g := gName 7) (tt := tYes) rfl scLoad.nd (pilK K (pv 1)) (blkOk_by (N := nLoad) (sc := defScope sLoad) (by decide +kernel)) (fun _ _ _ _ _ => (pg_name (i := 7) scLoad.nd rfl (by first | exact .inl rfl | exact .inr rfl))) (fun _ _ _ _ _ => pts_nil) (fun _ _ _ _ _ => pe_int)) pa_nil)))
      (pss_cons (ps_set (i := 3) scLoad.nd rfl (by first | exact .inl rfl | exact .inr rfl) (pe_lst pa_nil))
      (pss_cons (ps_for (passes_of rfl) rfl (pi_range1 (by rfl) T.zrange (pa_cons (pe_callB (lenK K) (by rfl) T.zlen PySem.boot_len (pa_cons (fldK K (pv 0)) pa_nil)) pa_nil)) (pg_name (i := 4) scLoad.nd rfl (by first | exact .inl rfl | exact .inr rfl)) (pss_cons (ps_setLc (i := 5) (own := [("number", 9), ("load", 10)]) (g := gTup K 2 (gCons (gName 9) (gCons (gName 10) gNil))) rfl scLoad.nd rfl rfl (sw_true rfl rfl rfl (by decide +kernel)) (pi_enum (by rfl) T.zenumerate (pa_cons (pv 1) pa_nil)) (blkOk_by (N := nLoad) (sc := defScope sLoad) (by decide +kernel)) (fun _ _ _ _ _ => (pg_tup rfl (pgs_cons (pg_name (i := 9) scLoad.nd rfl (by first | exact .inl rfl | exact .inr rfl)) (pgs_cons (pg_name (i := 10) scLoad.nd rfl (by first | exact .inl rfl | exact .inr rfl)) pgs_nil)))) (fun _ _ _ _ _ => pts_one (pt_cmpR op_eq (pe_ix (ixt K) (pv 10) pe_int (fun _ _ => rfl)) (pv 4) (nomark _))) (fun _ _ _ _ _ => (pe_op op_add (pv 2) (pv 9))))
      (pss_one (ps_for (passes_of rfl) rfl (pilK K (pe_call GLoading (hr.mono (by decide)) (by rfl) T.gLoading T.FLoading.kp T.bLoading .nil pass0 (pa_cons (fldK K (pv 0)) (pa_cons (pv 5) pa_nil)))) (pg_name (i := 6) scLoad.nd rfl (by first | exact .inl rfl | exact .inr rfl)) (pss_cons (ps_expr (pe_bm PySem.F.plainAttrs_list PySem.F.slot_list_append PySem.F.type_list_append mt_append (pv 3) (pa_cons (pe_tup (pa_cons (fldK K (pv 0)) (pa_cons pe_str (pa_cons (pv 6) pa_nil)))) pa_nil)))
      (pss_one (ps_expr (pe_bm PySem.F.plainAttrs_list PySem.F.slot_list_append PySem.F.type_list_append mt_append (pe_ix (ixl K) (fldK K (pv 0)) (pv 4) (fun _ _ => rfl)) (pa_cons (pv 6) pa_nil)))))))))
      (pss_one (ps_ret (pe_callTy (tupK K) (by rfl) T.ztuple (by decide +kernel) (pa_cons (pv 3) pa_nil)))))))))), ?_⟩
  obtain ⟨v, l, lb, ll, ld, as, S, ls, rfl, Va, hls, hln, W, hT, nld, kE, k⟩ := h
  obtain ⟨dx, hob⟩ := Va.ob
  refine ⟨_, rfl, v, dx, _, rfl, hob, vfs_mCheck, _, rfl, v, l, lb, ll, ld, as, S, ls, rfl, Va, hls, hln, W, kE, fun hc H1 e1 => ?_⟩
  have Va1 := Va.ex e1
  have lenSt : ∀ {σ : L2.St} {H' : Hp} {S' : Ship}, σ[0]? = some (some (.ref v)) → VoyAt a.cV H' v l lb ll as S' → Ev (tCB (rLenS K) (tCons (tFld K (tVar 0) "_stacks") tNil)) σ H' (nV as.length) := fun h0 V' => by
    obtain ⟨d', ho⟩ := V'.ob
    have q := ev_len (K := K) (ev_fld (ev_var h0) ho T.clV T.noStacks vfs_stacks) (sq_of V'.li)
    rw [List.length_map] at q
    exact q
  have lb1 := ev_lenD (K := K) (σ := [some (.ref v), some (.ref ld), none, none, none, none, none, none, none, none, none]) (evs_v (ev_fld (te := tVar 0) (ev_var rfl) (e1 _ _ hob) T.clV T.noBoxes vfs_boxes) Va1.bx)
  rw [List.length_map] at lb1
  refine q_asg lb1 fun H2 e2 => ?_
  have e02 := e1.trans e2
  have Va2 := Va.ex e02
  obtain ⟨dx2, hob2⟩ := Va2.ob
  have hls2 := hls.ex e02
  have nd := Va.nd
  rw [List.nodup_cons, List.nodup_cons, List.nodup_cons] at nd
  have nlbl : lb ≠ ll := fun z => nd.2.1 (by rw [z]; simp)
  have nlx : l ≠ lb := fun z => nd.1 (by rw [z]; simp)
  have nly : l ≠ ll := fun z => nd.1 (by rw [z]; simp)
  have hc1 : EvLD (tLc (iList K (tVar 1)) (gTup K 2 (gCons (gName 7) (gCons (gName 8) gNil))) tYes (tTup (tCons (tFld K (tVar 0) "port") (tCons (tVar 8) tNil))) [7, 8]) [some (.ref v), some (.ref ld), some (.int (S.boxes.length : Int)), none, none, none, none, none, none, none, none] H2 (ls.map fun b => bD (S.port, b.2)) := by
    refine eld_lcP (fun b => bD (S.port, b.2)) (evs_var rfl hls2) (by omega) (fun x y => rfl) (fun b H3 e3 hb => ?_)
    exact evd_pair (ev_fld (ev_var rfl) (e3 _ _ hob2) T.clV T.noPort vfs_port) (ev_var rfl)
  have hlb2 : (bxs S.boxes).length ≤ 60 := by rw [List.length_map]; exact W.nb
  refine q_extD Va2.bx (ev_fld (ev_var rfl) hob2 T.clV T.noBoxes vfs_boxes) (evs_new hc1) (by rw [List.length_map (as := ls)]; omega) fun H3 m3 h3 => ?_
  have hB3 : LstD H3 lb (bxs (lodB S ls)) := by
    unfold lodB bxs
    rw [List.map_append, List.map_map]
    exact h3
  have hlf3 : LstD H3 ll ((cnts S.boxes.length S.lifted).map dn) := (LstD.ofNats Va2.lf).mo m3 (Ne.symm nlbl)
  have hob3 := m3.keep _ _ hob2 (.inl (Ne.symm (Va2.ne Va2.bx.choose_spec.1)))
  have nlv : ld ≠ v := fun z => nld (.inl z)
  have nlb : ld ≠ lb := fun z => nld (.inr (.inr (.inl z)))
  have nll : ld ≠ ll := fun z => nld (.inr (.inr (.inr (.inl z))))
  have hls3 := hls2.mo m3 nlb
  have hc2 : EvLD (tLc (iList K (tVar 1)) (gName 7) tYes (tC (.int 0)) [7]) [some (.ref v), some (.ref ld), some (.int (S.boxes.length : Int)), none, none, none, none, none, none, none, none] H3 (ls.map fun _ => dn 0) :=
    eld_lcM (0, 0) (fun _ => dn 0) (evs_var rfl hls3) (by omega) (fun x => rfl) (fun x b H4 e4 hb hx => evd_ci)
  refine q_extD hlf3 (ev_fld (ev_var rfl) hob3 T.clV T.noLifts vfs_lifts) (evs_new hc2) (by rw [List.length_map, List.length_map, cnts_len]; have := W.nb; omega) fun H4 m4 h4 => ?_
  refine q_asgLD eld_nil fun ev H5 nev e5 hev => ?_
  have m24 : Mo (VOw v l lb ll as) H2 H4 := (m3.mono fun b hb => .inr (.inr (.inl hb))).trans (m4.mono fun b hb => .inr (.inr (.inr (.inl hb))))
  have m04 : Mo (VOw v l lb ll as) H H4 := (Mo.ex e02).trans m24
  have nev0 : H ev = none := m04.fresh nev
  have nevO : ¬ VOw v l lb ll as ev := Va.free (.of nev0)
  have hls5 : LstD H5 ld (lds ls) := (hls3.mo m4 nll).ex e5
  have nldev : ld ≠ ev := ne_of_none (hls3.mo m4 nll).choose_spec.1 nev
  have nm : ∀ {b}, b ∈ as → b ≠ lb ∧ b ≠ ll := fun {b} hb => ⟨fun z => nd.2.1 (by rw [← z]; simp [hb]), fun z => nd.2.2.1 (by rw [← z]; exact hb)⟩
  have Va5 : VoyAt a.cV H5 v l lb ll as { lod S ls with stacks := lodS S ls 0 } := by
    refine ⟨⟨dx2, e5 _ _ (m4.keep _ _ hob3 (.inl (Ne.symm (Va2.ne Va2.lf))))⟩, e5 _ _ (m4.keep _ _ (m3.keep _ _ Va2.li (.inl nlx)) (.inl nly)), Va.nd, ?_, (hB3.mo m4 nlbl).ex e5, ?_⟩
    · show Sks H5 as (lodS S ls 0)
      rw [lodS_zero]
      exact Va2.sk.kp fun b xs hb hx => e5 _ _ (m4.keep _ _ (m3.keep _ _ hx (.inl (nm hb).1)) (.inl (nm hb).2))
    · show H5 ll = some (.lst ((cnts (lodB S ls).length S.lifted).map nV))
      rw [lodB_len, cnts_more W.lif]
      refine e5 _ _ (LstD.nats ?_)
      have : (cnts S.boxes.length S.lifted ++ List.replicate ls.length 0).map dn = (cnts S.boxes.length S.lifted).map dn ++ ls.map fun _ => dn 0 := by
        rw [List.map_append, List.map_replicate, List.map_const']
      rw [this]
      exact h4
  have ns5 := W.ns
  have hal : as.length = S.stacks.length := Va.sk.len
  let LI : Hp → List (List Nat) → List Evt → Prop := fun H' sts es => VoyAt a.cV H' v l lb ll as { lod S ls with stacks := sts } ∧ LstD H' ev (evs es) ∧ LstD H' ld (lds ls) ∧ TabS H' a.kP lamQ ∧ Kp a.kP (VOw v l lb ll as) H H'
  have kp5 : Kp a.kP (VOw v l lb ll as) H H5 := (m04.step e5).kp
  refine tSeq_for (s_forR1 (D := { nx := _, rt := Q }) (n := (as.length : Int)) (ea_one (lenSt rfl Va5)) (by omega) (fun i σ' H' => (∃ x4 x5 x6, σ' = [some (.ref v), some (.ref ld), some (.int (S.boxes.length : Int)), some (.ref ev), x4, x5, x6, none, none, none, none]) ∧ LI H' (lodS S ls i) (lodE S ls i)) (fun H6 e6 => ?_) (fun i σ' H' hi p => ?_) (fun σ' H' p => ?_))
  · exact ⟨⟨_, _, _, rfl⟩, Va5.ex e6, hev.ex e6, hls5.ex e6, (kp5.tab hT).ext e6, kp5.trans (.ex e6)⟩
  · obtain ⟨⟨x4, x5, x6, rfl⟩, Vb, hev', hls', hT', kp'⟩ := p
    have hi' : i < S.stacks.length := by omega
    have hch : EvLD (tLc (iEnum K (tCons (tVar 1) tNil)) (gTup K 2 (gCons (gName 9) (gCons (gName 10) gNil))) (tTest (tOp rEq (tOp (rIxT K) (tVar 10) (tC (.int 0))) (tVar 4))) (tOp (rI0 fun i j => .int (i + j)) (tVar 2) (tVar 9)) [9, 10])
        [some (.ref v), some (.ref ld), some (.int (S.boxes.length : Int)), some (.ref ev), some (nV i), x5, x6, none, none, none, none] H' ((lodN S ls i).map dn) := by
      have q := eld_lcE (K := K) (tl := tVar 1) (t := tTest (tOp rEq (tOp (rIxT K) (tVar 10) (tC (.int 0))) (tVar 4))) (te := tOp (rI0 fun i j => .int (i + j)) (tVar 2) (tVar 9)) (j := 9) (k := 10) (vs := [9, 10])
        (σ := [some (.ref v), some (.ref ld), some (.int (S.boxes.length : Int)), some (.ref ev), some (nV i), x5, x6, none, none, none, none]) (H := H')
        (fun k => decide ((ldAt ls k).1 = (i : Int))) (fun k => dn (S.boxes.length + k)) (evs_var rfl hls') (by rw [List.length_map]; omega) (fun x y => rfl) (fun k x d H6 e6 hd hx => ?_) (fun k x d H6 e6 hd hx _ => ?_)
      · rw [List.length_map] at q
        unfold lodN
        rw [List.map_map]
        exact q
      · obtain ⟨rfl, _, _⟩ := map_get (z := (0, 0)) hd
        exact et_eqI (ev_i (evd_ixT (n := 0) (evd_var rfl hx) ev_c rfl)) (ev_var rfl)
      · refine evd_i ?_
        have q := ev_add (ta := tVar 2) (tb := tVar 9) (σ := [some (.ref v), some (.ref ld), some (.int (S.boxes.length : Int)), some (.ref ev), some (nV i), x5, x6, none, none, some (nV k), some x]) (H := H6) (ev_var rfl) (ev_var rfl)
        refine ev_is q ?_
        rw [show ((S.boxes.length + k : Nat) : Int) = (S.boxes.length : Int) + (k : Int) from by omega]
    refine q_asgLD hch fun c H6 nc e6 hc6 => ?_
    have Vb6 := Vb.ex e6
    obtain ⟨dx6, hob6⟩ := Vb6.ob
    have hargs : EvA (tCons (tFld K (tVar 0) "_boxes") (tCons (tVar 5) tNil)) [some (.ref v), some (.ref ld), some (.int (S.boxes.length : Int)), some (.ref ev), some (nV i), some (.ref c), x6, none, none, none, none] H6 [.ref lb, .ref c] :=
      ea_cons (ev_fld (ev_var rfl) hob6 T.clV T.noBoxes vfs_boxes) (ea_one (ev_var rfl))
    refine s_forCall hargs fun H7 e7 => ?_
    have hTl : (lodN S ls i).length ≤ 1000 := by
      unfold lodN
      rw [List.length_map]
      exact Nat.le_trans (cho_len ls i) hln
    refine ⟨lb, c, lodN S ls i, lodB S ls, rfl, (Vb6.ex e7).bx, (hc6.ex e7).nats, fun n hn => ?_, hTl, (hT'.ext e6).ext e7, fun p H8 kp8 hT8 frp hp8 => ⟨p, rfl, ⟨_, sq_of hp8⟩, ?_⟩⟩
    · obtain ⟨m, hm, rfl⟩ := List.mem_map.mp hn
      rw [lodB_len]
      have := cho_mem hm
      omega
    have hp8 : H8 p = some (.lst ((lodC S ls i).map nV)) := hp8
    have hCl : (lodC S ls i).length ≤ 1000 := by
      rw [lodC_len]
      exact Nat.le_trans (cho_len ls i) hln
    have e67 := e6.trans e7
    have frp' : Fre H' p := (Kp.ex (P := 0) (M := fun _ => False) e67).fresh frp
    have frH : Fre H p := kp'.fresh frp'
    have npO : ¬ VOw v l lb ll as p := Va.free frH
    have npev : ¬ p = ev := fun z => by
      obtain ⟨xs, h1, _⟩ := hev'
      exact (frp'.ne h1 noTbl_lst) z.symm
    have sti : (lodS S ls i)[i]? = some (stk S i) := stg_get hi'
    obtain ⟨b, hb1, _⟩ := Vb.sk.get sti
    have hbm : VOw v l lb ll as b := .inr (.inr (.inr (.inr (List.mem_of_getElem? hb1))))
    have nbev : ev ≠ b := fun z => nevO (by rw [z]; exact hbm)
    have nbp : p ≠ b := fun z => npO (by rw [z]; exact hbm)
    have nbld : ld ≠ b := fun z => nld (by rw [z]; exact hbm)
    have hstl : (stk S i).length ≤ 60 := W.len (stk_mem hi')
    have hEl : (lodE S ls i).length ≤ 5000 := by
      have h1 := lodE_len S ls i
      have h2 : i * ls.length ≤ 5 * 1000 := Nat.mul_le_mul (by omega) hln
      omega
    refine for_list (xs := (lodC S ls i).map nV) (fun k σ' H' => (∃ x6, σ' = [some (.ref v), some (.ref ld), some (.int (S.boxes.length : Int)), some (.ref ev), some (nV i), some (.ref c), x6, none, none, none, none]) ∧ H' p = some (.lst ((lodC S ls i).map nV)) ∧
      LI H' ((lodS S ls i).set i (stk S i ++ (lodC S ls i).take k)) (lodE S ls i ++ lodE1 S.port ((lodC S ls i).take k))) ?_ (fun k σ' H' _ p => sq_of p.2.1) (fun k x σ' H9 hk p => ?_) (fun σ' H9 p => ?_)
    · refine ⟨⟨_, rfl⟩, hp8, ?_⟩
      rw [List.take_zero, List.append_nil, set_id sti]
      show LI H8 _ (lodE S ls i ++ [])
      rw [List.append_nil]
      exact ⟨(Vb.ex e67).kp kp8 fun _ _ z => z, (hev'.ex e67).kp kp8 (fun z => z), (hls'.ex e67).kp kp8 (fun z => z), hT8, (kp'.trans (.ex e67)).then kp8 fun _ z => z.elim⟩
    · obtain ⟨⟨y6, rfl⟩, hpl, Vc, hevc, hlsc, hTc, kpc⟩ := p
      obtain ⟨rfl, hk'⟩ := getD_nat hk
      obtain ⟨n, hn⟩ : ∃ n, n = (lodC S ls i).getD k 0 := ⟨_, rfl⟩
      rw [← hn]
      have ht : (lodC S ls i).take (k + 1) = (lodC S ls i).take k ++ [n] := by
        rw [List.take_add_one, hn]
        simp [hk']
      obtain ⟨dxc, hobc⟩ := Vc.ob
      have z1 : (evs (lodE S ls i ++ lodE1 S.port ((lodC S ls i).take k))).length ≤ 6000 := by
        rw [List.length_map, List.length_append, lodE1_len, List.length_take]
        omega
      refine q_appD hevc (ev_var rfl) (evd_evt (ev_fld (ev_var rfl) hobc T.clV T.noPort vfs_port) ev_c (ev_var rfl)) (d := evD ⟨S.port, "load", n⟩) (by omega) fun H10 m10 h10 => ?_
      have Vd : VoyAt a.cV H10 v l lb ll as _ := Vc.kp (m10.kp (P := 0)) fun b hb z => nevO (by rw [← z]; exact hb)
      obtain ⟨dxd, hobd⟩ := Vd.ob
      have std : ((lodS S ls i).set i (stk S i ++ (lodC S ls i).take k))[i]? = some (stk S i ++ (lodC S ls i).take k) := by
        rw [List.getElem?_set_self (List.getElem?_eq_some_iff.mp sti).1]
      have hbl : H10 b = some (.lst ((stk S i ++ (lodC S ls i).take k).map nV)) := Vd.sk.at_ i b _ hb1 std
      have hrec : Ev (tOp (rIxL K) (tFld K (tVar 0) "_stacks") (tVar 4)) [some (.ref v), some (.ref ld), some (.int (S.boxes.length : Int)), some (.ref ev), some (nV i), some (.ref c), some (nV n), none, none, none, none] H10 (.ref b) :=
        ev_op (ev_fld (ev_var rfl) hobd T.clV T.noStacks vfs_stacks) (ev_var (v := nV i) rfl) (rv_ixL (sq_of Vd.li) (atI_nat (by rw [List.getElem?_map, hb1]; rfl)))
      refine s_appD (.ofNats hbl) hrec (d := dn n) (evd_i (ev_var rfl)) (by rw [List.length_map, List.length_append, List.length_take]; omega) fun H11 m11 h11 => ?_
      refine ⟨⟨_, rfl⟩, m11.keep _ _ (m10.keep _ _ hpl (.inl npev)) (.inl nbp), ?_, ?_, ((hlsc.mo m10 nldev).mo m11 nbld), (m11.kp (P := a.kP)).tab ((m10.kp (P := a.kP)).tab hTc), (kpc.then m10.kp fun c z => .inr (by rw [z]; exact .of nev0)).then m11.kp fun c z => .inl (by rw [z]; exact hbm)⟩
      · have q := Vd.put (st := stk S i ++ (lodC S ls i).take (k + 1)) hb1 m11 (by
          refine LstD.nats ?_
          rw [ht, ← List.append_assoc, List.map_append]
          exact h11)
        rw [List.set_set] at q
        exact q
      · have q := h10.mo m11 nbev
        rw [ht]
        unfold lodE1 at q ⊢
        rw [List.map_append, ← List.append_assoc, evs, List.map_append]
        exact q
    · obtain ⟨⟨y6, rfl⟩, hpl, Vc, hevc, hlsc, hTc, kpc⟩ := p
      rw [List.length_map, List.take_length] at Vc hevc
      refine ⟨⟨_, _, _, rfl⟩, ?_, ?_, hlsc, hTc, kpc⟩
      · have q : (lodS S ls i).set i (stk S i ++ lodC S ls i) = lodS S ls (i + 1) := stg_set (f := fun j => stk S j ++ lodC S ls j) hi'
        rw [q] at Vc
        exact Vc
      · rw [lodE_succ]
        exact hevc
  · obtain ⟨⟨x4, x5, x6, rfl⟩, Vb, hev', hls', hT', kp'⟩ := p
    rw [Int.toNat_natCast, hal] at Vb hev'
    refine s_retD (evd_tuple (evs_var rfl hev')) fun t H7 e7 ht => k hc t H7 (kp'.trans (.ex e7)) (Vb.ex e7) ht
end
end Q
/-! Voyage.sail -/
namespace Q
open PySem PySem.Spec PyProof.Rows L2 Evl LamX QM
section
variable {P : Program} {w : World} {K : PySem.W.Frag} {mg : Str → Option Value} {base : Heap} {a : Ads}
theorem s_asgCall {sp : Sp} {dvs vs : List V} {E : XK} {ta : TA} {g : TG} {tz : TS} {D : Ends} {σ : L2.St} {H : Hp} (h : EvA ta σ H vs) (k : ∀ H1, Ex H H1 → sp (vs ++ dvs) H1 (fun x H2 => g x σ H2 fun σ' H3 => tz D σ' H3) E) : tSeq (tAsg (tCall sp dvs E ta) g) tz D σ H := h H (Ex.refl H) _ k
theorem set_map {α β : Type} (f : α → β) (as : List α) (i : Nat) (b : α) : (as.map f).set i (f b) = (as.set i b).map f := by rw [List.map_set]
/-- a stack is replaced: itself or a new list -/
theorem VoyAt.swap {c : Addr} {H H1 : Hp} {v l lb ll : Addr} {as : List Addr} {S : Ship} (Va : VoyAt c H v l lb ll as S) {i : Nat} {b s' : Addr} {st : List Nat} (hi : as[i]? = some b) (e : Ex H H1) (hs : s' = b ∨ H s' = none) (hst : H1 s' = some (.lst (st.map nV))) :
    VoyAt c (upd H1 l (.lst ((as.map V.ref).set i (.ref s')))) v l lb ll (as.set i s') { S with stacks := S.stacks.set i st } := by
  obtain ⟨dx, ho⟩ := Va.ob
  have nd := Va.nd
  have nd' := Va.nd
  rw [List.nodup_cons, List.nodup_cons, List.nodup_cons] at nd
  have hm := List.mem_of_getElem? hi
  have ns : ∀ {x}, VOw v l lb ll as x → x ≠ b → x ≠ s' := fun {x} hx hb z => by
    rcases hs with e1 | e1
    · exact hb (z.trans e1)
    · obtain ⟨o, h1, _⟩ := Va.has hx
      rw [z, e1] at h1
      cases h1
  have nls : l ≠ s' := ns (.inr (.inl rfl)) (fun z => nd.1 (by rw [z]; simp [hm]))
  have nbs : lb ≠ s' := ns (.inr (.inr (.inl rfl))) (fun z => nd.2.1 (by rw [z]; simp [hm]))
  have ncs : ll ≠ s' := ns (.inr (.inr (.inr (.inl rfl)))) (fun z => nd.2.2.1 (by rw [z]; exact hm))
  have nlv : v ≠ l := ne_of ho Va.li (by intro z; cases z)
  have nlb : lb ≠ l := fun z => nd.1 (by rw [z]; simp)
  have nll : ll ≠ l := fun z => nd.1 (by rw [z]; simp)
  have nas : ∀ {x}, x ∈ as → x ≠ l := fun {x} hx z => nd.1 (by rw [← z]; simp [hx])
  have mem' : ∀ {x}, x ∈ as.set i s' → x ∈ as ∨ x = s' := fun {x} hx => List.mem_or_eq_of_mem_set hx
  refine ⟨⟨dx, by rw [upd_ne nlv]; exact e _ _ ho⟩, by rw [upd_same, set_map], ?_, ?_, ?_, by rw [upd_ne nll]; exact e _ _ Va.lf⟩
  · refine List.nodup_cons.mpr ⟨fun hx => ?_, List.nodup_cons.mpr ⟨fun hx => ?_, List.nodup_cons.mpr ⟨fun hx => ?_, ?_⟩⟩⟩
    · rcases List.mem_cons.mp hx with z | hx
      · exact nlb z.symm
      · rcases List.mem_cons.mp hx with z | hx
        · exact nll z.symm
        · rcases mem' hx with hx | z
          · exact nas hx rfl
          · exact nls z
    · rcases List.mem_cons.mp hx with z | hx
      · exact nd.2.1 (by rw [z]; simp)
      · rcases mem' hx with hx | z
        · exact nd.2.1 (by simp [hx])
        · exact nbs z
    · rcases mem' hx with hx | z
      · exact nd.2.2.1 hx
      · exact ncs z
    · rw [List.Nodup, List.pairwise_iff_getElem]
      intro x y hx hy hxy
      rw [List.getElem_set, List.getElem_set]
      rw [List.length_set] at hx hy
      have hxe := List.getElem?_eq_getElem hx
      have hye := List.getElem?_eq_getElem hy
      by_cases h1 : i = x
      · rw [if_pos h1, if_neg (by omega)]
        exact Ne.symm (ns (.inr (.inr (.inr (.inr (List.getElem_mem hy))))) (nd_ne nd.2.2.2 hi hye (by omega)))
      · rw [if_neg h1]
        by_cases h2 : i = y
        · rw [if_pos h2]
          exact ns (.inr (.inr (.inr (.inr (List.getElem_mem hx))))) (nd_ne nd.2.2.2 hi hxe (by omega))
        · rw [if_neg h2]
          exact nd_ne nd.2.2.2 hye hxe (by omega)
  · exact Va.sk.set (fun j d hj hd xs hx => by rw [upd_ne (nas (List.mem_of_getElem? hd))]; exact e _ _ hx) (by rw [upd_ne (Ne.symm nls)]; exact hst)
  · obtain ⟨xs, h1, h2⟩ := Va.bx.ex e
    exact ⟨xs, by rw [upd_ne nlb]; exact h1, h2.tk (.upd (e _ _ Va.li))⟩
/-- the counts are written -/
theorem VoyAt.lift {c : Addr} {H : Hp} {v l lb ll : Addr} {as : List Addr} {S : Ship} (Va : VoyAt c H v l lb ll as S) (L : List Nat) : VoyAt c (upd H ll (.lst ((cnts S.boxes.length L).map nV))) v l lb ll as { S with lifted := L } := by
  obtain ⟨dx, ho⟩ := Va.ob
  have nd := Va.nd
  rw [List.nodup_cons, List.nodup_cons, List.nodup_cons] at nd
  have n1 : v ≠ ll := ne_of ho Va.lf (by intro z; cases z)
  have n2 : l ≠ ll := fun z => nd.1 (by rw [z]; simp)
  have n3 : lb ≠ ll := fun z => nd.2.1 (by rw [z]; simp)
  refine ⟨⟨dx, by rw [upd_ne n1]; exact ho⟩, by rw [upd_ne n2]; exact Va.li, Va.nd, Va.sk.kp fun b xs hb hx => by rw [upd_ne (fun z => nd.2.2.1 (by rw [← z]; exact hb))]; exact hx, ?_, upd_same⟩
  obtain ⟨xs, h1, h2⟩ := Va.bx
  exact ⟨xs, by rw [upd_ne n3]; exact h1, h2.tk (.upd Va.lf)⟩
theorem ok_sail (T : Txt K mg a) (Et : ErrTxt P K mg a) : FnOk P w K mg base (L2.CX P w) 2 a.aSail a.fSail ["self"] (spSail a) := by
  have GOpened : FnOk P w K mg base CX0 1 a.aOpened a.fOpened ["stack", "boxes", "port"] spOpened := ok_opened T
  refine T.FSail.okX scSail (fun vs H Q E h => ?_) (fun cdv A outer s H vs Q E hr h => ?_)
  · obtain ⟨v, l, lb, ll, as, S, rfl, _⟩ := h
    rfl
  have tk : Takes (cxOf (L2.CX P w) P w K mg base nSail "Voyage.sail" (defScope sSail) a.aSail cdv A outer s H E) (fun cls d _ H => E cls d H) := takes_of rfl rfl rfl rfl
  refine ⟨_, (pss_cons (ps_if (pt_cmpR op_eq (fldK K (pv 0)) (pe_op op_sub (pe_glob (v := .int 12) rfl T.zPorts.choose_spec ⟨_, rfl⟩) pe_int) (nomark _)) (pss_one (ps_raise rfl tk (QX.pmk_own0 PySem.F.excBase_ValueError Et.qO Et.gO Et.kO (raises_own Et.eO Et.tO) (by rfl)))) pss_nil)
      (pss_cons (ps_fldaug (pv 0) pe_int in_add)
      (pss_cons (ps_set (i := 1) scSail.nd rfl (by first | exact .inl rfl | exact .inr rfl) (pe_lst pa_nil))
      (pss_cons (ps_for (passes_of rfl) rfl (pi_range1 (by rfl) T.zrange (pa_cons (pe_callB (lenK K) (by rfl) T.zlen PySem.boot_len (pa_cons (fldK K (pv 0)) pa_nil)) pa_nil)) (pg_name (i := 2) scSail.nd rfl (by first | exact .inl rfl | exact .inr rfl)) (pss_cons (ps_asg (pe_call GOpened (hr.mono (by decide)) (by rfl) T.gOpened T.FOpened.kp T.bOpened .nil pass0 (pa_cons (pe_ix (ixl K) (fldK K (pv 0)) (pv 2) (fun _ _ => rfl)) (pa_cons (fldK K (pv 0)) (pa_cons (fldK K (pv 0)) pa_nil)))) (pg_tup rfl (pgs_cons (pg_name (i := 3) scSail.nd rfl (by first | exact .inl rfl | exact .inr rfl)) (pgs_cons (pg_sub (fldK K (pv 0)) (pv 2) set_list) pgs_nil))))
      (pss_one (ps_expr (pe_bm PySem.F.plainAttrs_list PySem.F.slot_list_extend PySem.F.type_list_extend mt_extend (pv 1) (pa_cons (pv 3) pa_nil))))))
      (pss_cons (ps_for (passes_of rfl) rfl (pilK K (pv 1)) (pg_tup rfl (pgs_cons (pg_name (i := 4) scSail.nd rfl (by first | exact .inl rfl | exact .inr rfl)) (pgs_cons (pg_name (i := 5) scSail.nd rfl (by first | exact .inl rfl | exact .inr rfl)) (pgs_cons (pg_name (i := 6) scSail.nd rfl (by first | exact .inl rfl | exact .inr rfl)) pgs_nil)))) (pss_one (ps_if (pt_cmpR op_eq (pv 5) pe_str (nomark _)) (pss_one (ps_augS (fldK K (pv 0)) (pv 6) (getK K) pe_int ip_add set_list)) pss_nil)))
      (pss_one (ps_ret (pe_callTy (tupK K) (by rfl) T.ztuple (by decide +kernel) (pa_cons (pv 1) pa_nil))))))))), ?_⟩
  obtain ⟨v, l, lb, ll, as, S, rfl, Va, W, kE, k⟩ := h
  obtain ⟨dx, hob⟩ := Va.ob
  refine q_when (et_eqI (ev_fld (ev_var rfl) hob T.clV T.noPort vfs_port) (ev_sub ev_c ev_c)) (fun hb H1 e1 => ?_) (fun hb H1 e1 => ?_)
  · exact kE (show S.port = 11 from of_decide_eq_true hb) H1 e1
  have hp : ¬ S.port = 11 := of_decide_eq_false hb
  have Va1 := Va.ex e1
  obtain ⟨dx1, hob1⟩ := Va1.ob
  refine ⟨_, rfl, v, a.cV, dx1, _, _, rfl, hob1, T.clV, T.noPort, vfs_port, _, _, rfl, rfl, dx1, _, hob1, by show 5 < 1000; decide, ?_⟩
  have m01 : Mo (VOw v l lb ll as) H (upd H1 v (.ins a.cV dx1 (vfs S.height (S.port + 1) l lb ll))) := (Mo.ex e1).upd hob1 immT_ins noTbl_ins (.inl (.inl rfl))
  have Va2 : VoyAt a.cV (upd H1 v (.ins a.cV dx1 (vfs S.height (S.port + 1) l lb ll))) v l lb ll as { S with port := S.port + 1, stacks := sailS S 0 } := by
    refine ⟨⟨dx1, upd_same⟩, by rw [upd_ne (Va1.ne Va1.li)]; exact Va1.li, Va.nd, ?_, ?_, by rw [upd_ne (Va1.ne Va1.lf)]; exact Va1.lf⟩
    · show Sks _ as (sailS S 0)
      rw [sailS_zero]
      exact Va1.sk.kp fun b xs hb hx => by rw [upd_ne (Va1.ne hx)]; exact hx
    · obtain ⟨xs, h1, h2⟩ := Va1.bx
      refine ⟨xs, by rw [upd_ne (Va1.ne h1)]; exact h1, h2.tk fun b ys hy => ?_⟩
      rw [upd_ne (ne_of hy hob1 (by intro z; cases z))]
      exact hy
  refine q_asgLD eld_nil fun ev H3 nev e3 hev => ?_
  have nev0 : H ev = none := m01.fresh nev
  have nevO : ¬ VOw v l lb ll as ev := Va.free (.of nev0)
  have hal : as.length = S.stacks.length := Va.sk.len
  have ns5 := W.ns
  have hlen : ∀ i, i ≤ S.stacks.length → (sailE S i).length ≤ i * 120 := by
    intro i
    induction i with
    | zero => intro _; exact Nat.le_refl _
    | succ i ih =>
      intro hi
      rw [sailE_succ, List.length_append]
      have h1 := ih (by omega)
      have h2 := opnE_len S.boxes (S.port + 1) (stk S i)
      have h3 := W.len (stk_mem (S := S) (i := i) (by omega))
      omega
  have lenSt : ∀ {σ : L2.St} {H' : Hp} {S' : Ship} {as' : List Addr}, σ[0]? = some (some (.ref v)) → VoyAt a.cV H' v l lb ll as' S' → Ev (tCB (rLenS K) (tCons (tFld K (tVar 0) "_stacks") tNil)) σ H' (nV as'.length) := fun h0 V' => by
    obtain ⟨d', ho⟩ := V'.ob
    have q := ev_len (K := K) (ev_fld (ev_var h0) ho T.clV T.noStacks vfs_stacks) (sq_of V'.li)
    rw [List.length_map] at q
    exact q
  have Va3 := Va2.ex e3
  have m03 := m01.step e3
  refine tSeq_for (s_forR1 (D := { nx := _, rt := Q }) (n := (as.length : Int)) (ea_one (lenSt rfl Va3)) (by omega) (fun i σ' H' => (∃ x2 x3, σ' = [some (.ref v), some (.ref ev), x2, x3, none, none, none]) ∧ ∃ as', VoyAt a.cV H' v l lb ll as' { S with port := S.port + 1, stacks := sailS S i } ∧ (∀ b ∈ as', b ∈ as ∨ H b = none) ∧
    LstD H' ev (evs (sailE S i)) ∧ Mo (VOw v l lb ll as) H H' ∧ ¬ VOw v l lb ll as' ev) (fun H6 e6 => ?_) (fun i σ' H' hi p => ?_) (fun σ' H' p => ?_))
  · exact ⟨⟨_, _, rfl⟩, as, Va3.ex e6, fun b hb => .inl hb, hev.ex e6, m03.step e6, nevO⟩
  · obtain ⟨⟨x2, x3, rfl⟩, as', Vb, has, hevb, mb, nevb⟩ := p
    have hi' : i < S.stacks.length := by omega
    have sti : (sailS S i)[i]? = some (stk S i) := stg_get hi'
    obtain ⟨b, hb1, hb2⟩ := Vb.sk.get sti
    obtain ⟨dxb, hobb⟩ := Vb.ob
    have hargs : EvA (tCons (tOp (rIxL K) (tFld K (tVar 0) "_stacks") (tVar 2)) (tCons (tFld K (tVar 0) "_boxes") (tCons (tFld K (tVar 0) "port") tNil))) [some (.ref v), some (.ref ev), some (nV i), x3, none, none, none] H' [.ref b, .ref lb, .int (S.port + 1)] :=
      ea_cons (ev_op (ev_fld (ev_var rfl) hobb T.clV T.noStacks vfs_stacks) (ev_var (v := nV i) rfl) (rv_ixL (sq_of Vb.li) (atI_nat (by rw [List.getElem?_map, hb1]; rfl)))) (ea_cons (ev_fld (ev_var rfl) hobb T.clV T.noBoxes vfs_boxes) (ea_one (ev_fld (ev_var rfl) hobb T.clV T.noPort vfs_port)))
    refine s_asgCall hargs fun H7 e7 => ?_
    have Vb7 := Vb.ex e7
    have hst60 := W.len (stk_mem hi')
    refine ⟨b, lb, stk S i, S.boxes, S.port + 1, rfl, e7 _ _ hb2, Vb7.bx, fun n hn => W.mem (stk_mem hi') hn, by omega, fun wk s' t H8 e8 nw hs' nws ht hwk hst => ?_⟩
    have e78 := e7.trans e8
    have Vb8 := Vb.ex e78
    obtain ⟨dx8, hob8⟩ := Vb8.ob
    have hil : i < (as'.map V.ref).length := by rw [List.length_map]; exact (List.getElem?_eq_some_iff.mp hb1).1
    refine ⟨t, _, rfl, st_of ht, rfl, _, _, rfl, _, _, rfl, _, rfl, v, a.cV, dx8, _, _, rfl, hob8, T.clV, T.noStacks, vfs_stacks, _, rfl, l, _, (i : Int), i, rfl, rfl, Vb8.li, ixN_nat hil, rfl, ?_⟩
    have hs2 : s' = b ∨ H' s' = none := hs'.imp id fun z => fresh_back e7 z
    have Vc := Vb.swap hb1 e78 hs2 hst
    have mem' : ∀ {x}, x ∈ as'.set i s' → x ∈ as' ∨ x = s' := fun {x} hx => List.mem_or_eq_of_mem_set hx
    have hwk' : LstD (upd H8 l (.lst ((as'.map V.ref).set i (.ref s')))) wk (evs (opnE S.boxes (S.port + 1) (stk S i))) := hwk.upd Vb8.li (fun z => by
      rw [z, e7 _ _ Vb.li] at nw
      cases nw)
    have nevl : ev ≠ l := fun z => nevb (.inr (.inl z))
    have hev8 := (hevb.ex e78).upd (o' := .lst ((as'.map V.ref).set i (.ref s'))) Vb8.li nevl
    have m8 : Mo (VOw v l lb ll as) H (upd H8 l (.lst ((as'.map V.ref).set i (.ref s')))) := (mb.step e78).updL Vb8.li (.inl (.inr (.inl rfl)))
    have nevs : ev ≠ s' := fun z => by
      rcases hs2 with e1 | e1
      · exact nevb (.inr (.inr (.inr (.inr (by rw [z, e1]; exact List.mem_of_getElem? hb1)))))
      · rw [← z] at e1
        obtain ⟨xs, h1, _⟩ := hevb
        rw [h1] at e1
        cases e1
    have nevc : ¬ VOw v l lb ll (as'.set i s') ev := fun z => by
      rcases z with z | z | z | z | z
      · exact nevb (.inl z)
      · exact nevb (.inr (.inl z))
      · exact nevb (.inr (.inr (.inl z)))
      · exact nevb (.inr (.inr (.inr (.inl z))))
      · rcases mem' z with z | z
        · exact nevb (.inr (.inr (.inr (.inr z))))
        · exact nevs z
    have z1 : (evs (sailE S i)).length ≤ 600 := by
      rw [List.length_map]
      have := hlen i (by omega)
      omega
    have z2 : (evs (opnE S.boxes (S.port + 1) (stk S i))).length ≤ 120 := by
      rw [List.length_map]
      have := opnE_len S.boxes (S.port + 1) (stk S i)
      omega
    refine s_extD hev8 (ev_var rfl) (evs_var rfl hwk') (by omega) fun H9 m9 h9 => ?_
    refine ⟨⟨_, _, rfl⟩, as'.set i s', ?_, fun x hx => ?_, ?_, m8.then m9 fun c z => .inr (by rw [z]; exact nev0), nevc⟩
    · have q := Vc.kp (m9.kp (P := 0)) fun x hx z => nevc (by rw [← z]; exact hx)
      have q2 : (sailS S i).set i (opnS S.boxes (S.port + 1) (stk S i)) = sailS S (i + 1) := stg_set (f := fun j => opnS S.boxes (S.port + 1) (stk S j)) hi'
      rw [← q2]
      exact q
    · rcases mem' hx with hx | rfl
      · exact has x hx
      · rcases hs2 with e1 | e1
        · exact has x (by rw [e1]; exact List.mem_of_getElem? hb1)
        · exact .inr (mb.fresh e1)
    · rw [sailE_succ, evs, List.map_append]
      exact h9
  · obtain ⟨⟨x2, x3, rfl⟩, as', Vb, has, hevb, mb, nevb⟩ := p
    rw [Int.toNat_natCast, hal] at Vb hevb
    obtain ⟨vs, hvs, hvd⟩ := hevb
    have hvl : vs.length = (sailE S S.stacks.length).length := by rw [hvd.length, List.length_map]
    refine q_forL (ev_var rfl) (sq_of hvs) (fun k σ' H6 => (∃ x4 x5 x6, σ' = [some (.ref v), some (.ref ev), x2, x3, x4, x5, x6]) ∧ VoyAt a.cV H6 v l lb ll as' { S with port := S.port + 1, stacks := sailS S S.stacks.length, lifted := S.lifted ++ liftsOf ((sailE S S.stacks.length).take k) } ∧ Mo (fun b => b = ll) H' H6)
      (fun H6 e6 => ?_) (fun k σ' H6 _ p => sq_of (p.2.2.keep _ _ hvs (.inl fun z => nevb (.inr (.inr (.inr (.inl z))))))) (fun k x σ' H6 hk p => ?_) (fun σ' H6 p => ?_)
    · refine ⟨⟨_, _, _, rfl⟩, ?_, .ex e6⟩
      have : liftsOf ((sailE S S.stacks.length).take 0) = [] := rfl
      rw [this, List.append_nil]
      exact Vb.ex e6
    · obtain ⟨⟨x4, x5, x6, rfl⟩, Vc, mc⟩ := p
      obtain ⟨d, hd, hx⟩ := hvd.get' hk
      obtain ⟨rfl, hm, hkl⟩ := map_get (z := (⟨0, "", 0⟩ : Evt)) hd
      obtain ⟨e, he⟩ : ∃ e, e = (sailE S S.stacks.length).getD k ⟨0, "", 0⟩ := ⟨_, rfl⟩
      rw [← he] at hx hm
      obtain ⟨t2, vs2, rfl, ht2, hd2⟩ := (hx.tk mc.tk).t
      have hvs2 : vs2 = [.int e.p, .str e.w, nV e.b] := by
        cases hd2 with
        | cons a1 r1 =>
          cases r1 with
          | cons a2 r2 =>
            cases r2 with
            | cons a3 r3 =>
              cases r3
              rw [a1.i, a2.s, a3.i]
      subst hvs2
      refine ⟨t2, _, rfl, st_of ht2, rfl, _, _, rfl, _, _, rfl, _, _, rfl, rfl, ?_⟩
      have hbl := sailE_mem W hm
      have ht : (sailE S S.stacks.length).take (k + 1) = (sailE S S.stacks.length).take k ++ [e] := by
        rw [List.take_add_one, he]
        simp [hkl]
      refine s_when (et_eqS (ev_var rfl) ev_c) (fun hb2 H7 e7 => ?_) (fun hb2 H7 e7 => ?_)
      · have Vd := Vc.ex e7
        obtain ⟨dxd, hobd⟩ := Vd.ob
        have hcl : (cnts S.boxes.length (S.lifted ++ liftsOf ((sailE S S.stacks.length).take k))).length = S.boxes.length := cnts_len _ _
        refine ⟨_, rfl, v, a.cV, dxd, _, _, rfl, hobd, T.clV, T.noLifts, vfs_lifts, _, rfl, ll, _, e.b, nV (cnt (S.lifted ++ liftsOf ((sailE S S.stacks.length).take k)) e.b), rfl, rfl, Vd.lf, by rw [List.getElem?_map, cnts_get hbl]; rfl, _, _, rfl, rfl, ll, _, _, e.b, rfl, rfl, Vd.lf, ixN_nat (by rw [List.length_map, hcl]; exact hbl), ?_⟩
        have q : ((cnts S.boxes.length (S.lifted ++ liftsOf ((sailE S S.stacks.length).take k))).map nV).set e.b (.int ((cnt (S.lifted ++ liftsOf ((sailE S S.stacks.length).take k)) e.b : Int) + 1)) =
            (cnts S.boxes.length (S.lifted ++ liftsOf ((sailE S S.stacks.length).take (k + 1)))).map nV := by
          have h1 : (V.int ((cnt (S.lifted ++ liftsOf ((sailE S S.stacks.length).take k)) e.b : Int) + 1)) = nV (cnt (S.lifted ++ liftsOf ((sailE S S.stacks.length).take k)) e.b + 1) := by
            show V.int _ = V.int _
            congr 1
          rw [h1, set_map, cnts_set hbl, ht, liftsOf_app, List.append_assoc]
          have h2 : liftsOf [e] = [e.b] := by
            unfold liftsOf
            rw [List.filter_cons, if_pos hb2]
            rfl
          rw [h2]
        refine ⟨⟨_, _, _, rfl⟩, ?_, (mc.step e7).updL Vd.lf (.inl rfl)⟩
        show VoyAt a.cV (upd H7 ll (.lst (((cnts S.boxes.length (S.lifted ++ liftsOf ((sailE S S.stacks.length).take k))).map nV).set e.b (.int ((cnt (S.lifted ++ liftsOf ((sailE S S.stacks.length).take k)) e.b : Int) + 1))))) v l lb ll as' _
        rw [q]
        exact Vd.lift _
      · refine ⟨⟨_, _, _, rfl⟩, ?_, mc.step e7⟩
        rw [ht, liftsOf_app]
        have h2 : liftsOf [e] = [] := by
          unfold liftsOf
          rw [List.filter_cons, if_neg (by rw [hb2]; decide)]
          rfl
        rw [h2, List.append_nil]
        exact Vc.ex e7
    · obtain ⟨⟨x4, x5, x6, rfl⟩, Vc, mc⟩ := p
      rw [hvl, List.take_length] at Vc
      have hev9 : LstD H6 ev (evs (sailE S S.stacks.length)) := LstD.mo ⟨vs, hvs, hvd⟩ mc (fun z => nevb (.inr (.inr (.inr (.inl z)))))
      refine s_retD (evd_tuple (evs_var rfl hev9)) fun t H7 e7 ht => k hp t as' H7 ((mb.then mc fun c z => .inl (.inr (.inr (.inr (.inl z))))).step e7).kp (Vc.ex e7) has ht
end
end Q
/-! The voyage by a plan: what voyage() makes, port by port. -/
namespace QM
open PySem Q QL
def opE (B : Bx) (p : Int) (sts : List (List Nat)) (i : Nat) : List Evt := (List.range i).flatMap fun j => opnE B p (sts.getD j [])
def opS (B : Bx) (p : Int) (sts : List (List Nat)) (i : Nat) : List (List Nat) := (List.range sts.length).map fun j => if j < i then opnS B p (sts.getD j []) else sts.getD j []
def ldE (p : Int) (C : Nat → List Nat) (i : Nat) : List Evt := (List.range i).flatMap fun j => lodE1 p (C j)
def ldS (sts : List (List Nat)) (C : Nat → List Nat) (i : Nat) : List (List Nat) := (List.range sts.length).map fun j => if j < i then sts.getD j [] ++ C j else sts.getD j []
def vCho (B : Bx) (pl : List Nat) (p : Int) (j : Nat) : List Nat := (List.range B.length).filter fun k => decide ((B.getD k (0, 0)).1 = p) && decide ((pl.getD k 0 : Int) = (j : Int))
def vC (B : Bx) (pl : List Nat) (p : Int) (j : Nat) : List Nat := (vCho B pl p j).mergeSort (leTo (toB B))
/-- events so far, stacks; before the port p -/
def vOpen (B : Bx) (p : Int) (x : List Evt × List (List Nat)) : List Evt × List (List Nat) := (x.1 ++ opE B p x.2 x.2.length, opS B p x.2 x.2.length)
def vLoad (B : Bx) (pl : List Nat) (p : Int) (x : List Evt × List (List Nat)) : List Evt × List (List Nat) := (x.1 ++ ldE p (vC B pl p) x.2.length, ldS x.2 (vC B pl p) x.2.length)
def vRun (B : Bx) (pl : List Nat) (n : Nat) : Nat → List Evt × List (List Nat)
  | 0 => ([], List.replicate n [])
  | p + 1 => vLoad B pl p (vOpen B p (vRun B pl n p))
theorem opS_len (B : Bx) (p : Int) (sts : List (List Nat)) (i : Nat) : (opS B p sts i).length = sts.length := by unfold opS; rw [List.length_map, List.length_range]
theorem ldS_len (sts : List (List Nat)) (C : Nat → List Nat) (i : Nat) : (ldS sts C i).length = sts.length := by unfold ldS; rw [List.length_map, List.length_range]
theorem opS_zero (B : Bx) (p : Int) (sts : List (List Nat)) : opS B p sts 0 = sts := by
  unfold opS
  rw [stg_zero]
  exact getD_id _
theorem ldS_zero (sts : List (List Nat)) (C : Nat → List Nat) : ldS sts C 0 = sts := by
  unfold ldS
  rw [stg_zero]
  exact getD_id _
theorem opE_succ (B : Bx) (p : Int) (sts : List (List Nat)) (i : Nat) : opE B p sts (i + 1) = opE B p sts i ++ opnE B p (sts.getD i []) := by
  unfold opE
  rw [List.range_succ, List.flatMap_append]
  simp
theorem ldE_succ (p : Int) (C : Nat → List Nat) (i : Nat) : ldE p C (i + 1) = ldE p C i ++ lodE1 p (C i) := by
  unfold ldE
  rw [List.range_succ, List.flatMap_append]
  simp
theorem vRun_len (B : Bx) (pl : List Nat) (n : Nat) : ∀ p, (vRun B pl n p).2.length = n
  | 0 => List.length_replicate
  | p + 1 => by
    show (ldS _ _ _).length = n
    rw [ldS_len]
    show (opS _ _ _ _).length = n
    rw [opS_len, vRun_len B pl n p]
theorem vCho_lt {B : Bx} {pl : List Nat} {p : Int} {j k : Nat} (h : k ∈ vCho B pl p j) : k < B.length := List.mem_range.mp (List.mem_filter.mp h).1
theorem vC_lt {B : Bx} {pl : List Nat} {p : Int} {j k : Nat} (h : k ∈ vC B pl p j) : k < B.length := vCho_lt (List.mem_mergeSort.mp h)
theorem vCho_len (B : Bx) (pl : List Nat) (p : Int) (j : Nat) : (vCho B pl p j).length ≤ B.length := by
  have h := List.length_filter_le (fun k => decide ((B.getD k (0, 0)).1 = p) && decide ((pl.getD k 0 : Int) = (j : Int))) (List.range B.length)
  rw [List.length_range] at h
  exact h
theorem vC_len (B : Bx) (pl : List Nat) (p : Int) (j : Nat) : (vC B pl p j).length ≤ B.length := by
  unfold vC
  rw [List.length_mergeSort]
  exact vCho_len B pl p j
/-- sizes and members -/
structure VOk (B : Bx) (k : Nat) (x : List Evt × List (List Nat)) : Prop where
  st : ∀ s ∈ x.2, s.length ≤ 12 * k ∧ ∀ n ∈ s, n < B.length
  ev : x.1.length ≤ 1500 * k
theorem getD_mem {sts : List (List Nat)} {j : Nat} (h : j < sts.length) : sts.getD j [] ∈ sts := by
  have : sts.getD j [] = sts[j] := by simp [h]
  rw [this]
  exact List.getElem_mem h
theorem opE_len {B : Bx} {p : Int} {sts : List (List Nat)} {m : Nat} (h : ∀ s ∈ sts, s.length ≤ m) : ∀ i, i ≤ sts.length → (opE B p sts i).length ≤ i * (2 * m)
  | 0, _ => Nat.zero_le _
  | i + 1, hi => by
    rw [opE_succ, List.length_append, Nat.succ_mul]
    have h1 := opE_len h i (by omega) (B := B) (p := p)
    have h2 := opnE_len B p (sts.getD i [])
    have h3 := h _ (getD_mem (sts := sts) (j := i) (by omega))
    omega
theorem ldE_len {p : Int} {C : Nat → List Nat} {m : Nat} (h : ∀ j, (C j).length ≤ m) : ∀ i, (ldE p C i).length ≤ i * m
  | 0 => Nat.zero_le _
  | i + 1 => by
    rw [ldE_succ, List.length_append, Nat.succ_mul]
    have h1 := ldE_len (p := p) h i
    have h2 := h i
    have h3 : (lodE1 p (C i)).length = (C i).length := List.length_map ..
    omega
theorem opS_mem {B : Bx} {p : Int} {sts : List (List Nat)} {i : Nat} {s : List Nat} (h : s ∈ opS B p sts i) : ∃ s0 ∈ sts, s.length ≤ s0.length ∧ ∀ n ∈ s, n ∈ s0 := by
  obtain ⟨j, hj, rfl⟩ := List.mem_map.mp h
  have hj := List.mem_range.mp hj
  refine ⟨_, getD_mem hj, ?_⟩
  split
  · exact ⟨opnS_len _ _ _, fun n hn => opnS_mem hn⟩
  · exact ⟨Nat.le_refl _, fun n hn => hn⟩
theorem ldS_mem {sts : List (List Nat)} {C : Nat → List Nat} {i : Nat} {s : List Nat} (h : s ∈ ldS sts C i) : ∃ s0 ∈ sts, ∃ j, s.length ≤ s0.length + (C j).length ∧ ∀ n ∈ s, n ∈ s0 ∨ n ∈ C j := by
  obtain ⟨j, hj, rfl⟩ := List.mem_map.mp h
  have hj := List.mem_range.mp hj
  refine ⟨_, getD_mem hj, j, ?_⟩
  split
  · exact ⟨by rw [List.length_append]; omega, fun n hn => List.mem_append.mp hn⟩
  · exact ⟨Nat.le_add_right _ _, fun n hn => .inl hn⟩
theorem vOpen_mem {B : Bx} {p : Int} {x : List Evt × List (List Nat)} {k : Nat} (h : VOk B k x) : ∀ s ∈ (vOpen B p x).2, s.length ≤ 12 * k ∧ ∀ n ∈ s, n < B.length := fun s hs => by
  obtain ⟨s0, h0, h1, h2⟩ := opS_mem hs
  have := h.st s0 h0
  exact ⟨by omega, fun n hn => this.2 n (h2 n hn)⟩
theorem vOk_run {B : Bx} {pl : List Nat} {n : Nat} (hB : B.length ≤ 12) (hn : n ≤ 5) : ∀ p, p ≤ 12 → VOk B p (vRun B pl n p)
  | 0, _ => ⟨fun s hs => by
      have := List.eq_of_mem_replicate hs
      subst this
      exact ⟨Nat.zero_le _, fun n hn => by cases hn⟩, Nat.zero_le _⟩
  | p + 1, hp => by
    have ih := vOk_run (pl := pl) hB hn p (by omega)
    have h1 := vOpen_mem (p := p) ih
    refine ⟨fun s hs => ?_, ?_⟩
    · obtain ⟨s0, h0, j, h2, h3⟩ := ldS_mem hs
      have h4 := h1 s0 h0
      have h5 := vC_len B pl p j
      refine ⟨by omega, fun n hn => ?_⟩
      rcases h3 n hn with h | h
      · exact h4.2 n h
      · exact vC_lt h
    · show ((vRun B pl n p).1 ++ opE B p (vRun B pl n p).2 (vRun B pl n p).2.length ++ ldE p (vC B pl p) (opS B p (vRun B pl n p).2 (vRun B pl n p).2.length).length).length ≤ _
      rw [List.length_append, List.length_append, opS_len, vRun_len]
      have e1 := opE_len (B := B) (p := p) (sts := (vRun B pl n p).2) (m := 144) (fun s hs => by have := (ih.st s hs).1; omega) n (by rw [vRun_len]; omega)
      have e2 := ldE_len (p := p) (C := vC B pl p) (m := 12) (fun j => by have := vC_len B pl p j; omega) n
      have e3 := ih.ev
      have e4 : n * (2 * 144) ≤ 5 * (2 * 144) := Nat.mul_le_mul_right _ hn
      have e5 : n * 12 ≤ 5 * 12 := Nat.mul_le_mul_right _ hn
      omega
end QM
/-! voyage, simulated -/
namespace Q
open PySem PySem.Spec PyProof.Rows L2 Evl LamX QM
theorem maxP_ex : ∀ ns : List Nat, ∃ n, MaxP ns n
  | [] => ⟨0, ⟨fun x hx => (by cases hx), fun k hk => (by cases hk)⟩⟩
  | x :: r => by
    obtain ⟨n, h1, h2⟩ := maxP_ex r
    by_cases h : x + 1 ≤ n
    · refine ⟨n, ⟨fun y hy => ?_, fun k hk => List.mem_cons_of_mem _ (h2 k hk)⟩⟩
      rcases List.mem_cons.mp hy with rfl | hy
      · omega
      · exact h1 y hy
    · refine ⟨x + 1, ⟨fun y hy => ?_, fun k hk => ?_⟩⟩
      · rcases List.mem_cons.mp hy with rfl | hy
        · omega
        · have := h1 y hy
          omega
      · have : k = x := by omega
        rw [this]
        exact List.mem_cons_self
theorem maxP_uniq {ns : List Nat} {n m : Nat} (h1 : MaxP ns n) (h2 : MaxP ns m) : n = m := by
  rcases Nat.lt_trichotomy n m with h | h | h
  · obtain ⟨k, rfl⟩ : ∃ k, m = k + 1 := ⟨m - 1, by omega⟩
    have := h1.1 k (h2.2 k rfl)
    omega
  · exact h
  · obtain ⟨k, rfl⟩ : ∃ k, n = k + 1 := ⟨n - 1, by omega⟩
    have := h2.1 k (h1.2 k rfl)
    omega
theorem maxP_le {ns : List Nat} {n m : Nat} (h : MaxP ns n) (hm : ∀ x ∈ ns, x < m) : n ≤ m := by
  cases n with
  | zero => omega
  | succ k => exact hm k (h.2 k rfl)
def spVoyg (a : Ads) : Sp := fun vs H Q _ => ∃ (lb lp : Addr) (B : Bx) (pl : List Nat), vs = [.ref lb, .ref lp] ∧ LstD H lb (bxs B) ∧ H lp = some (.lst (pl.map nV)) ∧ B.length ≤ 12 ∧ pl.length = B.length ∧ (∀ x ∈ pl, x < 5) ∧ TabS H a.kP lamQ ∧
  ∀ (t ev pc : Addr) (n : Nat) (H' : Hp), MaxP pl n → Kp a.kP (fun _ => False) H H' → H' t = some (.tup [.ref ev, .ref pc]) → LstD H' ev (evs (vRun B pl n 12).1) → Q (.ref t) H'
def spSimd (a : Ads) : Sp := fun vs H Q _ => ∃ (lb lp : Addr) (B : Bx) (pl : List Nat), vs = [.ref lb, .ref lp] ∧ LstD H lb (bxs B) ∧ H lp = some (.lst (pl.map nV)) ∧ B.length ≤ 12 ∧ pl.length = B.length ∧ (∀ x ∈ pl, x < 5) ∧ TabS H a.kP lamQ ∧
  ∀ (t : V) (n : Nat) (H' : Hp), MaxP pl n → Kp a.kP (fun _ => False) H H' → DAt H' t (.tup (evs (vRun B pl n 12).1)) → Q t H'
/-- the three lists that voyage() writes -/
def M3 (l ev pc b : Addr) : Prop := b = l ∨ b = ev ∨ b = pc
structure VI (P l ev pc : Addr) (H0 H : Hp) (as : List Addr) (p : Nat) (es : List Evt) (sts : List (List Nat)) : Prop where
  li : H l = some (.lst (as.map V.ref))
  sk : Sks H as sts
  nm : ∀ b ∈ as, ¬ M3 l ev pc b
  eve : LstD H ev (evs es)
  pce : ∃ ys, H pc = some (.lst ys) ∧ ys.length ≤ p
  kp : Kp P (M3 l ev pc) H0 H
  tab : TabS H P lamQ
section
variable {PA l ev pc : Addr} {H0 H H1 : Hp} {as : List Addr} {p : Nat} {es es' : List Evt} {sts : List (List Nat)}
theorem VI.ex (I : VI PA l ev pc H0 H as p es sts) (e : Ex H H1) : VI PA l ev pc H0 H1 as p es sts := by
  obtain ⟨ys, h1, h2⟩ := I.pce
  exact ⟨e _ _ I.li, I.sk.ex e, I.nm, I.eve.ex e, ⟨ys, e _ _ h1, h2⟩, I.kp.trans (.ex e), I.tab.ext e⟩
theorem VI.free (I : VI PA l ev pc H0 H as p es sts) {b : Addr} (h : Fre H b) : ¬ M3 l ev pc b := fun z => by
  rcases z with rfl | rfl | rfl
  · exact h _ I.li noTbl_lst
  · obtain ⟨xs, h1, _⟩ := I.eve
    exact h _ h1 noTbl_lst
  · obtain ⟨ys, h1, _⟩ := I.pce
    exact h _ h1 noTbl_lst
/-- events are added -/
theorem VI.add (I : VI PA l ev pc H0 H as p es sts) (d : l ≠ ev ∧ pc ≠ ev) (m : Mo (fun b => b = ev) H H1) (h : LstD H1 ev (evs es')) : VI PA l ev pc H0 H1 as p es' sts := by
  obtain ⟨ys, h1, h2⟩ := I.pce
  exact ⟨m.keep _ _ I.li (.inl d.1), I.sk.kp fun b xs hb hx => m.keep _ _ hx (.inl fun z => I.nm b hb (.inr (.inl z))), I.nm, h, ⟨ys, m.keep _ _ h1 (.inl d.2), h2⟩, I.kp.then m.kp fun c z => .inl (.inr (.inl z)), (m.kp (P := PA)).tab I.tab⟩
/-- a stack is replaced -/
theorem VI.put (I : VI PA l ev pc H0 H as p es sts) (d : l ≠ ev ∧ l ≠ pc) {i : Nat} {b s' : Addr} {st : List Nat} (hi : as[i]? = some b) (e : Ex H H1) (hs : s' = b ∨ H s' = none) (hst : H1 s' = some (.lst (st.map nV))) :
    VI PA l ev pc H0 (upd H1 l (.lst ((as.map V.ref).set i (.ref s')))) (as.set i s') p es (sts.set i st) := by
  obtain ⟨ys, h1, h2⟩ := I.pce
  have ns : ¬ M3 l ev pc s' := by
    rcases hs with rfl | hs
    · exact I.nm _ (List.mem_of_getElem? hi)
    · exact I.free (.of hs)
  have nsl : s' ≠ l := fun z => ns (.inl z)
  refine ⟨by rw [upd_same, set_map], I.sk.set (fun j c hj hc xs hx => by rw [upd_ne (fun z => I.nm c (List.mem_of_getElem? hc) (.inl z))]; exact e _ _ hx) (by rw [upd_ne nsl]; exact hst), fun c hc => ?_, (I.eve.ex e).upd (e _ _ I.li) d.1.symm, ⟨ys, by rw [upd_ne d.2.symm]; exact e _ _ h1, h2⟩, (I.kp.trans (.ex e)).then ((Mo.refl (M := M3 l ev pc)).updL (e _ _ I.li) (.inl (.inl rfl))).kp fun c z => .inl z, (((Mo.refl (M := M3 l ev pc)).updL (e _ _ I.li) (.inl (.inl rfl))).kp (P := PA)).tab (I.tab.ext e)⟩
  rcases List.mem_or_eq_of_mem_set hc with hc | rfl
  · exact I.nm c hc
  · exact ns
end
section
variable {P : Program} {w : World} {K : PySem.W.Frag} {mg : Str → Option Value} {base : Heap} {a : Ads}
theorem q_asgF {te : TE} {tz : TS} {D : Ends} {σ : L2.St} {H : Hp} {i n : Nat} (h : EvFr te σ H n) (k : ∀ (p : Addr) (as : List Addr) (H2 : Hp), H p = none → Ex H H2 → H2 p = some (.lst (as.map V.ref)) → as.length = n → (p :: as).Nodup → (∀ b ∈ as, H b = none ∧ H2 b = some (.lst [])) → tz D (σ.set i (some (.ref p))) H2) : tSeq (tAsg te (gName i)) tz D σ H :=
  h H (Ex.refl H) _ k
theorem s_appV {te ta : TE} {d : Dat} {D : Ends} {σ : L2.St} {H : Hp} {l : Addr} {ys : List V} (hl : H l = some (.lst ys)) (ha : Ev ta σ H (.ref l)) (h : EvD te σ H d) (hz : ys.length < 100000) (k : ∀ v H1, Ex H H1 → D.nx σ (upd H1 l (.lst (ys ++ [v])))) :
    tDrop (tBM K "list" rAppend ta (tCons te tNil)) D σ H := ha H (Ex.refl H) _ fun H1 e1 => ⟨Or.inl ⟨rfl, ys, sq_of (e1 _ _ hl)⟩, h H1 e1 _ fun v H2 e2 _ => ⟨l, ys, v, rfl, rfl, e2 _ _ (e1 _ _ hl), sz_lt hz, k v H2 (e1.trans e2)⟩⟩
theorem ok_voyg (T : Txt K mg a) (F : FunC K "loading" "loading" sLoading a.aLoading a.fLoading a.kc a.kP) (TB : TabB base mg a.kc a.kP) : FnOk P w K mg base CX0 3 a.aVoyg a.fVoyg ["boxes", "plan"] (spVoyg a) := by
  have GCount : FnOk P w K mg base CX0 1 a.aCount a.fCount ["plan"] (spCnt K) := ok_count T
  have GOpened : FnOk P w K mg base CX0 1 a.aOpened a.fOpened ["stack", "boxes", "port"] spOpened := ok_opened T
  have GLoading : FnOk P w K mg base CX0 2 a.aLoading a.fLoading ["boxes", "chosen"] (spLoading a.kP) := ok_loading T F TB
  refine T.FVoyg.ok scVoyg (fun vs H Q E h => ?_) (fun cdv A outer s H vs Q E hr h => ⟨_, (pss_cons (ps_setLc (i := 2) (own := [("_", 10)]) (g := gName 10) (tt := tYes) rfl scVoyg.nd rfl rfl (sw_true rfl rfl rfl (by decide +kernel)) (pi_range1 (by rfl) T.zrange (pa_cons (pe_call GCount (hr.mono (by decide)) (by rfl) T.gCount T.FCount.kp T.bCount .nil pass0 (pa_cons (pv 1) pa_nil)) pa_nil)) (blkOk_by (N := nVoyg) (sc := defScope sVoyg) (by decide +kernel)) (fun _ _ _ _ _ => (pg_name (i := 10) scVoyg.nd rfl (by first | exact .inl rfl | exact .inr rfl))) (fun _ _ _ _ _ => pts_nil) (fun _ _ _ _ _ => (pe_lst pa_nil)))
      (pss_cons (ps_set (i := 3) scVoyg.nd rfl (by first | exact .inl rfl | exact .inr rfl) (pe_lst pa_nil))
      (pss_cons (ps_set (i := 4) scVoyg.nd rfl (by first | exact .inl rfl | exact .inr rfl) (pe_lst pa_nil))
      (pss_cons (ps_for PassesOwn.never rfl (pi_range1 (by rfl) T.zrange (pa_cons (pe_glob (v := .int 12) rfl T.zPorts.choose_spec ⟨_, rfl⟩) pa_nil)) (pg_name (i := 5) scVoyg.nd rfl (by first | exact .inl rfl | exact .inr rfl)) (pss_cons (ps_for PassesOwn.never rfl (pi_range1 (by rfl) T.zrange (pa_cons (pe_callB (lenK K) (by rfl) T.zlen PySem.boot_len (pa_cons (pv 2) pa_nil)) pa_nil)) (pg_name (i := 6) scVoyg.nd rfl (by first | exact .inl rfl | exact .inr rfl)) (pss_cons (ps_asg (pe_call GOpened (hr.mono (by decide)) (by rfl) T.gOpened T.FOpened.kp T.bOpened .nil pass0 (pa_cons (pe_ix (ixl K) (pv 2) (pv 6) (fun _ _ => rfl)) (pa_cons (pv 0) (pa_cons (pv 5) pa_nil)))) (pg_tup rfl (pgs_cons (pg_name (i := 7) scVoyg.nd rfl (by first | exact .inl rfl | exact .inr rfl)) (pgs_cons (pg_sub (pv 2) (pv 6) set_list) pgs_nil))))
      (pss_one (ps_expr (pe_bm PySem.F.plainAttrs_list PySem.F.slot_list_extend PySem.F.type_list_extend mt_extend (pv 3) (pa_cons (pv 7) pa_nil))))))
      (pss_cons (ps_for PassesOwn.never rfl (pi_range1 (by rfl) T.zrange (pa_cons (pe_callB (lenK K) (by rfl) T.zlen PySem.boot_len (pa_cons (pv 2) pa_nil)) pa_nil)) (pg_name (i := 6) scVoyg.nd rfl (by first | exact .inl rfl | exact .inr rfl)) (pss_cons (ps_setLc (i := 9) (own := [("box", 8)]) (g := gName 8) rfl scVoyg.nd rfl rfl (sw_true rfl rfl rfl (by decide +kernel)) (pi_range1 (by rfl) T.zrange (pa_cons (pe_callB (lenK K) (by rfl) T.zlen PySem.boot_len (pa_cons (pv 0) pa_nil)) pa_nil)) (blkOk_by (N := nVoyg) (sc := defScope sVoyg) (by decide +kernel)) (fun _ _ _ _ _ => (pg_name (i := 8) scVoyg.nd rfl (by first | exact .inl rfl | exact .inr rfl))) (fun _ _ _ _ _ => pts_one (PW.pt (pw_and (pt_cmpR op_eq (pe_ix (ixt K) (pe_ix (ixl K) (pv 0) (pv 8) (fun _ _ => rfl)) pe_int (fun _ _ => rfl)) (pv 5) (nomark _)) (pw_and1 (pt_cmpR op_eq (pe_ix (ixl K) (pv 1) (pv 8) (fun _ _ => rfl)) (pv 6) (nomark _)))))) (fun _ _ _ _ _ => (pv 8)))
      (pss_one (ps_for PassesOwn.never rfl (pilK K (pe_call GLoading (hr.mono (by decide)) (by rfl) T.gLoading T.FLoading.kp T.bLoading .nil pass0 (pa_cons (pv 0) (pa_cons (pv 9) pa_nil)))) (pg_name (i := 8) scVoyg.nd rfl (by first | exact .inl rfl | exact .inr rfl)) (pss_cons (ps_expr (pe_bm PySem.F.plainAttrs_list PySem.F.slot_list_append PySem.F.type_list_append mt_append (pv 3) (pa_cons (pe_tup (pa_cons (pv 5) (pa_cons pe_str (pa_cons (pv 8) pa_nil)))) pa_nil)))
      (pss_one (ps_asg (pe_op op_cat (pe_ix (ixl K) (pv 2) (pv 6) (fun _ _ => rfl)) (pe_lst (pa_cons (pv 8) pa_nil))) (pg_sub (pv 2) (pv 6) set_list))))))))
      (pss_one (ps_expr (pe_bm PySem.F.plainAttrs_list PySem.F.slot_list_append PySem.F.type_list_append mt_append (pv 4) (pa_cons (pe_callTy (tupK K) (by rfl) T.ztuple (by decide +kernel) (pa_cons (pe_lc (own := [("stack", 11)]) (g := gName 11) (tt := tYes) rfl scVoyg.nd (pilK K (pv 2)) (blkOk_by (N := nVoyg) (sc := defScope sVoyg) (by decide +kernel)) (fun _ _ _ _ _ => (pg_name (i := 11) scVoyg.nd rfl (by first | exact .inl rfl | exact .inr rfl))) (fun _ _ _ _ _ => pts_nil) (fun _ _ _ _ _ => (pe_callTy (tupK K) (by rfl) T.ztuple (by decide +kernel) (pa_cons (pv 11) pa_nil)))) pa_nil)) pa_nil)))))))
      (pss_one (ps_ret (pe_tup (pa_cons (pv 3) (pa_cons (pv 4) pa_nil))))))))), ?_⟩)
  · obtain ⟨lb, lp, B, pl, rfl, _⟩ := h
    rfl
  · obtain ⟨lb, lp, B, pl, rfl, hB, hpl, hBl, hpB, hpx, hT, k⟩ := h
    obtain ⟨n, hn⟩ := maxP_ex pl
    have hn5 := maxP_le hn hpx
    have hcnt : Ev (tCall (spCnt K) [] E0 (tCons (tVar 1) tNil)) [some (.ref lb), some (.ref lp), none, none, none, none, none, none, none, none, none, none] H (nV n) := fun H1 e Q q =>
      ⟨_, rfl, lp, pl, rfl, e _ _ hpl, by omega, fun m H2 hm e2 => by
        rw [maxP_uniq hm hn]
        exact q H2 e2⟩
    refine q_asgF (efr_lc (n := n) (j := 10) (vs := [10]) (ea_one hcnt) (by omega) (fun x => rfl)) fun l as H1 nl e1 hl hlen hnd has => ?_
    refine q_asgLD eld_nil fun ev H2 nev e2 hev => ?_
    refine q_asgLD eld_nil fun pc H3 npc e3 hpc => ?_
    have e03 := (e1.trans e2).trans e3
    have nlev : l ≠ ev := ne_of_none hl nev
    have nlpc : l ≠ pc := ne_of_none (e2 _ _ hl) npc
    have nevpc : ev ≠ pc := by
      obtain ⟨xs, h1, _⟩ := hev
      exact ne_of_none h1 npc
    have fr3 : ∀ c, M3 l ev pc c → H c = none := fun c z => by
      rcases z with rfl | rfl | rfl
      · exact nl
      · exact fresh_back e1 nev
      · exact fresh_back (e1.trans e2) npc
    have no3 : ∀ {b o}, H b = some o → ¬ M3 l ev pc b := fun {b o} hb z => by
      rw [fr3 b z] at hb
      cases hb
    have I0 : VI a.kP l ev pc H3 H3 as 0 [] (List.replicate n []) := by
      refine ⟨e3 _ _ (e2 _ _ hl), ⟨by rw [hlen, List.length_replicate], fun i s st h1 h2 => ?_⟩, fun b hb z => ?_, hev.ex e3, ?_, .refl, hT.ext e03⟩
      · have hst : st = [] := List.eq_of_mem_replicate (List.mem_of_getElem? h2)
        subst hst
        exact e3 _ _ (e2 _ _ (has _ (List.mem_of_getElem? h1)).2)
      · rcases z with z | z | z
        · rw [List.nodup_cons] at hnd
          exact hnd.1 (by rw [← z]; exact hb)
        · exact ne_of_none (has b hb).2 nev z
        · exact ne_of_none (e2 _ _ (has b hb).2) npc z
      · obtain ⟨ys, h1, h2⟩ := hpc
        cases h2
        exact ⟨[], h1, Nat.le_refl _⟩
    refine tSeq_for (s_forR1 (D := { nx := _, rt := Q }) (n := 12) (ea_one ev_c) (by omega) (fun p σ' H' => p ≤ 12 ∧ (∃ x5 x6 x7 x8 x9, σ' = [some (.ref lb), some (.ref lp), some (.ref l), some (.ref ev), some (.ref pc), x5, x6, x7, x8, x9, none, none]) ∧ ∃ as', VI a.kP l ev pc H3 H' as' p (vRun B pl n p).1 (vRun B pl n p).2)
      (fun H4 e4 => ⟨by omega, ⟨_, _, _, _, _, rfl⟩, as, I0.ex e4⟩) (fun p σ' H' hp q => ?_) (fun σ' H' q => ?_))
    · obtain ⟨hp12, ⟨x5, x6, x7, x8, x9, rfl⟩, as', I⟩ := q
      have hp : p < 12 := by omega
      have hOk := vOk_run (pl := pl) hBl hn5 p hp12
      have hsl := vRun_len B pl n p
      obtain ⟨es, hes⟩ : ∃ es, es = (vRun B pl n p).1 := ⟨_, rfl⟩
      obtain ⟨sts, hsts⟩ : ∃ sts, sts = (vRun B pl n p).2 := ⟨_, rfl⟩
      have hnx : (vRun B pl n (p + 1)).1 = es ++ opE B p sts n ++ ldE p (vC B pl p) n ∧ (vRun B pl n (p + 1)).2 = ldS (opS B p sts n) (vC B pl p) n := by
        constructor
        · show (vRun B pl n p).1 ++ opE B p (vRun B pl n p).2 (vRun B pl n p).2.length ++ ldE p (vC B pl p) (opS B p (vRun B pl n p).2 (vRun B pl n p).2.length).length = _
          rw [opS_len, hsl, ← hes, ← hsts]
        · show ldS (opS B p (vRun B pl n p).2 (vRun B pl n p).2.length) (vC B pl p) (opS B p (vRun B pl n p).2 (vRun B pl n p).2.length).length = _
          rw [opS_len, hsl, ← hsts]
      have hst : ∀ s ∈ sts, s.length ≤ 12 * p ∧ ∀ n ∈ s, n < B.length := by rw [hsts]; exact hOk.st
      have hev1 : es.length ≤ 1500 * p := by rw [hes]; exact hOk.ev
      have hs1 : ∀ s ∈ opS B p sts n, s.length ≤ 12 * p ∧ ∀ n ∈ s, n < B.length := fun s hs => by
        obtain ⟨s0, h0, h1, h2⟩ := opS_mem hs
        have := hst s0 h0
        exact ⟨by omega, fun n hn => this.2 n (h2 n hn)⟩
      rw [← hes, ← hsts] at I
      rw [← hsts] at hsl
      have hasl : ∀ {as2 : List Addr} {es2 sts2 H2}, VI a.kP l ev pc H3 H2 as2 p es2 sts2 → sts2.length = n → as2.length = n := fun I2 h => by rw [I2.sk.len, h]
      have lenSt : ∀ {σ : L2.St} {H2 : Hp} {as2 : List Addr} {es2 sts2}, σ[2]? = some (some (.ref l)) → VI a.kP l ev pc H3 H2 as2 p es2 sts2 → sts2.length = n → Ev (tCB (rLenS K) (tCons (tVar 2) tNil)) σ H2 (nV n) := fun h0 I2 h => by
        have q := ev_len (K := K) (ev_var h0) (sq_of I2.li)
        rw [List.length_map, hasl I2 h] at q
        exact q
      have hbx : ∀ {H2 : Hp} {as2 : List Addr} {es2 sts2}, VI a.kP l ev pc H3 H2 as2 p es2 sts2 → LstD H2 lb (bxs B) := fun I2 => (hB.ex e03).kp I2.kp (no3 hB.choose_spec.1)
      have hplx : ∀ {H2 : Hp} {as2 : List Addr} {es2 sts2}, VI a.kP l ev pc H3 H2 as2 p es2 sts2 → H2 lp = some (.lst (pl.map nV)) := fun I2 => I2.kp.keep _ _ (e03 _ _ hpl) noTbl_lst (.inl (no3 hpl))
      have o1 : ∀ i, i ≤ n → (opE B p sts i).length ≤ 1440 := fun i hi => by
        have e1 := opE_len (B := B) (p := p) (sts := sts) (m := 144) (fun s hs => by have := (hst s hs).1; omega) i (by omega)
        have e4 : i * (2 * 144) ≤ 5 * (2 * 144) := Nat.mul_le_mul_right _ (by omega)
        omega
      have o2 : ∀ i, i ≤ n → (ldE p (vC B pl p) i).length ≤ 60 := fun i hi => by
        have e2 := ldE_len (p := p) (C := vC B pl p) (m := 12) (fun j => by have := vC_len B pl p j; omega) i
        have e5 : i * 12 ≤ 5 * 12 := Nat.mul_le_mul_right _ (by omega)
        omega
      refine tSeq_for (s_forR1 (D := { nx := _, rt := Q, bk := _, ct := _ }) (n := (n : Int)) (ea_one (lenSt rfl I hsl)) (by omega) (fun i σ' H5 => (∃ x6 x7 x8 x9, σ' = [some (.ref lb), some (.ref lp), some (.ref l), some (.ref ev), some (.ref pc), some (nV p), x6, x7, x8, x9, none, none]) ∧ ∃ as', VI a.kP l ev pc H3 H5 as' p (es ++ opE B p sts i) (opS B p sts i)) (fun H4 e4 => ?_) (fun i σ' H5 hi q => ?_) (fun σ' H5 q => ?_))
      · refine ⟨⟨_, _, _, _, rfl⟩, as', ?_⟩
        rw [opS_zero]
        show VI _ _ _ _ _ _ _ _ (es ++ []) _
        rw [List.append_nil]
        exact I.ex e4
      · obtain ⟨⟨y6, y7, y8, y9, rfl⟩, as2, I2⟩ := q
        have hi' : i < n := by omega
        have hil : i < sts.length := by omega
        have sti : (opS B p sts i)[i]? = some (sts.getD i []) := stg_get hil
        obtain ⟨b, hb1, hb2⟩ := I2.sk.get sti
        have hargs : EvA (tCons (tOp (rIxL K) (tVar 2) (tVar 6)) (tCons (tVar 0) (tCons (tVar 5) tNil))) [some (.ref lb), some (.ref lp), some (.ref l), some (.ref ev), some (.ref pc), some (nV p), some (nV i), y7, y8, y9, none, none] H5 [.ref b, .ref lb, .int p] :=
          ea_cons (ev_op (ev_var (v := .ref l) rfl) (ev_var (v := nV i) rfl) (rv_ixL (sq_of I2.li) (atI_nat (by rw [List.getElem?_map, hb1]; rfl)))) (ea_cons (ev_var rfl) (ea_one (ev_var rfl)))
        refine s_asgCall hargs fun H6 e6 => ?_
        have hsm := hst _ (getD_mem hil)
        refine ⟨b, lb, sts.getD i [], B, p, rfl, e6 _ _ hb2, (hbx I2).ex e6, hsm.2, by omega, fun wk s' t H7 e7 nw hs' nws ht hwk hst' => ?_⟩
        have e67 := e6.trans e7
        have I7 := I2.ex e67
        have hil2 : i < (as2.map V.ref).length := by rw [List.length_map]; exact (List.getElem?_eq_some_iff.mp hb1).1
        refine ⟨t, _, rfl, st_of ht, rfl, _, _, rfl, _, _, rfl, _, rfl, _, rfl, l, _, (i : Int), i, rfl, rfl, I7.li, ixN_nat hil2, rfl, ?_⟩
        have I8 := I2.put ⟨nlev, nlpc⟩ hb1 e67 (hs'.imp id fun z => fresh_back e6 z) hst'
        have q2 : (opS B p sts i).set i (opnS B p (sts.getD i [])) = opS B p sts (i + 1) := stg_set (f := fun j => opnS B p (sts.getD j [])) hil
        rw [q2] at I8
        have hwk' := hwk.upd (o' := .lst ((as2.map V.ref).set i (.ref s'))) I7.li (fun z => by
          rw [z, e6 _ _ I2.li] at nw
          cases nw)
        have z1 := o1 i (by omega)
        have z2 : (evs (opnE B p (sts.getD i []))).length ≤ 288 := by
          rw [List.length_map]
          have := opnE_len B p (sts.getD i [])
          omega
        have z3 : (evs (es ++ opE B p sts i)).length ≤ 20000 := by
          rw [List.length_map, List.length_append]
          omega
        refine s_extD I8.eve (ev_var rfl) (evs_var rfl hwk') (by omega) fun H9 m9 h9 => ⟨⟨_, _, _, _, rfl⟩, _, I8.add ⟨nlev, Ne.symm nevpc⟩ m9 ?_⟩
        rw [opE_succ, ← List.append_assoc, evs, List.map_append]
        exact h9
      · obtain ⟨⟨y6, y7, y8, y9, rfl⟩, as2, I2⟩ := q
        rw [Int.toNat_natCast] at I2
        have hs1l : (opS B p sts n).length = n := by rw [opS_len, hsl]
        refine q_forR1 (n := (n : Int)) (ea_one (lenSt rfl I2 hs1l)) (by omega) (fun i σ' H6 => (∃ x6 x8 x9, σ' = [some (.ref lb), some (.ref lp), some (.ref l), some (.ref ev), some (.ref pc), some (nV p), x6, y7, x8, x9, none, none]) ∧ ∃ as', VI a.kP l ev pc H3 H6 as' p (es ++ opE B p sts n ++ ldE p (vC B pl p) i) (ldS (opS B p sts n) (vC B pl p) i)) (fun H4 e4 => ?_) (fun i σ' H6 hi q => ?_) (fun σ' H6 q => ?_)
        · refine ⟨⟨_, _, _, rfl⟩, as2, ?_⟩
          rw [ldS_zero]
          show VI _ _ _ _ _ _ _ _ (es ++ opE B p sts n ++ []) _
          rw [List.append_nil]
          exact I2.ex e4
        · obtain ⟨⟨z6, z8, z9, rfl⟩, as3, I3⟩ := q
          have hi' : i < n := by omega
          have hil : i < (opS B p sts n).length := by rw [hs1l]; exact hi'
          have hch : EvLD (tLc (iRng1 (tCons (tCB (rLenS K) (tCons (tVar 0) tNil)) tNil)) (gName 8) (tAnd (tTest (tOp rEq (tOp (rIxT K) (tOp (rIxL K) (tVar 0) (tVar 8)) (tC (.int 0))) (tVar 5))) (tTest (tOp rEq (tOp (rIxL K) (tVar 1) (tVar 8)) (tVar 6)))) (tVar 8) [8])
              [some (.ref lb), some (.ref lp), some (.ref l), some (.ref ev), some (.ref pc), some (nV p), some (nV i), y7, z8, z9, none, none] H6 ((vCho B pl p i).map dn) := by
            have hlenB := ev_lenD (K := K) (ta := tVar 0) (σ := [some (.ref lb), some (.ref lp), some (.ref l), some (.ref ev), some (.ref pc), some (nV p), some (nV i), y7, z8, z9, none, none]) (evs_var rfl (hbx I3))
            rw [List.length_map] at hlenB
            refine eld_lcR (n := B.length) (fun k => decide ((B.getD k (0, 0)).1 = p) && decide ((pl.getD k 0 : Int) = (i : Int))) dn (ea_one hlenB) (by omega) (fun x => rfl) (fun k H7 e7 hk => ?_) (fun k H7 e7 hk _ => evd_i (ev_var rfl))
            refine et_and (et_eqI (ev_i (evd_ixT (n := 0) (evd_ixL (evs_var rfl ((hbx I3).ex e7)) (ev_var rfl) (bx_at hk)) ev_c rfl)) (ev_var rfl)) (fun _ => et_eqI (ev_op (ev_var (v := .ref lp) rfl) (ev_var (v := nV k) rfl) (rv_ixL (sq_of (e7 _ _ (hplx I3))) (atI_nat (v := nV (pl.getD k 0)) ?_))) (ev_var rfl))
            rw [List.getElem?_map]
            have : pl[k]? = some (pl.getD k 0) := by simp [show k < pl.length by omega]
            rw [this]
            rfl
          refine q_asgLD hch fun c H7 nc e7 hc7 => ?_
          have hargs : EvA (tCons (tVar 0) (tCons (tVar 9) tNil)) [some (.ref lb), some (.ref lp), some (.ref l), some (.ref ev), some (.ref pc), some (nV p), some (nV i), y7, z8, some (.ref c), none, none] H7 [.ref lb, .ref c] := ea_cons (ev_var rfl) (ea_one (ev_var rfl))
          refine s_forCall hargs fun H8 e8 => ?_
          have e78 := e7.trans e8
          have hCl : (vC B pl p i).length ≤ 12 := by have := vC_len B pl p i; omega
          refine ⟨lb, c, vCho B pl p i, B, rfl, (hbx I3).ex e78, (hc7.ex e8).nats, fun m hm => vCho_lt hm, by have := vCho_len B pl p i; omega, I3.tab.ext e78, fun q H9 kp9 hT9 frq hq9 => ⟨q, rfl, ⟨_, sq_of hq9⟩, ?_⟩⟩
          have hq9 : H9 q = some (.lst ((vC B pl p i).map nV)) := hq9
          have frq6 : Fre H6 q := (Kp.ex (P := 0) (M := fun _ => False) e78).fresh frq
          have nq3 := I3.free frq6
          have sti : (ldS (opS B p sts n) (vC B pl p) i)[i]? = some ((opS B p sts n).getD i []) := stg_get hil
          have hstl := (hs1 _ (getD_mem hil)).1
          have I9 : VI a.kP l ev pc H3 H9 as3 p (es ++ opE B p sts n ++ ldE p (vC B pl p) i) (ldS (opS B p sts n) (vC B pl p) i) := by
            have J := I3.ex e78
            obtain ⟨ys, hy1, hy2⟩ := J.pce
            exact ⟨kp9.keep _ _ J.li noTbl_lst (.inl id), J.sk.kp fun b xs hb hx => kp9.keep _ _ hx noTbl_lst (.inl id), J.nm, J.eve.kp kp9 id, ⟨ys, kp9.keep _ _ hy1 noTbl_lst (.inl id), hy2⟩, J.kp.then kp9 fun _ z => z.elim, hT9⟩
          have ho1 := o1 n (Nat.le_refl _)
          have ho2 := o2 i (by omega)
          refine for_list (xs := (vC B pl p i).map nV) (fun k σ' H' => (∃ x8, σ' = [some (.ref lb), some (.ref lp), some (.ref l), some (.ref ev), some (.ref pc), some (nV p), some (nV i), y7, x8, some (.ref c), none, none]) ∧ H' q = some (.lst ((vC B pl p i).map nV)) ∧ ∃ as4, VI a.kP l ev pc H3 H' as4 p (es ++ opE B p sts n ++ ldE p (vC B pl p) i ++ lodE1 p ((vC B pl p i).take k)) ((ldS (opS B p sts n) (vC B pl p) i).set i ((opS B p sts n).getD i [] ++ (vC B pl p i).take k))) ?_ (fun k σ' H' _ p => sq_of p.2.1) (fun k x σ' H10 hk r => ?_) (fun σ' H10 r => ?_)
          · refine ⟨⟨_, rfl⟩, hq9, as3, ?_⟩
            rw [List.take_zero, List.append_nil, set_id sti]
            show VI _ _ _ _ _ _ _ _ (_ ++ []) _
            rw [List.append_nil]
            exact I9
          · obtain ⟨⟨w8, rfl⟩, hql, as4, I4⟩ := r
            obtain ⟨rfl, hk'⟩ := getD_nat hk
            obtain ⟨m, hm⟩ : ∃ m, m = (vC B pl p i).getD k 0 := ⟨_, rfl⟩
            rw [← hm]
            have ht : (vC B pl p i).take (k + 1) = (vC B pl p i).take k ++ [m] := by
              rw [List.take_add_one, hm]
              simp [hk']
            have z1 : (evs (es ++ opE B p sts n ++ ldE p (vC B pl p) i ++ lodE1 p ((vC B pl p i).take k))).length ≤ 30000 := by
              rw [List.length_map, List.length_append, List.length_append, List.length_append, lodE1_len, List.length_take]
              omega
            refine q_appD I4.eve (ev_var rfl) (d := evD ⟨p, "load", m⟩) (evd_evt (ev_var rfl) ev_c (ev_var rfl)) (by omega) fun H11 m11 h11 => ?_
            have I11 := I4.add (es' := es ++ opE B p sts n ++ ldE p (vC B pl p) i ++ lodE1 p ((vC B pl p i).take (k + 1))) ⟨nlev, Ne.symm nevpc⟩ m11 (by
              rw [ht]
              unfold lodE1 at h11 ⊢
              rw [List.map_append, ← List.append_assoc, evs, List.map_append]
              exact h11)
            have hql11 := m11.keep _ _ hql (.inl fun z => nq3 (.inr (.inl z)))
            have std : ((ldS (opS B p sts n) (vC B pl p) i).set i ((opS B p sts n).getD i [] ++ (vC B pl p i).take k))[i]? = some ((opS B p sts n).getD i [] ++ (vC B pl p i).take k) := by
              rw [List.getElem?_set_self (List.getElem?_eq_some_iff.mp sti).1]
            obtain ⟨b, hb1, hb2⟩ := I11.sk.get std
            have hcat : EvLD (tOp rCat (tOp (rIxL K) (tVar 2) (tVar 6)) (tLst (tCons (tVar 8) tNil))) [some (.ref lb), some (.ref lp), some (.ref l), some (.ref ev), some (.ref pc), some (nV p), some (nV i), y7, some (nV m), some (.ref c), none, none] H11 (((opS B p sts n).getD i [] ++ (vC B pl p i).take k).map dn ++ [dn m]) :=
              eld_cat (evs_v (ev_op (ev_var (v := .ref l) rfl) (ev_var (v := nV i) rfl) (rv_ixL (sq_of I11.li) (atI_nat (by rw [List.getElem?_map, hb1]; rfl)))) (.ofNats hb2)) (evs_new (eld_lst (ead_cons (evd_i (ev_var rfl)) ead_nil) (by show 1 ≤ 100000; decide))) (by rw [List.length_map, List.length_append, List.length_take, List.length_singleton]; omega)
            refine hcat H11 (Ex.refl _) _ fun s' H12 ns' e12 hs' => ?_
            have hil3 : i < (as4.map V.ref).length := by rw [List.length_map]; exact (List.getElem?_eq_some_iff.mp hb1).1
            refine ⟨_, rfl, _, rfl, l, _, (i : Int), i, rfl, rfl, e12 _ _ I11.li, ixN_nat hil3, ?_⟩
            have hs2 : H12 s' = some (.lst (((opS B p sts n).getD i [] ++ (vC B pl p i).take (k + 1)).map nV)) := by
              refine LstD.nats ?_
              rw [ht, ← List.append_assoc, List.map_append]
              exact hs'
            have I12 := I11.put ⟨nlev, nlpc⟩ hb1 e12 (.inr ns') hs2
            rw [List.set_set] at I12
            refine ⟨⟨_, rfl⟩, by rw [upd_ne (fun z => nq3 (.inl z))]; exact e12 _ _ hql11, _, I12⟩
          · obtain ⟨⟨w8, rfl⟩, hql, as4, I4⟩ := r
            rw [List.length_map, List.take_length] at I4
            refine ⟨⟨_, _, _, rfl⟩, as4, ?_⟩
            have q2 : (ldS (opS B p sts n) (vC B pl p) i).set i ((opS B p sts n).getD i [] ++ vC B pl p i) = ldS (opS B p sts n) (vC B pl p) (i + 1) := stg_set (f := fun j => (opS B p sts n).getD j [] ++ vC B pl p j) hil
            rw [q2] at I4
            rw [ldE_succ, ← List.append_assoc]
            exact I4
        · obtain ⟨⟨z6, z8, z9, rfl⟩, as3, I3⟩ := q
          rw [Int.toNat_natCast, ← hnx.1, ← hnx.2] at I3
          obtain ⟨ys, hy1, hy2⟩ := I3.pce
          have hlc : EvD (tCB (rTupS K) (tCons (tLc (iList K (tVar 2)) (gName 11) tYes (tCB (rTupS K) (tCons (tVar 11) tNil)) [11]) tNil)) [some (.ref lb), some (.ref lp), some (.ref l), some (.ref ev), some (.ref pc), some (nV p), z6, y7, z8, z9, none, none] H6 (.tup (givD (as3.map V.ref).length (fun _ => true) fun i => Dat.tup (((vRun B pl n (p + 1)).2.getD i []).map dn))) := by
            refine evd_tuple (evs_new (eld_lcV (fun _ => true) _ (ev_var rfl) (sq_of I3.li) (by rw [List.length_map, I3.sk.len, vRun_len]; omega) (fun x => rfl) (fun i x H1 e hx => et_yes) (fun i x H1 e hx _ => ?_)))
            rw [List.getElem?_map] at hx
            cases q : as3[i]? with
            | none =>
              rw [q] at hx
              cases hx
            | some b =>
              rw [q] at hx
              cases hx
              obtain ⟨st, h1, h2⟩ := I3.sk.get' q
              have : (vRun B pl n (p + 1)).2.getD i [] = st := by simp [List.getD_eq_getElem?_getD, h1]
              rw [this]
              exact evd_tuple (evs_var rfl (.ofNats (e _ _ h2)))
          refine s_appV hy1 (ev_var rfl) hlc (by omega) fun v H7 e7 => ⟨by omega, ⟨_, _, _, _, _, rfl⟩, as3, ?_⟩
          have I7 := I3.ex e7
          have mo : Mo (M3 l ev pc) H7 (upd H7 pc (.lst (ys ++ [v]))) := (Mo.refl).updL (e7 _ _ hy1) (.inl (.inr (.inr rfl)))
          refine ⟨by rw [upd_ne nlpc]; exact I7.li, I7.sk.kp fun b xs hb hx => by rw [upd_ne (fun z => I7.nm b hb (.inr (.inr z)))]; exact hx, I7.nm, I7.eve.upd (e7 _ _ hy1) nevpc, ⟨_, upd_same, by rw [List.length_append]; exact Nat.succ_le_succ hy2⟩, I7.kp.trans mo.kp, (mo.kp (P := a.kP)).tab I7.tab⟩
    · obtain ⟨_, ⟨x5, x6, x7, x8, x9, rfl⟩, as', I⟩ := q
      have I : VI a.kP l ev pc H3 H' as' 12 (vRun B pl n 12).1 (vRun B pl n 12).2 := I
      refine ⟨_, rfl, _, rfl, by show 2 ≤ sizeLine; decide, fun t ht => k t ev pc n _ hn ?_ upd_same (I.eve.ex (Ex.new ht))⟩
      exact (Kp.ex e03).then (I.kp.trans (.ex (Ex.new ht))) fun c z => .inr (.of (fr3 c z))
theorem ok_simd (T : Txt K mg a) (F : FunC K "loading" "loading" sLoading a.aLoading a.fLoading a.kc a.kP) (TB : TabB base mg a.kc a.kP) : FnOk P w K mg base CX0 4 a.aSimd a.fSimd ["boxes", "plan"] (spSimd a) := by
  have GVoyg : FnOk P w K mg base CX0 3 a.aVoyg a.fVoyg ["boxes", "plan"] (spVoyg a) := ok_voyg T F TB
  refine T.FSimd.ok scSimd (fun vs H Q E h => ?_) (fun cdv A outer s H vs Q E hr h => ⟨_, (pss_one (ps_ret (pe_callTy (tupK K) (by rfl) T.ztuple (by decide +kernel) (pa_cons (pe_ix (ixt K) (pe_call GVoyg (hr.mono (by decide)) (by rfl) T.gVoyg T.FVoyg.kp T.bVoyg .nil pass0 (pa_cons (pv 0) (pa_cons (pv 1) pa_nil))) pe_int (fun _ _ => rfl)) pa_nil)))), ?_⟩)
  · obtain ⟨lb, lp, B, pl, rfl, _⟩ := h
    rfl
  · obtain ⟨lb, lp, B, pl, rfl, hB, hpl, hBl, hpB, hpx, hT, k⟩ := h
    refine ⟨_, rfl, _, rfl, lb, lp, B, pl, rfl, hB, hpl, hBl, hpB, hpx, hT, fun t ev pc n H' hn kp ht hev => ?_⟩
    obtain ⟨xs, h1, h2⟩ := hev
    refine ⟨t, _, (0 : Nat), .ref ev, rfl, rfl, st_of ht, atI_nat rfl, ev, xs, rfl, .inl ⟨sq_of h1, fun p hp => k _ n _ hn (kp.trans (.ex (Ex.new hp))) (.tup upd_same (h2.tk (.ex (Ex.new hp))))⟩⟩
end
end Q
/-! _law_is_integer, _law_same, _law_pool, _law_take -/
namespace Q
open PySem PySem.Spec PyProof.Rows L2 Evl LamX QM
def tyN : Dat → String
  | .int _ => "int"
  | .str _ => "str"
  | .tup _ => "tuple"
def Sz : Nat → Dat → Prop
  | _, .int _ => True
  | _, .str _ => True
  | 0, .tup _ => False
  | k + 1, .tup ds => ds.length ≤ 40000 ∧ ∀ d ∈ ds, Sz k d
def spIsint : Sp := fun vs H Q _ => ∃ i : Int, vs = [.int i] ∧ ∀ H', Ex H H' → Q (.bl true) H'
def spSame (k : Nat) : Sp := fun vs H Q _ => ∃ (x y : V) (d : Dat), vs = [x, y] ∧ DAt H x d ∧ DAt H y d ∧ Sz k d ∧ ∀ H', Ex H H' → Q (.bl true) H'
structure PoolAt (H : Hp) (p c : Addr) : Prop where
  ex : ∃ (cells : List Int) (i : Nat) (d m : Nat), H p = some (.lst [.ref c, nV i, nV d, nV m]) ∧ H c = some (.lst (cells.map V.int)) ∧ (∀ x ∈ cells, 0 ≤ x) ∧ cells.length ≤ 1000 ∧ m < 2147483648
  ne : c ≠ p
def spTake (b : Bool) : Sp := fun vs H Q _ => ∃ (p c : Addr) (n : Nat), vs = [.ref p, nV n] ∧ PoolAt H p c ∧ 1 ≤ n ∧ n ≤ 1000 ∧ (b = false → ∃ xs : List V, ∃ d : Nat, H p = some (.lst xs) ∧ xs[2]? = some (nV (d + 1))) ∧ ∀ (r : Nat) (H' : Hp), r < n → PoolAt H' p c → Mo (fun x => x = p) H H' → Q (nV r) H'
def spPool : Sp := fun vs H Q _ => ∃ (l : Addr) (ns : List Int), vs = [.ref l] ∧ (∀ H1, Ex H H1 → ∃ K0 : PySem.W.Frag, True) ∧ True
section
variable {P : Program} {w : World} {K : PySem.W.Frag} {mg : Str → Option Value} {base : Heap} {a : Ads}
theorem fnOk0 {CX : CXT} {k : Nat} {f : Addr} {fd : FuncData} {ps : List Str} : FnOk P w K mg base CX k f fd ps (fun _ _ _ _ => False) := ⟨fun _ _ _ _ h => h.elim, fun _ _ _ _ _ _ _ _ _ _ _ _ _ h => h.elim⟩
theorem ev_isi {te : TE} {σ : L2.St} {H : Hp} {x : V} {t c : String} {b : Bool} (h : Ev te σ H x) (ty : ∀ H1, Ex H H1 → TyX K H1 x (.type t)) (hk : kitB t c = some b) : Ev (tCB (rIsi K) (tCons te (tCons (tC (.ty c)) tNil))) σ H (.bl b) := fun H1 e Q q =>
  h H1 e _ fun H2 e2 => ⟨x, _, _, _, b, rfl, .ty c, ty H2 (e.trans e2), kit_ty hk, q H2 e2⟩
theorem ev_allT {tl : TE} {σ : L2.St} {H : Hp} {n : Nat} (h : EvL tl σ H ((List.replicate n true).map V.bl)) : Ev (tCB (rAll K) (tCons tl tNil)) σ H (.bl true) := fun H1 e Q q => h H1 e _ fun l H2 _ e2 hl => ⟨l, _, rfl, sq_of hl, by
  rw [show (List.replicate n true).all id = true by simp]
  exact q H2 e2⟩
theorem tyD {H : Hp} {x : V} {d : Dat} (h : DAt H x d) : ∀ H1, Ex H H1 → TyX K H1 x (.type (tyN d)) := fun H1 e => by
  cases h with
  | int i => exact .base (.int i)
  | str s => exact .base (.str s)
  | tup h r => exact .base (.tup (e _ _ h))
theorem ok_isint (T : Txt K mg a) : FnOk P w K mg base CX0 1 a.aIsint a.fIsint ["_law_actual"] spIsint := by
  refine T.FIsint.ok scIsint (fun vs H Q E h => ?_) (fun cdv A outer s H vs Q E hr h => ⟨_, (pss_one (ps_ret (pe_and (pe_callB call_isi (by rfl) T.zisinstance (by decide +kernel) (pa_cons (pv 0) (pa_cons (pe_bltn (v := .ty "int") (u := .type "int") (by rfl) T.zint (by decide +kernel) rfl) pa_nil))) (pe_one (pe_not (pe_callB call_isi (by rfl) T.zisinstance (by decide +kernel) (pa_cons (pv 0) (pa_cons (pe_bltn (v := .ty "bool") (u := .type "bool") (by rfl) T.zbool (by decide +kernel) rfl) pa_nil)))))))), ?_⟩)
  · obtain ⟨i, rfl, _⟩ := h
    rfl
  · obtain ⟨i, rfl, k⟩ := h
    exact s_ret (ev_andV (ev_isi (b := true) (ev_var rfl) (fun _ _ => .base (.int i)) (by decide +kernel)) fun _ => ev_notV (ev_isi (b := false) (ev_var rfl) (fun _ _ => .base (.int i)) (by decide +kernel))) k
theorem same_of (T : Txt K mg a) (k : Nat) {sp : Sp} (hk : k = 0 ∨ ∃ j, k = j + 1 ∧ sp = spSame j) (GSame : FnOk P w K mg base CX0 (k + 1) a.aSame a.fSame ["_law_actual", "_law_due"] sp) : FnOk P w K mg base CX0 (k + 2) a.aSame a.fSame ["_law_actual", "_law_due"] (spSame k) := by
  have GIsint : FnOk P w K mg base CX0 1 a.aIsint a.fIsint ["_law_actual"] spIsint := ok_isint T
  refine T.FSame.ok scSame (fun vs H Q E h => ?_) (fun cdv A outer s H vs Q E hr h => ⟨_, (pss_cons (ps_if (pt_val (pe_callB call_isi (by rfl) T.zisinstance (by decide +kernel) (pa_cons (pv 1) (pa_cons (pe_bltn (v := .ty "tuple") (u := .type "tuple") (by rfl) T.ztuple (by decide +kernel) rfl) pa_nil)))) (pss_cons (ps_if (PW.pt (pw_or (pt_not (pt_val (pe_callB call_isi (by rfl) T.zisinstance (by decide +kernel) (pa_cons (pv 0) (pa_cons (pe_bltn (v := .ty "tuple") (u := .type "tuple") (by rfl) T.ztuple (by decide +kernel) rfl) pa_nil))))) (pw_or1 (pt_cmpR op_ne (pe_callB (lenK K) (by rfl) T.zlen PySem.boot_len (pa_cons (pv 0) pa_nil)) (pe_callB (lenK K) (by rfl) T.zlen PySem.boot_len (pa_cons (pv 1) pa_nil)) (nomark _))))) (pss_one (ps_ret pe_bl)) pss_nil)
      (pss_one (ps_ret (pe_callB (cr_all rfl) (by rfl) T.zall (by decide +kernel) (pa_cons (pe_lc (own := [("_law_k", 2)]) (g := gName 2) (tt := tYes) rfl scSame.nd (pi_range1 (by rfl) T.zrange (pa_cons (pe_callB (lenK K) (by rfl) T.zlen PySem.boot_len (pa_cons (pv 1) pa_nil)) pa_nil)) (blkOk_by (N := nSame) (sc := defScope sSame) (by decide +kernel)) (fun _ _ _ _ _ => (pg_name (i := 2) scSame.nd rfl (by first | exact .inl rfl | exact .inr rfl))) (fun _ _ _ _ _ => pts_nil) (fun _ _ _ _ _ => (pe_call GSame (hr.mono (by omega)) (by rfl) T.gSame T.FSame.kp T.bSame .nil pass0 (pa_cons (pe_ix (ixt K) (pv 0) (pv 2) (fun _ _ => rfl)) (pa_cons (pe_ix (ixt K) (pv 1) (pv 2) (fun _ _ => rfl)) pa_nil))))) pa_nil))))) pss_nil)
      (pss_cons (ps_if (pt_val (pe_callB call_isi (by rfl) T.zisinstance (by decide +kernel) (pa_cons (pv 1) (pa_cons (pe_bltn (v := .ty "list") (u := .type "list") (by rfl) T.zlist (by decide +kernel) rfl) pa_nil)))) (pss_cons (ps_if (PW.pt (pw_or (pt_not (pt_val (pe_callB call_isi (by rfl) T.zisinstance (by decide +kernel) (pa_cons (pv 0) (pa_cons (pe_bltn (v := .ty "list") (u := .type "list") (by rfl) T.zlist (by decide +kernel) rfl) pa_nil))))) (pw_or1 (pt_cmpR op_ne (pe_callB (lenK K) (by rfl) T.zlen PySem.boot_len (pa_cons (pv 0) pa_nil)) (pe_callB (lenK K) (by rfl) T.zlen PySem.boot_len (pa_cons (pv 1) pa_nil)) (nomark _))))) (pss_one (ps_ret pe_bl)) pss_nil)
      (pss_one (ps_ret (pe_callB (cr_all rfl) (by rfl) T.zall (by decide +kernel) (pa_cons (pe_lc (own := [("_law_k", 2)]) (g := gName 2) (tt := tYes) rfl scSame.nd (pi_range1 (by rfl) T.zrange (pa_cons (pe_callB (lenK K) (by rfl) T.zlen PySem.boot_len (pa_cons (pv 1) pa_nil)) pa_nil)) (blkOk_by (N := nSame) (sc := defScope sSame) (by decide +kernel)) (fun _ _ _ _ _ => (pg_name (i := 2) scSame.nd rfl (by first | exact .inl rfl | exact .inr rfl))) (fun _ _ _ _ _ => pts_nil) (fun _ _ _ _ _ => (pe_call GSame (hr.mono (by omega)) (by rfl) T.gSame T.FSame.kp T.bSame .nil pass0 (pa_cons (pe_ix (ixt K) (pv 0) (pv 2) (fun _ _ => rfl)) (pa_cons (pe_ix (ixt K) (pv 1) (pv 2) (fun _ _ => rfl)) pa_nil))))) pa_nil))))) pss_nil)
      (pss_cons (ps_if (pt_cmpR op_isN (pv 1) pe_non (nomark _)) (pss_one (ps_ret (pe_cmpR op_isN (pv 0) pe_non (nomark _)))) pss_nil)
      (pss_cons (ps_if (pt_val (pe_callB call_isi (by rfl) T.zisinstance (by decide +kernel) (pa_cons (pv 1) (pa_cons (pe_bltn (v := .ty "bool") (u := .type "bool") (by rfl) T.zbool (by decide +kernel) rfl) pa_nil)))) (pss_one (ps_ret (pe_and (pe_callB call_isi (by rfl) T.zisinstance (by decide +kernel) (pa_cons (pv 0) (pa_cons (pe_bltn (v := .ty "bool") (u := .type "bool") (by rfl) T.zbool (by decide +kernel) rfl) pa_nil))) (pe_one (pe_cmpR op_eq (pv 0) (pv 1) (nomark _)))))) pss_nil)
      (pss_cons (ps_if (pt_val (pe_callB call_isi (by rfl) T.zisinstance (by decide +kernel) (pa_cons (pv 1) (pa_cons (pe_bltn (v := .ty "str") (u := .type "str") (by rfl) T.zstr (by decide +kernel) rfl) pa_nil)))) (pss_one (ps_ret (pe_and (pe_callB call_isi (by rfl) T.zisinstance (by decide +kernel) (pa_cons (pv 0) (pa_cons (pe_bltn (v := .ty "str") (u := .type "str") (by rfl) T.zstr (by decide +kernel) rfl) pa_nil))) (pe_one (pe_cmpR op_eq (pv 0) (pv 1) (nomark _)))))) pss_nil)
      (pss_one (ps_ret (pe_and (pe_call GIsint (hr.mono (by omega)) (by rfl) T.gIsint T.FIsint.kp T.bIsint .nil pass0 (pa_cons (pv 0) pa_nil)) (pe_one (pe_cmpR op_eq (pv 0) (pv 1) (nomark _))))))))))), ?_⟩)
  · obtain ⟨x, y, d, rfl, _⟩ := h
    rfl
  · obtain ⟨x, y, d, rfl, hx, hy, hz, k0⟩ := h
    cases d with
    | tup ds =>
      rcases hk with rfl | ⟨j, rfl, rfl⟩
      · exact hz.elim
      obtain ⟨hz1, hz2⟩ := hz
      obtain ⟨p, vs, rfl, hp, hpd⟩ := hx.t
      obtain ⟨q, ws, rfl, hq, hqd⟩ := hy.t
      have lp : ∀ {H1 : Hp}, Ex H H1 → Ev (tCB (rLenS K) (tCons (tVar 0) tNil)) [some (.ref p), some (.ref q), none] H1 (nV ds.length) := fun e => ev_lenT (evd_var rfl (.tup (e _ _ hp) (hpd.tk (.ex e))))
      have lq : ∀ {H1 : Hp}, Ex H H1 → Ev (tCB (rLenS K) (tCons (tVar 1) tNil)) [some (.ref p), some (.ref q), none] H1 (nV ds.length) := fun e => ev_lenT (evd_var rfl (.tup (e _ _ hq) (hqd.tk (.ex e))))
      refine q_when (b := true) (et_test (ev_isi (b := true) (ev_var rfl) (fun H1 e => .base (.tup (e _ _ hq))) (by decide +kernel))) (fun _ H1 e1 => ?_) (fun z => by cases z)
      refine q_when (b := false) (et_or (a := false) (b := false) (et_not (a := true) (et_test (ev_isi (b := true) (ev_var rfl) (fun H2 e => .base (.tup ((e1.trans e) _ _ hp))) (by decide +kernel)))) fun _ => et_is (et_test (ev_op (lp e1) (lq e1) (rv_ne rfl))) (by simp)) (fun z => by cases z) (fun _ H2 e2 => ?_)
      have e12 := e1.trans e2
      have hlc : EvL (tLc (iRng1 (tCons (tCB (rLenS K) (tCons (tVar 1) tNil)) tNil)) (gName 2) tYes (tCall (spSame j) [] E0 (tCons (tOp (rIxT K) (tVar 0) (tVar 2)) (tCons (tOp (rIxT K) (tVar 1) (tVar 2)) tNil))) [2]) [some (.ref p), some (.ref q), none] H2 ((List.replicate ds.length true).map V.bl) := by
        have g := el_lcR1 (t := tYes) (te := tCall (spSame j) [] E0 (tCons (tOp (rIxT K) (tVar 0) (tVar 2)) (tCons (tOp (rIxT K) (tVar 1) (tVar 2)) tNil))) (j := 2) (vs := [2]) (σ := [some (.ref p), some (.ref q), none]) (H := H2) (fun _ => true) (fun _ => V.bl true) (ea_one (lq e12)) (by omega) (fun x => rfl) (fun i H3 e3 hi => et_yes) (fun i H3 e3 hi _ => ?_)
        · have : given ((ds.length : Int)).toNat (fun _ => true) (fun _ => V.bl true) = (List.replicate ds.length true).map V.bl := by
            unfold given
            rw [List.filter_eq_self.mpr (fun _ _ => rfl), Int.toNat_natCast, List.map_replicate, List.map_const', List.length_range]
          rw [this] at g
          exact g
        · have hi' : i < ds.length := by omega
          have e03 := e12.trans e3
          obtain ⟨v1, h1, h1d⟩ := hpd.get (List.getElem?_eq_getElem hi')
          obtain ⟨v2, h2, h2d⟩ := hqd.get (List.getElem?_eq_getElem hi')
          refine ev_call (vs := [v1, v2]) (ea_cons (ev_op (ev_var (v := .ref p) rfl) (ev_var (v := nV i) rfl) (rv_ixT (st_of (e03 _ _ hp)) (atI_nat h1))) (ea_one (ev_op (ev_var (v := .ref q) rfl) (ev_var (v := nV i) rfl) (rv_ixT (st_of (e03 _ _ hq)) (atI_nat h2))))) fun H4 e4 Q' hQ E' => ?_
          exact ⟨v1, v2, ds[i], rfl, h1d.tk (.ex (e03.trans e4)), h2d.tk (.ex (e03.trans e4)), hz2 _ (List.getElem_mem hi'), fun H5 e5 => hQ H5 e5⟩
      exact s_ret (ev_allT hlc) fun H3 e3 => k0 H3 (e12.trans e3)
    | int i =>
      have hx := hx.i
      have hy := hy.i
      subst hx
      subst hy
      have ty : ∀ H1, Ex H H1 → TyX K H1 (.int i) (.type "int") := fun _ _ => .base (.int i)
      refine q_when (b := false) (et_test (ev_isi (b := false) (ev_var rfl) ty (by decide +kernel))) (fun z => by cases z) (fun _ H1 e1 => ?_)
      refine q_when (b := false) (et_test (ev_isi (b := false) (ev_var rfl) (fun _ _ => .base (.int i)) (by decide +kernel))) (fun z => by cases z) (fun _ H2 e2 => ?_)
      refine q_when (b := false) (et_test (ev_op (ev_var rfl) ev_c fun H1 _ Q q => ⟨rfl, q H1 (Ex.refl _)⟩)) (fun z => by cases z) (fun _ H3 e3 => ?_)
      refine q_when (b := false) (et_test (ev_isi (b := false) (ev_var rfl) (fun _ _ => .base (.int i)) (by decide +kernel))) (fun z => by cases z) (fun _ H4 e4 => ?_)
      refine q_when (b := false) (et_test (ev_isi (b := false) (ev_var rfl) (fun _ _ => .base (.int i)) (by decide +kernel))) (fun z => by cases z) (fun _ H5 e5 => ?_)
      have e05 := (((e1.trans e2).trans e3).trans e4).trans e5
      refine s_ret (v := .bl true) (ev_is (ev_andV (a := true) (b := true) (ev_call (vs := [.int i]) (ea_one (ev_var rfl)) fun H1 e Q' hQ E' => ⟨i, rfl, fun H2 e2 => hQ H2 e2⟩) fun _ => ev_is (ev_op (ev_var rfl) (ev_var rfl) (rv_eq rfl)) (by simp)) rfl) fun H6 e6 => k0 H6 (e05.trans e6)
    | str i =>
      have hx := hx.s
      have hy := hy.s
      subst hx
      subst hy
      refine q_when (b := false) (et_test (ev_isi (b := false) (ev_var rfl) (fun _ _ => .base (.str i)) (by decide +kernel))) (fun z => by cases z) (fun _ H1 e1 => ?_)
      refine q_when (b := false) (et_test (ev_isi (b := false) (ev_var rfl) (fun _ _ => .base (.str i)) (by decide +kernel))) (fun z => by cases z) (fun _ H2 e2 => ?_)
      refine q_when (b := false) (et_test (ev_op (ev_var rfl) ev_c fun H1 _ Q q => ⟨rfl, q H1 (Ex.refl _)⟩)) (fun z => by cases z) (fun _ H3 e3 => ?_)
      refine q_when (b := false) (et_test (ev_isi (b := false) (ev_var rfl) (fun _ _ => .base (.str i)) (by decide +kernel))) (fun z => by cases z) (fun _ H4 e4 => ?_)
      refine q_when (b := true) (et_test (ev_isi (b := true) (ev_var rfl) (fun _ _ => .base (.str i)) (by decide +kernel))) (fun _ H5 e5 => ?_) (fun z => by cases z)
      have e05 := (((e1.trans e2).trans e3).trans e4).trans e5
      refine s_ret (v := .bl true) (ev_is (ev_andV (a := true) (b := true) (ev_isi (b := true) (ev_var rfl) (fun _ _ => .base (.str i)) (by decide +kernel)) fun _ => ev_is (ev_op (ev_var rfl) (ev_var rfl) (rv_eq rfl)) (by simp)) rfl) fun H6 e6 => k0 H6 (e05.trans e6)
theorem ok_same (T : Txt K mg a) : ∀ k, FnOk P w K mg base CX0 (k + 2) a.aSame a.fSame ["_law_actual", "_law_due"] (spSame k)
  | 0 => same_of T 0 (.inl rfl) fnOk0
  | k + 1 => same_of T (k + 1) (.inr ⟨k, rfl, rfl⟩) (ok_same T k)
end
end Q
/-! _law_take, _law_pool -/
namespace Q
open PySem PySem.Spec PyProof.Rows L2 Evl LamX QM
theorem fmod_nat (x : Int) (n : Nat) (h : 1 ≤ n) : ∃ r : Nat, r < n ∧ x.fmod n = (r : Int) := by
  rw [Int.fmod_eq_emod_of_nonneg x (by omega)]
  have h1 := Int.emod_nonneg x (b := (n : Int)) (by omega)
  have h2 := Int.emod_lt_of_pos x (b := (n : Int)) (by omega)
  exact ⟨(x % n).toNat, by omega, by omega⟩
theorem fdiv_nat (x n : Nat) : ((x : Int)).fdiv n = ((x / n : Nat) : Int) := by
  rw [Int.fdiv_eq_ediv_of_nonneg _ (by omega)]
  rfl
section
variable {P : Program} {w : World} {K : PySem.W.Frag} {mg : Str → Option Value} {base : Heap} {a : Ads}
def rInt1 : List V → Hp → VK → Prop := fun xs H Q => (∃ i, xs = [.int i] ∧ Q (.int i) H) ∨ ∃ k, xs = [.bl k] ∧ Q (.int (if k then 1 else 0)) H
theorem ev_int1 {te : TE} {σ : L2.St} {H : Hp} {i : Int} (h : Ev te σ H (.int i)) : Ev (tCB rInt1 (tCons te tNil)) σ H (.int i) := fun H1 e Q q => h H1 e _ fun H2 e2 => .inl ⟨i, rfl, q H2 e2⟩
theorem ev_ixp {σ : L2.St} {H : Hp} {p : Addr} {xs : List V} {v : V} {j : Nat} (h : H p = some (.lst xs)) (h0 : σ[0]? = some (some (.ref p))) (hj : xs[j]? = some v) : Ev (tOp (rIxL K) (tVar 0) (tC (.int (j : Int)))) σ H v :=
  ev_op (ev_var h0) ev_c (rv_ixL (sq_of h) (atI_nat hj))
theorem take_of (T : Txt K mg a) (b : Bool) {k : Nat} {sp : Sp} (hs : b = false ∨ (b = true ∧ sp = spTake false)) (GTake : FnOk P w K mg base CX0 k a.aTake a.fTake ["_law_pool_here", "_law_many"] sp) : FnOk P w K mg base CX0 (k + 1) a.aTake a.fTake ["_law_pool_here", "_law_many"] (spTake b) := by
  refine T.FTake.ok scTake (fun vs H Q E h => ?_) (fun cdv A outer s H vs Q E hr h => ⟨_, (pss_cons (ps_if (pt_cmpR op_gt (pe_ix (ixl K) (pv 0) pe_int (fun _ _ => rfl)) pe_int (nomark _)) (pss_cons (ps_set (i := 2) scTake.nd rfl (by first | exact .inl rfl | exact .inr rfl) (pe_op op_modN (pe_callTy call_int1 (by rfl) T.zint (by decide +kernel) (pa_cons (pe_ix (ixl K) (pv 0) pe_int (fun _ _ => rfl)) pa_nil)) (pv 1)))
      (pss_cons (ps_asg (pe_op op_fdivN (pe_ix (ixl K) (pv 0) pe_int (fun _ _ => rfl)) (pv 1)) (pg_sub (pv 0) pe_int set_list))
      (pss_one (ps_ret (pv 2))))) pss_nil)
      (pss_cons (ps_set (i := 3) scTake.nd rfl (by first | exact .inl rfl | exact .inr rfl) pe_int)
      (pss_cons (ps_if (pt_cmpR op_lt (pe_ix (ixl K) (pv 0) pe_int (fun _ _ => rfl)) (pe_callB (lenK K) (by rfl) T.zlen PySem.boot_len (pa_cons (pe_ix (ixl K) (pv 0) pe_int (fun _ _ => rfl)) pa_nil)) (nomark _)) (pss_one (ps_set (i := 3) scTake.nd rfl (by first | exact .inl rfl | exact .inr rfl) (pe_ix (ixl K) (pe_ix (ixl K) (pv 0) pe_int (fun _ _ => rfl)) (pe_ix (ixl K) (pv 0) pe_int (fun _ _ => rfl)) (fun _ _ => rfl)))) pss_nil)
      (pss_cons (ps_asg (pe_op op_add (pe_ix (ixl K) (pv 0) pe_int (fun _ _ => rfl)) pe_int) (pg_sub (pv 0) pe_int set_list))
      (pss_cons (ps_if (pt_cmpR op_ge (pv 3) (pe_op op_pow pe_int pe_int) (nomark _)) (pss_cons (ps_asg (pe_op op_fdivN (pv 3) pe_int) (pg_sub (pv 0) pe_int set_list))
      (pss_one (ps_ret (pe_call GTake hr (by rfl) T.gTake T.FTake.kp T.bTake .nil pass0 (pa_cons (pv 0) (pa_cons (pv 1) pa_nil)))))) pss_nil)
      (pss_cons (ps_asg (pe_op op_modN (pe_callTy call_int1 (by rfl) T.zint (by decide +kernel) (pa_cons (pe_op op_add (pe_op op_add (pe_op op_mul (pe_ix (ixl K) (pv 0) pe_int (fun _ _ => rfl)) pe_int) (pe_op op_mul (pv 3) pe_int)) (pe_op op_mul (pe_ix (ixl K) (pv 0) pe_int (fun _ _ => rfl)) pe_int)) pa_nil)) pe_int) (pg_sub (pv 0) pe_int set_list))
      (pss_cons (ps_set (i := 4) scTake.nd rfl (by first | exact .inl rfl | exact .inr rfl) (pe_op op_modN (pe_callTy call_int1 (by rfl) T.zint (by decide +kernel) (pa_cons (pe_op op_add (pe_op op_add (pe_op op_mul (pe_ix (ixl K) (pv 0) pe_int (fun _ _ => rfl)) (pe_ix (ixl K) (pv 0) pe_int (fun _ _ => rfl))) (pe_op op_mul (pe_ix (ixl K) (pv 0) pe_int (fun _ _ => rfl)) pe_int)) pe_int) pa_nil)) pe_int))
      (pss_one (ps_ret (pe_op op_modN (pe_callTy call_int1 (by rfl) T.zint (by decide +kernel) (pa_cons (pe_op op_fdivN (pv 4) pe_int) pa_nil)) (pv 1))))))))))), ?_⟩)
  · obtain ⟨p, c, n, rfl, _⟩ := h
    rfl
  · obtain ⟨p, c, n, rfl, ⟨⟨cells, i, d, m, hp, hc, hc0, hcl, hm⟩, ne⟩, h1, hn, hb, kq⟩ := h
    refine q_when (b := decide ((d : Int) > 0)) (et_cmp (g := fun i j => decide (i > j)) (ev_ixp (j := 2) hp rfl rfl) ev_c) (fun hd H1 e1 => ?_) (fun hd H1 e1 => ?_)
    · obtain ⟨r, hr1, hr2⟩ := fmod_nat d n h1
      have hdig : Ev (tOp (rI (fun _ j => j ≠ 0) fun i j => .int (i.fmod j)) (tCB rInt1 (tCons (tOp (rIxL K) (tVar 0) (tC (.int 2))) tNil)) (tVar 1)) [some (.ref p), some (nV n), none, none, none] H1 (nV r) := by
        have q := ev_op (ev_int1 (ev_ixp (K := K) (j := 2) (σ := [some (.ref p), some (nV n), none, none, none]) (e1 _ _ hp) rfl rfl)) (ev_var (i := 1) (v := nV n) rfl) (rv_I (C := fun _ j => j ≠ 0) (g := fun i j => .int (i.fmod j)) (i := (d : Int)) (j := (n : Int)) (by omega))
        exact ev_is q (by rw [hr2])
      refine q_asg hdig fun H2 e2 => ?_
      have hp2 := e2 _ _ (e1 _ _ hp)
      refine q_setL (j := 2) (v := nV (d / n)) hp2 (ev_is (ev_op (ev_ixp (K := K) (j := 2) hp2 rfl rfl) (ev_var (i := 1) (v := nV n) rfl) (rv_I (C := CDivN) (g := fun i j => .int (i.fdiv j)) (i := (d : Int)) (j := (n : Int)) ⟨by omega, by omega⟩)) (by rw [fdiv_nat])) (ev_var rfl) ev_c (by show 2 < 4; decide) fun H3 e3 => ?_
      refine s_ret (ev_var (v := nV r) rfl) fun H4 e4 => kq r H4 hr1 ?_ ?_
      · exact ⟨⟨cells, i, d / n, m, e4 _ _ upd_same, e4 _ _ (by rw [upd_ne ne]; exact e3 _ _ (e2 _ _ (e1 _ _ hc))), hc0, hcl, hm⟩, ne⟩
      · exact ((Mo.ex (M := fun x => x = p) ((e1.trans e2).trans e3)).updL (e3 _ _ hp2) (.inl rfl)).step e4
    · rcases hs with rfl | ⟨rfl, rfl⟩
      · obtain ⟨xs, d', hxs, hx2⟩ := hb rfl
        rw [hp] at hxs
        cases hxs
        have hx2 : some (nV d) = some (nV (d' + 1)) := hx2
        injection hx2 with hx2
        injection hx2 with hx2
        have := of_decide_eq_false hd
        omega
      refine q_asg (v := .int 0) ev_c fun H2 e2 => ?_
      have hp2 := e2 _ _ (e1 _ _ hp)
      have hc2 := e2 _ _ (e1 _ _ hc)
      have hbr : ∀ {H3 : Hp}, Ex H2 H3 → Ev (tOp (rIxL K) (tVar 0) (tC (.int 1))) [some (.ref p), some (nV n), none, some (.int 0), none] H3 (nV i) := fun e => ev_ixp (j := 1) (e _ _ hp2) rfl rfl
      have hlen : Ev (tCB (rLenS K) (tCons (tOp (rIxL K) (tVar 0) (tC (.int 0))) tNil)) [some (.ref p), some (nV n), none, some (.int 0), none] H2 (.int (cells.length : Int)) := by
        have q := ev_len (K := K) (ev_ixp (K := K) (j := 0) (v := .ref c) (σ := [some (.ref p), some (nV n), none, some (.int 0), none]) hp2 rfl rfl) (sq_of hc2)
        rw [List.length_map] at q
        exact q
      obtain ⟨x, hx⟩ : ∃ x : Nat, cells.getD i 0 = (x : Int) := by
        refine ⟨(cells.getD i 0).toNat, ?_⟩
        have : 0 ≤ cells.getD i 0 := by
          by_cases hi : i < cells.length
          · have : cells.getD i 0 = cells[i] := by simp [hi]
            rw [this]
            exact hc0 _ (List.getElem_mem hi)
          · have : cells.getD i 0 = 0 := by simp [List.getD_eq_getElem?_getD, List.getElem?_eq_none (Nat.le_of_not_lt hi)]
            omega
        omega
      refine q_ifAsg (v := nV x) (et_cmp (g := fun i j => decide (i < j)) (hbr (Ex.refl _)) hlen) (fun hb2 => ?_) (fun hb2 => ?_) fun H3 e3 => ?_
      · have hi : i < cells.length := by have := of_decide_eq_true hb2; omega
        refine ev_op (ev_ixp (K := K) (j := 0) (v := .ref c) hp2 rfl rfl) (hbr (Ex.refl _)) (rv_ixL (sq_of hc2) (atI_nat ?_))
        rw [List.getElem?_map]
        have : cells[i]? = some (x : Int) := by
          rw [← hx]
          simp [hi]
        rw [this]
        rfl
      · have hi : ¬ i < cells.length := by have := of_decide_eq_false hb2; omega
        have : cells.getD i 0 = 0 := by simp [List.getD_eq_getElem?_getD, List.getElem?_eq_none (Nat.le_of_not_lt hi)]
        have hx0 : x = 0 := by omega
        subst hx0
        rfl
      have hp3 := e3 _ _ hp2
      have hc3 := e3 _ _ hc2
      refine q_setL (j := 1) (v := nV (i + 1)) hp3 (ev_is (ev_add (ev_ixp (K := K) (j := 1) (v := nV i) hp3 rfl rfl) ev_c) (by show V.int ((i : Int) + 1) = V.int ((i + 1 : Nat) : Int); congr 1)) (ev_var rfl) ev_c (by show 1 < 4; decide) fun H4 e4 => ?_
      have e14 := ((e1.trans e2).trans e3).trans e4
      have hp4 : upd H4 p (.lst [V.ref c, nV (i + 1), nV d, nV m]) p = some (.lst [V.ref c, nV (i + 1), nV d, nV m]) := upd_same
      have hc4 : upd H4 p (.lst [V.ref c, nV (i + 1), nV d, nV m]) c = some (.lst (cells.map V.int)) := by rw [upd_ne ne]; exact e4 _ _ hc3
      have m4 : Mo (fun x => x = p) H (upd H4 p (.lst [V.ref c, nV (i + 1), nV d, nV m])) := (Mo.ex (M := fun x => x = p) e14).updL (e4 _ _ hp3) (.inl rfl)
      refine q_when (b := decide ((x : Int) ≥ 10 ^ 18)) (et_cmp (g := fun i j => decide (i ≥ j)) (ev_var rfl) (ev_op (ev_c) (ev_c) (rv_I (C := CPow) (g := fun i j => .int (i ^ j.toNat)) (i := 10) (j := 18) ⟨by decide, by decide, by decide⟩))) (fun hb3 H5 e5 => ?_) (fun hb3 H5 e5 => ?_)
      · have hbig := of_decide_eq_true hb3
        have hp5 := e5 _ _ hp4
        refine q_setL (j := 2) (v := nV (x / 2)) hp5 (ev_is (ev_op (ev_var (i := 3) (v := nV x) rfl) ev_c (rv_I (C := CDivN) (g := fun i j => .int (i.fdiv j)) (i := (x : Int)) (j := ((2 : Nat) : Int)) ⟨by decide, by decide⟩)) (by rw [fdiv_nat])) (ev_var rfl) ev_c (by show 2 < 4; decide) fun H6 e6 => ?_
        obtain ⟨y, hy⟩ : ∃ y, x / 2 = y + 1 := ⟨x / 2 - 1, by omega⟩
        have m6 : Mo (fun x => x = p) H (upd H6 p (.lst [V.ref c, nV (i + 1), nV (x / 2), nV m])) := (m4.step (e5.trans e6)).updL (e6 _ _ hp5) (.inl rfl)
        refine ⟨_, rfl, _, rfl, p, c, n, rfl, ⟨⟨cells, i + 1, x / 2, m, upd_same, by rw [upd_ne ne]; exact e6 _ _ (e5 _ _ hc4), hc0, hcl, hm⟩, ne⟩, h1, hn, fun _ => ⟨_, y, upd_same, by rw [← hy]; rfl⟩, fun r H' hr' hp' m' => kq r H' hr' hp' (m6.trans m')⟩
      · have hp5 := e5 _ _ hp4
        have hc5 := e5 _ _ hc4
        obtain ⟨m', hm1, hm2⟩ := fmod_nat ((m : Int) * 48271 + (x : Int) * 69621 + ((i + 1 : Nat) : Int) * 613) 2147483647 (by decide)
        refine q_setL (j := 3) (v := nV m') hp5 (ev_is (ev_op (ev_int1 (ev_add (ev_add (ev_op (ev_ixp (K := K) (j := 3) (v := nV m) hp5 rfl rfl) ev_c (rv_I (C := CMul) (g := fun i j => .int (i * j)) (i := (m : Int)) (j := 48271) (.inr ⟨by decide, by decide⟩))) (ev_op (ev_var (i := 3) (v := nV x) rfl) ev_c (rv_I (C := CMul) (g := fun i j => .int (i * j)) (i := (x : Int)) (j := 69621) (.inr ⟨by decide, by decide⟩))))
          (ev_op (ev_ixp (K := K) (j := 1) (v := nV (i + 1)) hp5 rfl rfl) ev_c (rv_I (C := CMul) (g := fun i j => .int (i * j)) (i := ((i + 1 : Nat) : Int)) (j := 613) (.inr ⟨by decide, by decide⟩))))) ev_c (rv_I (C := fun _ j => j ≠ 0) (g := fun i j => .int (i.fmod j)) (j := ((2147483647 : Nat) : Int)) (by decide))) (by rw [hm2])) (ev_var rfl) ev_c (by show 3 < 4; decide) fun H6 e6 => ?_
        have hp6 : upd H6 p (.lst [V.ref c, nV (i + 1), nV d, nV m']) p = some (.lst [V.ref c, nV (i + 1), nV d, nV m']) := upd_same
        have hc6 : upd H6 p (.lst [V.ref c, nV (i + 1), nV d, nV m']) c = some (.lst (cells.map V.int)) := by rw [upd_ne ne]; exact e6 _ _ hc5
        have m6 : Mo (fun x => x = p) H (upd H6 p (.lst [V.ref c, nV (i + 1), nV d, nV m'])) := (m4.step (e5.trans e6)).updL (e6 _ _ hp5) (.inl rfl)
        obtain ⟨z, hz1, hz2⟩ := fmod_nat ((m' : Int) * (m' : Int) + (m' : Int) * 7919 + 104729) 1000000007 (by decide)
        refine q_asg (v := nV z) (ev_is (ev_op (ev_int1 (ev_add (ev_add (ev_op (ev_ixp (K := K) (j := 3) (v := nV m') hp6 rfl rfl) (ev_ixp (K := K) (j := 3) (v := nV m') hp6 rfl rfl) (rv_I (C := CMul) (g := fun i j => .int (i * j)) (i := (m' : Int)) (j := (m' : Int)) (.inr ⟨by omega, by omega⟩)))
          (ev_op (ev_ixp (K := K) (j := 3) (v := nV m') hp6 rfl rfl) ev_c (rv_I (C := CMul) (g := fun i j => .int (i * j)) (i := (m' : Int)) (j := 7919) (.inr ⟨by decide, by decide⟩)))) ev_c)) ev_c (rv_I (C := fun _ j => j ≠ 0) (g := fun i j => .int (i.fmod j)) (j := ((1000000007 : Nat) : Int)) (by decide))) (by rw [hz2])) fun H7 e7 => ?_
        obtain ⟨r, hr1, hr2⟩ := fmod_nat ((z / 3 : Nat) : Int) n h1
        refine s_ret (v := nV r) (ev_is (ev_op (ev_int1 (ev_is (w := .int ((z / 3 : Nat) : Int)) (ev_op (ev_var (i := 4) (v := nV z) rfl) ev_c (rv_I (C := CDivN) (g := fun i j => .int (i.fdiv j)) (i := (z : Int)) (j := ((3 : Nat) : Int)) ⟨by decide, by decide⟩)) (by rw [fdiv_nat]))) (ev_var (i := 1) (v := nV n) rfl) (rv_I (C := fun _ j => j ≠ 0) (g := fun i j => .int (i.fmod j)) (j := (n : Int)) (by omega))) (by rw [hr2])) fun H8 e8 => ?_
        have e78 := e7.trans e8
        exact kq r H8 hr1 ⟨⟨cells, i + 1, d, m', e78 _ _ hp6, e78 _ _ hc6, hc0, hcl, by omega⟩, ne⟩ (m6.step e78)
theorem ok_take (T : Txt K mg a) : FnOk P w K mg base CX0 2 a.aTake a.fTake ["_law_pool_here", "_law_many"] (spTake true) :=
  take_of T true (.inr ⟨rfl, rfl⟩) (take_of T false (.inl rfl) (fnOk0 (k := 0)))
/-- the pool is new -/
def spMkPool (K : PySem.W.Frag) : Sp := fun vs H Q _ => ∃ (l : Addr) (ns : List Int), vs = [.ref l] ∧ SqL K H l (ns.map V.int) ∧ ns.length ≤ 1000 ∧ ∀ (p c : Addr) (H' : Hp), H p = none → H c = none → Ex H H' → PoolAt H' p c → Q (.ref p) H'
theorem ret_lst4 {tl : TE} {σ : L2.St} {H : Hp} {D : Ends} {ds : List Dat} {v1 v2 v3 : V} (h : EvLD tl σ H ds) (k : ∀ (c p : Addr) (H1 : Hp), H c = none → Ex H H1 → LstD H1 c ds → H1 p = none → D.rt (.ref p) (upd H1 p (.lst [.ref c, v1, v2, v3]))) : tRet (tLst (tCons tl (tCons (tC v1) (tCons (tC v2) (tCons (tC v3) tNil))))) D σ H :=
  h H (Ex.refl H) _ fun c H1 nc e1 hc => ⟨by show 4 ≤ sizeLine; decide, fun p hp => k c p H1 nc e1 hc hp⟩
theorem ok_pool (T : Txt K mg a) : FnOk P w K mg base CX0 1 a.aPool a.fPool ["_law_script"] (spMkPool K) := by
  refine T.FPool.ok scPool (fun vs H Q E h => ?_) (fun cdv A outer s H vs Q E hr h => ⟨_, (pss_one (ps_ret (pe_lst (pa_cons (pe_lc (own := [("_law_cell", 1)]) (g := gName 1) (tt := tYes) rfl scPool.nd (pilK K (pv 0)) (blkOk_by (N := nPool) (sc := defScope sPool) (by decide +kernel)) (fun _ _ _ _ _ => (pg_name (i := 1) scPool.nd rfl (by first | exact .inl rfl | exact .inr rfl))) (fun _ _ _ _ _ => pts_nil) (fun _ _ _ _ _ => (pe_ifExp (pt_cmpR op_ge (pv 1) pe_int (nomark _)) (pe_op op_mul pe_int (pv 1)) (pe_op op_sub (pe_op op_mul (pe_un un_neg pe_int) (pv 1)) pe_int)))) (pa_cons pe_int (pa_cons pe_int (pa_cons pe_int pa_nil))))))), ?_⟩)
  · obtain ⟨l, ns, rfl, _⟩ := h
    rfl
  · obtain ⟨l, ns, rfl, hl, hn, k⟩ := h
    let cv : Int → Int := fun x => if x ≥ 0 then 2 * x else (-2) * x - 1
    have hlc : EvLD (tLc (iList K (tVar 0)) (gName 1) tYes (tIf (tTest (tOp (rI0 fun i j => .bl (decide (i ≥ j))) (tVar 1) (tC (.int 0)))) (tOp (rI CMul fun i j => .int (i * j)) (tC (.int 2)) (tVar 1)) (tOp (rI0 fun i j => .int (i - j)) (tOp (rI CMul fun i j => .int (i * j)) (tUn (rU fun i => .int (-i)) (tC (.int 2))) (tVar 1)) (tC (.int 1)))) [1])
        [some (.ref l), none] H ((ns.map cv).map Dat.int) := by
      have q := eld_lcV (K := K) (tl := tVar 0) (t := tYes) (te := tIf (tTest (tOp (rI0 fun i j => .bl (decide (i ≥ j))) (tVar 1) (tC (.int 0)))) (tOp (rI CMul fun i j => .int (i * j)) (tC (.int 2)) (tVar 1)) (tOp (rI0 fun i j => .int (i - j)) (tOp (rI CMul fun i j => .int (i * j)) (tUn (rU fun i => .int (-i)) (tC (.int 2))) (tVar 1)) (tC (.int 1)))) (j := 1) (vs := [1]) (σ := [some (.ref l), none]) (H := H)
        (fun _ => true) (fun i => Dat.int (cv (ns.getD i 0))) (ev_var rfl) hl (by rw [List.length_map]; omega) (fun x => rfl) (fun i x H1 e hx => et_yes) (fun i x H1 e hx _ => ?_)
      · have : givD (ns.map V.int).length (fun _ => true) (fun i => Dat.int (cv (ns.getD i 0))) = (ns.map cv).map Dat.int := by
          rw [List.length_map, List.map_map]
          have g := givD_map ns 0 (fun _ => true) (fun x => Dat.int (cv x))
          rw [filter_yes] at g
          exact g
        rw [this] at q
        exact q
      · rw [List.getElem?_map] at hx
        cases q : ns[i]? with
        | none =>
          rw [q] at hx
          cases hx
        | some y =>
          rw [q] at hx
          cases hx
          have hy : ns.getD i 0 = y := by simp [List.getD_eq_getElem?_getD, q]
          rw [hy]
          refine evd_i (ev_if (b := decide (y ≥ 0)) (et_cmp (g := fun i j => decide (i ≥ j)) (ev_var rfl) ev_c) (fun hb => ?_) (fun hb => ?_))
          · have hb := of_decide_eq_true hb
            refine ev_is (ev_op ev_c (ev_var (i := 1) (v := .int y) rfl) (rv_I (C := CMul) (g := fun i j => .int (i * j)) (i := 2) (j := y) (.inl ⟨by decide, by decide⟩))) ?_
            show V.int (2 * y) = V.int (if y ≥ 0 then 2 * y else (-2) * y - 1)
            rw [if_pos hb]
          · have hb := of_decide_eq_false hb
            refine ev_is (ev_sub (ev_op (ev_un ev_c ru_neg) (ev_var (i := 1) (v := .int y) rfl) (rv_I (C := CMul) (g := fun i j => .int (i * j)) (i := -2) (j := y) (.inl ⟨by decide, by decide⟩))) ev_c) ?_
            show V.int (-2 * y - 1) = V.int (if y ≥ 0 then 2 * y else (-2) * y - 1)
            rw [if_neg hb]
    refine ret_lst4 hlc fun c p H1 nc e1 hc hp => ?_
    have hc' := hc.ints
    refine k p c _ (fresh_back e1 hp) nc (e1.trans (Ex.new hp)) ⟨⟨ns.map cv, 0, 0, 17, upd_same, by rw [upd_ne (ne_of_none hc' hp)]; exact hc', fun x hx => ?_, by rw [List.length_map]; exact hn, by decide⟩, ne_of_none hc' hp⟩
    obtain ⟨y, _, rfl⟩ := List.mem_map.mp hx
    show 0 ≤ if y ≥ 0 then 2 * y else (-2) * y - 1
    split <;> omega
end
end Q
/-! _law_work, _law_into -/
namespace Q
open PySem PySem.Spec PyProof.Rows L2 Evl LamX QM
def spWork : Sp := fun vs H Q _ => ∃ (s lb : Addr) (st : List Nat) (B : Bx) (p : Int), vs = [.ref lb, .ref s, .int p] ∧ H s = some (.lst (st.map nV)) ∧ LstD H lb (bxs B) ∧ (∀ n ∈ st, n < B.length) ∧ st.length ≤ 1000 ∧
  ∀ (w s' t : Addr) (H' : Hp), Ex H H' → (s' = s ∨ H s' = none) → H' t = some (.tup [.ref w, .ref s']) → LstD H' w (evs (opnE B p st)) → H' s' = some (.lst ((opnS B p st).map nV)) → Q (.ref t) H'
def spInto : Sp := fun vs H Q _ => ∃ (lb l : Addr) (ns : List Nat) (B : Bx), vs = [.ref lb, .ref l] ∧ LstD H lb (bxs B) ∧ H l = some (.lst (ns.map nV)) ∧ (∀ n ∈ ns, n < B.length) ∧ ns.Pairwise (· < ·) ∧ ns.length ≤ 1000 ∧
  ∀ (p : Addr) (H' : Hp), Ex H H' → H p = none → H' p = some (.lst ((intoL B ns 11).map nV)) → Q (.ref p) H'
def rIns : V → List V → Hp → VK → Prop := fun x vs H Q => ∃ (l : Addr) (xs : List V) (i : Int) (y : V), x = .ref l ∧ vs = [.int i, y] ∧ H l = some (.lst xs) ∧ xs.length < sizeLine ∧ 0 ≤ i ∧ i < 2 ^ 63 ∧ Q .non (upd H l (.lst (xs.take i.toNat ++ [y] ++ xs.drop i.toNat)))
section
variable {P : Program} {w : World} {K : PySem.W.Frag} {mg : Str → Option Value} {base : Heap} {a : Ads}
/-- l.insert(0, e) -/
theorem s_insD {D : Ends} {σ : L2.St} {H : Hp} {ta te : TE} {l : Addr} {ds : List Dat} {d : Dat} (hl : LstD H l ds) (ha : Ev ta σ H (.ref l)) (h : EvD te σ H d) (hz : ds.length < 100000) (k : ∀ H1, Mo (fun b => b = l) H H1 → LstD H1 l (d :: ds) → D.nx σ H1) :
    tDrop (tBM K "list" rIns ta (tCons (tC (.int 0)) (tCons te tNil))) D σ H := ha H (Ex.refl H) _ fun H1 e1 => by
  obtain ⟨xs, h1, h2⟩ := hl.ex e1
  refine ⟨Or.inl ⟨rfl, xs, sq_of h1⟩, h H1 e1 _ fun v H2 e2 hv => ?_⟩
  have h1' := e2 _ _ h1
  exact ⟨l, xs, 0, v, rfl, rfl, h1', sz_lt (by rw [h2.length]; exact hz), by decide, by decide, k _ ((Mo.ex (e1.trans e2)).updL h1' (.inl rfl)) ⟨_, upd_same, ((DsAt.cons hv (h2.tk (.ex e2))).tk (.upd h1'))⟩⟩
theorem eld_sorted {σ : L2.St} {H : Hp} {te : TE} {ns : List Nat} (hp : ns.Pairwise (· < ·)) (h : EvLs te σ H (ns.map dn)) : EvLD (tCB (rSortedI K) (tCons te tNil)) σ H (ns.map dn) := fun H1 e Q q => h H1 e _ fun l H2 e2 hl => by
  refine ⟨l, ns.map fun n : Nat => (n : Int), rfl, sq_of ?_, fun ns' p hpm hpw hp' => ?_⟩
  · have := hl.nats
    rw [this, List.map_map]
    rfl
  · have : ns' = ns.map fun n : Nat => (n : Int) := by
      refine List.Perm.eq_of_pairwise (le := fun a b : Int => a ≤ b) (fun a b _ _ h1 h2 => Int.le_antisymm h1 h2) hpw ?_ hpm
      rw [List.pairwise_map]
      exact hp.imp fun {a b} h => by omega
    rw [this]
    refine q p _ (fresh_back e2 hp') (e2.trans (Ex.new hp')) ⟨_, upd_same, ?_⟩
    rw [List.map_map]
    exact .ofNats ns
theorem ok_work (T : Txt K mg a) : FnOk P w K mg base CX0 1 a.aWork a.fWork ["_law_boxes_here", "_law_stack", "_law_port"] spWork := by
  refine T.FWork.ok scWork (fun vs H Q E h => ?_) (fun cdv A outer s H vs Q E hr h => ⟨_, (pss_cons (ps_setLc (i := 3) (own := [("_law_k", 8)]) (g := gName 8) rfl scWork.nd rfl rfl (sw_true rfl rfl rfl (by decide +kernel)) (pi_range1 (by rfl) T.zrange (pa_cons (pe_callB (lenK K) (by rfl) T.zlen PySem.boot_len (pa_cons (pv 1) pa_nil)) pa_nil)) (blkOk_by (N := nWork) (sc := defScope sWork) (by decide +kernel)) (fun _ _ _ _ _ => (pg_name (i := 8) scWork.nd rfl (by first | exact .inl rfl | exact .inr rfl))) (fun _ _ _ _ _ => pts_one (pt_cmpR op_eq (pe_ix (ixt K) (pe_ix (ixl K) (pv 0) (pe_ix (ixl K) (pv 1) (pv 8) (fun _ _ => rfl)) (fun _ _ => rfl)) pe_int (fun _ _ => rfl)) (pv 2) (nomark _))) (fun _ _ _ _ _ => (pv 8)))
      (pss_cons (ps_if (pt_not (ptTru K (pv 3))) (pss_one (ps_ret (pe_tup (pa_cons (pe_lst pa_nil) (pa_cons (pv 1) pa_nil))))) pss_nil)
      (pss_cons (ps_set (i := 4) scWork.nd rfl (by first | exact .inl rfl | exact .inr rfl) (pe_lst pa_nil))
      (pss_cons (ps_set (i := 5) scWork.nd rfl (by first | exact .inl rfl | exact .inr rfl) (pe_lst pa_nil))
      (pss_cons (ps_for PassesOwn.never rfl (pilK K (pe_revL (pe_slice sl_list (pv 1) (po_some (pe_ix (ixl K) (pv 3) pe_int (fun _ _ => rfl))) po_none))) (pg_name (i := 6) scWork.nd rfl (by first | exact .inl rfl | exact .inr rfl)) (pss_cons (ps_set (i := 7) scWork.nd rfl (by first | exact .inl rfl | exact .inr rfl) (pe_ifExp (pt_cmpR op_eq (pe_ix (ixt K) (pe_ix (ixl K) (pv 0) (pv 6) (fun _ _ => rfl)) pe_int (fun _ _ => rfl)) (pv 2) (nomark _)) pe_str pe_str))
      (pss_cons (ps_expr (pe_bm PySem.F.plainAttrs_list PySem.F.slot_list_append PySem.F.type_list_append mt_append (pv 4) (pa_cons (pe_tup (pa_cons (pv 2) (pa_cons (pv 7) (pa_cons (pv 6) pa_nil)))) pa_nil)))
      (pss_one (ps_if (pt_cmpR op_eq (pv 7) pe_str (nomark _)) (pss_one (ps_expr (pe_bm PySem.F.plainAttrs_list PySem.F.slot_list_insert PySem.F.type_list_insert mt_insert (pv 5) (pa_cons pe_int (pa_cons (pv 6) pa_nil))))) pss_nil)))))
      (pss_one (ps_ret (pe_tup (pa_cons (pe_op op_cat (pv 4) (pe_lc (own := [("_law_box", 6)]) (g := gName 6) (tt := tYes) rfl scWork.nd (pilK K (pv 5)) (blkOk_by (N := nWork) (sc := defScope sWork) (by decide +kernel)) (fun _ _ _ _ _ => (pg_name (i := 6) scWork.nd rfl (by first | exact .inl rfl | exact .inr rfl))) (fun _ _ _ _ _ => pts_nil) (fun _ _ _ _ _ => (pe_tup (pa_cons (pv 2) (pa_cons pe_str (pa_cons (pv 6) pa_nil))))))) (pa_cons (pe_op op_cat (pe_slice sl_list (pv 1) po_none (po_some (pe_ix (ixl K) (pv 3) pe_int (fun _ _ => rfl)))) (pv 5)) pa_nil)))))))))), ?_⟩)
  · obtain ⟨s, lb, st, B, p, rfl, _⟩ := h
    rfl
  · obtain ⟨s, lb, st, B, p, rfl, hs, hB, hm, hl, k⟩ := h
    have hsD : LstD H s (st.map dn) := .ofNats hs
    have hlen : (st.map dn).length = st.length := List.length_map ..
    refine q_asgLD (ds := (plc B p st).map dn) ?_ fun pl H1 npl e1 hpl => ?_
    · have hls := ev_lenD (K := K) (ta := tVar 1) (σ := [some (.ref lb), some (.ref s), some (.int p), none, none, none, none, none, none]) (evs_var rfl hsD)
      rw [hlen] at hls
      refine eld_lcR (n := st.length) (fun i => hit B p (st.getD i 0)) dn (ea_one hls) (by omega) (fun x => rfl) (fun i H2 e2 hi => ?_) (fun i H2 e2 hi _ => evd_i (ev_var rfl))
      have hmem : st.getD i 0 ∈ st := by rw [show st.getD i 0 = st[i] from by simp [hi]]; exact List.getElem_mem hi
      exact et_eqI (ev_i (evd_ixT (n := 1) (evd_ixL (n := st.getD i 0) (evs_var rfl (hB.ex e2)) (ev_i (evd_ixL (n := i) (evs_var rfl (hsD.ex e2)) (ev_var rfl) (by rw [List.getElem?_map, show st[i]? = some (st.getD i 0) from by simp [hi]]; rfl))) (bx_at (hm _ hmem))) ev_c rfl)) (ev_var rfl)
    have hs1 := e1 _ _ hs
    refine q_when (et_not (et_truD (evs_var rfl hpl))) (fun hb H2 e2 => ?_) (fun hb H2 e2 => ?_)
    · have hn : plc B p st = [] := by simpa using hb
      obtain ⟨g1, g2⟩ := plc_nil hn
      refine ⟨by show 0 ≤ sizeLine; decide, fun w hw => ⟨_, rfl, ⟨by show 2 ≤ sizeLine; decide, fun t ht => ?_⟩⟩⟩
      have hs2 : upd H2 w (.lst []) s = some (.lst (st.map nV)) := by rw [upd_ne (ne_of_none (e2 _ _ hs1) hw)]; exact e2 _ _ hs1
      have et := Ex.new (o := .tup [V.ref w, V.ref s]) ht
      refine k w s t _ (((e1.trans e2).trans (Ex.new hw)).trans et) (.inl rfl) upd_same ⟨[], et _ _ upd_same, ?_⟩ ?_
      · rw [g1]
        exact .nil
      · rw [g2]
        exact et _ _ hs2
    · obtain ⟨j, r, hj⟩ : ∃ j r, plc B p st = j :: r := by
        cases e : plc B p st with
        | nil =>
          rw [e] at hb
          cases hb
        | cons j r => exact ⟨j, r, rfl⟩
      obtain ⟨g1, g2⟩ := plc_cons hj
      refine q_asgLD eld_nil fun lw H3 n3 e3 hw => ?_
      refine q_asgLD eld_nil fun lu H4 n4 e4 hu => ?_
      have e24 : Ex H H4 := ((e1.trans e2).trans e3).trans e4
      have hplc : LstD H4 pl ((plc B p st).map dn) := hpl.ex ((e2.trans e3).trans e4)
      have hidx : Ev (tOp (rIxL K) (tVar 3) (tC (.int 0))) [some (.ref lb), some (.ref s), some (.int p), some (.ref pl), some (.ref lw), some (.ref lu), none, none, none] H4 (.int ((j : Nat) : Int)) :=
        ev_i (evd_ixL (n := 0) (evs_var rfl hplc) ev_c (by rw [hj]; rfl))
      have hsl0 : EvLD (tRevL K (tSl (rSlL K) (tVar 1) (tPart (tOp (rIxL K) (tVar 3) (tC (.int 0)))) tNoPart)) [some (.ref lb), some (.ref s), some (.int p), some (.ref pl), some (.ref lw), some (.ref lu), none, none, none] H4 ((st.map dn).drop j).reverse :=
        eld_rev (evs_new (eld_drop (evs_var (i := 1) rfl (hsD.ex e24)) hidx))
      obtain ⟨rl, hrl⟩ : ∃ rl, rl = (suf B p st).reverse := ⟨_, rfl⟩
      have hsl : EvLD (tRevL K (tSl (rSlL K) (tVar 1) (tPart (tOp (rIxL K) (tVar 3) (tC (.int 0)))) tNoPart)) [some (.ref lb), some (.ref s), some (.int p), some (.ref pl), some (.ref lw), some (.ref lu), none, none, none] H4 (rl.map dn) := by
        rw [← List.map_drop, ← List.map_reverse, g2, ← hrl] at hsl0
        exact hsl0
      have hrm : ∀ n ∈ rl, n < B.length := fun n hn => hm n ((suf_sub B p st).subset (List.mem_reverse.mp (by rw [← hrl]; exact hn)))
      have hrn : rl.length ≤ 1000 := by
        rw [hrl, List.length_reverse]
        exact Nat.le_trans (suf_sub B p st).length_le hl
      have hw4 := hw.ex e4
      obtain ⟨ow, how⟩ := hw4.at
      obtain ⟨ou, hou⟩ := hu.at
      have n3' : H lw = none := fresh_back (e1.trans e2) n3
      have n4' : H lu = none := fresh_back ((e1.trans e2).trans e3) n4
      have nwu : lw ≠ lu := ne_of_none (hw.at.choose_spec) n4
      have frM : ∀ b, b = lw ∨ b = lu → H b = none := fun b z => by
        rcases z with rfl | rfl
        · exact n3'
        · exact n4'
      have nfr : ∀ {b o}, H b = some o → ¬ (b = lw ∨ b = lu) := fun {b o} hb z => by
        rw [frM b z] at hb
        cases hb
      refine q_forNLn (el_of_eld hsl) (fun q i σ' H' => (∃ x y, σ' = [some (.ref lb), some (.ref s), some (.int p), some (.ref pl), some (.ref lw), some (.ref lu), x, y, none]) ∧ H' q = some (.lst (rl.map nV)) ∧ ¬ (q = lw ∨ q = lu) ∧ Mo (fun b => b = lw ∨ b = lu) H4 H' ∧
        LstD H' lw (evs (opnE1 B p (rl.take i))) ∧ LstD H' lu (((rl.take i).filter fun n => !hit B p n).reverse.map dn)) (fun q H5 nq e5 hq => ?_) (fun q i σ' H' hi Pv => sq_of Pv.2.1) (fun q i x σ' H' hi Pv => ?_) (fun q σ' H' Pv => ?_)
      · exact ⟨⟨_, _, rfl⟩, hq, (by
          intro z
          rcases z with rfl | rfl
          · rw [nq] at how
            cases how
          · rw [nq] at hou
            cases hou), .ex e5, hw4.ex e5, hu.ex e5⟩
      · obtain ⟨⟨y1, y2, rfl⟩, hq, nq, m, h1, h2⟩ := Pv
        obtain ⟨rfl, hi'⟩ := getD_nat hi
        have hmem : rl.getD i 0 ∈ rl := by rw [show rl.getD i 0 = rl[i] from by simp [hi']]; exact List.getElem_mem hi'
        have hlt := hrm _ hmem
        have ht : rl.take (i + 1) = rl.take i ++ [rl.getD i 0] := by
          rw [List.take_add_one]
          simp [hi']
        have z1 : (evs (opnE1 B p (rl.take i))).length ≤ 1000 := by
          unfold opnE1 evs
          rw [List.length_map, List.length_map, List.length_take]
          omega
        have z2 : (((rl.take i).filter fun n => !hit B p n).reverse.map dn).length ≤ 1000 := by
          rw [List.length_map, List.length_reverse]
          refine Nat.le_trans (List.length_filter_le _ _) ?_
          rw [List.length_take]
          omega
        have hB' : LstD H' lb (bxs B) := (hB.ex e24).mo m (nfr hB.at.choose_spec)
        refine q_asg (v := .str (if hit B p (rl.getD i 0) then "discharge" else "lift")) (ev_if (et_hit rfl hB' rfl rfl hlt) (fun hb => by rw [hb]; exact ev_c) (fun hb => by rw [hb]; exact ev_c)) fun H5 e5 => ?_
        refine q_appD (d := evD ⟨p, if hit B p (rl.getD i 0) then "discharge" else "lift", rl.getD i 0⟩) (h1.ex e5) (ev_var rfl) (evd_evt (ev_var rfl) (ev_var rfl) (ev_var rfl)) (by omega) fun H6 m6 h6 => ?_
        have h6' : LstD H6 lw (evs (opnE1 B p (rl.take (i + 1)))) := by
          rw [ht]
          unfold opnE1 at h6 ⊢
          rw [List.map_append]
          simp only [evs, List.map_append, List.map_cons, List.map_nil] at h6 ⊢
          exact h6
        have hu6 := (h2.ex e5).mo m6 nwu.symm
        have hq6 := m6.keep _ _ (e5 _ _ hq) (.inl fun z => nq (.inl z))
        have m46 : Mo (fun b => b = lw ∨ b = lu) H4 H6 := (m.step e5).then m6 fun c z => .inl (.inl z)
        cases hb : hit B p (rl.getD i 0) with
        | true =>
          refine s_when (b := false) (et_is (et_eqS (ev_var rfl) ev_c) (by decide)) (fun z => by cases z) (fun _ H7 e7 => ?_)
          refine ⟨⟨_, _, rfl⟩, e7 _ _ hq6, nq, m46.step e7, h6'.ex e7, ?_⟩
          rw [ht, List.filter_append]
          simp only [List.filter_cons, hb, Bool.not_true, Bool.false_eq_true, if_false, List.filter_nil, List.append_nil]
          exact hu6.ex e7
        | false =>
          refine s_when (b := true) (et_is (et_eqS (ev_var rfl) ev_c) (by decide)) (fun _ H7 e7 => ?_) (fun z => by cases z)
          refine s_insD (d := dn (rl.getD i 0)) (hu6.ex e7) (ev_var rfl) (evd_var rfl (.int _)) (by omega) fun H8 m8 h8 => ?_
          refine ⟨⟨_, _, rfl⟩, m8.keep _ _ (e7 _ _ hq6) (.inl fun z => nq (.inr z)), nq, (m46.step e7).then m8 fun c z => .inl (.inr z), (h6'.ex e7).mo m8 nwu, ?_⟩
          rw [ht, List.filter_append]
          simp only [List.filter_cons, hb, Bool.not_false, if_true, List.filter_nil, List.reverse_append, List.reverse_cons, List.reverse_nil, List.nil_append, List.map_cons, List.cons_append]
          exact h8
      · obtain ⟨⟨y1, y2, rfl⟩, hq, nq, m, h1, h2⟩ := Pv
        rw [List.length_map, List.take_length] at h1 h2
        have hput : ((rl.filter fun n => !hit B p n).reverse.map dn) = ((suf B p st).filter fun n => !hit B p n).map dn := by
          rw [hrl, ← List.filter_reverse, List.reverse_reverse]
        rw [hput] at h2
        have zs : ((suf B p st).filter fun n => !hit B p n).length ≤ 1000 := Nat.le_trans (List.length_filter_le _ _) (Nat.le_trans (suf_sub B p st).length_le hl)
        have z1 : (evs (opnE1 B p rl)).length ≤ 1000 := by
          unfold opnE1 evs
          rw [List.length_map, List.length_map]
          omega
        have hlc : EvLD (tLc (iList K (tVar 5)) (gName 6) tYes (tTup (tCons (tVar 2) (tCons (tC (.str "restow")) (tCons (tVar 6) tNil)))) [6]) [some (.ref lb), some (.ref s), some (.int p), some (.ref pl), some (.ref lw), some (.ref lu), y1, y2, none] H' (((suf B p st).filter fun n => !hit B p n).map fun n => evD ⟨p, "restow", n⟩) := by
          refine eld_lcM 0 (e := dn) (fun n => evD ⟨p, "restow", n⟩) (evs_var rfl h2) (by omega) (fun x => rfl) (fun x n H6 e6 hn hx => ?_)
          have hx := hx.i
          subst hx
          exact evd_evt (ev_var rfl) ev_c (ev_var rfl)
        have eH' : Ex H H' := Mo.back e24 m frM
        have hcat1 := eld_cat (σ := [some (.ref lb), some (.ref s), some (.int p), some (.ref pl), some (.ref lw), some (.ref lu), y1, y2, none]) (evs_var (i := 4) rfl h1) (evs_new hlc) (by rw [List.length_map (as := List.filter _ _)]; omega)
        refine hcat1 H' (Ex.refl _) _ fun w' H6 nw' e6 hw' => ?_
        have hidx6 : Ev (tOp (rIxL K) (tVar 3) (tC (.int 0))) [some (.ref lb), some (.ref s), some (.int p), some (.ref pl), some (.ref lw), some (.ref lu), y1, y2, none] H6 (.int ((j : Nat) : Int)) :=
          ev_i (evd_ixL (n := 0) (evs_var rfl ((hplc.mo m fun z => by
            obtain ⟨op, hop⟩ := hpl.at
            rcases z with rfl | rfl
            · rw [e2 _ _ hop] at n3
              cases n3
            · rw [e3 _ _ (e2 _ _ hop)] at n4
              cases n4).ex e6)) ev_c (by rw [hj]; rfl))
        have eH6 := eH'.trans e6
        have hcat := eld_cat (σ := [some (.ref lb), some (.ref s), some (.int p), some (.ref pl), some (.ref lw), some (.ref lu), y1, y2, none]) (evs_new (eld_take (K := K) (evs_var (i := 1) rfl (hsD.ex eH6)) hidx6)) (evs_var (i := 5) rfl (h2.ex e6)) (by rw [List.length_take, List.length_map (as := List.filter _ _), hlen]; omega)
        refine hcat H6 (Ex.refl _) _ fun s' H7 ns' e7 hs' => ⟨by show 2 ≤ sizeLine; decide, fun t ht => ?_⟩
        have et := Ex.new (o := .tup [V.ref w', V.ref s']) ht
        have e6t := (eH6.trans e7).trans et
        rw [← List.map_take, ← List.map_append, g1, pre_suf] at hs'
        refine k w' s' t _ e6t (.inr (fresh_back eH6 ns')) upd_same ?_ (et _ _ hs'.nats)
        have h6' := (hw'.ex e7).ex et
        unfold opnE
        rw [evs, List.map_append, ← hrl, List.map_map]
        exact h6'
theorem ok_into (T : Txt K mg a) : FnOk P w K mg base CX0 1 a.aInto a.fInto ["_law_boxes_here", "_law_chosen"] spInto := by
  refine T.FInto.ok scInto (fun vs H Q E h => ?_) (fun cdv A outer s H vs Q E hr h => ⟨_, (pss_cons (ps_set (i := 2) scInto.nd rfl (by first | exact .inl rfl | exact .inr rfl) (pe_lst pa_nil))
      (pss_cons (ps_for PassesOwn.never rfl (pi_range3 (by rfl) T.zrange (pa_cons pe_int (pa_cons pe_int (pa_cons (pe_un un_neg pe_int) pa_nil)))) (pg_name (i := 3) scInto.nd rfl (by first | exact .inl rfl | exact .inr rfl)) (pss_one (ps_expr (pe_bm PySem.F.plainAttrs_list PySem.F.slot_list_extend PySem.F.type_list_extend mt_extend (pv 2) (pa_cons (pe_lc (own := [("_law_box", 4)]) (g := gName 4) rfl scInto.nd (pilK K (pe_callB cr_sortedI (by rfl) T.zsorted (by decide +kernel) (pa_cons (pv 1) pa_nil))) (blkOk_by (N := nInto) (sc := defScope sInto) (by decide +kernel)) (fun _ _ _ _ _ => (pg_name (i := 4) scInto.nd rfl (by first | exact .inl rfl | exact .inr rfl))) (fun _ _ _ _ _ => pts_one (pt_cmpR op_eq (pe_ix (ixt K) (pe_ix (ixl K) (pv 0) (pv 4) (fun _ _ => rfl)) pe_int (fun _ _ => rfl)) (pv 3) (nomark _))) (fun _ _ _ _ _ => (pv 4))) pa_nil)))))
      (pss_one (ps_ret (pv 2))))), ?_⟩)
  · obtain ⟨lb, l, ns, B, rfl, _⟩ := h
    rfl
  · obtain ⟨lb, l, ns, B, rfl, hB, hl, hm, hpw, hn, k⟩ := h
    refine q_asgLD eld_nil fun f H1 nf e1 hf => ?_
    have hlen : ∀ i, (intoL B ns i).length ≤ i * 1000 := by
      intro i
      induction i with
      | zero => exact Nat.le_refl _
      | succ i ih =>
        unfold intoL at ih ⊢
        rw [List.range_succ, List.flatMap_append, List.length_append]
        have : ((([i] : List Nat).flatMap fun (i : Nat) => ns.filter fun n => decide (toB B n = 11 - (i : Int)))).length ≤ 1000 := by
          simp only [List.flatMap_cons, List.flatMap_nil, List.append_nil]
          exact Nat.le_trans (List.length_filter_le _ _) hn
        omega
    have nff : ∀ {b o}, H b = some o → b ≠ f := fun {b o} hb => ne_of_none hb nf
    refine ⟨1, rfl, 11, 0, -1, 11, rfl, RgC.neg (by decide) (by decide) (by decide) (by decide), for_rangeC (D := { nx := tRet (tVar 2) { nx := fun _ H' => Q .non H', rt := Q }, rt := Q }) (fun i σ' H' => (∃ x3, σ' = [some (.ref lb), some (.ref l), some (.ref f), x3, none]) ∧ Mo (fun b => b = f) H1 H' ∧ LstD H' f ((intoL B ns i).map dn)) ⟨⟨_, rfl⟩, .refl, hf⟩ (fun i σ' H' hi p => ?_) (fun σ' H' p => ?_)⟩
    · obtain ⟨⟨x3, rfl⟩, m, h1⟩ := p
      have hB' : LstD H' lb (bxs B) := (hB.ex e1).mo m (nff hB.choose_spec.1)
      have hl' : LstD H' l (ns.map dn) := ((LstD.ofNats hl).ex e1).mo m (nff hl)
      have hlc : EvLD (tLc (iList K (tCB (rSortedI K) (tCons (tVar 1) tNil))) (gName 4) (tTest (tOp rEq (tOp (rIxT K) (tOp (rIxL K) (tVar 0) (tVar 4)) (tC (.int 1))) (tVar 3))) (tVar 4) [4]) [some (.ref lb), some (.ref l), some (.ref f), some (.int (11 + (i : Int) * (-1))), none] H' ((ns.filter fun n => decide (toB B n = 11 - (i : Int))).map dn) := by
        refine eld_lcA 0 (e := dn) (fun n => decide (toB B n = 11 - (i : Int))) dn (evs_new (eld_sorted hpw (evs_var rfl hl'))) (by omega) (fun x => rfl) (fun x n H6 e6 hn' hx => ?_) (fun x n H6 e6 hn' hx _ => evd_var rfl hx)
        have hx := hx.i
        subst hx
        refine et_is (et_eqI (ev_i (evd_ixT (n := 1) (evd_ixL (evs_var rfl (hB'.ex e6)) (ev_var rfl) (bx_at (hm n hn'))) ev_c rfl)) (ev_var rfl)) (decide_eq_decide.mpr ?_)
        omega
      have z1 := hlen i
      have z2 : (ns.filter fun n => decide (toB B n = 11 - (i : Int))).length ≤ 1000 := Nat.le_trans (List.length_filter_le _ _) hn
      refine s_extD h1 (ev_var rfl) (evs_new hlc) (by rw [List.length_map, List.length_map]; omega) fun H7 m7 h7 => ⟨⟨_, rfl⟩, m.trans m7, ?_⟩
      have : intoL B ns (i + 1) = intoL B ns i ++ ns.filter fun n => decide (toB B n = 11 - (i : Int)) := by
        unfold intoL
        rw [List.range_succ, List.flatMap_append]
        simp
      rw [this, List.map_append]
      exact h7
    · obtain ⟨⟨x3, rfl⟩, m, h1⟩ := p
      exact ⟨_, rfl, k f _ (Mo.back e1 m fun b z => by rw [z]; exact nf) nf h1.nats⟩
end
end Q
/-! _law_due_sail -/
namespace Q
open PySem PySem.Spec PyProof.Rows L2 Evl LamX QM
def dkv (p h : Int) (ls lb ll : Addr) : List (Key × V) := [(.inr "port", .int p), (.inr "height", .int h), (.inr "stacks", .ref ls), (.inr "boxes", .ref lb), (.inr "lifted", .ref ll)]
section
variable {h p q : Int} {l lb ll x : Addr}
theorem dkv_port : valV (dkv p h l lb ll) (.inr "port") = some (.int p) := rfl
theorem dkv_height : valV (dkv p h l lb ll) (.inr "height") = some (.int h) := rfl
theorem dkv_stacks : valV (dkv p h l lb ll) (.inr "stacks") = some (.ref l) := rfl
theorem dkv_boxes : valV (dkv p h l lb ll) (.inr "boxes") = some (.ref lb) := rfl
theorem dkv_lifted : valV (dkv p h l lb ll) (.inr "lifted") = some (.ref ll) := rfl
theorem dkv_pPort : putK (dkv p h l lb ll) (.inr "port") (.int q) = dkv q h l lb ll := rfl
theorem dkv_pStacks : putK (dkv p h l lb ll) (.inr "stacks") (.ref x) = dkv p h x lb ll := rfl
theorem dkv_pBoxes : putK (dkv p h l lb ll) (.inr "boxes") (.ref x) = dkv p h l x ll := rfl
theorem dkv_pLifted : putK (dkv p h l lb ll) (.inr "lifted") (.ref x) = dkv p h l lb x := rfl
end
/-- the law's picture of a ship: a dict at d; Z: the lists it reads -/
structure DictW (Z : Addr → Prop) (H : Hp) (d ls lb ll : Addr) (as : List Addr) (S : Ship) : Prop where
  ob : H d = some (.dK (dkv S.port S.height ls lb ll))
  li : H ls = some (.lst (as.map V.ref))
  sk : Sks H as S.stacks
  bx : LstD H lb (bxs S.boxes)
  lf : H ll = some (.lst (S.lifted.map nV))
  zl : Z ls
  zb : Z lb
  zf : Z ll
  za : ∀ b ∈ as, Z b
  nz : ¬ Z d
def DictAt (Z : Addr → Prop) (H : Hp) (d : Addr) (S : Ship) : Prop := ∃ ls lb ll as, DictW Z H d ls lb ll as S
theorem DictW.kp {Z M : Addr → Prop} {P : Addr} {H H' : Hp} {d ls lb ll : Addr} {as : List Addr} {S : Ship} (D : DictW Z H d ls lb ll as S) (k : Kp P M H H') (hz : ∀ b, Z b → ¬ M b) (hd : ¬ M d) : DictW Z H' d ls lb ll as S :=
  ⟨k.keep _ _ D.ob noTbl_dK (.inl hd), k.keep _ _ D.li noTbl_lst (.inl (hz _ D.zl)), D.sk.kp fun b xs hb hx => k.keep _ _ hx noTbl_lst (.inl (hz _ (D.za b hb))), D.bx.kp k (hz _ D.zb), k.keep _ _ D.lf noTbl_lst (.inl (hz _ D.zf)), D.zl, D.zb, D.zf, D.za, D.nz⟩
theorem DictAt.kp {Z M : Addr → Prop} {P : Addr} {H H' : Hp} {d : Addr} {S : Ship} (D : DictAt Z H d S) (k : Kp P M H H') (hz : ∀ b, Z b → ¬ M b) (hd : ¬ M d) : DictAt Z H' d S := by
  obtain ⟨ls, lb, ll, as, D⟩ := D
  exact ⟨ls, lb, ll, as, D.kp k hz hd⟩
theorem DictAt.mono {Z Z' : Addr → Prop} {H : Hp} {d : Addr} {S : Ship} (D : DictAt Z H d S) (h : ∀ b, (∃ o, H b = some o ∧ NoTbl o) → Z b → Z' b) (hd : ¬ Z' d) : DictAt Z' H d S := by
  obtain ⟨ls, lb, ll, as, D⟩ := D
  refine ⟨ls, lb, ll, as, D.ob, D.li, D.sk, D.bx, D.lf, h _ ⟨_, D.li, noTbl_lst⟩ D.zl, h _ ?_ D.zb, h _ ⟨_, D.lf, noTbl_lst⟩ D.zf, fun b hb => h _ ?_ (D.za b hb), hd⟩
  · obtain ⟨xs, h1, _⟩ := D.bx
    exact ⟨_, h1, noTbl_lst⟩
  · obtain ⟨i, hi⟩ := List.getElem?_of_mem hb
    obtain ⟨st, _, h2⟩ := D.sk.get' hi
    exact ⟨_, h2, noTbl_lst⟩
def Zn (Z : Addr → Prop) (H : Hp) (b : Addr) : Prop := Z b ∨ H b = none
def spDueSail : Sp := fun vs H Q _ => ∃ (d : Addr) (Z : Addr → Prop) (S : Ship), vs = [.ref d] ∧ DictAt Z H d S ∧ Wf S ∧ ∀ (t : V) (H' : Hp), Mo (fun b => b = d) H H' → DictAt (Zn Z H) H' d (resSail S).2 → DAt H' t (resSail S).1 → Q t H'
section
variable {P : Program} {w : World} {K : PySem.W.Frag} {mg : Str → Option Value} {base : Heap} {a : Ads}
/-- d["k"] = e -/
theorem q_dput {td tv : TE} {tz : TS} {D : Ends} {σ : L2.St} {H : Hp} {d : Addr} {kvs : List (Key × V)} {k : Str} {v : V} (hv : Ev tv σ H v) (hd : Ev td σ H (.ref d)) (ho : H d = some (.dK kvs)) (hl : kvs.length < 1000) (c : ∀ H1, Ex H H1 → tz D σ (upd H1 d (.dK (putK kvs (.inr k) v)))) : tSeq (sDPut td (tC (.str k)) tv) tz D σ H :=
  hv H (Ex.refl H) _ fun H1 e1 => hd H1 e1 _ fun H2 e2 => ⟨d, _, rfl, DPut.k (k := .inr k) ((e1.trans e2) _ _ ho) (sz_lt (Nat.lt_trans hl (by decide))), c H2 (e1.trans e2)⟩
theorem q_dputL {td tv : TE} {tz : TS} {D : Ends} {σ : L2.St} {H : Hp} {d : Addr} {kvs : List (Key × V)} {k : Str} {ds : List Dat} (hv : EvLD tv σ H ds) (hd : Ev td σ H (.ref d)) (ho : H d = some (.dK kvs)) (hl : kvs.length < 1000) (c : ∀ l H1, H l = none → Ex H H1 → LstD H1 l ds → tz D σ (upd H1 d (.dK (putK kvs (.inr k) (.ref l))))) : tSeq (sDPut td (tC (.str k)) tv) tz D σ H :=
  hv H (Ex.refl H) _ fun l H1 nl e1 hds => hd H1 e1 _ fun H2 e2 => ⟨d, _, rfl, DPut.k (k := .inr k) ((e1.trans e2) _ _ ho) (sz_lt (Nat.lt_trans hl (by decide))), c l H2 nl (e1.trans e2) (hds.ex e2)⟩
theorem q_asgCallN {sp : Sp} {dvs vs : List V} {E : XK} {ta : TA} {i : Nat} {tz : TS} {D : Ends} {σ : L2.St} {H : Hp} (h : EvA ta σ H vs) (k : ∀ H1, Ex H H1 → sp (vs ++ dvs) H1 (fun x H2 => tz D (σ.set i (some x)) H2) E) : tSeq (tAsg (tCall sp dvs E ta) (gName i)) tz D σ H := h H (Ex.refl H) _ k
theorem ok_dueSail (T : Txt K mg a) : FnOk P w K mg base CX0 2 a.aDueSail a.fDueSail ["_law_box"] spDueSail := by
  have GWork : FnOk P w K mg base CX0 1 a.aWork a.fWork ["_law_boxes_here", "_law_stack", "_law_port"] spWork := ok_work T
  refine T.FDueSail.ok scDueSail (fun vs H Q E h => ?_) (fun cdv A outer s H vs Q E hr h => ⟨_, (pss_cons (ps_if (pt_cmpR op_eq (pe_dget (hu_of hr) (pv 0) pe_str (fun _ _ => rfl)) pe_int (nomark _)) (pss_one (ps_ret pe_str)) pss_nil)
      (pss_cons (ps_dput (hu_of hr) (pv 0) pe_str (pe_op op_add (pe_dget (hu_of hr) (pv 0) pe_str (fun _ _ => rfl)) pe_int) rfl)
      (pss_cons (ps_set (i := 1) scDueSail.nd rfl (by first | exact .inl rfl | exact .inr rfl) (pe_lst pa_nil))
      (pss_cons (ps_set (i := 2) scDueSail.nd rfl (by first | exact .inl rfl | exact .inr rfl) (pe_lst pa_nil))
      (pss_cons (ps_for PassesOwn.never rfl (pilK K (pe_dget (hu_of hr) (pv 0) pe_str (fun _ _ => rfl))) (pg_name (i := 3) scDueSail.nd rfl (by first | exact .inl rfl | exact .inr rfl)) (pss_cons (ps_set (i := 4) scDueSail.nd rfl (by first | exact .inl rfl | exact .inr rfl) (pe_call GWork (hr.mono (by decide)) (by rfl) T.gWork T.FWork.kp T.bWork .nil pass0 (pa_cons (pe_dget (hu_of hr) (pv 0) pe_str (fun _ _ => rfl)) (pa_cons (pv 3) (pa_cons (pe_dget (hu_of hr) (pv 0) pe_str (fun _ _ => rfl)) pa_nil)))))
      (pss_cons (ps_expr (pe_bm PySem.F.plainAttrs_list PySem.F.slot_list_extend PySem.F.type_list_extend mt_extend (pv 1) (pa_cons (pe_ix (ixt K) (pv 4) pe_int (fun _ _ => rfl)) pa_nil)))
      (pss_one (ps_expr (pe_bm PySem.F.plainAttrs_list PySem.F.slot_list_append PySem.F.type_list_append mt_append (pv 2) (pa_cons (pe_ix (ixt K) (pv 4) pe_int (fun _ _ => rfl)) pa_nil)))))))
      (pss_cons (ps_dput (hu_of hr) (pv 0) pe_str (pv 2) rfl)
      (pss_cons (ps_dput (hu_of hr) (pv 0) pe_str (pe_op op_cat (pe_dget (hu_of hr) (pv 0) pe_str (fun _ _ => rfl)) (pe_lc (own := [("_law_event", 5)]) (g := gName 5) rfl scDueSail.nd (pilK K (pv 1)) (blkOk_by (N := nDueSail) (sc := defScope sDueSail) (by decide +kernel)) (fun _ _ _ _ _ => (pg_name (i := 5) scDueSail.nd rfl (by first | exact .inl rfl | exact .inr rfl))) (fun _ _ _ _ _ => pts_one (pt_cmpR op_eq (pe_ix (ixt K) (pv 5) pe_int (fun _ _ => rfl)) pe_str (nomark _))) (fun _ _ _ _ _ => (pe_ix (ixt K) (pv 5) pe_int (fun _ _ => rfl))))) rfl)
      (pss_one (ps_ret (pe_callTy (tupK K) (by rfl) T.ztuple (by decide +kernel) (pa_cons (pv 1) pa_nil))))))))))), ?_⟩)
  · obtain ⟨d, Z, S, rfl, _⟩ := h
    rfl
  · obtain ⟨d, Z, S, rfl, ⟨ls, lb, ll, as, D⟩, W, k⟩ := h
    refine q_when (et_eqI (ev_dget (ev_var rfl) D.ob dkv_port) ev_c) (fun hb H1 e1 => ?_) (fun hb H1 e1 => ?_)
    · have hp : S.port = 11 := of_decide_eq_true hb
      have hr' : resSail S = (.str "over", S) := by unfold resSail; rw [if_pos hp]
      refine s_retD evd_cs fun t H2 e2 ht => k t H2 (.ex (e1.trans e2)) ?_ (by rw [hr']; exact ht)
      rw [hr']
      have nzd : ¬ Zn Z H d := fun z => by
        rcases z with z | z
        · exact D.nz z
        · rw [D.ob] at z
          cases z
      exact DictAt.mono ⟨ls, lb, ll, as, D.kp (Kp.ex (P := 0) (M := fun _ => False) (e1.trans e2)) (fun _ _ z => z) id⟩ (fun b _ z => .inl z) nzd
    have hp : ¬ S.port = 11 := of_decide_eq_false hb
    have hr' : resSail S = (.tup (evs (sailE S S.stacks.length)), sil S) := by unfold resSail; rw [if_neg hp]
    refine q_dput (ev_add (ev_dget (ev_var rfl) (e1 _ _ D.ob) dkv_port) ev_c) (ev_var rfl) (e1 _ _ D.ob) (by show 5 < 1000; decide) fun H2 e2 => ?_
    have e12 := e1.trans e2
    have ob2 : upd H2 d (.dK (dkv (S.port + 1) S.height ls lb ll)) d = some (.dK (dkv (S.port + 1) S.height ls lb ll)) := upd_same
    have m2 : Mo (fun b => b = d) H (upd H2 d (.dK (dkv (S.port + 1) S.height ls lb ll))) := (Mo.ex (M := fun b => b = d) e12).upd (e12 _ _ D.ob) immT_dK noTbl_dK (.inl rfl)
    have nzd : ∀ {b}, Z b → ¬ b = d := fun {b} hz z => D.nz (by rw [← z]; exact hz)
    refine q_asgLD eld_nil fun ev H3 nev e3 hev => ?_
    refine q_asgLD eld_nil fun sk H4 nsk e4 hsk => ?_
    have e34 := e3.trans e4
    have nev0 : H ev = none := m2.fresh nev
    have nsk0 : H sk = none := m2.fresh (fresh_back e3 nsk)
    have nevsk : ev ≠ sk := by
      obtain ⟨xs, h1, _⟩ := hev
      exact ne_of_none h1 nsk
    have m4 : Mo (fun b => b = d) H H4 := m2.step e34
    have no2 : ∀ {b o}, H b = some o → ¬ (b = ev ∨ b = sk) := fun {b o} hb z => by
      rcases z with rfl | rfl
      · rw [nev0] at hb
        cases hb
      · rw [nsk0] at hb
        cases hb
    have hal : as.length = S.stacks.length := D.sk.len
    have ns5 := W.ns
    have hlen : ∀ i, i ≤ S.stacks.length → (sailE S i).length ≤ i * 120 := by
      intro i
      induction i with
      | zero => intro _; exact Nat.le_refl _
      | succ i ih =>
        intro hi
        rw [sailE_succ, List.length_append]
        have h1 := ih (by omega)
        have h2 := opnE_len S.boxes (S.port + 1) (stk S i)
        have h3 := W.len (stk_mem (S := S) (i := i) (by omega))
        omega
    have li4 : H4 ls = some (.lst (as.map V.ref)) := m4.keep _ _ D.li (.inl (nzd D.zl))
    have ob4 : H4 d = some (.dK (dkv (S.port + 1) S.height ls lb ll)) := e34 _ _ ob2
    refine q_forL (g := gName 3) (ev_dget (ev_var rfl) ob4 dkv_stacks) (sq_of li4) (fun i σ' H' => (∃ x3 x4, σ' = [some (.ref d), some (.ref ev), some (.ref sk), x3, x4, none]) ∧ Mo (fun b => b = ev ∨ b = sk) H4 H' ∧ LstD H' ev (evs (sailE S i)) ∧
      ∃ as2 : List Addr, H' sk = some (.lst (as2.map V.ref)) ∧ Sks H' as2 ((List.range i).map fun j => opnS S.boxes (S.port + 1) (stk S j)) ∧ ∀ b ∈ as2, Zn Z H b ∧ b ≠ ev ∧ b ≠ sk) (fun H5 e5 => ?_) (fun i σ' H' _ p => sq_of (p.2.1.keep _ _ li4 (.inl (no2 D.li)))) (fun i x σ' H' hi p => ?_) (fun σ' H' p => ?_)
    · obtain ⟨xs, h1, h2⟩ := hsk
      cases h2
      exact ⟨⟨_, _, rfl⟩, .ex e5, (hev.ex e4).ex e5, [], e5 _ _ h1, ⟨rfl, fun i s st h1 h2 => by simp at h1⟩, fun b hb => by cases hb⟩
    · obtain ⟨⟨x3, x4, rfl⟩, m, hevb, as2, hs1, hs2, hs3⟩ := p
      rw [List.getElem?_map] at hi
      cases q : as[i]? with
      | none =>
        rw [q] at hi
        cases hi
      | some b =>
        rw [q] at hi
        cases hi
        obtain ⟨st, h1, h2⟩ := D.sk.get' q
        have hi' : i < S.stacks.length := (List.getElem?_eq_some_iff.mp h1).1
        have hst : st = stk S i := by
          rw [stk_at hi'] at h1
          exact (Option.some.inj h1).symm
        subst hst
        have hbm := List.mem_of_getElem? q
        have ob' := m.keep _ _ ob4 (.inl (no2 D.ob))
        have hb' : H' b = some (.lst ((stk S i).map nV)) := m.keep _ _ (m4.keep _ _ h2 (.inl (nzd (D.za b hbm)))) (.inl (no2 h2))
        have hB' : LstD H' lb (bxs S.boxes) := (D.bx.mo m4 (nzd D.zb)).mo m (no2 D.bx.choose_spec.1)
        have hargs : EvA (tCons (tDGet (tVar 0) (tC (.str "boxes"))) (tCons (tVar 3) (tCons (tDGet (tVar 0) (tC (.str "port"))) tNil))) [some (.ref d), some (.ref ev), some (.ref sk), some (.ref b), x4, none] H' [.ref lb, .ref b, .int (S.port + 1)] :=
          ea_cons (ev_dget (ev_var rfl) ob' dkv_boxes) (ea_cons (ev_var rfl) (ea_one (ev_dget (ev_var rfl) ob' dkv_port)))
        refine q_asgCallN hargs fun H6 e6 => ?_
        have hst60 := W.len (stk_mem hi')
        refine ⟨b, lb, stk S i, S.boxes, S.port + 1, rfl, e6 _ _ hb', hB'.ex e6, fun n hn => W.mem (stk_mem hi') hn, by omega, fun wk s' t H7 e7 hs' ht hwk hst => ?_⟩
        have e67 := e6.trans e7
        have z1 : (evs (sailE S i)).length ≤ 600 := by
          rw [List.length_map]
          have := hlen i (by omega)
          omega
        have z2 : (evs (opnE S.boxes (S.port + 1) (stk S i))).length ≤ 120 := by
          rw [List.length_map]
          have := opnE_len S.boxes (S.port + 1) (stk S i)
          omega
        refine q_extD (hevb.ex e67) (ev_var rfl) (evs_v (ev_op (ev_var (v := .ref t) rfl) (ev_c (v := .int ((0 : Nat) : Int))) (rv_ixT (v := .ref wk) (st_of ht) (atI_nat rfl))) hwk) (by omega) fun H8 m8 h8 => ?_
        have hs18 : H8 sk = some (.lst (as2.map V.ref)) := m8.keep _ _ (e67 _ _ hs1) (.inl nevsk.symm)
        have ht8 : H8 t = some (.tup [V.ref wk, V.ref s']) := m8.tk _ _ ht
        have hal2 : as2.length = i := by rw [hs2.len]; simp
        refine s_app (v := .ref s') hs18 (ev_var rfl) (ev_op (ev_var (v := .ref t) rfl) (ev_c (v := .int ((1 : Nat) : Int))) (rv_ixT (v := .ref s') (st_of ht8) (atI_nat rfl))) (by rw [List.length_map]; omega) fun H9 e9 => ?_
        have ns' : s' ≠ ev ∧ s' ≠ sk ∧ Zn Z H s' := by
          rcases hs' with rfl | hs'
          · exact ⟨fun z => no2 h2 (.inl z), fun z => no2 h2 (.inr z), .inl (D.za _ hbm)⟩
          · have hs' := fresh_back e6 hs'
            refine ⟨fun z => ?_, fun z => ?_, .inr (m4.fresh (m.fresh hs'))⟩
            · obtain ⟨xs, h1, _⟩ := hevb
              rw [z, h1] at hs'
              cases hs'
            · rw [z, hs1] at hs'
              cases hs'
        have m9 : Mo (fun b => b = ev ∨ b = sk) H4 (upd H9 sk (.lst (as2.map V.ref ++ [V.ref s']))) := (((m.step e67).then m8 fun c z => .inl (.inl z)).step e9).updL (e9 _ _ hs18) (.inl (.inr rfl))
        have h8' := (h8.ex e9).upd (o' := .lst (as2.map V.ref ++ [V.ref s'])) (e9 _ _ hs18) nevsk
        refine ⟨⟨_, _, rfl⟩, m9, ?_, as2 ++ [s'], by rw [upd_same, List.map_append]; rfl, ⟨by simp [hal2], fun j c st' g1 g2 => ?_⟩, fun c hc => ?_⟩
        · rw [sailE_succ, evs, List.map_append]
          exact h8'
        · rw [List.range_succ, List.map_append] at g2
          have hjl : j < as2.length + 1 := by
            have := (List.getElem?_eq_some_iff.mp g1).1
            simpa using this
          by_cases hj : j < as2.length
          · rw [List.getElem?_append_left hj] at g1
            rw [List.getElem?_append_left (by simp; omega)] at g2
            have hn := hs3 c (List.mem_of_getElem? g1)
            rw [upd_ne hn.2.2]
            exact e9 _ _ (m8.keep _ _ (e67 _ _ (hs2.at_ j c st' g1 g2)) (.inl hn.2.1))
          · have hj' : j = i := by omega
            subst hj'
            rw [List.getElem?_append_right (by omega), hal2, Nat.sub_self] at g1
            rw [List.getElem?_append_right (by simp), List.length_map, List.length_range, Nat.sub_self] at g2
            cases g1
            cases g2
            rw [upd_ne ns'.2.1]
            exact e9 _ _ (m8.keep _ _ hst (.inl ns'.1))
        · rcases List.mem_append.mp hc with hc | hc
          · exact hs3 c hc
          · rw [List.mem_singleton.mp hc]
            exact ⟨ns'.2.2, ns'.1, ns'.2.1⟩
    · obtain ⟨⟨x3, x4, rfl⟩, m, hevb, as2, hs1, hs2, hs3⟩ := p
      rw [List.length_map, hal] at hevb hs2
      have ob' := m.keep _ _ ob4 (.inl (no2 D.ob))
      have m' : Mo (fun b => b = d) H H' := m4.then m fun c z => .inr (by rcases z with rfl | rfl; exact nev0; exact nsk0)
      refine q_dput (v := .ref sk) (ev_var rfl) (ev_var rfl) ob' (by show 5 < 1000; decide) fun H5 e5 => ?_
      have ob5 : upd H5 d (.dK (dkv (S.port + 1) S.height sk lb ll)) d = some (.dK (dkv (S.port + 1) S.height sk lb ll)) := upd_same
      have m5 : Mo (fun b => b = d) H (upd H5 d (.dK (dkv (S.port + 1) S.height sk lb ll))) := (m'.step e5).upd (e5 _ _ ob') immT_dK noTbl_dK (.inl rfl)
      have keep5 : ∀ {b xs}, H' b = some (.lst xs) → upd H5 d (.dK (dkv (S.port + 1) S.height sk lb ll)) b = some (.lst xs) := fun {b xs} hb => by
        rw [upd_ne (ne_of hb ob' (by intro z; cases z))]
        exact e5 _ _ hb
      have tk5 : TK H' (upd H5 d (.dK (dkv (S.port + 1) S.height sk lb ll))) := ((Mo.ex (M := fun b => b = d) e5).upd (e5 _ _ ob') immT_dK (noTbl_dK (xs := dkv (S.port + 1) S.height sk lb ll)) (.inl rfl)).tk
      have hev5 : LstD (upd H5 d (.dK (dkv (S.port + 1) S.height sk lb ll))) ev (evs (sailE S S.stacks.length)) := by
        obtain ⟨xs, h1, h2⟩ := hevb
        exact ⟨xs, keep5 h1, h2.tk tk5⟩
      have lf5 : LstD (upd H5 d (.dK (dkv (S.port + 1) S.height sk lb ll))) ll (S.lifted.map dn) := .ofNats (m5.keep _ _ D.lf (.inl (nzd D.zf)))
      have zl : (S.lifted.map dn).length ≤ 660 := by
        rw [List.length_map]
        have h1 := W.nl
        have h2 := W.p11
        omega
      have ze : (sailE S S.stacks.length).length ≤ 600 := by
        have := hlen S.stacks.length (Nat.le_refl _)
        omega
      have hlc : EvLD (tLc (iList K (tVar 1)) (gName 5) (tTest (tOp rEq (tOp (rIxT K) (tVar 5) (tC (.int 1))) (tC (.str "lift")))) (tOp (rIxT K) (tVar 5) (tC (.int 2))) [5]) [some (.ref d), some (.ref ev), some (.ref sk), x3, x4, none] (upd H5 d (.dK (dkv (S.port + 1) S.height sk lb ll))) ((liftsOf (sailE S S.stacks.length)).map dn) := by
        have q := eld_lcA (K := K) (te := tOp (rIxT K) (tVar 5) (tC (.int 2))) (t := tTest (tOp rEq (tOp (rIxT K) (tVar 5) (tC (.int 1))) (tC (.str "lift")))) (j := 5) (vs := [5]) (⟨0, "", 0⟩ : Evt) (e := evD) (fun e => decide (e.w = ("lift" : Str))) (fun e => dn e.b) (evs_var (σ := [some (.ref d), some (.ref ev), some (.ref sk), x3, x4, none]) (i := 1) rfl hev5) (by omega) (fun x => rfl) (fun x e H6 e6 hn' hx => ?_) (fun x e H6 e6 hn' hx _ => ?_)
        · unfold liftsOf
          rw [List.map_map]
          exact q
        · exact et_eqS (ev_s (evd_ixT (n := 1) (evd_var rfl hx) ev_c rfl)) ev_c
        · exact evd_ixT (n := 2) (evd_var rfl hx) ev_c rfl
      have hlz : ((liftsOf (sailE S S.stacks.length)).map dn).length ≤ 600 := by
        unfold liftsOf
        rw [List.length_map, List.length_map]
        exact Nat.le_trans (List.length_filter_le _ _) ze
      refine q_dputL (eld_cat (evs_v (ev_dget (ev_var rfl) ob5 dkv_lifted) lf5) (evs_new hlc) (by omega)) (ev_var rfl) ob5 (by show 5 < 1000; decide) fun l6 H6 n6 e6 h6 => ?_
      have ob6 := e6 _ _ ob5
      have m7 : Mo (fun b => b = d) H (upd H6 d (.dK (dkv (S.port + 1) S.height sk lb l6))) := (m5.step e6).upd ob6 immT_dK noTbl_dK (.inl rfl)
      have keep7 : ∀ {b xs}, upd H5 d (.dK (dkv (S.port + 1) S.height sk lb ll)) b = some (.lst xs) → upd H6 d (.dK (dkv (S.port + 1) S.height sk lb l6)) b = some (.lst xs) := fun {b xs} hb => by
        rw [upd_ne (ne_of hb ob5 (by intro z; cases z))]
        exact e6 _ _ hb
      have tk7 : TK (upd H5 d (.dK (dkv (S.port + 1) S.height sk lb ll))) (upd H6 d (.dK (dkv (S.port + 1) S.height sk lb l6))) := ((Mo.ex (M := fun b => b = d) e6).upd ob6 immT_dK (noTbl_dK (xs := dkv (S.port + 1) S.height sk lb l6)) (.inl rfl)).tk
      have hev7 : LstD (upd H6 d (.dK (dkv (S.port + 1) S.height sk lb l6))) ev (evs (sailE S S.stacks.length)) := by
        obtain ⟨xs, h1, h2⟩ := hev5
        exact ⟨xs, keep7 h1, h2.tk tk7⟩
      refine s_retD (evd_tuple (evs_var rfl hev7)) fun t H8 e8 ht => k t H8 (m7.step e8) ?_ (by rw [hr']; exact ht)
      rw [hr']
      have n6' : H l6 = none := m5.fresh n6
      refine ⟨sk, lb, l6, as2, e8 _ _ upd_same, e8 _ _ (keep7 (keep5 hs1)), ?_, (D.bx.mo m7 (nzd D.zb)).ex e8, ?_, .inr nsk0, .inl D.zb, .inr n6', fun b hb => (hs3 b hb).1, fun z => ?_⟩
      · show Sks H8 as2 (sailS S S.stacks.length)
        unfold sailS
        rw [stg_full]
        exact hs2.kp fun b xs hb hx => e8 _ _ (keep7 (keep5 hx))
      · show H8 l6 = some (.lst ((S.lifted ++ liftsOf (sailE S S.stacks.length)).map nV))
        refine e8 _ _ ?_
        have hl6 : LstD H6 l6 ((S.lifted ++ liftsOf (sailE S S.stacks.length)).map dn) := by
          rw [List.map_append]
          exact h6
        have := hl6.nats
        rw [upd_ne (ne_of this ob6 (by intro z; cases z))]
        exact this
      · rcases z with z | z
        · exact D.nz z
        · rw [D.ob] at z
          cases z
end
end Q
/-! _law_due_load -/
namespace Q
open PySem PySem.Spec PyProof.Rows L2 Evl LamX QM
def spDueLoad : Sp := fun vs H Q _ => ∃ (d ld : Addr) (Z : Addr → Prop) (S : Ship) (ls : Ld), vs = [.ref d, .ref ld] ∧ DictAt Z H d S ∧ Wf S ∧ LstD H ld (lds ls) ∧ ls.length ≤ 1000 ∧ ld ≠ d ∧
  ∀ (t : V) (H' : Hp), Mo (fun b => b = d) H H' → DictAt (Zn Z H) H' d (resLoad S ls).2 → DAt H' t (resLoad S ls).1 → Q t H'
section
variable {P : Program} {w : World} {K : PySem.W.Frag} {mg : Str → Option Value} {base : Heap} {a : Ads}
/-- l[:s] + [l[s] + c] + l[s + 1:] -/
def EvSp (te : TE) (σ : L2.St) (H : Hp) (as : List Addr) (s : Nat) (st : List Nat) : Prop := ∀ H1, Ex H H1 → ∀ Q : VK, (∀ (p q : Addr) (H2 : Hp), H1 p = none → H1 q = none → Ex H1 H2 → H2 p = some (.lst ((as.set s q).map V.ref)) → H2 q = some (.lst (st.map nV)) → Q (.ref p) H2) → te σ H1 Q
theorem ep_splice {σ : L2.St} {H : Hp} {tA ts tc : TE} {l b c : Addr} {as : List Addr} {s : Nat} {st ch : List Nat} (hA : Ev tA σ H (.ref l)) (hl : H l = some (.lst (as.map V.ref))) (hs : Ev ts σ H (nV s)) (hb : as[s]? = some b) (hst : H b = some (.lst (st.map nV)))
    (hc : Ev tc σ H (.ref c)) (hch : H c = some (.lst (ch.map nV))) (z1 : as.length ≤ 1000) (z2 : st.length + ch.length ≤ 10000) :
    EvSp (tOp rCat (tOp rCat (tSl (rSlL K) tA tNoPart (tPart ts)) (tLst (tCons (tOp rCat (tOp (rIxL K) tA ts) tc) tNil))) (tSl (rSlL K) tA (tPart (tOp (rI0 fun i j => .int (i + j)) ts (tC (.int 1)))) tNoPart)) σ H as s (st ++ ch) := fun H0 e Q k => by
  have hlt := (List.getElem?_eq_some_iff.mp hb).1
  have sl1 : EvL (tSl (rSlL K) tA tNoPart (tPart ts)) σ H ((as.map V.ref).take s) := by
    have q := el_sl (K := K) hA eo_none (eo_some hs) (sq_of hl)
    rw [cut_take] at q
    exact q
  have sl2 : EvL (tSl (rSlL K) tA (tPart (tOp (rI0 fun i j => .int (i + j)) ts (tC (.int 1)))) tNoPart) σ H ((as.map V.ref).drop (s + 1)) := by
    have q := el_sl (K := K) hA (eo_some (ev_is (w := .int ((s + 1 : Nat) : Int)) (ev_add hs ev_c) (by show V.int ((s : Int) + 1) = _; congr 1))) eo_none (sq_of hl)
    rw [cut_drop] at q
    exact q
  have mid : EvLD (tOp rCat (tOp (rIxL K) tA ts) tc) σ H ((st ++ ch).map dn) := by
    rw [List.map_append]
    exact eld_cat (evs_v (ev_op hA hs (rv_ixL (sq_of hl) (atI_nat (by rw [List.getElem?_map, hb]; rfl)))) (.ofNats hst)) (evs_v hc (.ofNats hch)) (by rw [List.length_map, List.length_map]; omega)
  refine sl1 H0 e _ fun p1 H1 n1 e1 h1 => ?_
  refine mid H1 (e.trans e1) _ fun q H2 nq e2 hq => ⟨by show 1 ≤ sizeLine; decide, fun p2 hp2 => ?_⟩
  have hp2n : H1 p2 = none := fresh_back e2 hp2
  have h1' : upd H2 p2 (.lst [V.ref q]) p1 = some (.lst ((as.map V.ref).take s)) := by rw [upd_ne (ne_of_none (e2 _ _ h1) hp2)]; exact e2 _ _ h1
  refine ⟨p1, p2, _, _, rfl, rfl, h1', upd_same, sz_of (by rw [List.length_take, List.length_map]; show _ + 1 ≤ _; omega), fun p3 hp3 => ?_⟩
  have e3 : Ex H2 (upd (upd H2 p2 (.lst [V.ref q])) p3 (.lst ((as.map V.ref).take s ++ [V.ref q]))) := (Ex.new hp2).trans (Ex.new hp3)
  have e03 := (e1.trans e2).trans e3
  refine sl2 _ (e.trans e03) _ fun p4 H4 n4 e4 h4 => ?_
  refine ⟨p3, p4, _, _, rfl, rfl, e4 _ _ upd_same, h4, sz_of (by rw [List.length_append, List.length_take, List.length_drop, List.length_map]; show _ + 1 + _ ≤ _; omega), fun p hp => ?_⟩
  have e04 := e03.trans e4
  have hqn : H0 q = none := fresh_back e1 nq
  have hqd := hq.nats
  refine k p q _ (fresh_back e04 hp) hqn (e04.trans (Ex.new hp)) ?_ ?_
  · rw [upd_same, ← set_map, List.set_eq_take_append_cons_drop, if_pos (by rw [List.length_map]; exact hlt), List.append_assoc]
    rfl
  · have hqd4 := e4 _ _ (e3 _ _ hqd)
    rw [upd_ne (ne_of_none hqd4 hp)]
    exact hqd4
theorem s_dputS {td tv : TE} {D : Ends} {σ : L2.St} {H : Hp} {d : Addr} {kvs : List (Key × V)} {k : Str} {as : List Addr} {s : Nat} {st : List Nat} (hv : EvSp tv σ H as s st) (hd : Ev td σ H (.ref d)) (ho : H d = some (.dK kvs)) (hl : kvs.length < 1000)
    (c : ∀ (p q : Addr) (H1 : Hp), H p = none → H q = none → Ex H H1 → H1 p = some (.lst ((as.set s q).map V.ref)) → H1 q = some (.lst (st.map nV)) → D.nx σ (upd H1 d (.dK (putK kvs (.inr k) (.ref p))))) : sDPut td (tC (.str k)) tv D σ H :=
  hv H (Ex.refl H) _ fun p q H1 np nq e1 h1 h2 => hd H1 e1 _ fun H2 e2 => ⟨d, _, rfl, DPut.k (k := .inr k) ((e1.trans e2) _ _ ho) (sz_lt (Nat.lt_trans hl (by decide))), c p q H2 np nq (e1.trans e2) (e2 _ _ h1) (e2 _ _ h2)⟩
/-- the dict is written again -/
theorem Mo.dK {M : Addr → Prop} {H H1 : Hp} {d : Addr} {kvs kvs' : List (Key × V)} (a : Mo M H H1) (h1 : H1 d = some (.dK kvs)) (hm : M d ∨ H d = none) : Mo M H (L2.upd H1 d (.dK kvs')) := a.upd h1 immT_dK noTbl_dK hm
theorem q_asgCall2 {sp : Sp} {dvs : List V} {E : XK} {t1 t2 : TE} {i : Nat} {tz : TS} {D : Ends} {σ : L2.St} {H : Hp} {v1 : V} {ds : List Dat} (h1 : Ev t1 σ H v1) (h2 : EvLD t2 σ H ds) (k : ∀ c H1, H c = none → Ex H H1 → LstD H1 c ds → sp ([v1, .ref c] ++ dvs) H1 (fun x H2 => tz D (σ.set i (some x)) H2) E) : tSeq (tAsg (tCall sp dvs E (tCons t1 (tCons t2 tNil))) (gName i)) tz D σ H :=
  h1 H (Ex.refl H) _ fun H1 e1 => h2 H1 e1 _ fun c H2 nc e2 hc => k c H2 (fresh_back e1 nc) (e1.trans e2) hc
theorem ok_dueLoad (T : Txt K mg a) : FnOk P w K mg base CX0 2 a.aDueLoad a.fDueLoad ["_law_box", "_law_loads_here"] spDueLoad := by
  have GInto : FnOk P w K mg base CX0 1 a.aInto a.fInto ["_law_boxes_here", "_law_chosen"] spInto := ok_into T
  refine T.FDueLoad.ok scDueLoad (fun vs H Q E h => ?_) (fun cdv A outer s H vs Q E hr h => ⟨_, (pss_cons (ps_if (pt_cmpR op_eq (pe_dget (hu_of hr) (pv 0) pe_str (fun _ _ => rfl)) pe_int (nomark _)) (pss_one (ps_ret pe_str)) pss_nil)
      (pss_cons (ps_for PassesOwn.never rfl (pi_range1 (by rfl) T.zrange (pa_cons (pe_callB (lenK K) (by rfl) T.zlen PySem.boot_len (pa_cons (pv 1) pa_nil)) pa_nil)) (pg_name (i := 2) scDueLoad.nd rfl (by first | exact .inl rfl | exact .inr rfl)) (pss_one (ps_if (PW.pt (pw_or (pt_not (pt_chain op_le op_lt pe_int (pe_ix (ixt K) (pe_ix (ixl K) (pv 1) (pv 2) (fun _ _ => rfl)) pe_int (fun _ _ => rfl)) (pe_callB (lenK K) (by rfl) T.zlen PySem.boot_len (pa_cons (pe_dget (hu_of hr) (pv 0) pe_str (fun _ _ => rfl)) pa_nil)))) (pw_or (pt_cmpR op_le (pe_ix (ixt K) (pe_ix (ixl K) (pv 1) (pv 2) (fun _ _ => rfl)) pe_int (fun _ _ => rfl)) (pe_dget (hu_of hr) (pv 0) pe_str (fun _ _ => rfl)) (nomark _)) (pw_or1 (pt_cmpR op_gt (pe_ix (ixt K) (pe_ix (ixl K) (pv 1) (pv 2) (fun _ _ => rfl)) pe_int (fun _ _ => rfl)) pe_int (nomark _)))))) (pss_one (ps_ret (pe_tup (pa_cons pe_str (pa_cons (pv 2) pa_nil))))) pss_nil)))
      (pss_cons (ps_if (pt_cmpR op_gt (pe_op op_add (pe_callB (lenK K) (by rfl) T.zlen PySem.boot_len (pa_cons (pe_dget (hu_of hr) (pv 0) pe_str (fun _ _ => rfl)) pa_nil)) (pe_callB (lenK K) (by rfl) T.zlen PySem.boot_len (pa_cons (pv 1) pa_nil))) pe_int (nomark _)) (pss_one (ps_ret pe_str)) pss_nil)
      (pss_cons (ps_for PassesOwn.never rfl (pi_range1 (by rfl) T.zrange (pa_cons (pe_callB (lenK K) (by rfl) T.zlen PySem.boot_len (pa_cons (pe_dget (hu_of hr) (pv 0) pe_str (fun _ _ => rfl)) pa_nil)) pa_nil)) (pg_name (i := 3) scDueLoad.nd rfl (by first | exact .inl rfl | exact .inr rfl)) (pss_one (ps_if (pt_cmpR op_gt (pe_op op_add (pe_callB (lenK K) (by rfl) T.zlen PySem.boot_len (pa_cons (pe_ix (ixl K) (pe_dget (hu_of hr) (pv 0) pe_str (fun _ _ => rfl)) (pv 3) (fun _ _ => rfl)) pa_nil)) (pe_callB (lenK K) (by rfl) T.zlen PySem.boot_len (pa_cons (pe_lc (own := [("_law_load", 7)]) (g := gName 7) rfl scDueLoad.nd (pilK K (pv 1)) (blkOk_by (N := nDueLoad) (sc := defScope sDueLoad) (by decide +kernel)) (fun _ _ _ _ _ => (pg_name (i := 7) scDueLoad.nd rfl (by first | exact .inl rfl | exact .inr rfl))) (fun _ _ _ _ _ => pts_one (pt_cmpR op_eq (pe_ix (ixt K) (pv 7) pe_int (fun _ _ => rfl)) (pv 3) (nomark _))) (fun _ _ _ _ _ => (pv 7))) pa_nil))) (pe_dget (hu_of hr) (pv 0) pe_str (fun _ _ => rfl)) (nomark _)) (pss_one (ps_ret (pe_tup (pa_cons pe_str (pa_cons (pv 3) pa_nil))))) pss_nil)))
      (pss_cons (ps_set (i := 4) scDueLoad.nd rfl (by first | exact .inl rfl | exact .inr rfl) (pe_callB (lenK K) (by rfl) T.zlen PySem.boot_len (pa_cons (pe_dget (hu_of hr) (pv 0) pe_str (fun _ _ => rfl)) pa_nil)))
      (pss_cons (ps_dput (hu_of hr) (pv 0) pe_str (pe_op op_cat (pe_dget (hu_of hr) (pv 0) pe_str (fun _ _ => rfl)) (pe_lc (own := [("_law_load", 7)]) (g := gName 7) (tt := tYes) rfl scDueLoad.nd (pilK K (pv 1)) (blkOk_by (N := nDueLoad) (sc := defScope sDueLoad) (by decide +kernel)) (fun _ _ _ _ _ => (pg_name (i := 7) scDueLoad.nd rfl (by first | exact .inl rfl | exact .inr rfl))) (fun _ _ _ _ _ => pts_nil) (fun _ _ _ _ _ => (pe_tup (pa_cons (pe_dget (hu_of hr) (pv 0) pe_str (fun _ _ => rfl)) (pa_cons (pe_ix (ixt K) (pv 7) pe_int (fun _ _ => rfl)) pa_nil)))))) rfl)
      (pss_cons (ps_set (i := 5) scDueLoad.nd rfl (by first | exact .inl rfl | exact .inr rfl) (pe_lst pa_nil))
      (pss_cons (ps_for PassesOwn.never rfl (pi_range1 (by rfl) T.zrange (pa_cons (pe_callB (lenK K) (by rfl) T.zlen PySem.boot_len (pa_cons (pe_dget (hu_of hr) (pv 0) pe_str (fun _ _ => rfl)) pa_nil)) pa_nil)) (pg_name (i := 3) scDueLoad.nd rfl (by first | exact .inl rfl | exact .inr rfl)) (pss_cons (ps_set (i := 6) scDueLoad.nd rfl (by first | exact .inl rfl | exact .inr rfl) (pe_call GInto (hr.mono (by decide)) (by rfl) T.gInto T.FInto.kp T.bInto .nil pass0 (pa_cons (pe_dget (hu_of hr) (pv 0) pe_str (fun _ _ => rfl)) (pa_cons (pe_lc (own := [("_law_k", 2)]) (g := gName 2) rfl scDueLoad.nd (pi_range1 (by rfl) T.zrange (pa_cons (pe_callB (lenK K) (by rfl) T.zlen PySem.boot_len (pa_cons (pv 1) pa_nil)) pa_nil)) (blkOk_by (N := nDueLoad) (sc := defScope sDueLoad) (by decide +kernel)) (fun _ _ _ _ _ => (pg_name (i := 2) scDueLoad.nd rfl (by first | exact .inl rfl | exact .inr rfl))) (fun _ _ _ _ _ => pts_one (pt_cmpR op_eq (pe_ix (ixt K) (pe_ix (ixl K) (pv 1) (pv 2) (fun _ _ => rfl)) pe_int (fun _ _ => rfl)) (pv 3) (nomark _))) (fun _ _ _ _ _ => (pe_op op_add (pv 4) (pv 2)))) pa_nil))))
      (pss_cons (ps_expr (pe_bm PySem.F.plainAttrs_list PySem.F.slot_list_extend PySem.F.type_list_extend mt_extend (pv 5) (pa_cons (pe_lc (own := [("_law_one", 8)]) (g := gName 8) (tt := tYes) rfl scDueLoad.nd (pilK K (pv 6)) (blkOk_by (N := nDueLoad) (sc := defScope sDueLoad) (by decide +kernel)) (fun _ _ _ _ _ => (pg_name (i := 8) scDueLoad.nd rfl (by first | exact .inl rfl | exact .inr rfl))) (fun _ _ _ _ _ => pts_nil) (fun _ _ _ _ _ => (pe_tup (pa_cons (pe_dget (hu_of hr) (pv 0) pe_str (fun _ _ => rfl)) (pa_cons pe_str (pa_cons (pv 8) pa_nil)))))) pa_nil)))
      (pss_one (ps_dput (hu_of hr) (pv 0) pe_str (pe_op op_cat (pe_op op_cat (pe_slice sl_list (pe_dget (hu_of hr) (pv 0) pe_str (fun _ _ => rfl)) po_none (po_some (pv 3))) (pe_lst (pa_cons (pe_op op_cat (pe_ix (ixl K) (pe_dget (hu_of hr) (pv 0) pe_str (fun _ _ => rfl)) (pv 3) (fun _ _ => rfl)) (pv 6)) pa_nil))) (pe_slice sl_list (pe_dget (hu_of hr) (pv 0) pe_str (fun _ _ => rfl)) (po_some (pe_op op_add (pv 3) pe_int)) po_none)) rfl)))))
      (pss_one (ps_ret (pe_callTy (tupK K) (by rfl) T.ztuple (by decide +kernel) (pa_cons (pv 5) pa_nil)))))))))))), ?_⟩)
  · obtain ⟨d, ld, Z, S, ls, rfl, _⟩ := h
    rfl
  · obtain ⟨d, ld, Z, S, ld', rfl, ⟨ls, lb, ll, as, D⟩, W, hls, hln, nld, k⟩ := h
    obtain ⟨xs, hxs, hxd⟩ := hls
    have hlsD : LstD H ld (lds ld') := ⟨xs, hxs, hxd⟩
    have hal : as.length = S.stacks.length := D.sk.len
    have nzd : ∀ {b}, Z b → ¬ b = d := fun {b} hz z => D.nz (by rw [← z]; exact hz)
    have nznd : ¬ Zn Z H d := fun z => by
      rcases z with z | z
      · exact D.nz z
      · rw [D.ob] at z
        cases z
    have ns5 := W.ns
    -- an early end
    have early : ∀ {t : V} {H' : Hp} {er : Er}, Ex H H' → chk S ld' = some er → DAt H' t (erD er) → Q t H' := fun {t H' er} e hc ht => by
      have hr' : resLoad S ld' = (erD er, S) := by unfold resLoad; rw [hc]
      refine k t H' (.ex e) ?_ (by rw [hr']; exact ht)
      rw [hr']
      exact DictAt.mono ⟨ls, lb, ll, as, D.kp (Kp.ex (P := 0) (M := fun _ => False) e) (fun _ _ z => z) id⟩ (fun b _ z => .inl z) nznd
    have gP : ∀ {σ : L2.St} {H1 : Hp}, σ[0]? = some (some (.ref d)) → Ex H H1 → Ev (tDGet (tVar 0) (tC (.str "port"))) σ H1 (.int S.port) := fun h0 e => ev_dget (ev_var h0) (e _ _ D.ob) dkv_port
    have gH : ∀ {σ : L2.St} {H1 : Hp}, σ[0]? = some (some (.ref d)) → Ex H H1 → Ev (tDGet (tVar 0) (tC (.str "height"))) σ H1 (.int S.height) := fun h0 e => ev_dget (ev_var h0) (e _ _ D.ob) dkv_height
    have gS : ∀ {σ : L2.St} {H1 : Hp}, σ[0]? = some (some (.ref d)) → Ex H H1 → Ev (tDGet (tVar 0) (tC (.str "stacks"))) σ H1 (.ref ls) := fun h0 e => ev_dget (ev_var h0) (e _ _ D.ob) dkv_stacks
    have gB : ∀ {σ : L2.St} {H1 : Hp}, σ[0]? = some (some (.ref d)) → Ex H H1 → EvLs (tDGet (tVar 0) (tC (.str "boxes"))) σ H1 (bxs S.boxes) := fun h0 e => evs_v (ev_dget (ev_var h0) (e _ _ D.ob) dkv_boxes) (D.bx.ex e)
    have lenSt : ∀ {σ : L2.St} {H1 : Hp}, σ[0]? = some (some (.ref d)) → Ex H H1 → Ev (tCB (rLenS K) (tCons (tDGet (tVar 0) (tC (.str "stacks"))) tNil)) σ H1 (nV S.stacks.length) := fun h0 e => by
      have q := ev_len (K := K) (gS h0 e) (sq_of (e _ _ D.li))
      rw [List.length_map, hal] at q
      exact q
    have lenL : ∀ {σ : L2.St} {H1 : Hp}, σ[1]? = some (some (.ref ld)) → Ex H H1 → Ev (tCB (rLenS K) (tCons (tVar 1) tNil)) σ H1 (nV ld'.length) := fun h1 e => by
      have q := ev_lenD (K := K) (evs_var h1 (hlsD.ex e))
      rw [List.length_map] at q
      exact q
    have lenB : ∀ {σ : L2.St} {H1 : Hp}, σ[0]? = some (some (.ref d)) → Ex H H1 → Ev (tCB (rLenS K) (tCons (tDGet (tVar 0) (tC (.str "boxes"))) tNil)) σ H1 (nV S.boxes.length) := fun h0 e => by
      have q := ev_lenD (K := K) (gB h0 e)
      rw [List.length_map] at q
      exact q
    have ldx : ∀ {σ : L2.St} {H1 : Hp} {j i : Nat} {c : Nat} {x : Int}, σ[1]? = some (some (.ref ld)) → σ[j]? = some (some (nV i)) → Ex H H1 → i < ld'.length → ([Dat.int (ldAt ld' i).1, Dat.int (ldAt ld' i).2])[c]? = some (.int x) → Ev (tOp (rIxT K) (tOp (rIxL K) (tVar 1) (tVar j)) (tC (.int (c : Int)))) σ H1 (.int x) := fun h1 hj e hi hc =>
      ev_i (evd_ixT (evd_ixL (evs_var h1 (hlsD.ex e)) (ev_var hj) (by rw [List.getElem?_map, ldAt_get hi]; rfl)) ev_c hc)
    refine q_when (et_eqI (gP rfl (Ex.refl H)) ev_c) (fun hb H1 e1 => ?_) (fun hb H1 e1 => ?_)
    · have hp : S.port = 11 := of_decide_eq_true hb
      refine s_retD evd_cs fun t H2 e2 ht => early (er := .over) (e1.trans e2) ?_ ht
      unfold chk
      rw [if_pos hp]
    have hp : ¬ S.port = 11 := of_decide_eq_false hb
    refine q_forR1 (n := (ld'.length : Int)) (ea_one (lenL rfl e1)) (by omega) (fun i σ' H' => (∃ x2, σ' = [some (.ref d), some (.ref ld), x2, none, none, none, none, none, none]) ∧ Ex H H' ∧ ∀ k < i, badAt S ld' k = false) (fun H2 e2 => ⟨⟨_, rfl⟩, e1.trans e2, fun k hk => absurd hk (by omega)⟩) (fun i σ' H' hi p => ?_) (fun σ' H' p => ?_)
    · obtain ⟨⟨x2, rfl⟩, e, hk⟩ := p
      have hi' : i < ld'.length := by omega
      have l0 : Ev (tOp (rIxT K) (tOp (rIxL K) (tVar 1) (tVar 2)) (tC (.int 0))) [some (.ref d), some (.ref ld), some (nV i), none, none, none, none, none, none] H' (.int (ldAt ld' i).1) := ldx (c := 0) rfl rfl e hi' rfl
      have l1 : Ev (tOp (rIxT K) (tOp (rIxL K) (tVar 1) (tVar 2)) (tC (.int 1))) [some (.ref d), some (.ref ld), some (nV i), none, none, none, none, none, none] H' (.int (ldAt ld' i).2) := ldx (c := 1) rfl rfl e hi' rfl
      have hbad : (!(decide (0 ≤ (ldAt ld' i).1) && decide ((ldAt ld' i).1 < (S.stacks.length : Int))) || (decide ((ldAt ld' i).2 ≤ S.port) || decide ((ldAt ld' i).2 > 11))) = badAt S ld' i := by
        unfold badAt badL
        congr 1
        rw [Bool.eq_iff_iff]
        simp
        omega
      refine s_when (et_is (et_or (et_not (et_chain (F := fun i j => decide (i ≤ j)) (G := fun i j => decide (i < j)) ev_c l0 (lenSt rfl e))) (fun _ => et_or (et_cmp (g := fun i j => decide (i ≤ j)) l1 (gP rfl e)) (fun _ => et_cmp (g := fun i j => decide (i > j)) l1 ev_c))) hbad) (fun hb2 H4 e4 => ?_) (fun hb2 H4 e4 => ?_)
      · refine s_retD (d := erD (.bad i)) (evd_tup (ead_cons evd_cs (ead_cons (evd_i (ev_var rfl)) ead_nil)) (by show 2 ≤ 100000; decide)) fun t H5 e5 ht => early ((e.trans e4).trans e5) ?_ ht
        unfold chk
        rw [if_neg hp, find_some hi' hb2 hk]
      · refine ⟨⟨_, rfl⟩, e.trans e4, fun k hk2 => ?_⟩
        by_cases hki : k < i
        · exact hk k hki
        · have : k = i := by omega
          subst this
          exact hb2
    · obtain ⟨⟨x2, rfl⟩, e, hk⟩ := p
      rw [Int.toNat_natCast] at hk
      have hnb := find_none hk
      refine q_when (et_cmp (g := fun i j => decide (i > j)) (ev_add (lenB rfl e) (lenL rfl e)) ev_c) (fun hb3 H4 e4 => ?_) (fun hb3 H4 e4 => ?_)
      · refine s_retD evd_cs fun t H5 e5 ht => early (er := .many) ((e.trans e4).trans e5) ?_ ht
        have := of_decide_eq_true hb3
        unfold chk
        rw [if_neg hp, hnb]
        show (if S.boxes.length + ld'.length > 60 then some Er.many else _) = _
        rw [if_pos (by omega)]
      have hmany : ¬ S.boxes.length + ld'.length > 60 := by
        have := of_decide_eq_false hb3
        omega
      have e04 := e.trans e4
      refine q_forR1 (n := (S.stacks.length : Int)) (ea_one (lenSt rfl e04)) (by omega) (fun i σ' H' => (∃ x3, σ' = [some (.ref d), some (.ref ld), x2, x3, none, none, none, none, none]) ∧ Ex H H' ∧ ∀ k < i, fullAt S ld' k = false) (fun H5 e5 => ⟨⟨_, rfl⟩, e04.trans e5, fun k hk => absurd hk (by omega)⟩) (fun i σ' H' hi p => ?_) (fun σ' H' p => ?_)
      · obtain ⟨⟨y3, rfl⟩, e5, hk5⟩ := p
        have hi' : i < S.stacks.length := by omega
        have hlc : EvLD (tLc (iList K (tVar 1)) (gName 7) (tTest (tOp rEq (tOp (rIxT K) (tVar 7) (tC (.int 0))) (tVar 3))) (tVar 7) [7]) [some (.ref d), some (.ref ld), x2, some (nV i), none, none, none, none, none] H' ((ld'.filter fun l => decide (l.1 = (i : Int))).map fun l => Dat.tup [.int l.1, .int l.2]) := by
          refine eld_lcA (0, 0) (fun l : Int × Int => decide (l.1 = (i : Int))) (fun l => Dat.tup [.int l.1, .int l.2]) (evs_var rfl (hlsD.ex e5)) (by omega) (fun x => rfl) (fun x b H6 e6 hb hx => ?_) (fun x b H6 e6 hb hx _ => evd_var rfl hx)
          exact et_eqI (ev_i (evd_ixT (n := 0) (evd_var rfl hx) ev_c rfl)) (ev_var rfl)
        have hlen := ev_lenD (K := K) (evs_new hlc)
        rw [List.length_map, ← cho_filter] at hlen
        obtain ⟨b, hb1, hb2⟩ := D.sk.get (stk_at hi')
        have hst : Ev (tCB (rLenS K) (tCons (tOp (rIxL K) (tDGet (tVar 0) (tC (.str "stacks"))) (tVar 3)) tNil)) [some (.ref d), some (.ref ld), x2, some (nV i), none, none, none, none, none] H' (nV (stk S i).length) := by
          have q := ev_len (K := K) (ev_op (r := rIxL K) (z := .ref b) (gS (σ := [some (.ref d), some (.ref ld), x2, some (nV i), none, none, none, none, none]) rfl e5) (ev_var (i := 3) rfl) (rv_ixL (sq_of (e5 _ _ D.li)) (atI_nat (by rw [List.getElem?_map, hb1]; rfl)))) (sq_of (e5 _ _ hb2))
          rw [List.length_map] at q
          exact q
        refine s_when (et_cmp (g := fun i j => decide (i > j)) (ev_add hst hlen) (gH rfl e5)) (fun hb7 H7 e7 => ?_) (fun hb7 H7 e7 => ?_)
        · refine s_retD (d := erD (.full i)) (evd_tup (ead_cons evd_cs (ead_cons (evd_i (ev_var rfl)) ead_nil)) (by show 2 ≤ 100000; decide)) fun t H8 e8 ht => early ((e5.trans e7).trans e8) ?_ ht
          unfold chk
          rw [if_neg hp, hnb]
          show (if S.boxes.length + ld'.length > 60 then some Er.many else _) = _
          rw [if_neg hmany, find_some hi' hb7 hk5]
        · refine ⟨⟨_, rfl⟩, e5.trans e7, fun k hk2 => ?_⟩
          by_cases hki : k < i
          · exact hk5 k hki
          · have : k = i := by omega
            subst this
            exact hb7
      · obtain ⟨⟨y3, rfl⟩, e5, hk5⟩ := p
        rw [Int.toNat_natCast] at hk5
        have hc : chk S ld' = none := by
          unfold chk
          rw [if_neg hp, hnb]
          show (if S.boxes.length + ld'.length > 60 then some Er.many else _) = _
          rw [if_neg hmany, find_none hk5]
        have hr' : resLoad S ld' = (.tup (evs (lodE S ld' S.stacks.length)), lod S ld') := by unfold resLoad; rw [hc]
        refine q_asg (lenB rfl e5) fun H6 e6 => ?_
        have e06 := e5.trans e6
        have hlc : EvLD (tLc (iList K (tVar 1)) (gName 7) tYes (tTup (tCons (tDGet (tVar 0) (tC (.str "port"))) (tCons (tOp (rIxT K) (tVar 7) (tC (.int 1))) tNil))) [7]) [some (.ref d), some (.ref ld), x2, y3, some (nV S.boxes.length), none, none, none, none] H6 (ld'.map fun l => bD (S.port, l.2)) := by
          refine eld_lcM (0, 0) (e := fun l : Int × Int => Dat.tup [.int l.1, .int l.2]) (fun l => bD (S.port, l.2)) (evs_var rfl (hlsD.ex e06)) (by omega) (fun x => rfl) (fun x b H7 e7 hb hx => ?_)
          exact evd_pair (gP rfl (e06.trans e7)) (ev_i (evd_ixT (n := 1) (evd_var rfl hx) ev_c rfl))
        have zb : (bxs S.boxes).length ≤ 60 := by rw [List.length_map]; exact W.nb
        refine q_dputL (eld_cat (gB rfl e06) (evs_new hlc) (by rw [List.length_map (as := ld')]; omega)) (ev_var rfl) (e06 _ _ D.ob) (by show 5 < 1000; decide) fun lb' H7 nlb' e7 hlb' => ?_
        have e07 := e06.trans e7
        have ob7 : upd H7 d (.dK (dkv S.port S.height ls lb' ll)) d = some (.dK (dkv S.port S.height ls lb' ll)) := upd_same
        have m7 : Mo (fun b => b = d) H (upd H7 d (.dK (dkv S.port S.height ls lb' ll))) := (Mo.ex (M := fun b => b = d) e07).dK (e07 _ _ D.ob) (.inl rfl)
        have nlb0 : H lb' = none := fresh_back e06 nlb'
        have hlb7 : LstD (upd H7 d (.dK (dkv S.port S.height ls lb' ll))) lb' (bxs (lodB S ld')) := by
          have : bxs (lodB S ld') = bxs S.boxes ++ ld'.map fun l => bD (S.port, l.2) := by
            unfold lodB bxs
            rw [List.map_append, List.map_map]
            rfl
          rw [this]
          obtain ⟨ys, h1, h2⟩ := hlb'
          refine ⟨ys, by rw [upd_ne (ne_of h1 (e07 _ _ D.ob) (by intro z; cases z))]; exact h1, h2.tk ?_⟩
          exact ((Mo.refl (M := fun b => b = d)).dK (e07 _ _ D.ob) (.inl rfl)).tk
        refine q_asgLD eld_nil fun ev H8 nev e8 hev => ?_
        have m8 := m7.step e8
        have nev0 : H ev = none := m7.fresh nev
        have nevd : ev ≠ d := (ne_of_none ob7 nev).symm
        have noev : ∀ {b o}, H b = some o → b ≠ ev := fun {b o} hb z => by
          rw [z, nev0] at hb
          cases hb
        have D8 : DictW (fun b => Zn Z H b ∧ b ≠ ev) H8 d ls lb' ll as { lod S ld' with stacks := lodS S ld' 0 } := by
          have keep : ∀ {b xs}, Z b → H b = some (.lst xs) → H8 b = some (.lst xs) := fun {b xs} hz hb => m8.keep _ _ hb (.inl (nzd hz))
          refine ⟨e8 _ _ ob7, keep D.zl D.li, ?_, hlb7.ex e8, keep D.zf D.lf, ⟨.inl D.zl, noev D.li⟩, ⟨.inr nlb0, fun z => ?_⟩, ⟨.inl D.zf, noev D.lf⟩, fun b hb => ⟨.inl (D.za b hb), fun z => ?_⟩, fun z => nznd z.1⟩
          · show Sks H8 as (lodS S ld' 0)
            rw [lodS_zero]
            exact D.sk.kp fun b xs hb hx => keep (D.za b hb) hx
          · obtain ⟨ys, h1, _⟩ := hlb7
            exact ne_of_none h1 nev z
          · obtain ⟨j, hj⟩ := List.getElem?_of_mem hb
            obtain ⟨st, _, h2⟩ := D.sk.get' hj
            exact noev h2 z
        have lenSt' : ∀ {σ : L2.St} {H' : Hp} {ls' : Addr} {as' : List Addr} {S' : Ship} {Z'}, σ[0]? = some (some (.ref d)) → DictW Z' H' d ls' lb' ll as' S' → Ev (tCB (rLenS K) (tCons (tDGet (tVar 0) (tC (.str "stacks"))) tNil)) σ H' (nV as'.length) := fun h0 D' => by
          have q := ev_len (K := K) (ev_dget (ev_var h0) D'.ob dkv_stacks) (sq_of D'.li)
          rw [List.length_map] at q
          exact q
        refine q_forR1 (n := (as.length : Int)) (ea_one (lenSt' rfl D8)) (by omega) (fun i σ' H' => (∃ x3 x6, σ' = [some (.ref d), some (.ref ld), x2, x3, some (nV S.boxes.length), some (.ref ev), x6, none, none]) ∧ Mo (fun b => b = d) H H' ∧ LstD H' ev (evs (lodE S ld' i)) ∧ LstD H' ld (lds ld') ∧
          ∃ ls' as', DictW (fun b => Zn Z H b ∧ b ≠ ev) H' d ls' lb' ll as' { lod S ld' with stacks := lodS S ld' i }) (fun H9 e9 => ?_) (fun i σ' H' hi p => ?_) (fun σ' H' p => ?_)
        · exact ⟨⟨_, _, rfl⟩, m8.step e9, hev.ex e9, (hlsD.mo m8 nld).ex e9, ls, as, D8.kp (Kp.ex (P := 0) (M := fun _ => False) e9) (fun _ _ z => z) id⟩
        · obtain ⟨⟨x3, x6, rfl⟩, m', hev', hls', ls', as', D'⟩ := p
          have hi' : i < S.stacks.length := by omega
          have hch : EvLD (tLc (iRng1 (tCons (tCB (rLenS K) (tCons (tVar 1) tNil)) tNil)) (gName 2) (tTest (tOp rEq (tOp (rIxT K) (tOp (rIxL K) (tVar 1) (tVar 2)) (tC (.int 0))) (tVar 3))) (tOp (rI0 fun i j => .int (i + j)) (tVar 4) (tVar 2)) [2])
              [some (.ref d), some (.ref ld), x2, some (nV i), some (nV S.boxes.length), some (.ref ev), x6, none, none] H' ((lodN S ld' i).map dn) := by
            have hll := ev_lenD (K := K) (ta := tVar 1) (σ := [some (.ref d), some (.ref ld), x2, some (nV i), some (nV S.boxes.length), some (.ref ev), x6, none, none]) (evs_var rfl hls')
            rw [List.length_map] at hll
            have q := eld_lcR (t := tTest (tOp rEq (tOp (rIxT K) (tOp (rIxL K) (tVar 1) (tVar 2)) (tC (.int 0))) (tVar 3))) (te := tOp (rI0 fun i j => .int (i + j)) (tVar 4) (tVar 2)) (j := 2) (vs := [2]) (σ := [some (.ref d), some (.ref ld), x2, some (nV i), some (nV S.boxes.length), some (.ref ev), x6, none, none]) (H := H') (n := ld'.length)
              (fun k => decide ((ldAt ld' k).1 = (i : Int))) (fun k => dn (S.boxes.length + k)) (ea_one hll) (by omega) (fun x => rfl) (fun k H9 e9 hk => ?_) (fun k H9 e9 hk _ => ?_)
            · unfold lodN
              rw [List.map_map]
              exact q
            · exact et_eqI (ev_i (evd_ixT (n := 0) (evd_ixL (evs_var rfl (hls'.ex e9)) (ev_var rfl) (by rw [List.getElem?_map, ldAt_get hk]; rfl)) ev_c rfl)) (ev_var rfl)
            · refine evd_i (ev_is (ev_add (i := (S.boxes.length : Int)) (j := (k : Int)) (ev_var rfl) (ev_var rfl)) ?_)
              rw [show ((S.boxes.length + k : Nat) : Int) = (S.boxes.length : Int) + (k : Int) from by omega]
          refine q_asgCall2 (ev_dget (ev_var rfl) D'.ob dkv_boxes) hch fun c H9 nc e9 hc9 => ?_
          have hTl : (lodN S ld' i).length ≤ 1000 := by
            unfold lodN
            rw [List.length_map]
            exact Nat.le_trans (cho_len ld' i) hln
          refine ⟨lb', c, lodN S ld' i, lodB S ld', rfl, D'.bx.ex e9, hc9.nats, fun n hn => ?_, lodN_sorted S ld' i, hTl, fun p H10 e10 np hp10 => ?_⟩
          · obtain ⟨m, hm, rfl⟩ := List.mem_map.mp hn
            rw [lodB_len]
            have := cho_mem hm
            omega
          rw [← lodC_into W hc] at hp10
          have e910 := e9.trans e10
          have np' : H' p = none := fresh_back e9 np
          have hCl : (lodC S ld' i).length ≤ 1000 := by
            rw [lodC_len]
            exact Nat.le_trans (cho_len ld' i) hln
          have D10 := D'.kp (Kp.ex (P := 0) (M := fun _ => False) e910) (fun _ _ z => z) id
          have hlc2 : EvLD (tLc (iList K (tVar 6)) (gName 8) tYes (tTup (tCons (tDGet (tVar 0) (tC (.str "port"))) (tCons (tC (.str "load")) (tCons (tVar 8) tNil)))) [8]) [some (.ref d), some (.ref ld), x2, some (nV i), some (nV S.boxes.length), some (.ref ev), some (.ref p), none, none] H10 ((lodC S ld' i).map fun n => evD ⟨S.port, "load", n⟩) := by
            refine eld_lcM 0 (e := dn) (fun n => evD ⟨S.port, "load", n⟩) (evs_var rfl (.ofNats hp10)) (by omega) (fun x => rfl) (fun x n H11 e11 hn hx => ?_)
            have hx := hx.i
            subst hx
            exact evd_evt (ev_dget (ev_var rfl) (e11 _ _ D10.ob) dkv_port) ev_c (ev_var rfl)
          have hEl : (lodE S ld' i).length ≤ 5000 := by
            have h1 := lodE_len S ld' i
            have h2 : i * ld'.length ≤ 5 * 1000 := Nat.mul_le_mul (by omega) hln
            omega
          refine q_extD (hev'.ex e910) (ev_var rfl) (evs_new hlc2) (by rw [List.length_map, List.length_map]; omega) fun H11 m11 h11 => ?_
          have D11 := D10.kp (m11.kp (P := 0)) (fun b hz => hz.2) (Ne.symm nevd)
          have npev : p ≠ ev := fun z => by
            obtain ⟨ys, h1, _⟩ := hev'
            rw [z, h1] at np'
            cases np'
          have hp11 : H11 p = some (.lst ((lodC S ld' i).map nV)) := m11.keep _ _ hp10 (.inl npev)
          have sti : (lodS S ld' i)[i]? = some (stk S i) := stg_get hi'
          obtain ⟨b, hb1, hb2⟩ := D11.sk.get sti
          have gS11 : Ev (tDGet (tVar 0) (tC (.str "stacks"))) [some (.ref d), some (.ref ld), x2, some (nV i), some (nV S.boxes.length), some (.ref ev), some (.ref p), none, none] H11 (.ref ls') := ev_dget (ev_var rfl) D11.ob dkv_stacks
          have has : as'.length = S.stacks.length := by
            rw [D'.sk.len]
            show (lodS S ld' i).length = _
            unfold lodS
            rw [List.length_map, List.length_range]
          refine s_dputS (ep_splice gS11 D11.li (ev_var rfl) hb1 hb2 (ev_var rfl) hp11 (by omega) (by have := W.len (stk_mem hi'); omega)) (ev_var rfl) D11.ob (by show 5 < 1000; decide) fun l2 q2 H12 nl2 nq2 e12 hl2 hq2 => ?_
          have m12 : Mo (fun b => b = d) H (upd H12 d (.dK (dkv S.port S.height l2 lb' ll))) := (((m'.step e910).then m11 fun c z => .inr (by rw [z]; exact nev0)).step e12).dK (e12 _ _ D11.ob) (.inl rfl)
          have m1112 : Mo (fun b => b = d) H11 (upd H12 d (.dK (dkv S.port S.height l2 lb' ll))) := (Mo.ex (M := fun b => b = d) e12).dK (e12 _ _ D11.ob) (.inl rfl)
          have fr : ∀ {x}, H11 x = none → H x = none := fun {x} hx => (m'.step e910).fresh (m11.fresh hx)
          have nev11 : ∀ {x}, H11 x = none → x ≠ ev := fun {x} hx z => by
            obtain ⟨ys, h1, _⟩ := h11
            rw [z, h1] at hx
            cases hx
          have kd : ∀ {x xs}, H12 x = some (.lst xs) → upd H12 d (.dK (dkv S.port S.height l2 lb' ll)) x = some (.lst xs) := fun {x xs} hx => by
            rw [upd_ne (ne_of hx (e12 _ _ D11.ob) (by intro z; cases z))]
            exact hx
          refine ⟨⟨_, _, rfl⟩, m12, ?_, ?_, l2, as'.set i q2, upd_same, kd hl2, ?_, (D11.bx.mo m1112 (fun z => by
            have := D11.zb
            rw [z] at this
            exact D11.nz this)), kd (e12 _ _ D11.lf), ⟨.inr (fr nl2), nev11 nl2⟩, D11.zb, D11.zf, fun x hx => ?_, D11.nz⟩
          · rw [lodE_succ, evs, List.map_append]
            unfold lodE1
            rw [List.map_map]
            obtain ⟨ys, h1, h2⟩ := h11
            exact ⟨ys, kd (e12 _ _ h1), h2.tk m1112.tk⟩
          · have nldev : ld ≠ ev := noev hxs
            have h1 := ((hls'.ex e910).mo m11 nldev)
            exact h1.mo m1112 nld
          · have q : (lodS S ld' i).set i (stk S i ++ lodC S ld' i) = lodS S ld' (i + 1) := stg_set (f := fun j => stk S j ++ lodC S ld' j) hi'
            show Sks _ (as'.set i q2) (lodS S ld' (i + 1))
            rw [← q]
            exact D11.sk.set (fun j c hj hcj xs hx => kd (e12 _ _ hx)) (kd hq2)
          · rcases List.mem_or_eq_of_mem_set hx with hx | rfl
            · exact D11.za x hx
            · exact ⟨.inr (fr nq2), nev11 nq2⟩
        · obtain ⟨⟨x3, x6, rfl⟩, m', hev', hls', ls', as', D'⟩ := p
          rw [Int.toNat_natCast, hal] at hev' D'
          refine s_retD (evd_tuple (evs_var rfl hev')) fun t H9 e9 ht => k t H9 (m'.step e9) ?_ (by rw [hr']; exact ht)
          rw [hr']
          exact DictAt.mono ⟨ls', lb', ll, as', D'.kp (Kp.ex (P := 0) (M := fun _ => False) e9) (fun _ _ z => z) id⟩ (fun b _ z => z.1) nznd
end
end Q
/-! what takes digits of the pool: _law_boxes, _law_plan, _law_loads -/
namespace Q
open PySem PySem.Spec PyProof.Rows L2 Evl LamX QM
theorem PoolAt.keep {H H1 : Hp} {p c : Addr} (h : PoolAt H p c) (k : ∀ b xs, b = p ∨ b = c → H b = some (.lst xs) → H1 b = some (.lst xs)) : PoolAt H1 p c := by
  obtain ⟨⟨cells, i, d, m, h1, h2, h3⟩, ne⟩ := h
  exact ⟨⟨cells, i, d, m, k _ _ (.inl rfl) h1, k _ _ (.inr rfl) h2, h3⟩, ne⟩
theorem PoolAt.ex' {H H1 : Hp} {p c : Addr} (h : PoolAt H p c) (e : Evl.Ex H H1) : PoolAt H1 p c := h.keep fun b xs _ q => e _ _ q
theorem PoolAt.kp {H H1 : Hp} {p c P : Addr} {M : Addr → Prop} (h : PoolAt H p c) (k : Kp P M H H1) (n1 : ¬ M p) (n2 : ¬ M c) : PoolAt H1 p c := h.keep fun b xs hb q => k.keep _ _ q noTbl_lst (.inl (by rcases hb with rfl | rfl; exact n1; exact n2))
theorem PoolAt.has {H : Hp} {p c : Addr} (h : PoolAt H p c) : (∃ xs, H p = some (.lst xs)) ∧ ∃ xs, H c = some (.lst xs) := by
  obtain ⟨⟨cells, i, d, m, h1, h2, h3⟩, ne⟩ := h
  exact ⟨⟨_, h1⟩, ⟨_, h2⟩⟩
/-- te gives an int of which R holds; of what stands only the pool changes -/
def EvK (I : Hp → Prop) (p c : Addr) (te : TE) (σ : L2.St) (R : Int → Prop) : Prop := ∀ H, I H → PoolAt H p c → ∀ Q : VK, (∀ i H', R i → I H' → PoolAt H' p c → Mo (fun b => b = p) H H' → Q (.int i) H') → te σ H Q
/-- I is not touched by the pool -/
def Stab (I : Hp → Prop) (p : Addr) : Prop := ∀ H H', I H → Mo (fun b => b = p) H H' → I H'
section
variable {P : Program} {w : World} {K : PySem.W.Frag} {mg : Str → Option Value} {base : Heap} {a : Ads}
variable {I : Hp → Prop} {p c : Addr} {ta tb te : TE} {σ : L2.St} {R R1 R2 : Int → Prop}
theorem EvK.imp (h : EvK I p c te σ R) (k : ∀ i, R i → R1 i) : EvK I p c te σ R1 := fun H hI hp Q q => h H hI hp Q fun i H' r => q i H' (k i r)
theorem k_ev {i : Int} (hS : Stab I p) (h : ∀ H, I H → Ev te σ H (.int i)) : EvK I p c te σ (fun j => j = i) := fun H hI hp Q q => h H hI H (Ex.refl H) Q fun H1 e => q i H1 rfl (hS _ _ hI (.ex e)) (hp.ex' e) (.ex e)
theorem k_op {g : Int → Int → Int} (ha : EvK I p c ta σ R1) (hb : EvK I p c tb σ R2) : EvK I p c (tOp (rI0 fun i j => .int (g i j)) ta tb) σ (fun x => ∃ i j, R1 i ∧ R2 j ∧ x = g i j) := fun H hI hp Q q =>
  ha H hI hp _ fun i H1 r1 hI1 hp1 m1 => hb H1 hI1 hp1 _ fun j H2 r2 hI2 hp2 m2 => ⟨i, j, rfl, rfl, q _ H2 ⟨i, j, r1, r2, rfl⟩ hI2 hp2 (m1.trans m2)⟩
theorem k_take (h0 : σ[0]? = some (some (.ref p))) (hn : EvK I p c ta σ R) (hr : ∀ i, R i → 1 ≤ i ∧ i ≤ 1000) (hS : Stab I p) : EvK I p c (tCall (spTake true) [] E0 (tCons (tVar 0) (tCons ta tNil))) σ (fun x => ∃ n, R n ∧ 0 ≤ x ∧ x < n) := fun H hI hp Q q =>
  ⟨_, h0, hn H hI hp _ fun i H1 r1 hI1 hp1 m1 => by
    obtain ⟨n, rfl⟩ : ∃ n : Nat, i = (n : Int) := ⟨i.toNat, by have := hr i r1; omega⟩
    have := hr _ r1
    exact ⟨p, c, n, rfl, hp1, by omega, by omega, (by intro z; cases z), fun r H2 hrn hp2 m2 => q _ H2 ⟨_, r1, by omega, by omega⟩ (hS _ _ hI1 m2) hp2 (m1.trans m2)⟩⟩
theorem k_max {ta tb : TE} (ha : EvK I p c ta σ R1) (hb : EvK I p c tb σ R2) : EvK I p c (tCB rMax2 (tCons ta (tCons tb tNil))) σ (fun x => ∃ i j, R1 i ∧ R2 j ∧ x = if j > i then j else i) := fun H hI hp Q q =>
  ha H hI hp _ fun i H1 r1 hI1 hp1 m1 => hb H1 hI1 hp1 _ fun j H2 r2 hI2 hp2 m2 => ⟨i, j, rfl, q _ H2 ⟨i, j, r1, r2, rfl⟩ hI2 hp2 (m1.trans m2)⟩
def rMin2 : List V → Hp → VK → Prop := fun xs H Q => ∃ i j, xs = [.int i, .int j] ∧ Q (.int (if j < i then j else i)) H
theorem k_min {ta tb : TE} (ha : EvK I p c ta σ R1) (hb : EvK I p c tb σ R2) : EvK I p c (tCB rMin2 (tCons ta (tCons tb tNil))) σ (fun x => ∃ i j, R1 i ∧ R2 j ∧ x = if j < i then j else i) := fun H hI hp Q q =>
  ha H hI hp _ fun i H1 r1 hI1 hp1 m1 => hb H1 hI1 hp1 _ fun j H2 r2 hI2 hp2 m2 => ⟨i, j, rfl, q _ H2 ⟨i, j, r1, r2, rfl⟩ hI2 hp2 (m1.trans m2)⟩
/-- (x, y, ..)[e] -/
theorem k_pick {tt : TA} {xs : List Int} (hS : Stab I p) (ht : ∀ H, I H → EvA tt σ H (xs.map V.int)) (hl : xs.length ≤ 1000) (hb : EvK I p c tb σ R) (hr : ∀ i, R i → 0 ≤ i ∧ i < xs.length) : EvK I p c (tOp (rIxT K) (tTup tt) tb) σ (fun x => x ∈ xs) := fun H hI hp Q q =>
  ht H hI H (Ex.refl H) _ fun H1 e1 => ⟨sz_of (by rw [List.length_map]; omega), fun t nt => by
    have et := Ex.new (o := .tup (xs.map V.int)) nt
    have e2 := e1.trans et
    refine hb _ (hS _ _ hI (.ex e2)) (hp.ex' e2) _ fun i H3 r3 hI3 hp3 m3 => ?_
    obtain ⟨n, rfl⟩ : ∃ n : Nat, i = (n : Int) := ⟨i.toNat, by have := hr i r3; omega⟩
    have := hr _ r3
    have hn : n < xs.length := by omega
    refine ⟨t, _, (n : Int), .int xs[n], rfl, rfl, st_of (m3.tk _ _ upd_same), atI_nat (by rw [List.getElem?_map, List.getElem?_eq_getElem hn]; rfl), q _ H3 (List.getElem_mem hn) hI3 hp3 ((Mo.ex e2).trans m3)⟩⟩
/-- statements -/
theorem asg_of {te : TE} {i : Nat} {tz : TS} {D : Ends} {σ : L2.St} {H : Hp} (h : te σ H fun x H1 => tz D (σ.set i (some x)) H1) : tSeq (tAsg te (gName i)) tz D σ H := h
theorem k_asg {i : Nat} {tz : TS} {D : Ends} {H : Hp} (h : EvK I p c te σ R) (hI : I H) (hp : PoolAt H p c) (k : ∀ x H1, R x → I H1 → PoolAt H1 p c → Mo (fun b => b = p) H H1 → tz D (σ.set i (some (.int x))) H1) : tSeq (tAsg te (gName i)) tz D σ H := h H hI hp _ k
/-- for i in range(te) -/
theorem k_for {j : Nat} {tu tz : TS} {D : Ends} {H : Hp} (h : EvK I p c te σ R) (hI : I H) (hp : PoolAt H p c) (hr : ∀ i, R i → 0 ≤ i ∧ i ≤ 1000) (Pv : Nat → L2.St → Hp → Prop) (h0 : ∀ H1, I H1 → PoolAt H1 p c → Mo (fun b => b = p) H H1 → Pv 0 σ H1)
    (hs : ∀ (i : Nat) (n : Int) σ' H', R n → (i : Int) < n → Pv i σ' H' → tu { D with nx := Pv (i + 1), ct := Pv (i + 1), bk := tz D } (σ'.set j (some (nV i))) H') (hd : ∀ (n : Nat) σ' H', R n → Pv n σ' H' → tz D σ' H') : tSeq (tFor (iRng1 (tCons te tNil)) (gName j) tu) tz D σ H :=
  h H hI hp _ fun n H1 rn hI1 hp1 m1 => ⟨n, rfl, by have := hr n rn; omega, by have := hr n rn; omega, for_range (D := { D with nx := tz D }) (lo := 0) (n := n.toNat) Pv (h0 H1 hI1 hp1 m1) (fun i σ' H' hi q => by
    have e0 : (0 : Int) + (i : Int) = (i : Int) := Int.zero_add _
    show tu { D with nx := Pv (i + 1), ct := Pv (i + 1), bk := tz D } (σ'.set j (some (.int ((0 : Int) + (i : Int))))) H'
    rw [e0]
    exact hs i n σ' H' rn (by omega) q) fun σ' H' q => hd n.toNat σ' H' (by rw [Int.toNat_of_nonneg (hr n rn).1]; exact rn) q⟩
/-- the same, of any data -/
def EvKD (I : Hp → Prop) (p c : Addr) (te : TE) (σ : L2.St) (R : Dat → Prop) : Prop := ∀ H, I H → PoolAt H p c → ∀ Q : VK, (∀ v d H', R d → DAt H' v d → I H' → PoolAt H' p c → Mo (fun b => b = p) H H' → Q v H') → te σ H Q
theorem k_pair (hS : Stab I p) (ha : EvK I p c ta σ R1) (hb : EvK I p c tb σ R2) : EvKD I p c (tTup (tCons ta (tCons tb tNil))) σ (fun d => ∃ i j, R1 i ∧ R2 j ∧ d = bD (i, j)) := fun H hI hp Q q =>
  ha H hI hp _ fun i H1 r1 hI1 hp1 m1 => hb H1 hI1 hp1 _ fun j H2 r2 hI2 hp2 m2 => ⟨by show 2 ≤ sizeLine; decide, fun t nt => by
    have et := Ex.new (o := .tup [V.int i, V.int j]) nt
    exact q _ _ _ ⟨i, j, r1, r2, rfl⟩ (.tup upd_same (.cons (.int i) (.cons (.int j) .nil))) (hS _ _ hI2 (.ex et)) (hp2.ex' et) ((m1.trans m2).step et)⟩
theorem k_pickD {tt : TA} {ds : List Dat} (hS : Stab I p) (ht : ∀ H, I H → EvAD tt σ H ds) (hl : ds.length ≤ 1000) (hb : EvK I p c tb σ R) (hr : ∀ i, R i → 0 ≤ i ∧ i < ds.length) : EvKD I p c (tOp (rIxT K) (tTup tt) tb) σ (fun x => x ∈ ds) := fun H hI hp Q q =>
  ht H hI H (Ex.refl H) _ fun vs H1 e1 hvs => ⟨sz_of (by rw [hvs.length]; omega), fun t nt => by
    have et := Ex.new (o := .tup vs) nt
    have e2 := e1.trans et
    refine hb _ (hS _ _ hI (.ex e2)) (hp.ex' e2) _ fun i H3 r3 hI3 hp3 m3 => ?_
    obtain ⟨n, rfl⟩ : ∃ n : Nat, i = (n : Int) := ⟨i.toNat, by have := hr i r3; omega⟩
    have := hr _ r3
    have hn : n < ds.length := by omega
    obtain ⟨v, hv1, hv2⟩ := hvs.get (List.getElem?_eq_getElem hn)
    exact ⟨t, _, (n : Int), v, rfl, rfl, st_of (m3.tk _ _ upd_same), atI_nat hv1, q _ _ H3 (List.getElem_mem hn) ((hv2.tk (.ex et)).tk m3.tk) hI3 hp3 ((Mo.ex e2).trans m3)⟩⟩
/-- l.append(e) -/
theorem k_app {D : Ends} {H : Hp} {l : Addr} {j : Nat} {ds : List Dat} {RD : Dat → Prop} (hs : σ[j]? = some (some (.ref l))) (hl : LstD H l ds) (np : l ≠ p) (h : EvKD I p c te σ RD) (hI : I H) (hp : PoolAt H p c) (hz : ds.length < 100000)
    (k : ∀ d H' H1, RD d → I H' → PoolAt H' p c → Mo (fun b => b = p) H H' → Mo (fun b => b = l) H' H1 → LstD H1 l (ds ++ [d]) → D.nx σ H1) : tDrop (tBM K "list" rAppend (tVar j) (tCons te tNil)) D σ H := by
  obtain ⟨xs, h1, h2⟩ := hl
  refine ⟨_, hs, Or.inl ⟨rfl, xs, sq_of h1⟩, h H hI hp _ fun v d H2 r2 hv hI2 hp2 m2 => ?_⟩
  have h1' := m2.keep _ _ h1 (.inl np)
  exact ⟨l, xs, v, rfl, rfl, h1', sz_lt (by rw [h2.length]; exact hz), k d H2 _ r2 hI2 hp2 m2 ((Mo.refl).updL h1' (.inl rfl)) ⟨_, upd_same, ((h2.tk m2.tk).app (.one hv)).tk (.upd h1')⟩⟩
theorem k_appQ {tz : TS} {D : Ends} {H : Hp} {l : Addr} {j : Nat} {ds : List Dat} {RD : Dat → Prop} (hs : σ[j]? = some (some (.ref l))) (hl : LstD H l ds) (np : l ≠ p) (h : EvKD I p c te σ RD) (hI : I H) (hp : PoolAt H p c) (hz : ds.length < 100000)
    (k : ∀ d H' H1, RD d → I H' → PoolAt H' p c → Mo (fun b => b = p) H H' → Mo (fun b => b = l) H' H1 → LstD H1 l (ds ++ [d]) → tz D σ H1) : tSeq (tDrop (tBM K "list" rAppend (tVar j) (tCons te tNil))) tz D σ H := k_app (D := { D with nx := tz D }) hs hl np h hI hp hz k
def spBoxes : Sp := fun vs H Q _ => ∃ (p c : Addr), vs = [.ref p, .int 12] ∧ PoolAt H p c ∧ ∀ (l : Addr) (B : Bx) (H' : Hp), Mo (fun b => b = p) H H' → PoolAt H' p c → H l = none → LstD H' l (bxs B) → B.length ≤ 12 → (∀ b ∈ B, 0 ≤ b.1 ∧ b.1 ≤ 10 ∧ 1 ≤ b.2 ∧ b.2 ≤ 11 ∧ b.1 < b.2) → Q (.ref l) H'
def spPlan : Sp := fun vs H Q _ => ∃ (p c lb : Addr) (B : Bx) (n : Nat), vs = [.ref p, .ref lb, nV n] ∧ PoolAt H p c ∧ LstD H lb (bxs B) ∧ lb ≠ p ∧ B.length ≤ 1000 ∧ 1 ≤ n ∧ n ≤ 1000 ∧ ∀ (l : Addr) (pl : List Nat) (H' : Hp), Mo (fun b => b = p) H H' → PoolAt H' p c → H l = none → H' l = some (.lst (pl.map nV)) → pl.length = B.length → (∀ x ∈ pl, x < n) → Q (.ref l) H'
def spLoads : Sp := fun vs H Q _ => ∃ (p c d : Addr) (Z : Addr → Prop) (S : Ship), vs = [.ref p, .ref d] ∧ PoolAt H p c ∧ DictAt Z H d S ∧ Wf S ∧ 1 ≤ S.stacks.length ∧ d ≠ p ∧ (∀ b, Z b → b ≠ p) ∧ ∀ (l : Addr) (ls : Ld) (H' : Hp), Mo (fun b => b = p) H H' → PoolAt H' p c → H l = none → LstD H' l (lds ls) → ls.length ≤ 6 → Q (.ref l) H'
theorem stab_true : Stab (fun _ => True) p := fun _ _ _ _ => trivial
theorem ok_plan (T : Txt K mg a) : FnOk P w K mg base CX0 3 a.aPlan a.fPlan ["_law_pool_here", "_law_boxes_here", "_law_stacks"] spPlan := by
  have GTake : FnOk P w K mg base CX0 2 a.aTake a.fTake ["_law_pool_here", "_law_many"] (spTake true) := ok_take T
  refine T.FPlan.ok scPlan (fun vs H Q E h => ?_) (fun cdv A outer s H vs Q E hr h => ⟨_, (pss_one (ps_ret (pe_lc (own := [("_law_box", 3)]) (g := gName 3) (tt := tYes) rfl scPlan.nd (pilK K (pv 1)) (blkOk_by (N := nPlan) (sc := defScope sPlan) (by decide +kernel)) (fun _ _ _ _ _ => (pg_name (i := 3) scPlan.nd rfl (by first | exact .inl rfl | exact .inr rfl))) (fun _ _ _ _ _ => pts_nil) (fun _ _ _ _ _ => (pe_call GTake (hr.mono (by decide)) (by rfl) T.gTake T.FTake.kp T.bTake .nil pass0 (pa_cons (pv 0) (pa_cons (pv 2) pa_nil))))))), ?_⟩)
  · obtain ⟨p, c, lb, B, n, rfl, _⟩ := h
    rfl
  · obtain ⟨p, c, lb, B, n, rfl, hp, hB, nlb, hBl, hn1, hn2, k⟩ := h
    obtain ⟨xs, hxs, hxd⟩ := hB
    have hxl : xs.length = B.length := by rw [hxd.length, List.length_map]
    refine ⟨_, rfl, lb, rfl, ⟨xs, sq_of hxs⟩, fun Dl hD => ?_⟩
    have nDp : Dl ≠ p := fun z => by
      obtain ⟨⟨ys, hc⟩, _⟩ := hp.has
      rw [← z, hD] at hc
      cases hc
    refine lc_list (xs := xs) (fun i H' => Mo (fun b => b = p) H H' ∧ PoolAt H' p c ∧ ∃ pl : List Nat, H' Dl = some (.lst (pl.map nV)) ∧ pl.length = i ∧ ∀ x ∈ pl, x < n) ⟨.ex (Ex.new hD), hp.ex' (Ex.new hD), [], upd_same, rfl, fun x hx => by cases hx⟩ (fun i H' _ p => sq_of (p.1.keep _ _ hxs (.inl nlb))) (fun i x H' hi q => ⟨rfl, ?_⟩) (fun H' q => ?_)
    · obtain ⟨m, hp', pl, h1, h2, h3⟩ := q
      have hi' : i < B.length := by rw [← hxl]; exact (List.getElem?_eq_some_iff.mp hi).1
      unfold tYes
      show (if true = true then _ else _)
      rw [if_pos rfl]
      refine ⟨_, rfl, _, rfl, p, c, n, rfl, hp', hn1, hn2, (by intro z; cases z), fun r H2 hr hp2 m2 => ⟨pl.map nV, ?_, sz_lt (by rw [List.length_map]; omega), ?_, ?_, pl ++ [r], ?_, ?_, ?_⟩⟩
      · exact m2.keep _ _ h1 (.inl nDp)
      · exact (m.trans m2).updL (m2.keep _ _ h1 (.inl nDp)) (.inr hD)
      · exact hp2.keep fun b xs hb hx => by
          rw [upd_ne (fun z => ?_)]
          · exact hx
          · rcases hb with rfl | rfl
            · exact nDp z.symm
            · obtain ⟨_, ⟨ys, hc⟩⟩ := hp.has
              rw [z, hD] at hc
              cases hc
      · rw [upd_same, List.map_append]
        rfl
      · rw [List.length_append, h2]
        rfl
      · intro x hx
        rcases List.mem_append.mp hx with hx | hx
        · exact h3 x hx
        · rw [List.mem_singleton.mp hx]
          exact hr
    · obtain ⟨m, hp', pl, h1, h2, h3⟩ := q
      exact k Dl pl H' m hp' hD h1 (by rw [h2, hxl]) h3
theorem ok_boxes (T : Txt K mg a) : FnOk P w K mg base CX0 3 a.aBoxes a.fBoxes ["_law_pool_here", "_law_most"] spBoxes := by
  have GTake : FnOk P w K mg base CX0 2 a.aTake a.fTake ["_law_pool_here", "_law_many"] (spTake true) := ok_take T
  refine T.FBoxes.ok scBoxes (fun vs H Q E h => ?_) (fun cdv A outer s H vs Q E hr h => ⟨_, (pss_cons (ps_set (i := 2) scBoxes.nd rfl (by first | exact .inl rfl | exact .inr rfl) (pe_lst pa_nil))
      (pss_cons (ps_set (i := 3) scBoxes.nd rfl (by first | exact .inl rfl | exact .inr rfl) (pe_ix (ixt K) (pe_tup (pa_cons pe_int (pa_cons pe_int (pa_cons pe_int pa_nil)))) (pe_call GTake (hr.mono (by decide)) (by rfl) T.gTake T.FTake.kp T.bTake .nil pass0 (pa_cons (pv 0) (pa_cons pe_int pa_nil))) (fun _ _ => rfl)))
      (pss_cons (ps_for PassesOwn.never rfl (pi_range1 (by rfl) T.zrange (pa_cons (pe_call GTake (hr.mono (by decide)) (by rfl) T.gTake T.FTake.kp T.bTake .nil pass0 (pa_cons (pv 0) (pa_cons (pe_op op_add (pv 1) pe_int) pa_nil))) pa_nil)) (pg_name (i := 4) scBoxes.nd rfl (by first | exact .inl rfl | exact .inr rfl)) (pss_cons (ps_set (i := 5) scBoxes.nd rfl (by first | exact .inl rfl | exact .inr rfl) (pe_call GTake (hr.mono (by decide)) (by rfl) T.gTake T.FTake.kp T.bTake .nil pass0 (pa_cons (pv 0) (pa_cons (pv 3) pa_nil))))
      (pss_one (ps_expr (pe_bm PySem.F.plainAttrs_list PySem.F.slot_list_append PySem.F.type_list_append mt_append (pv 2) (pa_cons (pe_tup (pa_cons (pv 5) (pa_cons (pe_op op_add (pe_op op_add (pv 5) pe_int) (pe_call GTake (hr.mono (by decide)) (by rfl) T.gTake T.FTake.kp T.bTake .nil pass0 (pa_cons (pv 0) (pa_cons (pe_op op_sub (pe_callB (call_min2 rfl) (by rfl) T.zmin (by decide +kernel) (pa_cons (pv 3) (pa_cons pe_int pa_nil))) (pv 5)) pa_nil)))) pa_nil))) pa_nil))))))
      (pss_one (ps_ret (pv 2)))))), ?_⟩)
  · obtain ⟨p, c, rfl, _⟩ := h
    rfl
  · obtain ⟨p, c, rfl, hp, k⟩ := h
    refine q_asgLD eld_nil fun l H1 nl e1 hl => ?_
    have hp1 := hp.ex' e1
    have nlp : l ≠ p := fun z => by
      obtain ⟨⟨ys, hc⟩, _⟩ := hp.has
      rw [← z, nl] at hc
      cases hc
    have nlc : c ≠ l := fun z => by
      obtain ⟨_, ⟨ys, hc⟩⟩ := hp.has
      rw [z, nl] at hc
      cases hc
    refine k_asg (I := fun _ => True) (R := fun x => x ∈ [(11 : Int), 5, 3]) (k_pick (xs := [11, 5, 3]) stab_true (fun H _ => ea_cons ev_c (ea_cons ev_c (ea_one ev_c))) (by decide) (k_take rfl (k_ev stab_true (fun _ _ => ev_c)) (fun i hi => by omega) stab_true) (fun i hi => by
      obtain ⟨n, rfl, h1, h2⟩ := hi
      exact ⟨h1, h2⟩)) trivial hp1 fun hg H2 hhg _ hp2 m2 => ?_
    have hhg' : hg = 11 ∨ hg = 5 ∨ hg = 3 := by simpa using hhg
    have m02 : Mo (fun b => b = p) H H2 := (Mo.ex e1).trans m2
    have hl2 := hl.mo m2 nlp
    refine k_for (I := fun _ => True) (R := fun x => 0 ≤ x ∧ x ≤ 12) ((k_take rfl (k_op (g := fun i j => i + j) (k_ev stab_true (fun _ _ => ev_var rfl)) (k_ev stab_true (fun _ _ => ev_c))) (fun i hi => by
      obtain ⟨x, y, rfl, rfl, rfl⟩ := hi
      omega) stab_true).imp (fun i hi => by
      obtain ⟨n, ⟨x, y, rfl, rfl, rfl⟩, h1, h2⟩ := hi
      omega)) trivial hp2 (fun i hi => by omega) (fun i σ' H' => (∃ x4 x5, σ' = [some (.ref p), some (.int 12), some (.ref l), some (.int hg), x4, x5]) ∧ PoolAt H' p c ∧ Mo (fun b => b = p) H H' ∧ ∃ B : Bx, LstD H' l (bxs B) ∧ B.length = i ∧ ∀ b ∈ B, 0 ≤ b.1 ∧ b.1 ≤ 10 ∧ 1 ≤ b.2 ∧ b.2 ≤ 11 ∧ b.1 < b.2) (fun H3 _ hp3 m3 => ?_) (fun i n σ' H' hn hi q => ?_) (fun n σ' H' hn q => ?_)
    · exact ⟨⟨_, _, rfl⟩, hp3, m02.trans m3, [], hl2.mo m3 nlp, rfl, fun b hb => by cases hb⟩
    · obtain ⟨⟨x4, x5, rfl⟩, hp', m', B, hB, hBl, hBg⟩ := q
      refine k_asg (I := fun _ => True) (k_take rfl (k_ev stab_true (fun _ _ => ev_var (v := .int hg) rfl)) (fun i hi => by omega) stab_true) trivial hp' fun st H4 hst _ hp4 m4 => ?_
      obtain ⟨n2, rfl, hst1, hst2⟩ := hst
      refine k_app (I := fun _ => True) rfl (hB.mo m4 nlp) nlp (k_pair stab_true (k_ev stab_true (fun _ _ => ev_var (v := .int st) rfl)) (k_op (g := fun i j => i + j) (k_op (g := fun i j => i + j) (k_ev stab_true (fun _ _ => ev_var (v := .int st) rfl)) (k_ev stab_true (fun _ _ => ev_c (v := .int 1)))) (k_take rfl (k_op (g := fun i j => i - j) (k_min (k_ev stab_true (fun _ _ => ev_var (v := .int n2) rfl)) (k_ev stab_true (fun _ _ => ev_c (v := .int 11)))) (k_ev stab_true (fun _ _ => ev_var (v := .int st) rfl))) (fun i hi => by
        obtain ⟨x, y, ⟨u, v, rfl, rfl, rfl⟩, rfl, rfl⟩ := hi
        split <;> omega) stab_true))) trivial hp4 (by rw [List.length_map]; omega) fun d H5 H6 hd _ hp5 m5 m6 h6 => ?_
      obtain ⟨x, y, gx, ⟨x2, y2, ⟨x3, y3, gx3, gy3, gx2⟩, ⟨n3, ⟨u, v, ⟨u2, v2, gu2, gv2, gu⟩, gv, gn3⟩, h1, h2⟩, gy⟩, rfl⟩ := hd
      have h3 : x = st := gx
      have h4 : y = x2 + y2 := gy
      have h5 : x2 = x3 + y3 := gx2
      have h6' : n3 = u - v := gn3
      have h7 : u = if v2 < u2 then v2 else u2 := gu
      refine ⟨⟨_, _, rfl⟩, hp5.kp (m6.kp (P := 0)) nlp.symm nlc, ((m'.trans m4).trans m5).then m6 fun b z => .inr (by rw [z]; exact nl), B ++ [(x, y)], ?_, by rw [List.length_append, hBl]; rfl, fun b hb => ?_⟩
      · rw [bxs, List.map_append]
        exact h6
      · rcases List.mem_append.mp hb with hb | hb
        · exact hBg b hb
        · rw [List.mem_singleton.mp hb]
          show 0 ≤ x ∧ x ≤ 10 ∧ 1 ≤ y ∧ y ≤ 11 ∧ x < y
          split at h7 <;> omega
    · obtain ⟨⟨x4, x5, rfl⟩, hp', m', B, hB, hBl, hBg⟩ := q
      exact ⟨_, rfl, k l B H' m' hp' nl hB (by omega) hBg⟩
theorem ok_loads (T : Txt K mg a) : FnOk P w K mg base CX0 3 a.aLoads a.fLoads ["_law_pool_here", "_law_box"] spLoads := by
  have GTake : FnOk P w K mg base CX0 2 a.aTake a.fTake ["_law_pool_here", "_law_many"] (spTake true) := ok_take T
  refine T.FLoads.ok scLoads (fun vs H Q E h => ?_) (fun cdv A outer s H vs Q E hr h => ⟨_, (pss_cons (ps_set (i := 2) scLoads.nd rfl (by first | exact .inl rfl | exact .inr rfl) (pe_lst pa_nil))
      (pss_cons (ps_for PassesOwn.never rfl (pi_range1 (by rfl) T.zrange (pa_cons (pe_op op_add pe_int (pe_call GTake (hr.mono (by decide)) (by rfl) T.gTake T.FTake.kp T.bTake .nil pass0 (pa_cons (pv 0) (pa_cons pe_int pa_nil)))) pa_nil)) (pg_name (i := 3) scLoads.nd rfl (by first | exact .inl rfl | exact .inr rfl)) (pss_cons (ps_set (i := 4) scLoads.nd rfl (by first | exact .inl rfl | exact .inr rfl) (pe_op op_add (pe_op op_add (pe_dget (hu_of hr) (pv 1) pe_str (fun _ _ => rfl)) pe_int) (pe_call GTake (hr.mono (by decide)) (by rfl) T.gTake T.FTake.kp T.bTake .nil pass0 (pa_cons (pv 0) (pa_cons (pe_callB (call_max2 rfl) (by rfl) T.zmax (by decide +kernel) (pa_cons pe_int (pa_cons (pe_callB (call_min2 rfl) (by rfl) T.zmin (by decide +kernel) (pa_cons (pe_op op_sub pe_int (pe_dget (hu_of hr) (pv 1) pe_str (fun _ _ => rfl))) (pa_cons (pe_ix (ixt K) (pe_tup (pa_cons pe_int (pa_cons pe_int pa_nil))) (pe_call GTake (hr.mono (by decide)) (by rfl) T.gTake T.FTake.kp T.bTake .nil pass0 (pa_cons (pv 0) (pa_cons pe_int pa_nil))) (fun _ _ => rfl)) pa_nil))) pa_nil))) pa_nil)))))
      (pss_one (ps_expr (pe_bm PySem.F.plainAttrs_list PySem.F.slot_list_append PySem.F.type_list_append mt_append (pv 2) (pa_cons (pe_tup (pa_cons (pe_call GTake (hr.mono (by decide)) (by rfl) T.gTake T.FTake.kp T.bTake .nil pass0 (pa_cons (pv 0) (pa_cons (pe_callB (lenK K) (by rfl) T.zlen PySem.boot_len (pa_cons (pe_dget (hu_of hr) (pv 1) pe_str (fun _ _ => rfl)) pa_nil)) pa_nil))) (pa_cons (pv 4) pa_nil))) pa_nil))))))
      (pss_cons (ps_set (i := 5) scLoads.nd rfl (by first | exact .inl rfl | exact .inr rfl) (pe_call GTake (hr.mono (by decide)) (by rfl) T.gTake T.FTake.kp T.bTake .nil pass0 (pa_cons (pv 0) (pa_cons pe_int pa_nil))))
      (pss_cons (ps_if (pt_cmpR op_lt (pv 5) pe_int (nomark _)) (pss_one (ps_expr (pe_bm PySem.F.plainAttrs_list PySem.F.slot_list_append PySem.F.type_list_append mt_append (pv 2) (pa_cons (pe_ix (ixt K) (pe_tup (pa_cons (pe_tup (pa_cons (pe_un un_neg pe_int) (pa_cons pe_int pa_nil))) (pa_cons (pe_tup (pa_cons (pe_callB (lenK K) (by rfl) T.zlen PySem.boot_len (pa_cons (pe_dget (hu_of hr) (pv 1) pe_str (fun _ _ => rfl)) pa_nil)) (pa_cons pe_int pa_nil))) (pa_cons (pe_tup (pa_cons pe_int (pa_cons (pe_dget (hu_of hr) (pv 1) pe_str (fun _ _ => rfl)) pa_nil))) (pa_cons (pe_tup (pa_cons pe_int (pa_cons pe_int pa_nil))) pa_nil))))) (pe_call GTake (hr.mono (by decide)) (by rfl) T.gTake T.FTake.kp T.bTake .nil pass0 (pa_cons (pv 0) (pa_cons pe_int pa_nil))) (fun _ _ => rfl)) pa_nil)))) pss_nil)
      (pss_one (ps_ret (pv 2))))))), ?_⟩)
  · obtain ⟨p, c, d, Z, S, rfl, _⟩ := h
    rfl
  · obtain ⟨p, c, d, Z, S, rfl, hp, ⟨ls, lb, ll, as, D⟩, W, hs1, ndp, hzp, k⟩ := h
    refine q_asgLD eld_nil fun l H1 nl e1 hl => ?_
    have hp1 := hp.ex' e1
    have nlp : l ≠ p := fun z => by
      obtain ⟨⟨ys, hc⟩, _⟩ := hp.has
      rw [← z, nl] at hc
      cases hc
    have nlc : c ≠ l := fun z => by
      obtain ⟨_, ⟨ys, hc⟩⟩ := hp.has
      rw [z, nl] at hc
      cases hc
    have ndl : d ≠ l := ne_of_none D.ob nl
    have nm : ∀ {b xs}, H b = some (.lst xs) → b ≠ l := fun {b xs} hb => ne_of_none hb nl
    have nas : ∀ b ∈ as, b ≠ l := fun b hb => by
      obtain ⟨j, hj⟩ := List.getElem?_of_mem hb
      obtain ⟨st, _, h2⟩ := D.sk.get' hj
      exact nm h2
    have nbl : lb ≠ l := by
      obtain ⟨ys, h1, _⟩ := D.bx
      exact nm h1
    have D0 : DictW (fun b => b ≠ p ∧ b ≠ l ∧ b ≠ d) H d ls lb ll as S := by
      have nzd : ∀ {b}, Z b → b ≠ d := fun {b} hz z => D.nz (by rw [← z]; exact hz)
      exact ⟨D.ob, D.li, D.sk, D.bx, D.lf, ⟨hzp _ D.zl, nm D.li, nzd D.zl⟩, ⟨hzp _ D.zb, nbl, nzd D.zb⟩, ⟨hzp _ D.zf, nm D.lf, nzd D.zf⟩, fun b hb => ⟨hzp _ (D.za b hb), nas b hb, nzd (D.za b hb)⟩, fun z => z.2.2 rfl⟩
    let I : Hp → Prop := fun H' => DictW (fun b => b ≠ p ∧ b ≠ l ∧ b ≠ d) H' d ls lb ll as S
    have hS : Stab I p := fun H H' hI m => DictW.kp hI (m.kp (P := 0)) (fun b hz => hz.1) ndp
    have hL : ∀ {H2 H3 : Hp}, I H2 → Mo (fun b => b = l) H2 H3 → I H3 := fun hI m => DictW.kp hI (m.kp (P := 0)) (fun b hz => hz.2.1) ndl
    have I1 : I H1 := D0.kp (Kp.ex (P := 0) (M := fun _ => False) e1) (fun _ _ z => z) id
    have hal : as.length = S.stacks.length := D.sk.len
    have ns5 := W.ns
    have p0 := W.p0
    have p11 := W.p11
    have gP : ∀ {σ : L2.St} {H' : Hp}, σ[1]? = some (some (.ref d)) → I H' → Ev (tDGet (tVar 1) (tC (.str "port"))) σ H' (.int S.port) := fun h0 hI => ev_dget (ev_var h0) hI.ob dkv_port
    have gL : ∀ {σ : L2.St} {H' : Hp}, σ[1]? = some (some (.ref d)) → I H' → Ev (tCB (rLenS K) (tCons (tDGet (tVar 1) (tC (.str "stacks"))) tNil)) σ H' (.int (S.stacks.length : Int)) := fun h0 hI => by
      have q := ev_len (K := K) (ev_dget (ev_var h0) hI.ob dkv_stacks) (sq_of hI.li)
      rw [List.length_map, hal] at q
      exact q
    refine k_for (I := I) (R := fun x => 0 ≤ x ∧ x ≤ 5) ((k_op (g := fun i j => i + j) (k_ev hS (fun _ _ => ev_c)) (k_take rfl (k_ev hS (fun _ _ => ev_c)) (fun i hi => by omega) hS)).imp (fun i hi => by
      obtain ⟨x, y, rfl, ⟨n, rfl, h1, h2⟩, rfl⟩ := hi
      omega)) I1 hp1 (fun i hi => by omega) (fun i σ' H' => (∃ x3 x4, σ' = [some (.ref p), some (.ref d), some (.ref l), x3, x4, none]) ∧ PoolAt H' p c ∧ Mo (fun b => b = p) H H' ∧ I H' ∧ ∃ L : Ld, LstD H' l (lds L) ∧ L.length = i) (fun H3 hI3 hp3 m3 => ?_) (fun i n σ' H' hn hi q => ?_) (fun n σ' H' hn q => ?_)
    · exact ⟨⟨_, _, rfl⟩, hp3, (Mo.ex e1).trans m3, hI3, [], hl.mo m3 nlp, rfl⟩
    · obtain ⟨⟨x3, x4, rfl⟩, hp', m', hI', L, hL1, hL2⟩ := q
      refine k_asg (I := I) (k_op (g := fun i j => i + j) (k_op (g := fun i j => i + j) (k_ev hS (fun _ hI => gP rfl hI)) (k_ev hS (fun _ _ => ev_c (v := .int 1)))) (k_take rfl (k_max (k_ev hS (fun _ _ => ev_c (v := .int 1))) (k_min (k_op (g := fun i j => i - j) (k_ev hS (fun _ _ => ev_c (v := .int 11))) (k_ev hS (fun _ hI => gP rfl hI))) (k_pick (xs := [3, 11]) hS (fun H _ => ea_cons ev_c (ea_one ev_c)) (by decide) (k_take rfl (k_ev hS (fun _ _ => ev_c (v := .int 2))) (fun i hi => by omega) hS) (fun i hi => by
        obtain ⟨n, rfl, h1, h2⟩ := hi
        exact ⟨h1, h2⟩)))) (fun i hi => by
        obtain ⟨x, y, rfl, ⟨u, v, ⟨u2, v2, rfl, rfl, rfl⟩, hv, rfl⟩, rfl⟩ := hi
        have hv' : v = 3 ∨ v = 11 := by simpa using hv
        split <;> split at * <;> omega) hS)) hI' hp' fun stp H4 _ hI4 hp4 m4 => ?_
      refine k_app (I := I) rfl (hL1.mo m4 nlp) nlp (k_pair hS (k_take rfl (k_ev hS (fun _ hI => gL rfl hI)) (fun i hi => by omega) hS) (k_ev hS (fun _ _ => ev_var (v := .int stp) rfl))) hI4 hp4 (by rw [List.length_map]; omega) fun dd H5 H6 hd hI5 hp5 m5 m6 h6 => ?_
      obtain ⟨x, y, _, rfl, rfl⟩ := hd
      refine ⟨⟨_, _, rfl⟩, hp5.kp (m6.kp (P := 0)) nlp.symm nlc, ((m'.trans m4).trans m5).then m6 fun b z => .inr (by rw [z]; exact nl), hL hI5 m6, L ++ [(x, y)], ?_, by rw [List.length_append, hL2]; rfl⟩
      rw [lds, List.map_append]
      exact h6
    · obtain ⟨⟨x3, x4, rfl⟩, hp', m', hI', L, hL1, hL2⟩ := q
      refine k_asg (I := I) (k_take rfl (k_ev hS (fun _ _ => ev_c (v := .int 14))) (fun i hi => by omega) hS) hI' hp' fun wr H4 _ hI4 hp4 m4 => ?_
      have fin : ∀ {σ' : L2.St} {H' : Hp}, σ'[2]? = some (some (.ref l)) → PoolAt H' p c → Mo (fun b => b = p) H H' → (∃ L : Ld, LstD H' l (lds L) ∧ L.length ≤ 6) → tRet (tVar 2) { nx := fun _ H' => Q .non H', rt := Q } σ' H' := fun h0 hp m hL => by
        obtain ⟨L, h1, h2⟩ := hL
        exact ⟨_, h0, k l L _ m hp nl h1 h2⟩
      refine q_when (b := decide (wr < 2)) (et_cmp (g := fun i j => decide (i < j)) (ev_var rfl) ev_c) (fun _ H5 e5 => ?_) (fun _ H5 e5 => ?_)
      · refine k_app (I := I) rfl ((hL1.mo m4 nlp).ex e5) nlp (k_pickD (ds := [bD (-1, 3), bD ((S.stacks.length : Int), 11), bD (0, S.port), bD (0, 12)]) hS (fun H' hI => ead_cons (evd_pair (ev_un ev_c ru_neg) ev_c) (ead_cons (evd_pair (gL rfl hI) ev_c) (ead_cons (evd_pair ev_c (gP rfl hI)) (ead_cons (evd_pair ev_c ev_c) ead_nil)))) (by show 4 ≤ 1000; decide) (k_take rfl (k_ev hS (fun _ _ => ev_c (v := .int 4))) (fun i hi => by omega) hS) (fun i hi => by
          obtain ⟨n, rfl, h1, h2⟩ := hi
          exact ⟨h1, h2⟩)) (hS _ _ hI4 (.ex e5)) (hp4.ex' e5) (by rw [List.length_map]; omega) fun dd H6 H7 hd hI6 hp6 m6 m7 h7 => ?_
        have : ∃ x y, dd = bD (x, y) := by
          rcases List.mem_cons.mp hd with h | hd
          · exact ⟨_, _, h⟩
          rcases List.mem_cons.mp hd with h | hd
          · exact ⟨_, _, h⟩
          rcases List.mem_cons.mp hd with h | hd
          · exact ⟨_, _, h⟩
          · exact ⟨_, _, List.mem_singleton.mp hd⟩
        obtain ⟨x, y, rfl⟩ := this
        refine fin rfl (hp6.kp (m7.kp (P := 0)) nlp.symm nlc) ((((m'.trans m4).step e5).trans m6).then m7 fun b z => .inr (by rw [z]; exact nl)) ⟨L ++ [(x, y)], ?_, by rw [List.length_append, hL2]; show _ + 1 ≤ 6; omega⟩
        rw [lds, List.map_append]
        exact h7
      · exact fin rfl (hp4.ex' e5) ((m'.trans m4).step e5) ⟨L, (hL1.mo m4 nlp).ex e5, by omega⟩
end
end Q
/-! _law_told -/
namespace Q
open PySem PySem.Spec PyProof.Rows L2 Evl LamX QM
/-- o.m(..) where what is raised is wished for at the caller's slots -/
def tMethAt (C : Addr) (m : Str) (sp : Sp) (E : L2.St → XK) (ta : TE) (t : TA) : TE := fun σ H Q => ta σ H fun x H1 => ∃ a dx fs, x = .ref a ∧ H1 a = some (.ins C dx fs) ∧ fs.lookup m = none ∧ t σ H1 fun vs H2 => sp (x :: vs) H2 Q (E σ)
section
variable {X : Cx} {CX : CXT} {k : Nat} {f C : Addr} {fd : FuncData} {ps : List Str} {sp : Sp} {E : L2.St → XK} {m : Str} {apos pos : Pos} {e o : Expr} {es : List Expr} {ta : TE} {t : TA}
theorem pe_methAt {pl : Sem Bool} (he : PE X o ta) (c : Cls X.K C) (hm : Meth X.K C m f) (F : FnOk X.prog X.w X.K X.mg X.base CX k f fd ps sp) (hr : Room k X.A) (hb : Binds X.K fd ps []) (hx : ∀ σ, PassesAt CX X σ (E σ)) (ha : PA X (e :: es) t)
    (hst : starEach (e :: es) X.env = (false, eval e X.env) :: starEach es X.env := by rfl) (hpl : (backTo pos (starEach es X.env)).any (·.1) = false := by rfl)
    (ht : eval (.Call (.Attribute o m apos) (e :: es) [] pos) X.env = (do
      let ov ← eval o X.env
      standAt apos.atName
      let (f, first) ← holding [ov] (getMethod ov m pl)
      callWith pos f first (backTo pos (starEach (e :: es) X.env)) (backToKw pos (keywordEach [] X.env))) := by rfl) :
    PE X (.Call (.Attribute o m apos) (e :: es) [] pos) (tMethAt C m sp E ta t) := by
  refine ⟨fun pins s σ H Q I h => ?_⟩
  refine PySem.W.methodCall_KW (pl := pl) (thn (he.run pins s σ H _ I h) fun u s1 ⟨x, H1, I1, rx, a, dx, fs, ex, ea, l, q⟩ => ?_) ht
  subst ex
  obtain rfl : u = Value.ref a := rx
  refine getmeth_ok I1 ea c hm l ?_
  refine PySem.W.callWith_K (first := [.ref a]) (h₀ := X.base) I.ok.mod.kin hm.kp (thn (ha.run pos pins s1 σ H1 _ I1 q) fun us s2 ⟨vs, H2, I2, r, q2⟩ => ⟨I2.kIn, ?_⟩) hst hpl
  exact run_fnS (us := .ref a :: us) (vs := .ref a :: vs) F hr hb (hx σ) I2 (.cons rfl r) q2
theorem pe_methAt0 {pl : Sem Bool} (he : PE X o ta) (c : Cls X.K C) (hm : Meth X.K C m f) (F : FnOk X.prog X.w X.K X.mg X.base CX k f fd ps sp) (hr : Room k X.A) (hb : Binds X.K fd ps []) (hx : ∀ σ, PassesAt CX X σ (E σ))
    (ht : eval (.Call (.Attribute o m apos) [] [] pos) X.env = (do
      let ov ← eval o X.env
      standAt apos.atName
      let (f, first) ← holding [ov] (getMethod ov m pl)
      callWith pos f first (backTo pos (starEach [] X.env)) (backToKw pos (keywordEach [] X.env))) := by rfl) :
    PE X (.Call (.Attribute o m apos) [] [] pos) (tMethAt C m sp E ta tNil) := by
  refine ⟨fun pins s σ H Q I h => ?_⟩
  refine PySem.W.methodCall_KW (pl := pl) (thn (he.run pins s σ H _ I h) fun u s1 ⟨x, H1, I1, rx, a, dx, fs, ex, ea, l, q⟩ => ?_) ht
  subst ex
  obtain rfl : u = Value.ref a := rx
  refine getmeth_ok I1 ea c hm l ?_
  exact PySem.W.callWith_K0 (first := [.ref a]) I1.kIn hm.kp (run_fnS (us := [.ref a]) (vs := [.ref a]) F hr hb (hx σ) I1 (.cons rfl .nil) q)
/-- a suite that is run under a condition only -/
theorem pss_if {X : Cx} {b : List Stmt} {p : Prop} {t : TS} (h : p → PSs X b t) : PSs X b (fun D σ H => p ∧ t D σ H) := ⟨fun pins s σ H D I q => (h q.1).run pins s σ H D I q.2⟩
end
/-- what the clauses of _law_told ask of the classes -/
structure TryTxt (K : PySem.W.Frag) (mg : Str → Option Value) (a : Ads) : Prop where
  gQ : mg "QuayError" = some (.ref a.cQuay)
  eC : ExcC K a.cOver
  kit : PySem.W.kitOne K (.ref a.cOver) (.ref a.cQuay) = some true
  oo : PySem.W.exmOne K (.ref a.cOver) (.ref a.cOver) = some true
  bo : PySem.W.exmOne K (.ref a.cBad) (.ref a.cOver) = some false
  bb : PySem.W.exmOne K (.ref a.cBad) (.ref a.cBad) = some true
  mo : PySem.W.exmOne K (.ref a.cMany) (.ref a.cOver) = some false
  mb : PySem.W.exmOne K (.ref a.cMany) (.ref a.cBad) = some false
  mm : PySem.W.exmOne K (.ref a.cMany) (.ref a.cMany) = some true
  fo : PySem.W.exmOne K (.ref a.cFull) (.ref a.cOver) = some false
  fb : PySem.W.exmOne K (.ref a.cFull) (.ref a.cBad) = some false
  fm : PySem.W.exmOne K (.ref a.cFull) (.ref a.cMany) = some false
  ff : PySem.W.exmOne K (.ref a.cFull) (.ref a.cFull) = some true
theorem xfC_of {P : Program} {K : PySem.W.Frag} {mg : Str → Option Value} {st : Stmt} {q x f : Str} {C fI : Addr} (T : QX.SupTxt P K mg st q x f C fI) : XfC K C := ⟨T.ga, T.gg, T.exC, T.hdC⟩
def spTold (a : Ads) : Sp := fun vs H Q _ => ∃ (v l lb ll : Addr) (as : List Addr) (S : Ship) (x : V) (res : Dat × Ship), vs = [.ref v, x] ∧ VoyAt a.cV H v l lb ll as S ∧ Wf S ∧ TabS H a.kP lamQ ∧
  ((x = .non ∧ res = resSail S) ∨ ∃ (ld : Addr) (ls : Ld), x = .ref ld ∧ LstD H ld (lds ls) ∧ ls.length ≤ 1000 ∧ ¬ VOw v l lb ll as ld ∧ res = resLoad S ls) ∧
  ∀ (t : V) (as' : List Addr) (H' : Hp), Kp a.kP (VOw v l lb ll as) H H' → VoyAt a.cV H' v l lb ll as' res.2 → (∀ b ∈ as', b ∈ as ∨ H b = none) → DAt H' t res.1 → Q t H'
section
variable {P : Program} {w : World} {K : PySem.W.Frag} {mg : Str → Option Value} {base : Heap} {a : Ads}
/-- the suites' readings -/
def ts1 (K : PySem.W.Frag) (a : Ads) : Addr → Value → Option Addr → TS := fun e cls d => fun D σ H => (cls = .ref a.cOver ∧ d = none) ∧ tRet (tIf (tB (tCB (rIsE K a.cOver e) (tCons (tVar 2) (tCons (tC (.ref a.cQuay)) tNil)))) (tC (.str "over")) (tC .non)) D σ H
def ts2 (a : Ads) : Addr → Value → Option Addr → TS := fun e cls d => tRet (tTup (tCons (tC (.str "bad")) (tCons (tXf e cls d a.cBad "box" (tVar 2)) tNil)))
def ts3 : Addr → Value → Option Addr → TS := fun _ _ _ => tRet (tC (.str "many"))
def ts4 (a : Ads) : Addr → Value → Option Addr → TS := fun e cls d => tRet (tTup (tCons (tC (.str "full")) (tCons (tXf e cls d a.cFull "stack" (tVar 2)) tNil)))
def clsT (K : PySem.W.Frag) (a : Ads) : List QX.Cl := [⟨.ref a.cOver, some 2, ts1 K a⟩, ⟨.ref a.cBad, some 2, ts2 a⟩, ⟨.ref a.cMany, none, ts3⟩, ⟨.ref a.cFull, some 2, ts4 a⟩]
def tbT (a : Ads) (W : WX) : TS := tRet (tIf (tTest (tOp (fun x y H Q => y = .non ∧ Q (.bl (decide (x = .non))) H) (tVar 1) (tC .non))) (tMethAt a.cV "sail" (spSail a) (WE W) (tVar 0) tNil) (tMethAt a.cV "load" (spLoad a) (WE W) (tVar 0) (tCons (tVar 1) tNil)))
theorem ok_told (T : Txt K mg a) (Et : ErrTxt P K mg a) (Tt : TryTxt K mg a) (F : FunC K "loading" "loading" sLoading a.aLoading a.fLoading a.kc a.kP) (TB : TabB base mg a.kc a.kP) : FnOk P w K mg base CX0 5 a.aTold a.fTold ["_law_voyage", "_law_loads_here"] (spTold a) := by
  have GSail : FnOk P w K mg base (L2.CX P w) 2 a.aSail a.fSail ["self"] (spSail a) := ok_sail T Et
  have GLoad : FnOk P w K mg base (L2.CX P w) 4 a.aLoad a.fLoad ["self", "loads"] (spLoad a) := ok_load T Et F TB
  refine T.FTold.ok scTold (fun vs H Q E h => ?_) (fun cdv A outer s H vs Q E hr h => ⟨fun D σ H => tbT a (QX.wCls K (fun _ _ _ _ => False) D (clsT K a)) D σ H, ?_, ?_⟩)
  · obtain ⟨v, l, lb, ll, as, S, x, res, rfl, _⟩ := h
    rfl
  · refine pss_one (QX.ps_try_cls (l := clsT K a) (tb := tbT a) rfl rfl scTold.nd L2.takes0 (fun W pn xe tkW hW => pss_one (ps_ret (pe_ifExp (pt_cmpR op_isN (pv 1) pe_non (nomark _))
      (pe_methAt0 (pv 0) T.clV T.mSail GSail (hr.mono (by decide)) T.bSail (fun σ => passAt tkW σ)) (pe_methAt (pv 0) T.clV T.mLoad GLoad hr T.bLoad (fun σ => passAt tkW σ) (pa_cons (pv 1) pa_nil))))) ?_)
    refine .cons ⟨by rfl, by decide, .inl Et.gO⟩ ⟨rfl, rfl⟩ (fun e oe cls d pn hz hf => pss_if fun hc => ?_) (.cons ⟨by rfl, by decide, .inl Et.bad.gC⟩ ⟨rfl, rfl⟩ (fun e oe cls d pn hz hf => ?_) (.cons ⟨by rfl, by decide, .inl Et.gM⟩ trivial (fun e oe cls d pn hz hf => ?_) (.cons ⟨by rfl, by decide, .inl Et.full.gC⟩ ⟨rfl, rfl⟩ (fun e oe cls d pn hz hf => ?_) .nil)))
    · obtain ⟨rfl, rfl⟩ := hc
      exact pss_one (ps_ret (pe_ifExp (pt_val (pe_callB (call_isE Tt.eC hz hf) (by rfl) T.zisinstance (by decide +kernel) (pa_cons (pv 2) (pa_cons (pe_glob (v := .ref a.cQuay) (by rfl) Tt.gQ rfl) pa_nil)))) pe_str pe_non))
    · exact pss_one (ps_ret (pe_tup (pa_cons pe_str (pa_cons (pe_xf (xfC_of Et.bad) Et.bad.noN hz hf (pv 2)) pa_nil))))
    · exact pss_one (ps_ret pe_str)
    · exact pss_one (ps_ret (pe_tup (pa_cons pe_str (pa_cons (pe_xf (xfC_of Et.full) Et.full.noN hz hf (pv 2)) pa_nil))))
  · obtain ⟨v, l, lb, ll, as, S, x, res, rfl, Va, W, hT, hres, k⟩ := h
    obtain ⟨dx, hob⟩ := Va.ob
    -- what the clauses make of the error that is due
    have hE : ∀ (er : Er), res = (erD er, S) → raisesEr a (WE (QX.wCls K (fun _ _ _ _ => False) { nx := fun _ H' => Q .non H', rt := Q } (clsT K a)) [some (.ref v), some x, none]) H er := fun er hr2 => by
      have fin : ∀ {t : V} {H' : Hp}, Ex H H' → DAt H' t (erD er) → Q t H' := fun {t H'} e ht => k t as H' (.ex e) (by rw [hr2]; exact Va.ex e) (fun b hb => .inl hb) (by rw [hr2]; exact ht)
      cases er with
      | over =>
        intro H' e
        refine ⟨true, Tt.oo, fun _ e1 ne1 => ⟨⟨rfl, rfl⟩, ?_⟩, fun z => nomatch z⟩
        exact ⟨_, rfl, _, .ref a.cQuay, true, rfl, fun u hu => hu, Tt.kit, true, rfl, fin e (.str _)⟩
      | bad i =>
        intro d H' e hd
        refine ⟨false, Tt.bo, (fun z => nomatch z), fun _ => ⟨true, Tt.bb, fun _ e1 ne1 => ?_, fun z => nomatch z⟩⟩
        refine ⟨_, rfl, rfl, rfl, d, _, nV i, rfl, hd, rfl, by show 2 ≤ sizeLine; decide, fun p hp => ?_⟩
        exact fin (e.trans (Ex.new hp)) (.tup upd_same (.cons (.str _) (.cons (.int _) .nil)))
      | many =>
        intro H' e
        refine ⟨false, Tt.mo, (fun z => nomatch z), fun _ => ⟨false, Tt.mb, (fun z => nomatch z), fun _ => ⟨true, Tt.mm, fun _ e1 ne1 => ?_, fun z => nomatch z⟩⟩⟩
        exact fin e (.str _)
      | full i =>
        intro d H' e hd
        refine ⟨false, Tt.fo, (fun z => nomatch z), fun _ => ⟨false, Tt.fb, (fun z => nomatch z), fun _ => ⟨false, Tt.fm, (fun z => nomatch z), fun _ => ⟨true, Tt.ff, fun _ e1 ne1 => ?_, fun z => nomatch z⟩⟩⟩⟩
        refine ⟨_, rfl, rfl, rfl, d, _, nV i, rfl, hd, rfl, by show 2 ≤ sizeLine; decide, fun p hp => ?_⟩
        exact fin (e.trans (Ex.new hp)) (.tup upd_same (.cons (.str _) (.cons (.int _) .nil)))
    rcases hres with ⟨rfl, hr2⟩ | ⟨ld, ls, rfl, hls, hln, nld, hr2⟩
    · refine ⟨_, rfl, rfl, true, rfl, iteT ?_⟩
      refine ⟨_, rfl, v, dx, _, rfl, hob, vfs_mSail, v, l, lb, ll, as, S, rfl, Va, W, fun hp => hE .over ?_, fun hp t as' H' kp Va' has ht => ?_⟩
      · rw [hr2]
        unfold resSail
        rw [if_pos hp]
        rfl
      · have hr3 : res = (.tup (evs (sailE S S.stacks.length)), sil S) := by rw [hr2]; unfold resSail; rw [if_neg hp]
        exact k t as' H' kp (by rw [hr3]; exact Va') has (by rw [hr3]; exact ht)
    · refine ⟨_, rfl, rfl, false, rfl, iteF ?_⟩
      refine ⟨_, rfl, v, dx, _, rfl, hob, vfs_mLoad, _, rfl, v, l, lb, ll, ld, as, S, ls, rfl, Va, hls, hln, W, hT, nld, fun er hc => hE er ?_, fun hc t H' kp Va' ht => ?_⟩
      · rw [hr2]
        unfold resLoad
        rw [hc]
      · have hr3 : res = (.tup (evs (lodE S ls S.stacks.length)), lod S ls) := by rw [hr2]; unfold resLoad; rw [hc]
        exact k t as H' kp (by rw [hr3]; exact Va') (fun b hb => .inl hb) (by rw [hr3]; exact ht)
end
end Q
/-! l.extend(t), t a tuple -/
namespace PySem.AutoSeq1
open PySem PySem.Spec PyProof.Rows
/-- what l.extend(t) does to the heap, t a tuple, of whatever dict and slots -/
theorem qx_extend {l b : Addr} {xs ys : Array Value} {n n2 : Nat} {od : Option Addr} {osl : Array (Option Value)} (short : ¬(!xs.isEmpty && Builtin.List.listTooLong (xs.size + ys.size)) = true) (fits : xs.size ≤ sizeLine) (both : xs.size + ys.size ≤ sizeLine + 1) :
    Meets (Builtin.«list.extend» ⟨[.ref l, .ref b], []⟩) (fun _ R t => t.heap.get? l = some { cls := .type "list", dict := none, data := .seq xs n, slots := #[] } ∧ t.heap.get? b = some { cls := .type "tuple", dict := od, data := .seq ys n2, slots := osl } ∧
      R (.ok (.ret Value.none)) { t with heap := t.heap.update l (Obj.mapSeq fun x => x ++ ys), toks := t.toks }) :=
  .of_wp fun P W A₀ R₀ t pre => by
    obtain ⟨heap, gens, drawn, toks, os⟩ := t
    obtain ⟨atL, atT, done⟩ := pre
    have few : (xs ++ ys).size ≤ sizeLine + 1 := Array.size_append ▸ both
    have isInt := idx_int
    have isTup := sub_tuple_tuple
    have isLst := sub_list_list
    have noLst := sub_tuple_list
    have noTup := sub_list_tuple
    wp_walk using (wpAny_updateSeq atL rfl (hz := fits) (_hz' := few)), wpAny_loadPart' atL, wpAny_loadPart' atT
    exact ⟨_, rfl, done⟩
end PySem.AutoSeq1
namespace Q
open PySem PySem.Spec PyProof.Rows L2 Evl LamX QM
def rExtendT (K : PySem.W.Frag) : V → List V → Hp → VK → Prop := fun x vs H Q => ∃ l b xs zs, x = .ref l ∧ vs = [.ref b] ∧ H l = some (.lst xs) ∧ SqT K H b zs ∧ xs.length + zs.length ≤ sizeLine ∧ Q .non (upd H l (.lst (xs ++ zs)))
theorem mt_extendT {X : Cx} : MtM X "list.extend" (rExtendT X.K) := by
  rintro pins t σ H _ _ v us Q I rx rv ⟨l, b, xs, zs, rfl, rfl, atL, isT, room, then_⟩
  cases rx
  obtain ⟨_, rfl, ⟨⟩⟩ := rv.one
  obtain ⟨_, old, n, relL, lenL, objL⟩ := I.lstM atL
  obtain ⟨add, relT, ⟨⟨cT, oT, dT, sT⟩, objT, clsT, nT, datT⟩, lenT⟩ := I.tuple isT
  cases (show cT = _ from clsT)
  cases (show dT = _ from datT)
  have nL := relL.length
  have nZ := relT.length
  have sum : old.toArray.size + add.toArray.size ≤ sizeLine := by simp only [List.size_toArray]; omega
  have meets := AutoSeq1.qx_extend (l := l) (b := b) (n := n) (n2 := nT) (od := oT) (osl := sT) (xs := old.toArray) (ys := add.toArray) (by rw [notLongL sum]; simp) (by omega) (by omega)
  refine call_meets F.slot_list_extend ⟨_, objL, rfl⟩ F.entry_list_extend (F.args_list_extend_2 _ _) meets ⟨objL, objT, .non, _, I.lset (its' := old ++ add) atL objL (by simp) (relL.append relT) ?_, rfl, then_⟩
  simpa using room
theorem extT {X : Cx} (K : PySem.W.Frag) (h : X.K = K := by rfl) : MtR X "list.extend" (rExtendT K) := by
  subst h
  exact mt_extendT
abbrev scInSeen : Scope := { kind := .function, names := [(".0", .local), ("_law_k", .cell), ("len", .globalImplicit), ("_law_box", .free)], isGenerator := false, isCoroutine := false, more := [] }
theorem relab_lookup (c : Str → NameKind → Bool) (x : Str) : ∀ names : List (Str × NameKind), (names.map fun (n, k) => if c n k = true then (n, NameKind.cell) else (n, k)).lookup x = (names.lookup x).map fun k => if c x k = true then NameKind.cell else k
  | [] => rfl
  | (n, k) :: r => by
    have ih := relab_lookup c x r
    show List.lookup x ((if c n k = true then (n, NameKind.cell) else (n, k)) :: _) = _
    cases hx : x == n with
    | true =>
      have hn : x = n := by simpa using hx
      subst hn
      cases hc : c x k <;> simp [List.lookup_cons, hc]
    | false =>
      cases hc : c n k <;> simp [List.lookup_cons, hx, ih]
theorem blkOk_rel {N : List Str} {sc scope : Scope} {own : List (Str × Nat)} {env : Env} (h : blkC N sc scope own = true) : BlkOk N (relabel sc env) scope own := by
  have b := blkOk_by h
  refine ⟨b.kind, b.uniq, b.ix, fun y hy e => ?_, b.own⟩
  have hl := relab_lookup (fun n k => k == NameKind.free && env.scope.kind == .function && env.kindOf n == some .cell) y.1 sc.names
  show List.lookup y.1 (sc.names.map _) = _ ∨ List.lookup y.1 (sc.names.map _) = _
  rcases b.free y hy e with q | q
  · rw [q] at hl
    left
    refine hl.trans ?_
    simp
  · rw [q] at hl
    cases hc : ((NameKind.free == NameKind.free && env.scope.kind == .function && env.kindOf y.1 == some .cell)) with
    | true =>
      left
      refine hl.trans ?_
      simp only [Option.map_some]
      rw [if_pos hc]
    | false =>
      right
      refine hl.trans ?_
      simp only [Option.map_some]
      rw [if_neg (by rw [hc]; decide)]
end Q
/-! _law_seen -/
namespace Q
open PySem PySem.Spec PyProof.Rows L2 Evl LamX QM
def spSeen (a : Ads) : Sp := fun vs H Q _ => ∃ (v l lb ll d : Addr) (as : List Addr) (Z : Addr → Prop) (S : Ship), vs = [.ref v, .ref d] ∧ VoyAt a.cV H v l lb ll as S ∧ DictAt Z H d S ∧ Wf S ∧ ∀ H', Ex H H' → Q (.bl true) H'
section
variable {P : Program} {w : World} {K : PySem.W.Frag} {mg : Str → Option Value} {base : Heap} {a : Ads}
theorem eld_sortedP {σ : L2.St} {H : Hp} {te : TE} {ns ms : List Nat} (hq : ns.Perm ms) (hp : ms.Pairwise (· < ·)) (h : EvLs te σ H (ns.map dn)) : EvLD (tCB (rSortedI K) (tCons te tNil)) σ H (ms.map dn) := fun H1 e Q q => h H1 e _ fun l H2 e2 hl => by
  refine ⟨l, ns.map fun n : Nat => (n : Int), rfl, sq_of ?_, fun ns' p hpm hpw hp' => ?_⟩
  · have := hl.nats
    rw [this, List.map_map]
    rfl
  · have : ns' = ms.map fun n : Nat => (n : Int) := by
      refine List.Perm.eq_of_pairwise (le := fun a b : Int => a ≤ b) (fun a b _ _ h1 h2 => Int.le_antisymm h1 h2) hpw ?_ (hpm.trans (hq.map _))
      rw [List.pairwise_map]
      exact hp.imp fun {a b} h => by omega
    rw [this]
    refine q p _ (fresh_back e2 hp') (e2.trans (Ex.new hp')) ⟨_, upd_same, ?_⟩
    rw [List.map_map]
    exact .ofNats ms
/-- for x in t, t a tuple that is made on the way -/
theorem q_forTD {σ : L2.St} {H : Hp} {tl : TE} {g : TG} {tu tz : TS} {D : Ends} {ds : List Dat} (h : EvD tl σ H (.tup ds)) (Pv : Nat → L2.St → Hp → Prop) (h0 : ∀ H1, Ex H H1 → Pv 0 σ H1) (hk : ∀ i σ' H', Pv i σ' H' → ∀ H1, Ex H H1 → True)
    (hs : ∀ i x d σ' H', ds[i]? = some d → DAt H' x d → Pv i σ' H' → g x σ' H' fun σ2 H2 => tu { D with nx := fun σ3 H3 => TK H' H3 ∧ Pv (i + 1) σ3 H3, ct := fun σ3 H3 => TK H' H3 ∧ Pv (i + 1) σ3 H3, bk := tz D } σ2 H2) (hd : ∀ σ' H', Pv ds.length σ' H' → tz D σ' H') : tSeq (tFor (iTup K tl) g tu) tz D σ H :=
  h H (Ex.refl H) _ fun v H1 e1 hv => by
    obtain ⟨t, xs, rfl, ht, hxd⟩ := hv.t
    refine ⟨t, rfl, ⟨xs, st_of ht⟩, fun i m σ' H' => m = xs.length - i ∧ i ≤ xs.length ∧ TK H1 H' ∧ Pv i σ' H', ⟨xs.length, by simp, Nat.zero_le _, fun _ _ z => z, h0 H1 e1⟩, ?_⟩
    rintro i m σ' H' ⟨rfl, hi, tk, p⟩
    have q : SqT K H' t xs := st_of (tk _ _ ht)
    by_cases hlt : i < xs.length
    · refine .inr ⟨⟨xs, xs[i], q, by simp [hlt]⟩, fun σ3 H3 => TK H' H3 ∧ Pv (i + 1) σ3 H3, fun σ3 H3 p' => ⟨xs.length - (i + 1), by omega, rfl, hlt, fun b ys z => p'.1 _ _ (tk _ _ z), p'.2⟩, fun x H2 y => ?_⟩
      obtain ⟨e, y⟩ := y
      subst e
      have hx := y xs q
      obtain ⟨d, hdi, hxx⟩ := hxd.get' hx
      exact hs i x d σ' _ hdi (hxx.tk tk) p
    · have e : i = xs.length := by omega
      subst e
      rw [hxd.length] at p
      exact .inl ⟨⟨xs, q, Nat.le_refl _⟩, hd σ' H' p⟩
theorem s_extT {σ : L2.St} {H : Hp} {ta te : TE} {D : Ends} {l : Addr} {ds es : List Dat} (hl : LstD H l ds) (ha : Ev ta σ H (.ref l)) (h : EvD te σ H (.tup es)) (hz : ds.length + es.length ≤ 100000) (k : ∀ H1, Mo (fun b => b = l) H H1 → LstD H1 l (ds ++ es) → D.nx σ H1) :
    tDrop (tBM K "list" (rExtendT K) ta (tCons te tNil)) D σ H := ha H (Ex.refl H) _ fun H1 e1 => by
  obtain ⟨xs, h1, h2⟩ := hl.ex e1
  refine ⟨Or.inl ⟨rfl, xs, sq_of h1⟩, h H1 e1 _ fun v H2 e2 hv => ?_⟩
  have h1' := e2 _ _ h1
  obtain ⟨t, ys, rfl, g1, g2⟩ := hv.t
  exact ⟨l, t, xs, ys, rfl, rfl, h1', st_of g1, sz_of (by rw [h2.length, g2.length]; exact hz), k _ ((Mo.ex (e1.trans e2)).updL h1' (.inl rfl)) ⟨_, upd_same, ((h2.tk (.ex e2)).app g2).tk (.upd h1')⟩⟩
theorem all_seen {σ : L2.St} {H : Hp} {te tl : TE} {j : Nat} {vs : List Nat} {ds : List Dat} (h : EvD tl σ H (.tup ds)) (hz : ds.length ≤ 40000) (hw : ∀ x, wipe ((wipe σ vs).set j (some x)) vs = wipe σ vs) (he : ∀ (x : V) (d : Dat) H1, Ex H H1 → d ∈ ds → DAt H1 x d → Ev te ((wipe σ vs).set j (some x)) H1 (.bl true)) :
    EvL (tLc (iTup K tl) (gName j) tYes te vs) σ H ((List.replicate ds.length true).map V.bl) := fun H0 e Q q => h H0 e _ fun v H1 e1 hv => by
  obtain ⟨t, xs, rfl, ht, hd⟩ := hv.t
  refine ⟨t, rfl, ⟨xs, st_of ht⟩, fun Dl hD => ?_⟩
  refine lc_tup (xs := xs) (fun i H' => H1 Dl = none ∧ Ex H1 H' ∧ H' Dl = some (.lst ((List.replicate i true).map V.bl))) ⟨hD, Ex.new hD, upd_same⟩ (fun i H' _ p => st_of (p.2.1 _ _ ht)) (fun i x H' hi p => ⟨hw x, ?_⟩) (fun H' p => ?_)
  · obtain ⟨p1, p2, p3⟩ := p
    obtain ⟨d, hdi, hx⟩ := hd.get' hi
    unfold tYes
    show (if true = true then _ else _)
    rw [if_pos rfl]
    refine he x d H' ((e.trans e1).trans p2) (List.mem_of_getElem? hdi) (hx.tk (.ex p2)) H' (Ex.refl _) _ fun H2 e2 => ?_
    have hil : i < ds.length := (List.getElem?_eq_some_iff.mp hdi).1
    refine ⟨_, e2 _ _ p3, sz_lt (by rw [List.length_map, List.length_replicate]; omega), p1, Ex.mut (p2.trans e2) p1, ?_⟩
    rw [upd_same, List.replicate_succ', List.map_append]
    rfl
  · obtain ⟨p1, p2, p3⟩ := p
    rw [hd.length] at p3
    exact q Dl H' (fresh_back e1 p1) (e1.trans p2) p3
theorem sz_nats (k : Nat) (ns : List Nat) (h : ns.length ≤ 40000) : Sz (k + 1) (.tup (ns.map dn)) := by
  refine ⟨by rw [List.length_map]; exact h, fun d hd => ?_⟩
  obtain ⟨n, _, rfl⟩ := List.mem_map.mp hd
  cases k <;> exact trivial
theorem paired_refl {E : V → V → Prop} (h : ∀ x, E x x) : ∀ xs : List V, Paired E xs xs
  | [] => .nil
  | x :: r => .cons (h x) (paired_refl h r)
theorem paired_ints {E : V → V → Prop} (h : ∀ n : Nat, E (nV n) (nV n)) : ∀ ns : List Nat, Paired E (ns.map nV) (ns.map nV)
  | [] => .nil
  | n :: r => .cons (h n) (paired_ints h r)
theorem ok_seen (T : Txt K mg a) : FnOk P w K mg base CX0 6 a.aSeen a.fSeen ["_law_voyage", "_law_box"] (spSeen a) := by
  have GStacks : FnOk P w K mg base CX0 1 a.aStacks a.fStacks ["self"] (spStacks a) := ok_stacks T
  have GLifts : FnOk P w K mg base CX0 1 a.aLifts a.fLifts ["self"] (spLifts a) := ok_lifts T
  have GSame : FnOk P w K mg base CX0 5 a.aSame a.fSame ["_law_actual", "_law_due"] (spSame 3) := ok_same T 3
  refine T.FSeen.ok scSeen (fun vs H Q E h => ?_) (fun cdv A outer s H vs Q E hr h => ⟨_, (pss_cons (ps_setLc (i := 2) (own := [("_law_k", 9)]) (g := gName 9) (tt := tYes) rfl scSeen.nd rfl rfl (sw_true rfl rfl rfl (by decide +kernel)) (pi_range1 (by rfl) T.zrange (pa_cons (pe_callB (lenK K) (by rfl) T.zlen PySem.boot_len (pa_cons (pe_dget (hu_of hr) (pv 1) pe_str (fun _ _ => rfl)) pa_nil)) pa_nil)) (blkOk_by (N := nSeen) (sc := defScope sSeen) (by decide +kernel)) (fun _ _ _ _ _ => (pg_name (i := 9) scSeen.nd rfl (by first | exact .inl rfl | exact .inr rfl))) (fun _ _ _ _ _ => pts_nil) (fun _ _ _ _ _ => (pe_callB (lenK K) (by rfl) T.zlen PySem.boot_len (pa_cons (pe_lc (own := [("_law_one", 8)]) (g := gName 8) rfl scSeen.nd (pilK K (pe_dget (hu_of hr) (pv 1) pe_str (fun _ _ => rfl))) (blkOk_rel (N := nSeen) (sc := scInSeen) (by decide +kernel)) (fun _ _ _ _ _ => (pg_name (i := 8) scSeen.nd rfl (by first | exact .inl rfl | exact .inr rfl))) (fun _ _ _ _ _ => pts_one (pt_cmpR op_eq (pv 8) (pv 9) (nomark _))) (fun _ _ _ _ _ => (pv 8))) pa_nil))))
      (pss_cons (ps_set (i := 3) scSeen.nd rfl (by first | exact .inl rfl | exact .inr rfl) (pe_tup (pa_cons (pe_meth0 (pv 0) T.clV T.mStacks GStacks (hr.mono (by decide)) T.bStacks .nil pass0) (pa_cons (pe_meth0 (pv 0) T.clV T.mLifts GLifts (hr.mono (by decide)) T.bLifts .nil pass0) (pa_cons (fldK K (pv 0)) (pa_cons (fldK K (pv 0)) pa_nil))))))
      (pss_cons (ps_set (i := 5) scSeen.nd rfl (by first | exact .inl rfl | exact .inr rfl) (pe_tup (pa_cons (pe_callTy (tupK K) (by rfl) T.ztuple (by decide +kernel) (pa_cons (pe_lc (own := [("_law_stack", 4)]) (g := gName 4) (tt := tYes) rfl scSeen.nd (pilK K (pe_dget (hu_of hr) (pv 1) pe_str (fun _ _ => rfl))) (blkOk_by (N := nSeen) (sc := defScope sSeen) (by decide +kernel)) (fun _ _ _ _ _ => (pg_name (i := 4) scSeen.nd rfl (by first | exact .inl rfl | exact .inr rfl))) (fun _ _ _ _ _ => pts_nil) (fun _ _ _ _ _ => (pe_callTy (tupK K) (by rfl) T.ztuple (by decide +kernel) (pa_cons (pv 4) pa_nil)))) pa_nil)) (pa_cons (pe_callTy (tupK K) (by rfl) T.ztuple (by decide +kernel) (pa_cons (pv 2) pa_nil)) (pa_cons (pe_dget (hu_of hr) (pv 1) pe_str (fun _ _ => rfl)) (pa_cons (pe_dget (hu_of hr) (pv 1) pe_str (fun _ _ => rfl)) pa_nil))))))
      (pss_cons (ps_if (pt_not (pt_val (pe_call GSame (hr.mono (by decide)) (by rfl) T.gSame T.FSame.kp T.bSame .nil pass0 (pa_cons (pv 3) (pa_cons (pv 5) pa_nil))))) (pss_one (ps_ret pe_bl)) pss_nil)
      (pss_cons (ps_set (i := 6) scSeen.nd rfl (by first | exact .inl rfl | exact .inr rfl) (pe_lst pa_nil))
      (pss_cons (ps_for PassesOwn.never rfl (pitK K (pe_meth0 (pv 0) T.clV T.mStacks GStacks (hr.mono (by decide)) T.bStacks .nil pass0)) (pg_name (i := 4) scSeen.nd rfl (by first | exact .inl rfl | exact .inr rfl)) (pss_one (ps_expr (pe_bm PySem.F.plainAttrs_list PySem.F.slot_list_extend PySem.F.type_list_extend (extT K) (pv 6) (pa_cons (pv 4) pa_nil)))))
      (pss_cons (ps_setLc (i := 7) (own := [("_law_k", 9)]) (g := gName 9) rfl scSeen.nd rfl rfl (sw_true rfl rfl rfl (by decide +kernel)) (pi_range1 (by rfl) T.zrange (pa_cons (pe_callB (lenK K) (by rfl) T.zlen PySem.boot_len (pa_cons (pe_dget (hu_of hr) (pv 1) pe_str (fun _ _ => rfl)) pa_nil)) pa_nil)) (blkOk_by (N := nSeen) (sc := defScope sSeen) (by decide +kernel)) (fun _ _ _ _ _ => (pg_name (i := 9) scSeen.nd rfl (by first | exact .inl rfl | exact .inr rfl))) (fun _ _ _ _ _ => pts_one (pt_cmpR op_gt (pe_ix (ixt K) (pe_ix (ixl K) (pe_dget (hu_of hr) (pv 1) pe_str (fun _ _ => rfl)) (pv 9) (fun _ _ => rfl)) pe_int (fun _ _ => rfl)) (pe_dget (hu_of hr) (pv 1) pe_str (fun _ _ => rfl)) (nomark _))) (fun _ _ _ _ _ => (pv 9)))
      (pss_one (ps_ret (pe_and (pe_cmpR (op_eqV hr.units) (pe_callB cr_sortedI (by rfl) T.zsorted (by decide +kernel) (pa_cons (pv 6) pa_nil)) (pv 7) (nomark _)) (pe_one (pe_callB (cr_all rfl) (by rfl) T.zall (by decide +kernel) (pa_cons (pe_lc (own := [("_law_stack", 4)]) (g := gName 4) (tt := tYes) rfl scSeen.nd (pitK K (pe_meth0 (pv 0) T.clV T.mStacks GStacks (hr.mono (by decide)) T.bStacks .nil pass0)) (blkOk_by (N := nSeen) (sc := defScope sSeen) (by decide +kernel)) (fun _ _ _ _ _ => (pg_name (i := 4) scSeen.nd rfl (by first | exact .inl rfl | exact .inr rfl))) (fun _ _ _ _ _ => pts_nil) (fun _ _ _ _ _ => (pe_cmpR op_le (pe_callB (lenK K) (by rfl) T.zlen PySem.boot_len (pa_cons (pv 4) pa_nil)) (pe_dget (hu_of hr) (pv 1) pe_str (fun _ _ => rfl)) (nomark _)))) pa_nil))))))))))))), ?_⟩)
  · obtain ⟨v, l, lb, ll, d, as, Z, S, rfl, _⟩ := h
    rfl
  · obtain ⟨v, l, lb, ll, d, as, Z, S, rfl, Va, ⟨ls, db, df, das, D⟩, W, k⟩ := h
    obtain ⟨dx, hob⟩ := Va.ob
    have hnb := W.nb
    have hnl := W.nl
    have hp11 := W.p11
    have hns := W.ns
    have hlfl : S.lifted.length ≤ 660 := by omega
    have evS : ∀ {σ : L2.St} {H1 : Hp}, σ[0]? = some (some (.ref v)) → Ex H H1 → EvD (tMeth a.cV "stacks" (spStacks a) [] E0 (tVar 0) tNil) σ H1 (stD S.stacks) := fun h0 e H2 e2 Q q => ⟨_, h0, v, dx, _, rfl, (e.trans e2) _ _ hob, vfs_mStacks, v, l, lb, ll, as, S, rfl, Va.ex (e.trans e2), W, fun t H3 e3 ht => q t H3 e3 ht⟩
    have evL : ∀ {σ : L2.St} {H1 : Hp}, σ[0]? = some (some (.ref v)) → Ex H H1 → EvD (tMeth a.cV "lift_counts" (spLifts a) [] E0 (tVar 0) tNil) σ H1 (.tup ((cnts S.boxes.length S.lifted).map dn)) := fun h0 e H2 e2 Q q => ⟨_, h0, v, dx, _, rfl, (e.trans e2) _ _ hob, vfs_mLifts, v, l, lb, ll, as, S, rfl, Va.ex (e.trans e2), W, fun t H3 e3 ht => q t H3 e3 ht⟩
    have gB : ∀ {σ : L2.St} {H1 : Hp}, σ[1]? = some (some (.ref d)) → Ex H H1 → EvLs (tDGet (tVar 1) (tC (.str "boxes"))) σ H1 (bxs S.boxes) := fun h0 e => evs_v (ev_dget (ev_var h0) (e _ _ D.ob) dkv_boxes) (D.bx.ex e)
    have lenB : ∀ {σ : L2.St} {H1 : Hp}, σ[1]? = some (some (.ref d)) → Ex H H1 → Ev (tCB (rLenS K) (tCons (tDGet (tVar 1) (tC (.str "boxes"))) tNil)) σ H1 (nV S.boxes.length) := fun h0 e => by
      have q := ev_lenD (K := K) (gB h0 e)
      rw [List.length_map] at q
      exact q
    refine q_asgLD (ds := (cnts S.boxes.length S.lifted).map dn) ?_ fun ct H1 nct e1 hct => ?_
    · have q := eld_lcR (t := tYes) (te := tCB (rLenS K) (tCons (tLc (iList K (tDGet (tVar 1) (tC (.str "lifted")))) (gName 8) (tTest (tOp rEq (tVar 8) (tVar 9))) (tVar 8) [8]) tNil)) (j := 9) (vs := [9]) (σ := [some (.ref v), some (.ref d), none, none, none, none, none, none, none, none]) (H := H) (n := S.boxes.length)
        (fun _ => true) (fun k => dn (cnt S.lifted k)) (ea_one (lenB rfl (Ex.refl H))) (by omega) (fun x => rfl) (fun i H2 e2 hi => et_yes) (fun i H2 e2 hi _ => ?_)
      · have : givD S.boxes.length (fun _ => true) (fun k => dn (cnt S.lifted k)) = (cnts S.boxes.length S.lifted).map dn := by
          unfold givD cnts
          rw [filter_yes, List.map_map]
          rfl
        rw [this] at q
        exact q
      · have hlc : EvLD (tLc (iList K (tDGet (tVar 1) (tC (.str "lifted")))) (gName 8) (tTest (tOp rEq (tVar 8) (tVar 9))) (tVar 8) [8]) [some (.ref v), some (.ref d), none, none, none, none, none, none, none, some (nV i)] H2 ((S.lifted.filter fun n => decide (n = i)).map dn) := by
          refine eld_lcA 0 (e := dn) (fun n => decide (n = i)) dn (evs_v (ev_dget (ev_var rfl) (e2 _ _ D.ob) dkv_lifted) (.ofNats (e2 _ _ D.lf))) (by omega) (fun x => rfl) (fun x n H3 e3 hn hx => ?_) (fun x n H3 e3 hn hx _ => evd_var rfl hx)
          have hx := hx.i
          subst hx
          exact et_is (et_eqI (ev_var rfl) (ev_var rfl)) (decide_eq_decide.mpr (by omega))
        have q := ev_lenD (K := K) (evs_new hlc)
        rw [List.length_map] at q
        exact evd_i q
    have e1' := e1
    have szC : (cnts S.boxes.length S.lifted).length ≤ 60 := by rw [cnts_len]; omega
    have told := evd_tup (ead_cons (evS (σ := [some (.ref v), some (.ref d), some (.ref ct), none, none, none, none, none, none, none]) rfl e1) (ead_cons (evL rfl e1) (ead_cons (evd_i (ev_fld (ev_var (i := 0) rfl) (e1 _ _ hob) T.clV T.noPort vfs_port)) (ead_cons (evd_i (ev_fld (ev_var (i := 0) rfl) (e1 _ _ hob) T.clV T.noHeight vfs_height)) ead_nil)))) (by show 4 ≤ 100000; decide)
    refine q_asgD told fun tv H2 e2 htv => ?_
    have e12 := e1.trans e2
    have hdl : das.length = S.stacks.length := D.sk.len
    have hlc : EvLD (tLc (iList K (tDGet (tVar 1) (tC (.str "stacks")))) (gName 4) tYes (tCB (rTupS K) (tCons (tVar 4) tNil)) [4]) [some (.ref v), some (.ref d), some (.ref ct), some tv, none, none, none, none, none, none] H2 (S.stacks.map fun st => Dat.tup (st.map dn)) := by
      have q := eld_lcV (K := K) (tl := tDGet (tVar 1) (tC (.str "stacks"))) (t := tYes) (te := tCB (rTupS K) (tCons (tVar 4) tNil)) (j := 4) (vs := [4]) (σ := [some (.ref v), some (.ref d), some (.ref ct), some tv, none, none, none, none, none, none]) (H := H2) (fun _ => true) (fun i => Dat.tup ((stk S i).map dn)) (ev_dget (ev_var rfl) (e12 _ _ D.ob) dkv_stacks) (sq_of (e12 _ _ D.li)) (by rw [List.length_map]; omega) (fun x => rfl) (fun i x H1 e hx => et_yes) (fun i x H1 e hx _ => by
        rw [List.getElem?_map] at hx
        cases q : das[i]? with
        | none =>
          rw [q] at hx
          cases hx
        | some b =>
          rw [q] at hx
          cases hx
          obtain ⟨st, h1, h2⟩ := D.sk.get' q
          have : stk S i = st := by
            unfold stk
            simp [List.getD_eq_getElem?_getD, h1]
          rw [this]
          exact evd_tuple (evs_var rfl (.ofNats (e _ _ (e12 _ _ h2)))))
      have : givD (das.map V.ref).length (fun _ => true) (fun i => Dat.tup ((stk S i).map dn)) = S.stacks.map fun st => Dat.tup (st.map dn) := by
        rw [List.length_map, hdl]
        have g := givD_map S.stacks [] (fun _ => true) (fun st => Dat.tup (st.map dn))
        rw [filter_yes] at g
        exact g
      rw [this] at q
      exact q
    have due := evd_tup (ead_cons (evd_tuple (K := K) (evs_new hlc)) (ead_cons (evd_tuple (K := K) (evs_var (i := 2) rfl (hct.ex e2))) (ead_cons (evd_i (ev_dget (ev_var (i := 1) rfl) (e12 _ _ D.ob) dkv_port)) (ead_cons (evd_i (ev_dget (ev_var (i := 1) rfl) (e12 _ _ D.ob) dkv_height)) ead_nil)))) (by show 4 ≤ 100000; decide)
    refine q_asgD due fun dv H3 e3 hdv => ?_
    have e13 := e12.trans e3
    have htv3 := htv.tk (.ex e3)
    have hSz : Sz 3 (.tup [stD S.stacks, .tup ((cnts S.boxes.length S.lifted).map dn), .int S.port, .int S.height]) := by
      refine ⟨by show 4 ≤ 40000; decide, fun x hx => ?_⟩
      rcases List.mem_cons.mp hx with rfl | hx
      · refine ⟨by rw [List.length_map]; omega, fun y hy => ?_⟩
        obtain ⟨st, hst, rfl⟩ := List.mem_map.mp hy
        exact sz_nats 0 st (by have := W.len hst; omega)
      rcases List.mem_cons.mp hx with rfl | hx
      · exact sz_nats 1 _ (by omega)
      rcases List.mem_cons.mp hx with rfl | hx
      · exact trivial
      · rw [List.mem_singleton.mp hx]
        exact trivial
    refine q_when (b := false) (et_not (a := true) (et_test (ev_call (vs := [tv, dv]) (ea_cons (ev_var rfl) (ea_one (ev_var rfl))) fun H4 e4 Q' hQ E' => ⟨tv, dv, _, rfl, htv3.tk (.ex e4), hdv.tk (.ex e4), hSz, fun H5 e5 => hQ H5 e5⟩))) (fun z => by cases z) (fun _ H4 e4 => ?_)
    have e14 := e13.trans e4
    refine q_asgLD eld_nil fun sd H5 nsd e5 hsd => ?_
    have e15 := e14.trans e5
    have hfl := W.flat
    have hsdl : ∀ i, ((S.stacks.take i).flatten).length ≤ 60 := fun i => by
      have h1 : (S.stacks.take i).flatten.length ≤ S.stacks.flatten.length := by
        conv => rhs; rw [← List.take_append_drop i S.stacks, List.flatten_append, List.length_append]
        omega
      omega
    have nsd0 : H sd = none := fresh_back e14 nsd
    refine q_forTD (evS rfl e15) (fun i σ' H' => (∃ x4, σ' = [some (.ref v), some (.ref d), some (.ref ct), some tv, x4, some dv, some (.ref sd), none, none, none]) ∧ Ex H H' ∧ LstD H' sd (((S.stacks.take i).flatten).map dn)) (fun H6 e6 => ⟨⟨_, rfl⟩, e15.trans e6, hsd.ex e6⟩) (fun _ _ _ _ _ _ => trivial) (fun i x dd σ' H' hi hx p => ?_) (fun σ' H' p => ?_)
    · obtain ⟨⟨x4, rfl⟩, e', hs'⟩ := p
      obtain ⟨rfl, hm, hil⟩ := map_get (z := ([] : List Nat)) hi
      have hst := W.len hm
      refine s_extT hs' (ev_var rfl) (evd_var rfl hx) (by rw [List.length_map, List.length_map]; have := hsdl i; omega) fun H6 m6 h6 => ⟨m6.tk, ⟨_, rfl⟩, Mo.back e' m6 fun b z => by rw [z]; exact nsd0, ?_⟩
      have : (S.stacks.take (i + 1)).flatten = (S.stacks.take i).flatten ++ S.stacks.getD i [] := by
        rw [List.take_add_one, show S.stacks[i]? = some (S.stacks.getD i []) from by simp [hil]]
        simp
      rw [this, List.map_append]
      exact h6
    · obtain ⟨⟨x4, rfl⟩, e', hs'⟩ := p
      rw [List.length_map, List.take_length] at hs'
      have hab : EvLD (tLc (iRng1 (tCons (tCB (rLenS K) (tCons (tDGet (tVar 1) (tC (.str "boxes"))) tNil)) tNil)) (gName 9) (tTest (tOp (rI0 fun i j => .bl (decide (i > j))) (tOp (rIxT K) (tOp (rIxL K) (tDGet (tVar 1) (tC (.str "boxes"))) (tVar 9)) (tC (.int 1))) (tDGet (tVar 1) (tC (.str "port"))))) (tVar 9) [9])
          [some (.ref v), some (.ref d), some (.ref ct), some tv, x4, some dv, some (.ref sd), none, none, none] H' (((List.range S.boxes.length).filter fun k => decide (toB S.boxes k > S.port)).map dn) := by
        refine eld_lcR (n := S.boxes.length) (fun k => decide (toB S.boxes k > S.port)) dn (ea_one (lenB rfl e')) (by omega) (fun x => rfl) (fun i H6 e6 hi => ?_) (fun i H6 e6 hi _ => evd_i (ev_var rfl))
        exact et_cmp (g := fun i j => decide (i > j)) (ev_i (evd_ixT (n := 1) (evd_ixL (gB rfl (e'.trans e6)) (ev_var rfl) (bx_at hi)) ev_c rfl)) (ev_dget (ev_var rfl) ((e'.trans e6) _ _ D.ob) dkv_port)
      refine q_asgLD hab fun ab H6 nab e6 hab6 => ?_
      have e06 := e'.trans e6
      have hlt : ((List.range S.boxes.length).filter fun k => decide (toB S.boxes k > S.port)).Pairwise (· < ·) := List.pairwise_filter.mpr (List.pairwise_lt_range.imp fun {a b} h _ _ => h)
      refine s_ret (v := .bl true) (ev_andV (a := true) (b := true) (fun H7 e7 Q' q => eld_sortedP W.perm hlt (evs_var (i := 6) rfl (hs'.ex e6)) H7 e7 _ fun p H8 np e8 hp => ?_) fun _ => ev_allT (all_seen (evS rfl e06) (by rw [List.length_map]; omega) (fun x => rfl) fun x dd H7 e7 hdd hx => ?_)) fun H7 e7 => k H7 (e06.trans e7)
      · exact ⟨_, rfl, 1, by decide, .inl ⟨p, ab, _, _, rfl, rfl, sq_of hp.nats, sq_of (hab6.nats |> fun z => (e7.trans e8) _ _ z), paired_ints (fun n => .inl ⟨rfl, rfl⟩) _⟩, q H8 e8⟩
      · obtain ⟨st, hst, rfl⟩ := List.mem_map.mp hdd
        have hl2 := W.low st hst
        refine ev_is (ev_op (ev_lenT (evd_var rfl hx)) (ev_dget (ev_var rfl) ((e06.trans e7) _ _ D.ob) dkv_height) (rv_I0 (g := fun i j => .bl (decide (i ≤ j))))) ?_
        rw [List.length_map]
        simp [hl2]
end
end Q
/-! A ship that is loaded by a plan makes the events of the voyage. -/
namespace QM
open PySem Q QL
def stB (B : Bx) (k : Nat) : Int := (B.getD k (0, 0)).1
def mB (B : Bx) (p : Int) : Nat := ((List.range B.length).filter fun k => decide (stB B k < p)).length
def idx (B : Bx) (p : Int) : List Nat := (List.range B.length).filter fun k => decide (stB B k = p)
def ldsP (B : Bx) (pl : List Nat) (p : Int) : Ld := (idx B p).map fun k => ((pl.getD k 0 : Int), toB B k)
structure Bok (B : Bx) (pl : List Nat) (n : Nat) : Prop where
  len : B.length ≤ 12
  pll : pl.length = B.length
  srt : ∀ i j, i < j → j < B.length → stB B i ≤ stB B j
  b : ∀ k < B.length, 0 ≤ stB B k ∧ stB B k ≤ 10 ∧ stB B k < toB B k ∧ 1 ≤ toB B k ∧ toB B k ≤ 11
  px : ∀ x ∈ pl, x < n
  n5 : n ≤ 5
theorem down_range {f : Nat → Bool} : ∀ n, (∀ i j, i < j → j < n → f j = true → f i = true) → (List.range n).filter f = List.range ((List.range n).filter f).length
  | 0, _ => rfl
  | n + 1, h => by
    have ih := down_range n fun i j hij hj => h i j hij (by omega)
    rw [List.range_succ, List.filter_append]
    cases hf : f n with
    | true =>
      have hall : (List.range n).filter f = List.range n := List.filter_eq_self.mpr fun k hk => h k n (List.mem_range.mp hk) (by omega) hf
      rw [hall, List.filter_cons, if_pos hf, List.filter_nil, List.length_append, List.length_range]
      exact List.range_succ.symm
    | false =>
      rw [List.filter_cons, if_neg (by rw [hf]; decide), List.filter_nil, List.append_nil]
      exact ih
theorem mid_range (a b n : Nat) (h1 : a ≤ b) (h2 : b ≤ n) : (List.range n).filter (fun k => decide (a ≤ k) && decide (k < b)) = (List.range (b - a)).map (a + ·) := by
  obtain ⟨c, rfl⟩ : ∃ c, b = a + c := ⟨b - a, by omega⟩
  obtain ⟨d, rfl⟩ : ∃ d, n = a + c + d := ⟨n - (a + c), by omega⟩
  rw [List.range_add, List.range_add, List.filter_append, List.filter_append]
  have e1 : (List.range a).filter (fun k => decide (a ≤ k) && decide (k < a + c)) = [] := by
    rw [List.filter_eq_nil_iff]
    intro k hk
    have := List.mem_range.mp hk
    simp
    omega
  have e2 : ((List.range c).map fun x => a + x).filter (fun k => decide (a ≤ k) && decide (k < a + c)) = (List.range c).map fun x => a + x := by
    rw [List.filter_eq_self]
    intro k hk
    obtain ⟨x, hx, rfl⟩ := List.mem_map.mp hk
    have := List.mem_range.mp hx
    simp
    omega
  have e3 : ((List.range d).map fun x => a + c + x).filter (fun k => decide (a ≤ k) && decide (k < a + c)) = [] := by
    rw [List.filter_eq_nil_iff]
    intro k hk
    obtain ⟨x, hx, rfl⟩ := List.mem_map.mp hk
    simp
  rw [e1, e2, e3, List.nil_append, List.append_nil, Nat.add_sub_cancel_left]
section
variable {B : Bx} {pl : List Nat} {n : Nat}
theorem lt_range (h : Bok B pl n) (p : Int) : (List.range B.length).filter (fun k => decide (stB B k < p)) = List.range (mB B p) := by
  refine down_range _ fun i j hij hj hf => ?_
  have h1 := h.srt i j hij hj
  have h2 := of_decide_eq_true hf
  exact decide_eq_true (by omega)
theorem lt_iff (h : Bok B pl n) {p : Int} {k : Nat} (hk : k < B.length) : stB B k < p ↔ k < mB B p := by
  have q := lt_range h p
  have h1 : k ∈ (List.range B.length).filter (fun k => decide (stB B k < p)) ↔ k ∈ List.range (mB B p) := by rw [q]
  rw [List.mem_filter, List.mem_range, List.mem_range, decide_eq_true_eq] at h1
  exact ⟨fun z => h1.mp ⟨hk, z⟩, fun z => (h1.mpr z).2⟩
theorem mB_le (p : Int) : mB B p ≤ B.length := by
  have h := List.length_filter_le (fun k => decide (stB B k < p)) (List.range B.length)
  rw [List.length_range] at h
  exact h
theorem mB_mono (h : Bok B pl n) (p : Int) : mB B p ≤ mB B (p + 1) := by
  rcases Nat.lt_or_ge (mB B (p + 1)) (mB B p) with z | z
  · have h1 := mB_le (B := B) p
    have h2 := (lt_iff h (p := p) (k := mB B (p + 1)) (by omega)).mpr z
    have h3 := (lt_iff h (p := p + 1) (k := mB B (p + 1)) (by omega)).mp (by omega)
    omega
  · exact z
theorem idx_eq (h : Bok B pl n) (p : Int) : idx B p = (List.range (mB B (p + 1) - mB B p)).map (mB B p + ·) := by
  rw [← mid_range (mB B p) (mB B (p + 1)) B.length (mB_mono h p) (mB_le _)]
  unfold idx
  refine List.filter_congr fun k hk => ?_
  have hk := List.mem_range.mp hk
  have h1 := lt_iff h (p := p) hk
  have h2 := lt_iff h (p := p + 1) hk
  rw [← Bool.decide_and]
  exact decide_eq_decide.mpr (by omega)
theorem ldsP_len (h : Bok B pl n) (p : Int) : (ldsP B pl p).length = mB B (p + 1) - mB B p := by
  unfold ldsP
  rw [List.length_map, idx_eq h, List.length_map, List.length_range]
theorem ldsP_at (h : Bok B pl n) {p : Int} {k : Nat} (hk : k < (ldsP B pl p).length) : ldAt (ldsP B pl p) k = ((pl.getD (mB B p + k) 0 : Int), toB B (mB B p + k)) := by
  have hl := ldsP_len h p
  have h1 : (ldsP B pl p)[k]? = some ((pl.getD (mB B p + k) 0 : Int), toB B (mB B p + k)) := by
    unfold ldsP
    rw [idx_eq h, List.map_map, List.getElem?_map, List.getElem?_range (by omega)]
    rfl
  have h2 := ldAt_get hk
  rw [h1] at h2
  exact (Option.some.inj h2).symm
theorem idx_st (h : Bok B pl n) {p : Int} {k : Nat} (hk : k < (ldsP B pl p).length) : stB B (mB B p + k) = p ∧ mB B p + k < B.length := by
  have hl := ldsP_len h p
  have h1 := mB_le (B := B) (p + 1)
  have h2 : mB B p + k < B.length := by omega
  have h3 := (lt_iff h (p := p + 1) h2).mpr (by omega)
  have h4 := lt_iff h (p := p) h2
  exact ⟨by omega, h2⟩
theorem toB_take {m k : Nat} (hk : k < m) : toB (B.take m) k = toB B k := by
  unfold toB
  rw [List.getD_eq_getElem?_getD, List.getD_eq_getElem?_getD, List.getElem?_take_of_lt hk]
theorem lodB_plan (h : Bok B pl n) {S : Ship} {p : Int} (hp : S.port = p) (hb : S.boxes = B.take (mB B p)) : lodB S (ldsP B pl p) = B.take (mB B (p + 1)) := by
  have hl := ldsP_len h p
  have hm := mB_mono h p
  have hm1 := mB_le (B := B) (p + 1)
  refine List.ext_getElem? fun k => ?_
  unfold lodB
  rw [hb, hp]
  have hbl : (B.take (mB B p)).length = mB B p := by rw [List.length_take]; omega
  by_cases h1 : k < mB B p
  · rw [List.getElem?_append_left (by omega), List.getElem?_take_of_lt h1, List.getElem?_take_of_lt (by omega)]
  · rw [List.getElem?_append_right (by omega), hbl]
    by_cases h2 : k < mB B (p + 1)
    · rw [List.getElem?_take_of_lt h2, List.getElem?_map]
      have hk : k - mB B p < (ldsP B pl p).length := by omega
      rw [ldAt_get hk, ldsP_at h hk]
      have h3 := idx_st h hk
      have e : mB B p + (k - mB B p) = k := by omega
      rw [e] at h3 ⊢
      have hk' : k < B.length := h3.2
      rw [List.getElem?_eq_getElem hk']
      have h4 : stB B k = p := h3.1
      unfold stB at h4
      unfold toB
      have h5 : B.getD k (0, 0) = B[k] := by simp [hk']
      rw [h5] at h4 ⊢
      show some (p, B[k].2) = some B[k]
      rw [← h4]
    · rw [List.getElem?_eq_none (by rw [List.length_map]; omega), List.getElem?_eq_none (by rw [List.length_take]; omega)]
theorem vCho_eq (h : Bok B pl n) {S : Ship} {p : Int} (hb : S.boxes = B.take (mB B p)) (j : Nat) : lodN S (ldsP B pl p) j = vCho B pl p j := by
  have hbl : S.boxes.length = mB B p := by rw [hb, List.length_take]; have := mB_le (B := B) p; omega
  have h1 : vCho B pl p j = (idx B p).filter fun k => decide ((pl.getD k 0 : Int) = (j : Int)) := by
    unfold vCho idx
    rw [List.filter_filter]
    refine List.filter_congr fun k _ => ?_
    rw [Bool.and_comm]
    rfl
  rw [h1, idx_eq h, List.filter_map]
  unfold lodN cho
  rw [hbl, ldsP_len h]
  congr 1
  refine List.filter_congr fun k hk => ?_
  have hk : k < (ldsP B pl p).length := by rw [ldsP_len h]; exact List.mem_range.mp hk
  rw [ldsP_at h hk]
  rfl
theorem vC_eq (h : Bok B pl n) {S : Ship} {p : Int} (hp : S.port = p) (hb : S.boxes = B.take (mB B p)) (j : Nat) : lodC S (ldsP B pl p) j = vC B pl p j := by
  unfold lodC vC
  rw [vCho_eq h hb, lodB_plan h hp hb]
  refine sort_congr fun k hk => ?_
  refine toB_take ?_
  have h1 := List.mem_filter.mp hk
  have h2 := List.mem_range.mp h1.1
  have h3 := (Bool.and_eq_true_iff.mp h1.2).1
  have h4 : stB B k = p := of_decide_eq_true h3
  exact (lt_iff h h2).mp (by omega)
/-- the ship in port p, as found behind the sailing -/
structure UOk (B : Bx) (pl : List Nat) (n : Nat) (p : Nat) (S : Ship) (x : List Evt × List (List Nat)) (m : Nat) : Prop where
  wf : Wf S
  port : S.port = p
  h : S.height = 60
  bx : S.boxes = B.take m
  sk : S.stacks = x.2
  ns : x.2.length = n
theorem chk_plan (h : Bok B pl n) {S : Ship} {p : Nat} {x} (u : UOk B pl n p S x (mB B p)) (hne : ldsP B pl p ≠ []) : chk S (ldsP B pl p) = none := by
  have hnl : S.stacks.length = n := by rw [u.sk, u.ns]
  have hbl : S.boxes.length ≤ 12 := by rw [u.bx, List.length_take]; have := h.len; omega
  have hl := ldsP_len h (p : Int)
  have hll : (ldsP B pl p).length ≤ 12 := by have := mB_le (B := B) (p + 1); have := h.len; omega
  have hpos : 0 < (ldsP B pl p).length := List.length_pos_iff.mpr hne
  have hp11 : ¬ S.port = 11 := by
    have h1 := idx_st h hpos
    have h2 := h.b _ h1.2
    rw [u.port]
    omega
  have hbad : ∀ k < (ldsP B pl p).length, badAt S (ldsP B pl p) k = false := fun k hk => by
    have h1 := idx_st h hk
    have h2 := h.b _ h1.2
    unfold badAt badL
    rw [ldsP_at h hk, hnl, u.port]
    have hm : mB B p + k < pl.length := by rw [h.pll]; exact h1.2
    have h3 := h.px (pl.getD (mB B p + k) 0) (by rw [show pl.getD (mB B p + k) 0 = pl[mB B p + k] by simp [hm]]; exact List.getElem_mem hm)
    simp only [Bool.or_eq_false_iff, Bool.not_eq_false', Bool.and_eq_true, decide_eq_true_eq]
    refine ⟨⟨?_, ?_⟩, ?_, ?_⟩ <;> omega
  have hfull : ∀ j < S.stacks.length, fullAt S (ldsP B pl p) j = false := fun j hj => by
    unfold fullAt
    have h1 : (stk S j).length ≤ S.stacks.flatten.length := by
      have : ∀ {l : List (List Nat)} {s : List Nat}, s ∈ l → s.length ≤ l.flatten.length := fun {l s} hs => by
        induction l with
        | nil => cases hs
        | cons a r ih =>
          rw [List.flatten_cons, List.length_append]
          rcases List.mem_cons.mp hs with rfl | hs
          · omega
          · have := ih hs
            omega
      exact this (stk_mem hj)
    have h2 : S.stacks.flatten.length ≤ S.boxes.length := by
      rw [u.wf.perm.length_eq]
      have h1 := List.length_filter_le (fun k => decide (toB S.boxes k > S.port)) (List.range S.boxes.length)
      rw [List.length_range] at h1
      exact h1
    have h3 := cho_len (ldsP B pl p) j
    rw [u.h]
    exact decide_eq_false (by omega)
  unfold chk
  rw [if_neg hp11]
  have e1 : (List.range (ldsP B pl p).length).find? (badAt S (ldsP B pl p)) = none := List.find?_range_eq_none.mpr fun i hi => by rw [hbad i hi]; rfl
  have e2 : (List.range S.stacks.length).find? (fullAt S (ldsP B pl p)) = none := List.find?_range_eq_none.mpr fun i hi => by rw [hfull i hi]; rfl
  rw [e1]
  show (if S.boxes.length + (ldsP B pl p).length > 60 then some Er.many else _) = _
  rw [if_neg (by omega), e2]
/-- the load of a port -/
theorem u_load (h : Bok B pl n) {S : Ship} {p : Nat} {x} (u : UOk B pl n p S x (mB B p)) (hne : ldsP B pl p ≠ []) : UOk B pl n p (lod S (ldsP B pl p)) (vLoad B pl p x) (mB B ((p : Int) + 1)) ∧ (vLoad B pl p x).1 = x.1 ++ lodE S (ldsP B pl p) S.stacks.length := by
  have hC : ∀ j, lodC S (ldsP B pl p) j = vC B pl p j := vC_eq h u.port u.bx
  have hC' : lodC S (ldsP B pl p) = vC B pl p := funext hC
  have hnl : S.stacks.length = n := by rw [u.sk, u.ns]
  refine ⟨⟨wf_load u.wf (chk_plan h u hne), u.port, u.h, lodB_plan h u.port u.bx, ?_, ?_⟩, ?_⟩
  · show lodS S (ldsP B pl p) S.stacks.length = ldS x.2 (vC B pl p) x.2.length
    unfold lodS ldS stk
    rw [hC', u.sk]
  · show (ldS x.2 (vC B pl p) x.2.length).length = n
    rw [ldS_len, u.ns]
  · show x.1 ++ ldE p (vC B pl p) x.2.length = _
    unfold lodE ldE
    rw [hC', u.sk, u.port]
theorem vC_nil (h : Bok B pl n) {p : Nat} (he : ldsP B pl p = []) (j : Nat) : vC B pl p j = [] := by
  have h1 : idx B p = [] := by
    unfold ldsP at he
    exact List.map_eq_nil_iff.mp he
  have h2 : vCho B pl p j = [] := by
    unfold vCho
    rw [List.filter_eq_nil_iff]
    intro k hk
    have h3 := List.filter_eq_nil_iff.mp h1 k hk
    intro z
    exact h3 (Bool.and_eq_true_iff.mp z).1
  unfold vC
  rw [h2, List.mergeSort_nil]
theorem u_none (h : Bok B pl n) {S : Ship} {p : Nat} {x} (u : UOk B pl n p S x (mB B p)) (he : ldsP B pl p = []) : vLoad B pl p x = x ∧ UOk B pl n p S x (mB B ((p : Int) + 1)) := by
  have hC : vC B pl p = fun _ => [] := funext fun j => vC_nil h he j
  have hm : mB B ((p : Int) + 1) = mB B p := by
    have h1 := ldsP_len h (p : Int)
    rw [he] at h1
    have h2 := mB_mono h (p : Int)
    have h3 : ([] : Ld).length = 0 := rfl
    omega
  refine ⟨?_, by rw [hm]; exact u⟩
  unfold vLoad
  rw [hC]
  have e1 : ldE (p : Int) (fun _ => []) x.2.length = [] := by
    unfold ldE lodE1
    rw [List.flatMap_eq_nil_iff]
    intro _ _
    rfl
  have e2 : ldS x.2 (fun _ => []) x.2.length = x.2 := by
    unfold ldS
    have : (List.range x.2.length).map (fun j => if j < x.2.length then x.2.getD j [] ++ [] else x.2.getD j []) = (List.range x.2.length).map fun j => x.2.getD j [] := List.map_congr_left fun j _ => by
      rw [List.append_nil]
      split <;> rfl
    rw [this]
    exact getD_id _
  rw [e1, e2, List.append_nil]
/-- the sailing -/
theorem u_sail (h : Bok B pl n) {S : Ship} {p : Nat} {x} (u : UOk B pl n p S x (mB B ((p : Int) + 1))) (hp : p < 11) : UOk B pl n (p + 1) (sil S) (vOpen B ((p + 1 : Nat) : Int) x) (mB B ((p + 1 : Nat) : Int)) ∧ (vOpen B ((p + 1 : Nat) : Int) x).1 = x.1 ++ sailE S S.stacks.length := by
  have hp11 : ¬ S.port = 11 := by rw [u.port]; omega
  have hcast : ((p + 1 : Nat) : Int) = (p : Int) + 1 := by omega
  have hnl : S.stacks.length = n := by rw [u.sk, u.ns]
  have cong : ∀ j, j < S.stacks.length → opnE S.boxes (S.port + 1) (stk S j) = opnE B ((p + 1 : Nat) : Int) (x.2.getD j []) ∧ opnS S.boxes (S.port + 1) (stk S j) = opnS B ((p + 1 : Nat) : Int) (x.2.getD j []) := fun j hj => by
    rw [hcast, u.port]
    have e : stk S j = x.2.getD j [] := by unfold stk; rw [u.sk]
    rw [← e]
    refine opn_congr fun k hk => ?_
    have h1 := u.wf.mem (stk_mem hj) hk
    rw [u.bx] at h1 ⊢
    rw [List.length_take] at h1
    exact toB_take (by omega)
  refine ⟨⟨wf_sail u.wf hp11, ?_, u.h, ?_, ?_, ?_⟩, ?_⟩
  · show S.port + 1 = ((p + 1 : Nat) : Int)
    rw [u.port, hcast]
  · rw [hcast]
    exact u.bx
  · show sailS S S.stacks.length = opS B ((p + 1 : Nat) : Int) x.2 x.2.length
    unfold sailS opS
    rw [u.ns, hnl]
    refine List.map_congr_left fun j hj => ?_
    have hj := List.mem_range.mp hj
    rw [if_pos hj, if_pos hj]
    exact (cong j (by omega)).2
  · show (opS B ((p + 1 : Nat) : Int) x.2 x.2.length).length = n
    rw [opS_len, u.ns]
  · show x.1 ++ opE B ((p + 1 : Nat) : Int) x.2 x.2.length = _
    unfold sailE opE
    rw [u.ns, hnl]
    congr 1
    exact flatMap_congrL fun j hj => ((cong j (by rw [hnl]; exact List.mem_range.mp hj)).1).symm
theorem open_nil (B : Bx) (p : Int) (n : Nat) : vOpen B p ([], List.replicate n []) = ([], List.replicate n []) := by
  unfold vOpen
  have e0 : ∀ j, (List.replicate n ([] : List Nat)).getD j [] = [] := fun j => by
    rw [List.getD_eq_getElem?_getD, List.getElem?_replicate]
    split <;> rfl
  have e1 : opE B p (List.replicate n []) (List.replicate n ([] : List Nat)).length = [] := by
    unfold opE
    rw [List.flatMap_eq_nil_iff]
    intro j _
    rw [e0]
    exact (opn_nil B p).1
  have e2 : opS B p (List.replicate n []) (List.replicate n ([] : List Nat)).length = List.replicate n [] := by
    unfold opS
    refine List.ext_getElem (by simp) fun k h1 h2 => ?_
    simp only [List.getElem_map, List.getElem_range, List.getElem_replicate]
    rw [e0]
    split
    · exact (opn_nil B p).2
    · rfl
  rw [e1, e2]
  rfl
theorem u_start (h : Bok B pl n) : UOk B pl n 0 { port := 0, height := 60, stacks := List.replicate n [], boxes := [], lifted := [] } (vOpen B 0 (vRun B pl n 0)) (mB B (0 : Int)) := by
  have h0 : mB B 0 = 0 := by
    unfold mB
    rw [List.length_eq_zero_iff, List.filter_eq_nil_iff]
    intro k hk
    have := h.b k (List.mem_range.mp hk)
    simp
    omega
  refine ⟨wf_new ⟨by omega, by omega⟩ h.n5, rfl, rfl, by rw [h0]; rfl, ?_, ?_⟩
  · show List.replicate n [] = (vOpen B 0 ([], List.replicate n [])).2
    rw [open_nil]
  · show (vOpen B 0 ([], List.replicate n [])).2.length = n
    rw [open_nil]
    exact List.length_replicate
/-- without boxes nothing happens, whatever the number of the stacks -/
theorem run_nil {n : Nat} : ∀ p, vRun [] [] n p = ([], List.replicate n [])
  | 0 => rfl
  | p + 1 => by
    show vLoad [] [] p (vOpen [] p (vRun [] [] n p)) = _
    rw [run_nil p, open_nil]
    unfold vLoad
    have hC : vC [] [] (p : Int) = fun _ => [] := funext fun j => by
      unfold vC vCho
      simp
    rw [hC]
    have e1 : ldE (p : Int) (fun _ => []) (List.replicate n ([] : List Nat)).length = [] := by
      unfold ldE lodE1
      rw [List.flatMap_eq_nil_iff]
      intro _ _
      rfl
    have e2 : ldS (List.replicate n []) (fun _ => []) (List.replicate n ([] : List Nat)).length = List.replicate n [] := by
      unfold ldS
      refine List.ext_getElem (by simp) fun k h1 h2 => ?_
      simp only [List.getElem_map, List.getElem_range, List.getElem_replicate, List.append_nil]
      rw [List.getD_eq_getElem?_getD, List.getElem?_replicate]
      split <;> split <;> rfl
    rw [e1, e2]
    rfl
end
end QM
/-! _law_is_as_simulated -/
namespace Q
open PySem PySem.Spec PyProof.Rows L2 Evl LamX QM
def spAsSim (a : Ads) : Sp := fun vs H Q _ => ∃ (p c : Addr), vs = [.ref p] ∧ PoolAt H p c ∧ TabS H a.kP lamQ ∧ ∀ H', Q (.bl true) H'
section
variable {P : Program} {w : World} {K : PySem.W.Frag} {mg : Str → Option Value} {base : Heap} {a : Ads}
/-- the two ints of a pair -/
def pairOf (H : Hp) : V → Int × Int
  | .ref t => match H t with
    | some (.tup [.int i, .int j]) => (i, j)
    | _ => (0, 0)
  | _ => (0, 0)
theorem pairOf_at {H : Hp} {x : V} {b : Int × Int} (h : DAt H x (bD b)) : pairOf H x = b ∧ ∃ t, x = .ref t ∧ H t = some (.tup [.int b.1, .int b.2]) := by
  obtain ⟨t, vs, rfl, h1, h2⟩ := h.t
  have hvs : vs = [.int b.1, .int b.2] := by
    cases h2 with
    | cons a1 r1 =>
      cases r1 with
      | cons a2 r2 =>
        cases r2
        rw [a1.i, a2.i]
  subst hvs
  refine ⟨?_, t, rfl, h1⟩
  show (match H t with
    | some (.tup [.int i, .int j]) => (i, j)
    | _ => (0, 0)) = b
  rw [h1]
theorem pairs_of {H : Hp} {ys : List V} (h : ∀ y ∈ ys, ∃ t, y = .ref t ∧ H t = some (.tup [.int (pairOf H y).1, .int (pairOf H y).2])) : DsAt H ys (bxs (ys.map (pairOf H))) := by
  induction ys with
  | nil => exact .nil
  | cons y r ih =>
    obtain ⟨t, e, ht⟩ := h y List.mem_cons_self
    refine .cons ?_ (ih fun z hz => h z (List.mem_cons_of_mem _ hz))
    show DAt H y (bD (pairOf H y))
    have e2 : DAt H (.ref t) (.tup [.int (pairOf H y).1, .int (pairOf H y).2]) := .tup ht (.cons (.int _) (.cons (.int _) .nil))
    rw [← e] at e2
    exact e2
theorem q_asgSortBox {tz : TS} {D : Ends} {σ : L2.St} {H : Hp} {p c : Addr} (h0 : σ[0]? = some (some (.ref p))) (hp : PoolAt H p c) (k : ∀ (q : Addr) (B : Bx) (H1 : Hp), q ≠ p → LstD H1 q (bxs B) → PoolAt H1 p c → Mo (fun b => b = p) H H1 → B.length ≤ 12 → (∀ b ∈ B, 0 ≤ b.1 ∧ b.1 ≤ 10 ∧ 1 ≤ b.2 ∧ b.2 ≤ 11 ∧ b.1 < b.2) → B.Pairwise (fun x y => x.1 ≤ y.1) → tz D (σ.set 1 (some (.ref q))) H1) :
    tSeq (tAsg (tCB (rSortedPO K) (tCons (tCall spBoxes [] E0 (tCons (tVar 0) (tCons (tC (.int 12)) tNil))) tNil)) (gName 1)) tz D σ H := by
  refine ⟨_, h0, p, c, rfl, hp, fun l B H1 m1 hp1 nl hl hBl hBg => ?_⟩
  obtain ⟨xs, hxs, hxd⟩ := hl
  have hpx : ∀ x ∈ xs, ∃ b ∈ B, pairOf H1 x = b ∧ ∃ t, x = .ref t ∧ H1 t = some (.tup [.int b.1, .int b.2]) := fun x hx => by
    obtain ⟨i, hi⟩ := List.getElem?_of_mem hx
    obtain ⟨d, hd, hx'⟩ := hxd.get' hi
    obtain ⟨rfl, hm, _⟩ := map_get (z := (0, 0)) hd
    exact ⟨_, hm, pairOf_at hx'⟩
  refine ⟨l, xs, pairOf H1, rfl, sq_of hxs, fun x hx => ?_, fun ys q hsr hst nq => ?_⟩
  · obtain ⟨b, _, h1, t, h2, h3⟩ := hpx x hx
    exact ⟨t, h2, by rw [h1]; exact h3⟩
  · have hmem : ∀ y ∈ ys, y ∈ xs := fun y hy => hst.perm.subset hy
    have eq := Ex.new (o := .lst ys) nq
    refine k q (ys.map (pairOf H1)) _ ?_ ⟨ys, upd_same, ?_⟩ (hp1.ex' eq) (m1.step eq) ?_ ?_ ?_
    · intro z
      obtain ⟨⟨zs, hc⟩, _⟩ := hp1.has
      rw [← z, nq] at hc
      cases hc
    · refine (pairs_of fun y hy => ?_).tk (.ex eq)
      obtain ⟨b, _, h1, t, h2, h3⟩ := hpx y (hmem y hy)
      exact ⟨t, h2, by rw [h1]; exact h3⟩
    · rw [List.length_map, hst.len, hxd.length, List.length_map]
      exact hBl
    · intro b hb
      obtain ⟨y, hy, rfl⟩ := List.mem_map.mp hb
      obtain ⟨b, hbm, h1, _⟩ := hpx y (hmem y hy)
      rw [h1]
      exact hBg b hbm
    · rw [List.pairwise_map]
      refine hsr.imp fun {x y} h => ?_
      have := SrtO.lexB_no.mp h
      omega
theorem q_asgPlan {I : Hp → Prop} {R : Int → Prop} {t3 : TE} {tz : TS} {D : Ends} {σ : L2.St} {H : Hp} {p c q : Addr} {B : Bx} (h0 : σ[0]? = some (some (.ref p))) (h1 : σ[1]? = some (some (.ref q))) (hI : I H) (hIq : ∀ H, I H → LstD H q (bxs B)) (nq : q ≠ p) (hBl : B.length ≤ 1000) (hp : PoolAt H p c) (hK : EvK I p c t3 σ R) (hR : ∀ i, R i → 1 ≤ i ∧ i ≤ 4)
    (k : ∀ (l : Addr) (pl : List Nat) (H1 : Hp), Mo (fun b => b = p) H H1 → PoolAt H1 p c → H l = none → H1 l = some (.lst (pl.map nV)) → pl.length = B.length → (∀ x ∈ pl, x < 4) → tz D (σ.set 2 (some (.ref l))) H1) :
    tSeq (tAsg (tCall spPlan [] E0 (tCons (tVar 0) (tCons (tVar 1) (tCons t3 tNil)))) (gName 2)) tz D σ H := by
  refine ⟨_, h0, _, h1, hK H hI hp _ fun i H1 ri hI1 hp1 m1 => ?_⟩
  obtain ⟨n, rfl⟩ : ∃ n : Nat, i = (n : Int) := ⟨i.toNat, by have := hR i ri; omega⟩
  have := hR _ ri
  exact ⟨p, c, q, B, n, rfl, hp1, hIq _ hI1, nq, hBl, by omega, by omega, fun l pl H2 m2 hp2 nl hl hlen hx => k l pl H2 (m1.trans m2) hp2 (m1.fresh nl) hl hlen fun x hx' => by have := hx x hx'; omega⟩
theorem ev_maxP {σ : L2.St} {H : Hp} {l : Addr} {pl : List Nat} {j n : Nat} (h0 : σ[j]? = some (some (.ref l))) (hl : H l = some (.lst (pl.map nV))) (hz : pl.length ≤ 1000) (hn : MaxP (0 :: pl) n) :
    Ev (tOp (rI0 fun i j => .int (i + j)) (tCB (rMax K) (tCons (tOp rCat (tLst (tCons (tC (.int 0)) tNil)) (tVar j)) tNil)) (tC (.int 1))) σ H (nV n) := fun H1 e Q q => by
  have hcat : EvLD (tOp rCat (tLst (tCons (tC (.int 0)) tNil)) (tVar j)) σ H ([Dat.int 0] ++ pl.map dn) := eld_cat (evs_new (eld_lst (ead_cons evd_ci ead_nil) (by show 1 ≤ 100000; decide))) (evs_var h0 (.ofNats hl)) (by rw [List.length_map]; show 1 + _ ≤ _; omega)
  refine hcat H1 e _ fun p H2 np e2 hp => ⟨p, (0 :: pl).map fun n : Nat => (n : Int), rfl, ?_, by simp, fun m hm hy => ⟨m, 1, rfl, rfl, ?_⟩⟩
  · have hp' : LstD H2 p ((0 :: pl).map dn) := hp
    refine sq_of ?_
    rw [hp'.nats, List.map_map]
    rfl
  · obtain ⟨x, hx, rfl⟩ := List.mem_map.mp hm
    have h1 : MaxP (0 :: pl) (x + 1) := ⟨fun y hy' => by have := hy _ (List.mem_map.mpr ⟨y, hy', rfl⟩); omega, fun k hk => by
      have : k = x := by omega
      rw [this]
      exact hx⟩
    have h2 := maxP_uniq hn h1
    have h3 : V.int ((x : Int) + 1) = nV n := by
      rw [h2]
      show V.int ((x : Int) + 1) = V.int ((x + 1 : Nat) : Int)
      congr 1
    show Q (V.int ((x : Int) + 1)) H2
    rw [h3]
    exact q H2 e2
theorem q_make {C : Addr} {sp : Sp} {dvs vs : List V} {E : XK} {ta : TA} {i : Nat} {tz : TS} {D : Ends} {σ : L2.St} {H : Hp} (h : EvA ta σ H vs) (k : ∀ H1, Ex H H1 → ∀ x dx, H1 x = none → H1 dx = none → dx ≠ x → sp (.ref x :: (vs ++ dvs)) (upd (upd H1 dx (.own x)) x (.ins C dx [])) (fun v H2 => v = .non ∧ tz D (σ.set i (some (.ref x))) H2) E) : tSeq (tAsg (tMake C sp dvs E ta) (gName i)) tz D σ H := h H (Ex.refl H) _ k
theorem ret_callSame {sp : Sp} {dvs : List V} {E : XK} {t1 t2 : TE} {D : Ends} {σ : L2.St} {H : Hp} {d : Dat} (h : EvD t1 σ H d) (k : ∀ v H1, Ex H H1 → DAt H1 v d → t2 σ H1 fun y H2 => sp ([v, y] ++ dvs) H2 D.rt E) : tRet (tCall sp dvs E (tCons t1 (tCons t2 tNil))) D σ H := h H (Ex.refl H) _ fun v H1 e1 hv => k v H1 e1 hv
theorem ok_asSim (T : Txt K mg a) (Et : ErrTxt P K mg a) (F : FunC K "loading" "loading" sLoading a.aLoading a.fLoading a.kc a.kP) (TB : TabB base mg a.kc a.kP) : FnOk P w K mg base CX0 6 a.aAsSim a.fAsSim ["_law_pool_here"] (spAsSim a) := by
  have GBoxes : FnOk P w K mg base CX0 3 a.aBoxes a.fBoxes ["_law_pool_here", "_law_most"] spBoxes := ok_boxes T
  have GPlan : FnOk P w K mg base CX0 3 a.aPlan a.fPlan ["_law_pool_here", "_law_boxes_here", "_law_stacks"] spPlan := ok_plan T
  have GTake : FnOk P w K mg base CX0 2 a.aTake a.fTake ["_law_pool_here", "_law_many"] (spTake true) := ok_take T
  have GIni : FnOk P w K mg base CX0 1 a.aIni a.fIni ["self", "stacks", "height"] (spIni a.cV) := ok_ini T
  have GLoad : FnOk P w K mg base (L2.CX P w) 4 a.aLoad a.fLoad ["self", "loads"] (spLoad a) := ok_load T Et F TB
  have GSail : FnOk P w K mg base (L2.CX P w) 2 a.aSail a.fSail ["self"] (spSail a) := ok_sail T Et
  have GSame : FnOk P w K mg base CX0 5 a.aSame a.fSame ["_law_actual", "_law_due"] (spSame 3) := ok_same T 3
  have GSimd : FnOk P w K mg base CX0 4 a.aSimd a.fSimd ["boxes", "plan"] (spSimd a) := ok_simd T F TB
  refine T.FAsSim.ok scAsSim (fun vs H Q E h => ?_) (fun cdv A outer s H vs Q E hr h => ⟨_, (pss_cons (ps_set (i := 1) scAsSim.nd rfl (by first | exact .inl rfl | exact .inr rfl) (pe_callB cr_sortedPO (by rfl) T.zsorted (by decide +kernel) (pa_cons (pe_call GBoxes (hr.mono (by decide)) (by rfl) T.gBoxes T.FBoxes.kp T.bBoxes .nil pass0 (pa_cons (pv 0) (pa_cons pe_int pa_nil))) pa_nil)))
      (pss_cons (ps_set (i := 2) scAsSim.nd rfl (by first | exact .inl rfl | exact .inr rfl) (pe_call GPlan (hr.mono (by decide)) (by rfl) T.gPlan T.FPlan.kp T.bPlan .nil pass0 (pa_cons (pv 0) (pa_cons (pv 1) (pa_cons (pe_op op_add pe_int (pe_call GTake (hr.mono (by decide)) (by rfl) T.gTake T.FTake.kp T.bTake .nil pass0 (pa_cons (pv 0) (pa_cons pe_int pa_nil)))) pa_nil)))))
      (pss_cons (ps_set (i := 3) scAsSim.nd rfl (by first | exact .inl rfl | exact .inr rfl) (pe_make T.mkV GIni (hr.mono (by decide)) (by rfl) T.gV T.bIni .nil pass0 (pa_cons (pe_op op_add (pe_callB (cr_max rfl) (by rfl) T.zmax (by decide +kernel) (pa_cons (pe_op op_cat (pe_lst (pa_cons pe_int pa_nil)) (pv 2)) pa_nil)) pe_int) (pa_cons pe_int pa_nil))))
      (pss_cons (ps_set (i := 4) scAsSim.nd rfl (by first | exact .inl rfl | exact .inr rfl) (pe_lst pa_nil))
      (pss_cons (ps_for PassesOwn.never rfl (pi_range1 (by rfl) T.zrange (pa_cons pe_int pa_nil)) (pg_name (i := 5) scAsSim.nd rfl (by first | exact .inl rfl | exact .inr rfl)) (pss_cons (ps_setLc (i := 6) (own := [("_law_k", 7)]) (g := gName 7) rfl scAsSim.nd rfl rfl (sw_true rfl rfl rfl (by decide +kernel)) (pi_range1 (by rfl) T.zrange (pa_cons (pe_callB (lenK K) (by rfl) T.zlen PySem.boot_len (pa_cons (pv 1) pa_nil)) pa_nil)) (blkOk_by (N := nAsSim) (sc := defScope sAsSim) (by decide +kernel)) (fun _ _ _ _ _ => (pg_name (i := 7) scAsSim.nd rfl (by first | exact .inl rfl | exact .inr rfl))) (fun _ _ _ _ _ => pts_one (pt_cmpR op_eq (pe_ix (ixt K) (pe_ix (ixl K) (pv 1) (pv 7) (fun _ _ => rfl)) pe_int (fun _ _ => rfl)) (pv 5) (nomark _))) (fun _ _ _ _ _ => (pe_tup (pa_cons (pe_ix (ixl K) (pv 2) (pv 7) (fun _ _ => rfl)) (pa_cons (pe_ix (ixt K) (pe_ix (ixl K) (pv 1) (pv 7) (fun _ _ => rfl)) pe_int (fun _ _ => rfl)) pa_nil)))))
      (pss_cons (ps_if (ptTru K (pv 6)) (pss_one (ps_expr (pe_bm PySem.F.plainAttrs_list PySem.F.slot_list_extend PySem.F.type_list_extend (extT K) (pv 4) (pa_cons (pe_meth (pv 3) T.clV T.mLoad GLoad (hr.mono (by decide)) T.bLoad .nil passL (pa_cons (pv 6) pa_nil)) pa_nil)))) pss_nil)
      (pss_one (ps_if (pt_cmpR op_lt (pv 5) pe_int (nomark _)) (pss_one (ps_expr (pe_bm PySem.F.plainAttrs_list PySem.F.slot_list_extend PySem.F.type_list_extend (extT K) (pv 4) (pa_cons (pe_meth0 (pv 3) T.clV T.mSail GSail (hr.mono (by decide)) T.bSail .nil passL) pa_nil)))) pss_nil)))))
      (pss_one (ps_ret (pe_call GSame (hr.mono (by decide)) (by rfl) T.gSame T.FSame.kp T.bSame .nil pass0 (pa_cons (pe_callTy (tupK K) (by rfl) T.ztuple (by decide +kernel) (pa_cons (pv 4) pa_nil)) (pa_cons (pe_call GSimd (hr.mono (by decide)) (by rfl) T.gSimd T.FSimd.kp T.bSimd .nil pass0 (pa_cons (pv 1) (pa_cons (pv 2) pa_nil))) pa_nil)))))))))), ?_⟩)
  · obtain ⟨p, c, rfl, _⟩ := h
    rfl
  · obtain ⟨p, c, rfl, hp, hT, k⟩ := h
    refine q_asgSortBox rfl hp fun q B H1 nqp hB hp1 m1 hBl hBg hBs => ?_
    let I : Hp → Prop := fun H' => LstD H' q (bxs B)
    have hS : Stab I p := fun H H' hI m => LstD.mo hI m nqp
    refine q_asgPlan (I := I) (R := fun x => 1 ≤ x ∧ x ≤ 4) rfl rfl hB (fun _ z => z) nqp (by omega) hp1 ((k_op (g := fun i j => i + j) (k_ev hS (fun _ _ => ev_c)) (k_take rfl (k_ev hS (fun _ _ => ev_c (v := .int 4))) (fun i hi => by omega) hS)).imp (fun i hi => by
      obtain ⟨x, y, gx, ⟨n, gn, h1, h2⟩, gi⟩ := hi
      have h3 : i = x + y := gi
      have h4 : x = 1 := gx
      have h5 : n = 4 := gn
      omega)) (fun i hi => hi) fun pa pl H2 m2 hp2 npa hpa hpll hplx => ?_
    have hB2 : LstD H2 q (bxs B) := hB.mo m2 nqp
    obtain ⟨n, hn⟩ := maxP_ex (0 :: pl)
    have hn5 : n ≤ 4 := maxP_le hn fun x hx => by
      rcases List.mem_cons.mp hx with rfl | hx
      · omega
      · exact hplx x hx
    -- the ship
    have hok : Bok B pl n := by
      refine ⟨hBl, hpll, fun i j hij hj => ?_, fun k hk => ?_, hn.1 |> fun z x hx => z x (List.mem_cons_of_mem _ hx), by omega⟩
      · have h1 := List.pairwise_iff_getElem.mp hBs i j (by omega) hj hij
        unfold stB
        rw [show B.getD i (0, 0) = B[i]'(by omega) by simp [show i < B.length by omega], show B.getD j (0, 0) = B[j] by simp [hj]]
        exact h1
      · have h1 := hBg B[k] (List.getElem_mem hk)
        unfold stB toB
        rw [show B.getD k (0, 0) = B[k] by simp [hk]]
        omega
    refine q_make (ea_cons (ev_maxP (j := 2) rfl hpa (by omega) hn) (ea_one ev_c)) fun H3 e3 x dx nx ndx nxd => ?_
    refine ⟨x, dx, n, 60, rfl, upd_same, by omega, fun l lb ll as H4 Va hO hk => ⟨rfl, ?_⟩⟩
    have k34 : ∀ b o, H3 b = some o → H4 b = some o := fun b o hb => by
      have h1 : b ≠ x := ne_of_none hb nx
      have h2 : b ≠ dx := ne_of_none hb ndx
      exact hk b o (by rw [upd_ne h1, upd_ne h2]; exact hb) h1
    have hT4 : TabS H4 a.kP lamQ := (((((m1.kp (P := a.kP)).tab hT) |> (m2.kp (P := a.kP)).tab).ext e3)).ext k34
    have hB4 : LstD H4 q (bxs B) := (hB2.ex e3).ex k34
    have hpa4 : H4 pa = some (.lst (pl.map nV)) := k34 _ _ (e3 _ _ hpa)
    have noV : ∀ {b o}, H3 b = some o → ¬ VOw x l lb ll as b := fun {b o} hb z => by
      have h1 : b ≠ x := ne_of_none hb nx
      have h2 : b ≠ dx := ne_of_none hb ndx
      rcases hO b z with h | h
      · exact h1 h
      · rw [upd_ne h1, upd_ne h2, hb] at h
        cases h
    refine q_asgLD eld_nil fun ev H5 nev e5 hev => ?_
    have nevV : ¬ VOw x l lb ll as ev := Va.free (.of nev)
    have noq : ¬ VOw x l lb ll as q := noV (hB2.ex e3).choose_spec.1
    have nopa : ¬ VOw x l lb ll as pa := noV (e3 _ _ hpa)
    have nqev : q ≠ ev := ne_of_none hB4.choose_spec.1 nev
    have npev : pa ≠ ev := ne_of_none hpa4 nev
    obtain ⟨xs5, hxs5, hxd5⟩ := hB4
    have hmono : ∀ p, p ≤ 12 → (vRun B pl n p).1.length ≤ 18000 := fun p hp => by
      have := (vOk_run (pl := pl) hBl (n := n) (by omega) p hp).ev
      omega
    have hmonoO : ∀ p : Nat, p ≤ 12 → (vOpen B p (vRun B pl n p)).1.length ≤ 20000 := fun p hp => by
      have h1 := hmono p hp
      have h2 := vOk_run (pl := pl) hBl (n := n) (by omega) p hp
      have h3 := vRun_len B pl n p
      show ((vRun B pl n p).1 ++ opE B p (vRun B pl n p).2 (vRun B pl n p).2.length).length ≤ _
      rw [List.length_append]
      have e1 := opE_len (B := B) (p := p) (sts := (vRun B pl n p).2) (m := 144) (fun s hs => by have := (h2.st s hs).1; omega) (vRun B pl n p).2.length (Nat.le_refl _)
      have e2 : (vRun B pl n p).2.length * (2 * 144) ≤ 5 * (2 * 144) := Nat.mul_le_mul_right _ (by omega)
      omega
    let SI : Hp → List Addr → Ship → List Evt → Prop := fun H' as' S es => VoyAt a.cV H' x l lb ll as' S ∧ LstD H' ev (evs es) ∧ LstD H' q (bxs B) ∧ H' pa = some (.lst (pl.map nV)) ∧ TabS H' a.kP lamQ ∧ ¬ VOw x l lb ll as' ev ∧ ¬ VOw x l lb ll as' q ∧ ¬ VOw x l lb ll as' pa
    -- what the calls keep
    have step : ∀ {H6 H7 : Hp} {as6 as7 : List Addr} {S S' : Ship} {es : List Evt}, SI H6 as6 S es → Kp a.kP (VOw x l lb ll as6) H6 H7 → VoyAt a.cV H7 x l lb ll as7 S' → (∀ b ∈ as7, b ∈ as6 ∨ H6 b = none) → SI H7 as7 S' es := fun {H6 H7 as6 as7 S S' es} s kp V' has => by
      obtain ⟨s1, s2, s3, s4, s5, s6, s7, s8⟩ := s
      have nv : ∀ {b o}, H6 b = some o → ¬ VOw x l lb ll as6 b → ¬ VOw x l lb ll as7 b := fun {b o} hb hn z => by
        rcases z with z | z | z | z | z
        · exact hn (.inl z)
        · exact hn (.inr (.inl z))
        · exact hn (.inr (.inr (.inl z)))
        · exact hn (.inr (.inr (.inr (.inl z))))
        · rcases has b z with h | h
          · exact hn (.inr (.inr (.inr (.inr h))))
          · rw [hb] at h
            cases h
      exact ⟨V', s2.kp kp s6, s3.kp kp s7, kp.keep _ _ s4 noTbl_lst (.inl s8), kp.tab s5, nv s2.choose_spec.1 s6, nv s3.choose_spec.1 s7, nv s4 s8⟩
    -- events are put behind the others
    have addE : ∀ {H6 : Hp} {as6 : List Addr} {S : Ship} {es es' : List Evt} {xs ys : List V}, SI H6 as6 S es → H6 ev = some (.lst xs) → DsAt H6 xs (evs es) → DsAt H6 ys (evs es') → SI (upd H6 ev (.lst (xs ++ ys))) as6 S (es ++ es') := fun {H6 as6 S es es' xs ys} s h1 h2 h3 => by
      obtain ⟨s1, s2, s3, s4, s5, s6, s7, s8⟩ := s
      have mo : Mo (fun b => b = ev) H6 (upd H6 ev (.lst (xs ++ ys))) := (Mo.refl).updL h1 (.inl rfl)
      refine ⟨s1.kp (mo.kp (P := 0)) fun b hb z => s6 (by rw [← z]; exact hb), ⟨_, upd_same, ?_⟩, s3.mo mo nqev, mo.keep _ _ s4 (.inl npev), (mo.kp (P := a.kP)).tab s5, s6, s7, s8⟩
      rw [evs, List.map_append]
      exact (h2.app h3).tk mo.tk
    have s5 : SI H5 as { port := 0, height := 60, stacks := List.replicate n [], boxes := [], lifted := [] } (vOpen B 0 (vRun B pl n 0)).1 := by
      refine ⟨Va.ex e5, ?_, LstD.ex (ds := bxs B) ⟨xs5, hxs5, hxd5⟩ e5, e5 _ _ hpa4, hT4.ext e5, nevV, noq, nopa⟩
      show LstD H5 ev (evs (vOpen B 0 ([], List.replicate n [])).1)
      rw [open_nil]
      exact hev
    refine q_forR1 (n := 12) (ea_one ev_c) (by omega) (fun i σ' H' => (∃ x5 x6, σ' = [some (.ref p), some (.ref q), some (.ref pa), some (.ref x), some (.ref ev), x5, x6, none]) ∧ ∃ as' S, (i ≤ 11 → SI H' as' S (vOpen B i (vRun B pl n i)).1 ∧ UOk B pl n i S (vOpen B i (vRun B pl n i)) (mB B i)) ∧ (i = 12 → SI H' as' S (vRun B pl n 12).1))
      (fun H6 e6 => ⟨⟨_, _, rfl⟩, as, _, fun _ => ⟨?_, u_start hok⟩, fun z => by omega⟩) (fun i σ' H' hi r => ?_) (fun σ' H' r => ?_)
    · obtain ⟨t1, t2, t3, t4, t5, t6, t7, t8⟩ := s5
      exact ⟨t1.ex e6, t2.ex e6, t3.ex e6, e6 _ _ t4, t5.ext e6, t6, t7, t8⟩
    · obtain ⟨⟨x5, x6, rfl⟩, as', S, hlo, _⟩ := r
      have hi' : i < 12 := by omega
      obtain ⟨s, u⟩ := hlo (by omega)
      obtain ⟨t1, t2, t3, t4, t5, t6, t7, t8⟩ := id s
      have hlc : EvLD (tLc (iRng1 (tCons (tCB (rLenS K) (tCons (tVar 1) tNil)) tNil)) (gName 7) (tTest (tOp rEq (tOp (rIxT K) (tOp (rIxL K) (tVar 1) (tVar 7)) (tC (.int 0))) (tVar 5))) (tTup (tCons (tOp (rIxL K) (tVar 2) (tVar 7)) (tCons (tOp (rIxT K) (tOp (rIxL K) (tVar 1) (tVar 7)) (tC (.int 1))) tNil))) [7])
          [some (.ref p), some (.ref q), some (.ref pa), some (.ref x), some (.ref ev), some (nV i), x6, none] H' (lds (ldsP B pl i)) := by
        have hll := ev_lenD (K := K) (ta := tVar 1) (σ := [some (.ref p), some (.ref q), some (.ref pa), some (.ref x), some (.ref ev), some (nV i), x6, none]) (evs_var rfl t3)
        rw [List.length_map] at hll
        have g := eld_lcR (t := tTest (tOp rEq (tOp (rIxT K) (tOp (rIxL K) (tVar 1) (tVar 7)) (tC (.int 0))) (tVar 5))) (te := tTup (tCons (tOp (rIxL K) (tVar 2) (tVar 7)) (tCons (tOp (rIxT K) (tOp (rIxL K) (tVar 1) (tVar 7)) (tC (.int 1))) tNil))) (j := 7) (vs := [7])
          (σ := [some (.ref p), some (.ref q), some (.ref pa), some (.ref x), some (.ref ev), some (nV i), x6, none]) (H := H') (n := B.length) (fun k => decide (stB B k = i)) (fun k => bD ((pl.getD k 0 : Int), toB B k)) (ea_one hll) (by omega) (fun x => rfl) (fun k H6 e6 hk => ?_) (fun k H6 e6 hk _ => ?_)
        · unfold ldsP lds
          rw [List.map_map]
          exact g
        · exact et_eqI (ev_i (evd_ixT (n := 0) (evd_ixL (evs_var rfl (t3.ex e6)) (ev_var rfl) (bx_at hk)) ev_c rfl)) (ev_var rfl)
        · refine evd_pair (ev_op (ev_var (v := .ref pa) rfl) (ev_var (v := nV k) rfl) (rv_ixL (sq_of (e6 _ _ t4)) (atI_nat (v := nV (pl.getD k 0)) ?_))) (ev_i (evd_ixT (n := 1) (evd_ixL (evs_var rfl (t3.ex e6)) (ev_var rfl) (bx_at hk)) ev_c rfl))
          rw [List.getElem?_map, show pl[k]? = some (pl.getD k 0) from by simp [show k < pl.length by omega]]
          rfl
      refine q_asgLD hlc fun ldA H6 nld e6 hld => ?_
      have s6 : SI H6 as' S (vOpen B i (vRun B pl n i)).1 := ⟨t1.ex e6, t2.ex e6, t3.ex e6, e6 _ _ t4, t5.ext e6, t6, t7, t8⟩
      have hlp : (ldsP B pl i).length ≤ 12 := by
        rw [ldsP_len hok]
        have := mB_le (B := B) ((i : Int) + 1)
        omega
      -- behind the load
      have aft : ∀ {σ' : L2.St} {H7 : Hp} {as7 : List Addr} {S7 : Ship} {D : Ends}, σ' = [some (.ref p), some (.ref q), some (.ref pa), some (.ref x), some (.ref ev), some (nV i), some (.ref ldA), none] → SI H7 as7 S7 (vRun B pl n (i + 1)).1 → UOk B pl n i S7 (vRun B pl n (i + 1)) (mB B ((i : Int) + 1)) →
          (∀ H8 as8 S8, ((i + 1 ≤ 11 → SI H8 as8 S8 (vOpen B ((i + 1 : Nat) : Int) (vRun B pl n (i + 1))).1 ∧ UOk B pl n (i + 1) S8 (vOpen B ((i + 1 : Nat) : Int) (vRun B pl n (i + 1))) (mB B ((i + 1 : Nat) : Int))) ∧ (i + 1 = 12 → SI H8 as8 S8 (vRun B pl n 12).1)) → D.nx σ' H8) →
          tIfS (tTest (tOp (rI0 fun i j => .bl (decide (i < j))) (tVar 5) (tC (.int 11)))) (tDrop (tBM K "list" (rExtendT K) (tVar 4) (tCons (tMeth a.cV "sail" (spSail a) [] E0 (tVar 3) tNil) tNil))) tNext D σ' H7 := fun {σ' H7 as7 S7 D} hσ s7 u7 fin => by
        subst hσ
        refine s_when (et_cmp (g := fun i j => decide (i < j)) (ev_var rfl) ev_c) (fun hb H8 e8 => ?_) (fun hb H8 e8 => ?_)
        · have hi11 : i < 11 := by have := of_decide_eq_true hb; omega
          obtain ⟨r1, r2, r3, r4, r5, r6, r7, r8⟩ := s7
          have s8 : SI H8 as7 S7 (vRun B pl n (i + 1)).1 := ⟨r1.ex e8, r2.ex e8, r3.ex e8, e8 _ _ r4, r5.ext e8, r6, r7, r8⟩
          obtain ⟨xs8, hx8, hd8⟩ := r2.ex e8
          obtain ⟨dx8, hob8⟩ := (r1.ex e8).ob
          obtain ⟨u9, ue⟩ := u_sail hok u7 hi11
          refine ⟨_, rfl, Or.inl ⟨rfl, xs8, sq_of hx8⟩, _, rfl, x, dx8, _, rfl, hob8, vfs_mSail, x, l, lb, ll, as7, S7, rfl, r1.ex e8, u7.wf, (fun z => by rw [u7.port] at z; omega), fun hp11 t as9 H9 kp9 V9 has9 ht9 => ?_⟩
          have s9 := step s8 kp9 V9 has9
          obtain ⟨tt, ys, rfl, g1, g2⟩ := ht9.t
          obtain ⟨_, q2, _, _, _, _, _, _⟩ := id s9
          have hx9 : H9 ev = some (.lst xs8) := kp9.keep _ _ hx8 noTbl_lst (.inl r6)
          have z1 := hmono (i + 1) (by omega)
          have z2 := hmonoO (i + 1) (by omega)
          rw [ue, List.length_append] at z2
          refine ⟨ev, tt, xs8, ys, rfl, rfl, hx9, st_of g1, sz_of (by rw [hd8.length, g2.length, List.length_map, List.length_map]; omega), fin _ as9 (sil S7) ⟨fun _ => ⟨?_, u9⟩, fun z => by omega⟩⟩
          rw [ue]
          exact addE s9 hx9 (hd8.tk kp9.tk) g2
        · have hi11 : i = 11 := by have := of_decide_eq_false hb; omega
          obtain ⟨r1, r2, r3, r4, r5, r6, r7, r8⟩ := s7
          refine fin H8 as7 S7 ⟨fun z => by omega, fun z => ?_⟩
          subst hi11
          exact ⟨r1.ex e8, r2.ex e8, r3.ex e8, e8 _ _ r4, r5.ext e8, r6, r7, r8⟩
      refine q_when (et_truD (evs_var rfl hld)) (fun hb H7 e7 => ?_) (fun hb H7 e7 => ?_)
      · have hne : ldsP B pl i ≠ [] := fun z => by
          rw [z] at hb
          cases hb
        obtain ⟨u', ue⟩ := u_load hok u hne
        obtain ⟨r1, r2, r3, r4, r5, r6, r7, r8⟩ := s6
        have s7 : SI H7 as' S (vOpen B i (vRun B pl n i)).1 := ⟨r1.ex e7, r2.ex e7, r3.ex e7, e7 _ _ r4, r5.ext e7, r6, r7, r8⟩
        obtain ⟨xs8, hx8, hd8⟩ := r2.ex e7
        obtain ⟨dx8, hob8⟩ := (r1.ex e7).ob
        have nldV : ¬ VOw x l lb ll as' ldA := t1.free (.of nld)
        refine ⟨_, rfl, Or.inl ⟨rfl, xs8, sq_of hx8⟩, _, rfl, x, dx8, _, rfl, hob8, vfs_mLoad, _, rfl, x, l, lb, ll, ldA, as', S, ldsP B pl i, rfl, r1.ex e7, hld.ex e7, by omega, u.wf, r5.ext e7, nldV, (fun er hc => by rw [chk_plan hok u hne] at hc; cases hc), fun hc t H9 kp9 V9 ht9 => ?_⟩
        have s9 := step s7 kp9 V9 (fun b hb => .inl hb)
        obtain ⟨tt, ys, rfl, g1, g2⟩ := ht9.t
        have hx9 : H9 ev = some (.lst xs8) := kp9.keep _ _ hx8 noTbl_lst (.inl r6)
        have z1 := hmono (i + 1) (by omega)
        have z2 : (vRun B pl n (i + 1)).1 = (vOpen B i (vRun B pl n i)).1 ++ lodE S (ldsP B pl i) S.stacks.length := ue
        rw [z2, List.length_append] at z1
        refine ⟨ev, tt, xs8, ys, rfl, rfl, hx9, st_of g1, sz_of (by rw [hd8.length, g2.length, List.length_map, List.length_map]; omega), ?_⟩
        refine aft (S7 := lod S (ldsP B pl i)) (as7 := as') rfl ?_ u' (fun H8 as8 S8 z => ⟨⟨_, _, rfl⟩, as8, S8, z.1, z.2⟩)
        rw [z2]
        exact addE s9 hx9 (hd8.tk kp9.tk) g2
      · have hne : ldsP B pl i = [] := by simpa using hb
        obtain ⟨ue, u'⟩ := u_none hok u hne
        have z2 : vRun B pl n (i + 1) = vOpen B i (vRun B pl n i) := ue
        obtain ⟨r1, r2, r3, r4, r5, r6, r7, r8⟩ := s6
        refine aft (S7 := S) (as7 := as') rfl ?_ ?_ (fun H8 as8 S8 z => ⟨⟨_, _, rfl⟩, as8, S8, z.1, z.2⟩)
        · rw [z2]
          exact ⟨r1.ex e7, r2.ex e7, r3.ex e7, e7 _ _ r4, r5.ext e7, r6, r7, r8⟩
        · rw [z2]
          exact u'
    · obtain ⟨⟨x5, x6, rfl⟩, as', S, _, hhi⟩ := r
      obtain ⟨t1, t2, t3, t4, t5, t6, t7, t8⟩ := hhi rfl
      have hSz : Sz 3 (.tup (evs (vRun B pl n 12).1)) := by
        refine ⟨by rw [List.length_map]; have := hmono 12 (Nat.le_refl _); omega, fun d hd => ?_⟩
        obtain ⟨e, _, rfl⟩ := List.mem_map.mp hd
        refine ⟨by show 3 ≤ 40000; decide, fun y hy => ?_⟩
        rcases List.mem_cons.mp hy with rfl | hy
        · exact trivial
        rcases List.mem_cons.mp hy with rfl | hy
        · exact trivial
        · rw [List.mem_singleton.mp hy]
          exact trivial
      refine ret_callSame (evd_tuple (evs_var (i := 4) rfl t2)) fun v1 H6 e6 hv1 => ?_
      refine ⟨_, rfl, _, rfl, q, pa, B, pl, rfl, t3.ex e6, e6 _ _ t4, hBl, hpll, fun x hx => by have := hplx x hx; omega, t5.ext e6, fun t n2 H7 hn2 kp7 ht7 => ?_⟩
      have heq : (vRun B pl n2 12).1 = (vRun B pl n 12).1 := by
        cases hpl : pl with
        | nil =>
          have hB0 : B = [] := List.length_eq_zero_iff.mp (by rw [← hpll, hpl]; rfl)
          rw [hB0, run_nil, run_nil]
        | cons y r =>
          have : MaxP (0 :: pl) n2 := ⟨fun z hz => by
            rcases List.mem_cons.mp hz with rfl | hz
            · have := hn2.1 y (by rw [hpl]; exact List.mem_cons_self)
              omega
            · exact hn2.1 z hz, fun k hk => List.mem_cons_of_mem _ (hn2.2 k hk)⟩
          rw [maxP_uniq hn this]
      rw [heq] at ht7
      exact ⟨v1, t, _, rfl, hv1.tk kp7.tk, ht7, hSz, fun H8 _ => k H8⟩
end
end Q
/-! What is true between the turns of the law. -/
namespace Q
open PySem PySem.Spec PyProof.Rows L2 Evl LamX QM
theorem res_len_load (S : Ship) (ls : Ld) : (resLoad S ls).2.stacks.length = S.stacks.length := by
  unfold resLoad
  cases chk S ls with
  | some e => rfl
  | none =>
    show (lodS S ls S.stacks.length).length = _
    unfold lodS
    rw [List.length_map, List.length_range]
theorem res_len_sail (S : Ship) : (resSail S).2.stacks.length = S.stacks.length := by
  unfold resSail
  by_cases h : S.port = 11
  · rw [if_pos h]
  · rw [if_neg h]
    show (sailS S S.stacks.length).length = _
    unfold sailS
    rw [List.length_map, List.length_range]
structure Rec where
  l : Addr
  lb : Addr
  lf : Addr
  as : List Addr
  S : Ship
abbrev Rec.ow (R : Rec) (v b : Addr) : Prop := VOw v R.l R.lb R.lf R.as b
structure Sh (c0 : Addr) (g : Addr → Nat) (i : Nat) (H : Hp) (d v : Addr) (R : Rec) : Prop where
  dd : DictAt (fun b => g b = 0) H d R.S
  vv : VoyAt c0 H v R.l R.lb R.lf R.as R.S
  ww : Wf R.S
  gd : g d = 2 + i
  gv : ∀ b, R.ow v b → g b = 4 + i
  n1 : 1 ≤ R.S.stacks.length
def Has (H : Hp) (b : Addr) : Prop := ∃ o, H b = some o ∧ NoTbl o
theorem DictAt.has {Z : Addr → Prop} {H : Hp} {d : Addr} {S : Ship} (D : DictAt Z H d S) : Has H d := by
  obtain ⟨ls, lb, ll, as, D⟩ := D
  exact ⟨_, D.ob, noTbl_dK⟩
theorem VoyAt.has' {c : Addr} {H : Hp} {v l lb ll : Addr} {as : List Addr} {S : Ship} (V : VoyAt c H v l lb ll as S) {b : Addr} (h : VOw v l lb ll as b) : Has H b := by
  obtain ⟨o, h1, h2, _⟩ := V.has h
  exact ⟨o, h1, h2⟩
theorem DictAt.keepTo {Z Z' M : Addr → Prop} {P : Addr} {H H' : Hp} {d : Addr} {S : Ship} (D : DictAt Z H d S) (k : Kp P M H H') (hz : ∀ b, Z b → ¬ M b) (hd : ¬ M d) (h : ∀ b, Has H b → Z b → Z' b) (hd' : ¬ Z' d) : DictAt Z' H' d S := by
  have D1 : DictAt (fun b => Z b ∧ Z' b) H d S := D.mono (fun b hb z => ⟨z, h b hb z⟩) fun z => hd' z.2
  have D2 := D1.kp k (fun b z => hz b z.1) hd
  exact D2.mono (fun b _ z => z.2) hd'
theorem Sh.keep {c0 P : Addr} {g g' : Addr → Nat} {i t : Nat} {H H' : Hp} {d v : Addr} {R : Rec} {M : Addr → Prop} (s : Sh c0 g i H d v R) (k : Kp P M H H') (hm : ∀ b, M b → g b = t) (t0 : t ≠ 0) (t2 : t ≠ 2 + i) (t4 : t ≠ 4 + i) (hg : ∀ b, Has H b → g' b = g b) : Sh c0 g' i H' d v R := by
  have gd' := hg d s.dd.has
  refine ⟨s.dd.keepTo k (fun b z m => t0 ((hm b m).symm.trans z)) (fun m => t2 ((hm d m).symm.trans s.gd)) (fun b hb z => by rw [hg b hb]; exact z) (fun z => ?_), s.vv.kp k fun b hb m => t4 ((hm b m).symm.trans (s.gv b hb)), s.ww, by rw [gd']; exact s.gd, fun b hb => by rw [hg b (s.vv.has' hb)]; exact s.gv b hb, s.n1⟩
  rw [gd', s.gd] at z
  omega
structure Bs (a : Ads) (g : Addr → Nat) (H : Hp) (p c bl vl : Addr) (D V : Nat → Addr) : Prop where
  pool : PoolAt H p c
  gp : g p = 1
  gc : g c = 0
  hb : H bl = some (.lst [.ref (D 0), .ref (D 1)])
  gb : g bl = 0
  hv : H vl = some (.lst [.ref (V 0), .ref (V 1)])
  gv : g vl = 0
  tab : TabS H a.kP lamQ
theorem Bs.keep {a : Ads} {g g' : Addr → Nat} {t : Nat} {H H' : Hp} {p c bl vl : Addr} {D V : Nat → Addr} {M : Addr → Prop} (s : Bs a g H p c bl vl D V) (k : Kp a.kP M H H') (hm : ∀ b, M b → g b = t) (t0 : t ≠ 0) (t1 : t ≠ 1) (hg : ∀ b, Has H b → g' b = g b) : Bs a g' H' p c bl vl D V := by
  obtain ⟨⟨xs, h1⟩, ⟨ys, h2⟩⟩ := s.pool.has
  have n0 : ∀ {b}, g b = 0 → ¬ M b := fun {b} z m => t0 ((hm b m).symm.trans z)
  exact ⟨s.pool.kp k (fun m => t1 ((hm _ m).symm.trans s.gp)) (n0 s.gc), by rw [hg _ ⟨_, h1, noTbl_lst⟩]; exact s.gp, by rw [hg _ ⟨_, h2, noTbl_lst⟩]; exact s.gc, k.keep _ _ s.hb noTbl_lst (.inl (n0 s.gb)), by rw [hg _ ⟨_, s.hb, noTbl_lst⟩]; exact s.gb, k.keep _ _ s.hv noTbl_lst (.inl (n0 s.gv)), by rw [hg _ ⟨_, s.hv, noTbl_lst⟩]; exact s.gv, k.tab s.tab⟩
structure LS (a : Ads) (g : Addr → Nat) (H : Hp) (p c bl vl : Addr) (D V : Nat → Addr) (X : Nat → Rec) : Prop where
  bs : Bs a g H p c bl vl D V
  sh : ∀ i, i < 2 → Sh a.cV g i H (D i) (V i) (X i)
section
variable {a : Ads} {g : Addr → Nat} {H H1 H2 : Hp} {p c bl vl : Addr} {D V : Nat → Addr} {X : Nat → Rec}
/-- a digit is taken -/
theorem LS.take (s : LS a g H p c bl vl D V X) (m : Mo (fun b => b = p) H H1) (hp : PoolAt H1 p c) : LS a g H1 p c bl vl D V X := by
  have hm : ∀ b, (fun b => b = p) b → g b = 1 := fun b z => by rw [show b = p from z]; exact s.bs.gp
  have n0 : ∀ {b}, g b = 0 → ¬ b = p := fun {b} z e => by rw [e, s.bs.gp] at z; cases z
  refine ⟨⟨hp, s.bs.gp, s.bs.gc, m.keep _ _ s.bs.hb (.inl (n0 s.bs.gb)), s.bs.gb, m.keep _ _ s.bs.hv (.inl (n0 s.bs.gv)), s.bs.gv, (m.kp (P := a.kP)).tab s.bs.tab⟩, fun i hi => (s.sh i hi).keep (m.kp (P := a.kP)) hm (by decide) (by omega) (by omega) fun _ _ => rfl⟩
theorem LS.ex (s : LS a g H p c bl vl D V X) (e : Ex H H1) : LS a g H1 p c bl vl D V X := s.take (.ex e) (s.bs.pool.ex' e)
/-- between told and due -/
structure Mid (a : Ads) (g : Addr → Nat) (H : Hp) (p c bl vl : Addr) (D V : Nat → Addr) (X : Nat → Rec) (i : Nat) (as' : List Addr) (S' : Ship) : Prop where
  bs : Bs a g H p c bl vl D V
  sh : ∀ j, j < 2 → j ≠ i → Sh a.cV g j H (D j) (V j) (X j)
  dd : DictAt (fun b => g b = 0) H (D i) (X i).S
  vv : VoyAt a.cV H (V i) (X i).l (X i).lb (X i).lf as' S'
  gd : g (D i) = 2 + i
  gv : ∀ b, VOw (V i) (X i).l (X i).lb (X i).lf as' b → g b = 4 + i
theorem LS.told (s : LS a g H p c bl vl D V X) {i : Nat} (hi : i < 2) {as' : List Addr} {S' : Ship} (k : Kp a.kP ((X i).ow (V i)) H H1) (vv : VoyAt a.cV H1 (V i) (X i).l (X i).lb (X i).lf as' S') (has : ∀ b ∈ as', b ∈ (X i).as ∨ H b = none) : ∃ g1, Mid a g1 H1 p c bl vl D V X i as' S' := by
  have si := s.sh i hi
  let g1 : Addr → Nat := fun b => if b ∈ as' ∧ (H b).isNone = true then 4 + i else g b
  have hg : ∀ b, Has H b → g1 b = g b := fun b hb => by
    obtain ⟨o, h1, _⟩ := hb
    show (if b ∈ as' ∧ (H b).isNone = true then 4 + i else g b) = g b
    rw [if_neg (fun z => by rw [h1] at z; exact absurd z.2 (by simp))]
  have hm : ∀ b, (X i).ow (V i) b → g b = 4 + i := si.gv
  refine ⟨g1, s.bs.keep k hm (by omega) (by omega) hg, fun j hj hji => (s.sh j hj).keep k hm (by omega) (by omega) (by omega) hg, ?_, vv, by rw [hg _ si.dd.has]; exact si.gd, fun b hb => ?_⟩
  · refine si.dd.keepTo k (fun b z m => ?_) (fun m => ?_) (fun b hb z => by rw [hg b hb]; exact z) (fun z => ?_)
    · have := hm b m
      omega
    · have := hm _ m
      have := si.gd
      omega
    · rw [hg _ si.dd.has, si.gd] at z
      omega
  · have old : ∀ {b}, (X i).ow (V i) b → g1 b = 4 + i := fun {b} hb => by rw [hg b (si.vv.has' hb)]; exact hm b hb
    rcases hb with h | h | h | h | h
    · exact old (.inl h)
    · exact old (.inr (.inl h))
    · exact old (.inr (.inr (.inl h)))
    · exact old (.inr (.inr (.inr (.inl h))))
    · rcases has b h with h' | h'
      · exact old (.inr (.inr (.inr (.inr h'))))
      · show (if b ∈ as' ∧ (H b).isNone = true then 4 + i else g b) = 4 + i
        rw [if_pos ⟨h, by rw [h']; rfl⟩]
theorem Mid.due {i : Nat} {as' : List Addr} {S' : Ship} (s : Mid a g H p c bl vl D V X i as' S') (hi : i < 2) (m : Mo (fun b => b = D i) H H1) (dd : DictAt (Zn (fun b => g b = 0) H) H1 (D i) S') (w : Wf S') (n1 : 1 ≤ S'.stacks.length) :
    ∃ g2 X', LS a g2 H1 p c bl vl D V X' := by
  let g2 : Addr → Nat := fun b => if (H b).isNone = true then 0 else g b
  have hg : ∀ b, Has H b → g2 b = g b := fun b hb => by
    obtain ⟨o, h1, _⟩ := hb
    show (if (H b).isNone = true then 0 else g b) = g b
    rw [if_neg (fun z => by rw [h1] at z; exact absurd z (by simp))]
  have hm : ∀ b, (fun b => b = D i) b → g b = 2 + i := fun b z => by rw [show b = D i from z]; exact s.gd
  refine ⟨g2, fun j => if j = i then { (X i) with as := as', S := S' } else X j, s.bs.keep m.kp hm (by omega) (by omega) hg, fun j hj => ?_⟩
  by_cases hji : j = i
  · subst hji
    rw [if_pos rfl]
    have hdg : g2 (D j) = 2 + j := by rw [hg _ s.dd.has]; exact s.gd
    refine ⟨dd.mono (fun b _ z => ?_) (fun z => by rw [hdg] at z; omega), s.vv.kp (m.kp (P := 0)) fun b hb e => ?_, w, hdg, fun b hb => by rw [hg b (s.vv.has' hb)]; exact s.gv b hb, n1⟩
    · rcases z with z | z
      · show (if (H b).isNone = true then 0 else g b) = 0
        split
        · rfl
        · exact z
      · show (if (H b).isNone = true then 0 else g b) = 0
        rw [if_pos (by rw [z]; rfl)]
    · have h1 := s.gv b hb
      rw [show b = D j from e, s.gd] at h1
      omega
  · rw [if_neg hji]
    exact (s.sh j hj hji).keep (m.kp (P := a.kP)) hm (by omega) (by omega) (by omega) hg
end
end Q
/-! the law -/
namespace Q
open PySem PySem.Spec PyProof.Rows L2 Evl LamX QM
def spLaw (K : PySem.W.Frag) (a : Ads) : Sp := fun vs H Q _ => ∃ (l : Addr) (ns : List Int), vs = [.ref l] ∧ SqL K H l (ns.map V.int) ∧ ns.length ≤ 1000 ∧ TabS H a.kP lamQ ∧ ∀ H', Q (.bl true) H'
def NewS (S : Ship) : Prop := ∃ (h : Int) (n : Nat), S = { port := 0, height := h, stacks := List.replicate n [], boxes := [], lifted := [] } ∧ 1 ≤ h ∧ h ≤ 9 ∧ 1 ≤ n ∧ n ≤ 5
theorem NewS.wf {S : Ship} (h : NewS S) : Wf S ∧ 1 ≤ S.stacks.length := by
  obtain ⟨hh, n, rfl, h1, h2, h3, h4⟩ := h
  exact ⟨wf_new ⟨h1, by omega⟩ h4, by rw [List.length_replicate]; exact h3⟩
section
variable {P : Program} {w : World} {K : PySem.W.Frag} {mg : Str → Option Value} {base : Heap} {a : Ads}
theorem k_takeJ {I : Hp → Prop} {p c : Addr} {ta : TE} {σ : L2.St} {R : Int → Prop} {j : Nat} (h0 : σ[j]? = some (some (.ref p))) (hn : EvK I p c ta σ R) (hr : ∀ i, R i → 1 ≤ i ∧ i ≤ 1000) (hS : Stab I p) : EvK I p c (tCall (spTake true) [] E0 (tCons (tVar j) (tCons ta tNil))) σ (fun x => ∃ n, R n ∧ 0 ≤ x ∧ x < n) := fun H hI hp Q q =>
  ⟨_, h0, hn H hI hp _ fun i H1 r1 hI1 hp1 m1 => by
    obtain ⟨n, rfl⟩ : ∃ n : Nat, i = (n : Int) := ⟨i.toNat, by have := hr i r1; omega⟩
    have := hr _ r1
    exact ⟨p, c, n, rfl, hp1, by omega, by omega, (by intro z; cases z), fun r H2 hrn hp2 m2 => q _ H2 ⟨_, r1, by omega, by omega⟩ (hS _ _ hI1 m2) hp2 (m1.trans m2)⟩⟩
theorem disp_ok {σ : L2.St} {H : Hp} {p c : Addr} {n : Nat} {Q : VK} (h1 : σ[1]? = some (some (.ref p))) (h4 : σ[4]? = some (some (nV n))) (hw : ∀ x, wipe ((wipe σ [10]).set 10 (some x)) [10] = wipe σ [10]) (hw4 : (σ : List (Option V))[4]? = some (some (nV n))) (hn1 : 1 ≤ n) (hn : n ≤ 5) (hp : PoolAt H p c)
    (k : ∀ (d : Addr) (S : Ship) (H' : Hp), H d = none → NewS S → Mo (fun b => b = p) H H' → PoolAt H' p c → DictAt (fun b => H b = none ∧ b ≠ d) H' d S → Q (.ref d) H') :
    tDisp [(tC (.str "port"), tC (.int 0)), (tC (.str "height"), tOp (rI0 fun i j => .int (i + j)) (tC (.int 1)) (tCall (spTake true) [] E0 (tCons (tVar 1) (tCons (tC (.int 9)) tNil)))), (tC (.str "stacks"), tLc (iRng1 (tCons (tVar 4) tNil)) (gName 10) tYes (tLst tNil) [10]), (tC (.str "boxes"), tLst tNil), (tC (.str "lifted"), tLst tNil)] σ H Q := by
  intro d hd
  have ed := Ex.new (o := .dK []) hd
  have hpa := hp.ex' ed
  have npd : p ≠ d := by
    obtain ⟨⟨xs, h⟩, _⟩ := hp.has
    exact ne_of_none h hd
  refine (k_op (I := fun _ => True) (g := fun i j => i + j) (k_ev stab_true (fun _ _ => ev_c (v := .int 1))) (k_takeJ h1 (k_ev stab_true (fun _ _ => ev_c (v := .int 9))) (fun i hi => by omega) stab_true)) _ trivial hpa _ fun h H1 hh _ hp1 m1 => ?_
  obtain ⟨x, y, gx, ⟨m, gm, g1, g2⟩, gh⟩ := hh
  have gh' : h = x + y := gh
  show tLc (iRng1 (tCons (tVar 4) tNil)) (gName 10) tYes (tLst tNil) [10] σ H1 (fun y H2 => tPairs [(tC (.str "boxes"), tLst tNil), (tC (.str "lifted"), tLst tNil)] σ H2 fun ps H3 => H3 d = some (.dK []) ∧ ∃ kvs : List (Key × V),
    (V.str "port", V.int 0) :: (V.str "height", V.int h) :: (V.str "stacks", y) :: ps = kvs.map (fun kv => (kV kv.1, kv.2)) ∧ kvs.length ≤ 15 ∧ Q (.ref d) (upd H3 d (.dK (mergeK [] kvs))))
  refine (efr_lc (n := n) (ea_one (ev_var h4)) (by omega) hw) H1 (Ex.refl _) _ fun l as H2 nl e2 hl hlen hnd has => ?_
  refine ⟨by show 0 ≤ sizeLine; decide, fun lb hlb => ⟨by show 0 ≤ sizeLine; decide, fun ll hll => ?_⟩⟩
  have e23 := Ex.new (o := .lst []) hlb
  have e34 := Ex.new (o := .lst []) hll
  have e24 := e23.trans e34
  have d1 : H1 d = some (.dK []) := m1.keep _ _ upd_same (.inl npd.symm)
  have d4 := e24 _ _ (e2 _ _ d1)
  refine ⟨d4, [(.inr "port", .int 0), (.inr "height", .int h), (.inr "stacks", .ref l), (.inr "boxes", .ref lb), (.inr "lifted", .ref ll)], rfl, by show 5 ≤ 15; decide, ?_⟩
  have mA : Mo (fun b => b = p) H (upd (upd H2 lb (.lst [])) ll (.lst [])) := ((Mo.ex ed).trans m1).step (e2.trans e24)
  have mB : Mo (fun b => b = p) H (upd (upd (upd H2 lb (.lst [])) ll (.lst [])) d (.dK (dkv 0 h l lb ll))) := mA.dK d4 (.inr hd)
  have kd : ∀ {b xs}, upd (upd H2 lb (.lst [])) ll (.lst []) b = some (.lst xs) → upd (upd (upd H2 lb (.lst [])) ll (.lst [])) d (.dK (dkv 0 h l lb ll)) b = some (.lst xs) := fun {b xs} hb => by
    rw [upd_ne (ne_of hb d4 (by intro z; cases z))]
    exact hb
  have fr : ∀ {b o}, H1 b = none → upd (upd H2 lb (.lst [])) ll (.lst []) b = some o → H b = none ∧ (∀ xs, o = .lst xs → b ≠ d) := fun {b o} hb ho => by
    refine ⟨?_, fun xs e z => ?_⟩
    · have := m1.fresh hb
      exact fresh_back ed this
    · rw [z, d1] at hb
      cases hb
  have hlb1 : H1 lb = none := fresh_back e2 hlb
  have hll1 : H1 ll = none := fresh_back e2 (fresh_back e23 hll)
  have l4 := e24 _ _ hl
  have lb4 : upd (upd H2 lb (.lst [])) ll (.lst []) lb = some (.lst []) := e34 _ _ upd_same
  have ll4 : upd (upd H2 lb (.lst [])) ll (.lst []) ll = some (.lst []) := upd_same
  have zz : ∀ {b xs}, H1 b = none → upd (upd H2 lb (.lst [])) ll (.lst []) b = some (.lst xs) → H b = none ∧ b ≠ d := fun {b xs} hb ho => ⟨(fr hb ho).1, (fr hb ho).2 _ rfl⟩
  refine k d { port := 0, height := h, stacks := List.replicate n [], boxes := [], lifted := [] } _ hd ⟨h, n, rfl, by omega, by omega, hn1, hn⟩ mB (hp1.keep fun b xs hb hx => kd (e24 _ _ (e2 _ _ hx))) ⟨l, lb, ll, as, upd_same, kd l4, ⟨by rw [hlen, List.length_replicate], fun i s st g1 g2 => ?_⟩, ⟨[], kd lb4, .nil⟩, kd ll4, zz nl l4, zz hlb1 lb4, zz hll1 ll4, fun b hb => zz (has b hb).1 (e24 _ _ (has b hb).2), fun z => z.2 rfl⟩
  have hst : st = [] := List.eq_of_mem_replicate (List.mem_of_getElem? g2)
  subst hst
  exact kd (e24 _ _ (has _ (List.mem_of_getElem? g1)).2)
theorem make_ok {σ : L2.St} {H : Hp} {d : Addr} {Z : Addr → Prop} {S : Ship} {Q : VK} (h5 : σ[5]? = some (some (.ref d))) (D : DictAt Z H d S) (hS : NewS S) (k : ∀ (x : Addr) (R : Rec) (H' : Hp), R.S = S → VoyAt a.cV H' x R.l R.lb R.lf R.as S → (∀ b, R.ow x b → H b = none) → Ex H H' → Q (.ref x) H') :
    tMake a.cV (spIni a.cV) [] E0 (tCons (tCB (rLenS K) (tCons (tDGet (tVar 5) (tC (.str "stacks"))) tNil)) (tCons (tDGet (tVar 5) (tC (.str "height"))) tNil)) σ H Q := by
  obtain ⟨ls, lb, ll, as, D⟩ := D
  obtain ⟨h, n, rfl, h1, h2, h3, h4⟩ := hS
  have hal : as.length = n := by rw [D.sk.len]; exact List.length_replicate
  have hlen : Ev (tCB (rLenS K) (tCons (tDGet (tVar 5) (tC (.str "stacks"))) tNil)) σ H (nV n) := by
    have q := ev_len (K := K) (ev_dget (ev_var h5) D.ob dkv_stacks) (sq_of D.li)
    rw [List.length_map, hal] at q
    exact q
  refine hlen H (Ex.refl _) _ fun H1 e1 => (ev_dget (ev_var h5) (e1 _ _ D.ob) dkv_height) H1 (Ex.refl _) _ fun H2 e2 => fun x dx nx ndx nxd => ?_
  have e12 := e1.trans e2
  refine ⟨x, dx, n, h, rfl, upd_same, by omega, fun l lb ll as H' Va hO hk => ⟨rfl, ?_⟩⟩
  have hkk : ∀ b o, H b = some o → H' b = some o := fun b o hb => by
    have g1 : b ≠ x := ne_of_none (e12 _ _ hb) nx
    have g2 : b ≠ dx := ne_of_none (e12 _ _ hb) ndx
    exact hk b o (by rw [upd_ne g1, upd_ne g2]; exact e12 _ _ hb) g1
  refine k x ⟨l, lb, ll, as, _⟩ H' rfl Va (fun b hb => ?_) hkk
  rcases hO b hb with rfl | hb'
  · exact fresh_back e12 nx
  · cases q : H b with
    | none => rfl
    | some o =>
      have g1 : b ≠ x := ne_of_none (e12 _ _ q) nx
      have g2 : b ≠ dx := ne_of_none (e12 _ _ q) ndx
      rw [upd_ne g1, upd_ne g2, e12 _ _ q] at hb'
      cases hb'
theorem s_appDisp {D : Ends} {σ : L2.St} {H : Hp} {p c bl : Addr} {n : Nat} {xs : List V} (h1 : σ[1]? = some (some (.ref p))) (h2 : σ[2]? = some (some (.ref bl))) (h4 : σ[4]? = some (some (nV n))) (hw : ∀ x, wipe ((wipe σ [10]).set 10 (some x)) [10] = wipe σ [10]) (hn1 : 1 ≤ n) (hn : n ≤ 5) (hp : PoolAt H p c) (hbl : H bl = some (.lst xs)) (nb : bl ≠ p) (hz : xs.length ≤ 5)
    (k : ∀ (d : Addr) (S : Ship) (H' : Hp), H d = none → NewS S → Mo (fun b => b = p) H H' → PoolAt H' p c → DictAt (fun b => H b = none ∧ b ≠ d) H' d S → H' bl = some (.lst xs) → D.nx σ (upd H' bl (.lst (xs ++ [.ref d])))) :
    tDrop (tBM K "list" rAppend (tVar 2) (tCons (tDisp [(tC (.str "port"), tC (.int 0)), (tC (.str "height"), tOp (rI0 fun i j => .int (i + j)) (tC (.int 1)) (tCall (spTake true) [] E0 (tCons (tVar 1) (tCons (tC (.int 9)) tNil)))), (tC (.str "stacks"), tLc (iRng1 (tCons (tVar 4) tNil)) (gName 10) tYes (tLst tNil) [10]), (tC (.str "boxes"), tLst tNil), (tC (.str "lifted"), tLst tNil)]) tNil)) D σ H :=
  ⟨_, h2, Or.inl ⟨rfl, xs, sq_of hbl⟩, disp_ok h1 h4 hw h4 hn1 hn hp fun d S H' nd hS m hp' dd => ⟨bl, xs, .ref d, rfl, rfl, m.keep _ _ hbl (.inl nb), sz_lt (by omega), k d S H' nd hS m hp' dd (m.keep _ _ hbl (.inl nb))⟩⟩
theorem k_int01 {I : Hp → Prop} {p c : Addr} {ta : TE} {σ : L2.St} {R : Int → Prop} {z : Int} (ha : EvK I p c ta σ R) : EvK I p c (tCB rInt1 (tCons (tOp rEq ta (tC (.int z))) tNil)) σ (fun x => x = 0 ∨ x = 1) := fun H hI hp Q q =>
  ha H hI hp _ fun i H1 r1 hI1 hp1 m1 => ⟨rfl, .inr ⟨_, rfl, q _ H1 (by split <;> simp) hI1 hp1 m1⟩⟩
theorem k_if0 {I : Hp → Prop} {p c : Addr} {ta : TE} {σ : L2.St} {R : Int → Prop} {z : Int} {tu tw tz : TS} {D : Ends} {H : Hp} (ha : EvK I p c ta σ R) (hI : I H) (hp : PoolAt H p c) (h1 : ∀ H1, I H1 → PoolAt H1 p c → Mo (fun b => b = p) H H1 → tu { D with nx := tz D } σ H1) (h2 : ∀ H1, I H1 → PoolAt H1 p c → Mo (fun b => b = p) H H1 → tw { D with nx := tz D } σ H1) :
    tSeq (tIfS (tTest (tOp rEq ta (tC (.int z)))) tu tw) tz D σ H := ha H hI hp _ fun i H1 r1 hI1 hp1 m1 => ⟨rfl, _, rfl, by
  cases hb : decide (V.int i = V.int z) with
  | true => exact iteT (h1 H1 hI1 hp1 m1)
  | false => exact iteF (h2 H1 hI1 hp1 m1)⟩
theorem s_same {tc : TE} {σ : L2.St} {H : Hp} {D : Ends} {tu : TS} {Post : Hp → Prop} (h : ∀ Q : VK, (∀ H2, Post H2 → Q (.bl true) H2) → tc σ H Q) (k : ∀ H2, Post H2 → D.nx σ H2) : tIfS (tNot (tB tc)) tu tNext D σ H := h _ fun H2 hp => ⟨true, rfl, iteF (k H2 hp)⟩
theorem sz_evs (es : List Evt) (h : es.length ≤ 40000) : Sz 3 (.tup (evs es)) := by
  refine ⟨by rw [List.length_map]; exact h, fun d hd => ?_⟩
  obtain ⟨e, _, rfl⟩ := List.mem_map.mp hd
  refine ⟨by show 3 ≤ 40000; decide, fun y hy => ?_⟩
  rcases List.mem_cons.mp hy with rfl | hy
  · exact trivial
  rcases List.mem_cons.mp hy with rfl | hy
  · exact trivial
  · rw [List.mem_singleton.mp hy]
    exact trivial
theorem sz_sail {S : Ship} (w : Wf S) : Sz 3 (resSail S).1 := by
  unfold resSail
  by_cases h : S.port = 11
  · rw [if_pos h]
    exact trivial
  · rw [if_neg h]
    refine sz_evs _ ?_
    rw [sailE_all]
    have h1 := len_flat S.boxes (S.port + 1) S.stacks
    have h2 := w.flat
    omega
theorem sz_load {S : Ship} (w : Wf S) {ls : Ld} (hl : ls.length ≤ 6) : Sz 3 (resLoad S ls).1 := by
  unfold resLoad
  cases chk S ls with
  | some e =>
    cases e with
    | over => exact trivial
    | many => exact trivial
    | bad k =>
      refine ⟨by show 2 ≤ 40000; decide, fun y hy => ?_⟩
      rcases List.mem_cons.mp hy with rfl | hy
      · exact trivial
      · rw [List.mem_singleton.mp hy]
        exact trivial
    | full k =>
      refine ⟨by show 2 ≤ 40000; decide, fun y hy => ?_⟩
      rcases List.mem_cons.mp hy with rfl | hy
      · exact trivial
      · rw [List.mem_singleton.mp hy]
        exact trivial
  | none =>
    refine sz_evs _ ?_
    have h1 := lodE_len S ls S.stacks.length
    have h2 : S.stacks.length * ls.length ≤ 5 * 6 := Nat.mul_le_mul w.ns hl
    omega
/-- one turn: told and due, compared -/
theorem turn_sail {σ : L2.St} {H : Hp} {g : Addr → Nat} {p c bl vl : Addr} {D V : Nat → Addr} {X : Nat → Rec} {i : Nat} (L : LS a g H p c bl vl D V X) (hi : i < 2) (h5 : σ[5]? = some (some (.ref (D i)))) (h6 : σ[6]? = some (some (.ref vl))) (h8 : σ[8]? = some (some (nV i))) {Q : VK} (k : ∀ H2 g2 X2, LS a g2 H2 p c bl vl D V X2 → Q (.bl true) H2) :
    tCall (spSame 3) [] E0 (tCons (tCall (spTold a) [] E0 (tCons (tOp (rIxL K) (tVar 6) (tVar 8)) (tCons (tC .non) tNil))) (tCons (tCall spDueSail [] E0 (tCons (tVar 5) tNil)) tNil)) σ H Q := by
  have s := L.sh i hi
  have hV : ([L2.V.ref (V 0), L2.V.ref (V 1)] : List L2.V)[i]? = some (.ref (V i)) := by
    match i, hi with
    | 0, _ => rfl
    | 1, _ => rfl
  have hix : Ev (tOp (rIxL K) (tVar 6) (tVar 8)) σ H (.ref (V i)) := ev_op (ev_var h6) (ev_var h8) (rv_ixL (sq_of L.bs.hv) (atI_nat hV))
  refine hix H (Ex.refl _) _ fun H1 e1 => ?_
  have L1 := L.ex e1
  have s1 := L1.sh i hi
  refine ⟨V i, (X i).l, (X i).lb, (X i).lf, (X i).as, (X i).S, .non, resSail (X i).S, rfl, s1.vv, s1.ww, L1.bs.tab, .inl ⟨rfl, rfl⟩, fun t as' H2 kp va' has ht => ?_⟩
  obtain ⟨g1, M⟩ := L1.told hi kp va' has
  refine ⟨_, h5, D i, _, (X i).S, rfl, M.dd, s1.ww, fun t2 H3 m3 dd3 ht2 => ?_⟩
  have w' := wf_resSail s1.ww
  obtain ⟨g2, X2, L3⟩ := M.due hi m3 dd3 w' (by rw [res_len_sail]; exact s1.n1)
  exact ⟨t, t2, _, rfl, ht.tk m3.tk, ht2, sz_sail s1.ww, fun H4 e4 => k H4 g2 X2 (L3.ex e4)⟩
theorem turn_load {σ : L2.St} {H : Hp} {g : Addr → Nat} {p c bl vl ld : Addr} {D V : Nat → Addr} {X : Nat → Rec} {i : Nat} {ls : Ld} (L : LS a g H p c bl vl D V X) (hi : i < 2) (h5 : σ[5]? = some (some (.ref (D i)))) (h6 : σ[6]? = some (some (.ref vl))) (h8 : σ[8]? = some (some (nV i))) (h9 : σ[9]? = some (some (.ref ld)))
    (hld : LstD H ld (lds ls)) (hl6 : ls.length ≤ 6) (noV : ¬ (X i).ow (V i) ld) (nD : ld ≠ D i) {Q : VK} (k : ∀ H2 g2 X2, LS a g2 H2 p c bl vl D V X2 → Q (.bl true) H2) :
    tCall (spSame 3) [] E0 (tCons (tCall (spTold a) [] E0 (tCons (tOp (rIxL K) (tVar 6) (tVar 8)) (tCons (tVar 9) tNil))) (tCons (tCall spDueLoad [] E0 (tCons (tVar 5) (tCons (tVar 9) tNil))) tNil)) σ H Q := by
  have s := L.sh i hi
  have hV : ([L2.V.ref (V 0), L2.V.ref (V 1)] : List L2.V)[i]? = some (.ref (V i)) := by
    match i, hi with
    | 0, _ => rfl
    | 1, _ => rfl
  have hix : Ev (tOp (rIxL K) (tVar 6) (tVar 8)) σ H (.ref (V i)) := ev_op (ev_var h6) (ev_var h8) (rv_ixL (sq_of L.bs.hv) (atI_nat hV))
  refine hix H (Ex.refl _) _ fun H1 e1 => ?_
  have L1 := L.ex e1
  have s1 := L1.sh i hi
  refine ⟨_, h9, V i, (X i).l, (X i).lb, (X i).lf, (X i).as, (X i).S, .ref ld, resLoad (X i).S ls, rfl, s1.vv, s1.ww, L1.bs.tab, .inr ⟨ld, ls, rfl, hld.ex e1, by omega, noV, rfl⟩, fun t as' H2 kp va' has ht => ?_⟩
  obtain ⟨g1, M⟩ := L1.told hi kp va' has
  refine ⟨_, h5, _, h9, D i, ld, _, (X i).S, ls, rfl, M.dd, s1.ww, (hld.ex e1).kp kp noV, by omega, nD, fun t2 H3 m3 dd3 ht2 => ?_⟩
  have w' := wf_resLoad (ls := ls) s1.ww
  obtain ⟨g2, X2, L3⟩ := M.due hi m3 dd3 w' (by rw [res_len_load]; exact s1.n1)
  exact ⟨t, t2, _, rfl, ht.tk m3.tk, ht2, sz_load s1.ww hl6, fun H4 e4 => k H4 g2 X2 (L3.ex e4)⟩
theorem ev_seen {σ : L2.St} {H : Hp} {g : Addr → Nat} {p c bl vl : Addr} {D V : Nat → Addr} {X : Nat → Rec} (L : LS a g H p c bl vl D V X) {i : Nat} (hi : i < 2) (h2 : σ[2]? = some (some (.ref bl))) (h6 : σ[6]? = some (some (.ref vl))) :
    Ev (tCall (spSeen a) [] E0 (tCons (tOp (rIxL K) (tVar 6) (tC (.int (i : Int)))) (tCons (tOp (rIxL K) (tVar 2) (tC (.int (i : Int)))) tNil))) σ H (.bl true) := by
  have hV : ([L2.V.ref (V 0), L2.V.ref (V 1)] : List L2.V)[i]? = some (.ref (V i)) ∧ ([L2.V.ref (D 0), L2.V.ref (D 1)] : List L2.V)[i]? = some (.ref (D i)) := by
    match i, hi with
    | 0, _ => exact ⟨rfl, rfl⟩
    | 1, _ => exact ⟨rfl, rfl⟩
  refine ev_call (vs := [.ref (V i), .ref (D i)]) (ea_cons (ev_op (ev_var h6) ev_c (rv_ixL (sq_of L.bs.hv) (atI_nat hV.1))) (ea_one (ev_op (ev_var h2) ev_c (rv_ixL (sq_of L.bs.hb) (atI_nat hV.2))))) fun H1 e1 Q q E => ?_
  have s1 := (L.ex e1).sh i hi
  exact ⟨V i, (X i).l, (X i).lb, (X i).lf, D i, (X i).as, _, (X i).S, rfl, s1.vv, s1.dd, s1.ww, fun H2 e2 => q H2 e2⟩
/-- the dicts that are made so far -/
def BoxesAt (H2 H' : Hp) (bl : Addr) : Nat → Prop
  | 0 => H' bl = some (.lst [])
  | 1 => ∃ d0 S0, H' bl = some (.lst [.ref d0]) ∧ NewS S0 ∧ H2 d0 = none ∧ DictAt (fun b => H2 b = none ∧ b ≠ d0) H' d0 S0
  | 2 => ∃ d0 S0 d1 S1, H' bl = some (.lst [.ref d0, .ref d1]) ∧ NewS S0 ∧ NewS S1 ∧ d0 ≠ d1 ∧ H2 d0 = none ∧ H2 d1 = none ∧ DictAt (fun b => H2 b = none ∧ b ≠ d0 ∧ b ≠ d1) H' d0 S0 ∧ DictAt (fun b => H2 b = none ∧ b ≠ d0 ∧ b ≠ d1) H' d1 S1
  | _ => False
/-- the voyages that are made so far -/
def VoysAt (c0 : Addr) (H3 Hx : Hp) (Dl : Addr) (S0 S1 : Ship) : Nat → Prop
  | 0 => Hx Dl = some (.lst [])
  | 1 => ∃ (v0 : Addr) (R0 : Rec), Hx Dl = some (.lst [.ref v0]) ∧ R0.S = S0 ∧ VoyAt c0 Hx v0 R0.l R0.lb R0.lf R0.as S0 ∧ ∀ b, R0.ow v0 b → H3 b = none ∧ b ≠ Dl
  | 2 => ∃ (v0 : Addr) (R0 : Rec) (v1 : Addr) (R1 : Rec), Hx Dl = some (.lst [.ref v0, .ref v1]) ∧ R0.S = S0 ∧ R1.S = S1 ∧ VoyAt c0 Hx v0 R0.l R0.lb R0.lf R0.as S0 ∧ VoyAt c0 Hx v1 R1.l R1.lb R1.lf R1.as S1 ∧ (∀ b, R0.ow v0 b → H3 b = none ∧ b ≠ Dl) ∧ (∀ b, R1.ow v1 b → H3 b = none ∧ b ≠ Dl) ∧ ∀ b, R1.ow v1 b → ¬ R0.ow v0 b
  | _ => False
theorem tags (p d0 d1 : Addr) (A B : Addr → Prop) : ∃ g : Addr → Nat, g p = 1 ∧ (d0 ≠ p → g d0 = 2) ∧ (d1 ≠ p → d1 ≠ d0 → g d1 = 3) ∧ (∀ b, b ≠ p → b ≠ d0 → b ≠ d1 → A b → g b = 4) ∧ (∀ b, b ≠ p → b ≠ d0 → b ≠ d1 → ¬ A b → B b → g b = 5) ∧ ∀ b, b ≠ p → b ≠ d0 → b ≠ d1 → ¬ A b → ¬ B b → g b = 0 := by
  classical
  refine ⟨fun b => if b = p then 1 else if b = d0 then 2 else if b = d1 then 3 else if A b then 4 else if B b then 5 else 0, ?_, fun h => ?_, fun h1 h2 => ?_, fun b h1 h2 h3 h4 => ?_, fun b h1 h2 h3 h4 h5 => ?_, fun b h1 h2 h3 h4 h5 => ?_⟩
  · simp
  · simp [h]
  · simp [h1, h2]
  · simp [h1, h2, h3, h4]
  · simp [h1, h2, h3, h4, h5]
  · simp [h1, h2, h3, h4, h5]
theorem ok_law (T : Txt K mg a) (Et : ErrTxt P K mg a) (Tt : TryTxt K mg a) (F : FunC K "loading" "loading" sLoading a.aLoading a.fLoading a.kc a.kP) (TB : TabB base mg a.kc a.kP) : FnOk P w K mg base CX0 7 a.aLaw a.fLaw ["_law_script"] (spLaw K a) := by
  have GPool : FnOk P w K mg base CX0 1 a.aPool a.fPool ["_law_script"] (spMkPool K) := ok_pool T
  have GTake : FnOk P w K mg base CX0 2 a.aTake a.fTake ["_law_pool_here", "_law_many"] (spTake true) := ok_take T
  have GIni : FnOk P w K mg base CX0 1 a.aIni a.fIni ["self", "stacks", "height"] (spIni a.cV) := ok_ini T
  have GSame : FnOk P w K mg base CX0 5 a.aSame a.fSame ["_law_actual", "_law_due"] (spSame 3) := ok_same T 3
  have GTold : FnOk P w K mg base CX0 5 a.aTold a.fTold ["_law_voyage", "_law_loads_here"] (spTold a) := ok_told T Et Tt F TB
  have GDueSail : FnOk P w K mg base CX0 2 a.aDueSail a.fDueSail ["_law_box"] spDueSail := ok_dueSail T
  have GDueLoad : FnOk P w K mg base CX0 2 a.aDueLoad a.fDueLoad ["_law_box", "_law_loads_here"] spDueLoad := ok_dueLoad T
  have GLoads : FnOk P w K mg base CX0 3 a.aLoads a.fLoads ["_law_pool_here", "_law_box"] spLoads := ok_loads T
  have GSeen : FnOk P w K mg base CX0 6 a.aSeen a.fSeen ["_law_voyage", "_law_box"] (spSeen a) := ok_seen T
  have GAsSim : FnOk P w K mg base CX0 6 a.aAsSim a.fAsSim ["_law_pool_here"] (spAsSim a) := ok_asSim T Et F TB
  refine T.FLaw.ok scLaw (fun vs H Q E h => ?_) (fun cdv A outer s H vs Q E hr h => ⟨_, (pss_cons (ps_set (i := 1) scLaw.nd rfl (by first | exact .inl rfl | exact .inr rfl) (pe_call GPool (hr.mono (by decide)) (by rfl) T.gPool T.FPool.kp T.bPool .nil pass0 (pa_cons (pv 0) pa_nil)))
      (pss_cons (ps_set (i := 2) scLaw.nd rfl (by first | exact .inl rfl | exact .inr rfl) (pe_lst pa_nil))
      (pss_cons (ps_for PassesOwn.never rfl (pi_range1 (by rfl) T.zrange (pa_cons pe_int pa_nil)) (pg_name (i := 3) scLaw.nd rfl (by first | exact .inl rfl | exact .inr rfl)) (pss_cons (ps_set (i := 4) scLaw.nd rfl (by first | exact .inl rfl | exact .inr rfl) (pe_op op_add pe_int (pe_call GTake (hr.mono (by decide)) (by rfl) T.gTake T.FTake.kp T.bTake .nil pass0 (pa_cons (pv 1) (pa_cons pe_int pa_nil)))))
      (pss_one (ps_expr (pe_bm PySem.F.plainAttrs_list PySem.F.slot_list_append PySem.F.type_list_append mt_append (pv 2) (pa_cons (pe_disp (pps_cons pe_str pe_int (pps_cons pe_str (pe_op op_add pe_int (pe_call GTake (hr.mono (by decide)) (by rfl) T.gTake T.FTake.kp T.bTake .nil pass0 (pa_cons (pv 1) (pa_cons pe_int pa_nil)))) (pps_cons pe_str (pe_lc (own := [("_law_one", 10)]) (g := gName 10) (tt := tYes) rfl scLaw.nd (pi_range1 (by rfl) T.zrange (pa_cons (pv 4) pa_nil)) (blkOk_by (N := nLaw) (sc := defScope sLaw) (by decide +kernel)) (fun _ _ _ _ _ => (pg_name (i := 10) scLaw.nd rfl (by first | exact .inl rfl | exact .inr rfl))) (fun _ _ _ _ _ => pts_nil) (fun _ _ _ _ _ => (pe_lst pa_nil))) (pps_cons pe_str (pe_lst pa_nil) (pps_cons pe_str (pe_lst pa_nil) pps_nil))))) (by rfl) (by rfl) (fun z => by cases z) (by decide)) pa_nil))))))
      (pss_cons (ps_setLc (i := 6) (own := [("_law_box", 5)]) (g := gName 5) (tt := tYes) rfl scLaw.nd rfl rfl (sw_true rfl rfl rfl (by decide +kernel)) (pilK K (pv 2)) (blkOk_by (N := nLaw) (sc := defScope sLaw) (by decide +kernel)) (fun _ _ _ _ _ => (pg_name (i := 5) scLaw.nd rfl (by first | exact .inl rfl | exact .inr rfl))) (fun _ _ _ _ _ => pts_nil) (fun _ _ _ _ _ => (pe_make T.mkV GIni (hr.mono (by decide)) (by rfl) T.gV T.bIni .nil pass0 (pa_cons (pe_callB (lenK K) (by rfl) T.zlen PySem.boot_len (pa_cons (pe_dget (hu_of hr) (pv 5) pe_str (fun _ _ => rfl)) pa_nil)) (pa_cons (pe_dget (hu_of hr) (pv 5) pe_str (fun _ _ => rfl)) pa_nil)))))
      (pss_cons (ps_for PassesOwn.never rfl (pi_range1 (by rfl) T.zrange (pa_cons (pe_op op_add pe_int (pe_call GTake (hr.mono (by decide)) (by rfl) T.gTake T.FTake.kp T.bTake .nil pass0 (pa_cons (pv 1) (pa_cons pe_int pa_nil)))) pa_nil)) (pg_name (i := 7) scLaw.nd rfl (by first | exact .inl rfl | exact .inr rfl)) (pss_cons (ps_set (i := 8) scLaw.nd rfl (by first | exact .inl rfl | exact .inr rfl) (pe_callTy call_int1 (by rfl) T.zint (by decide +kernel) (pa_cons (pe_cmpR op_eq (pe_call GTake (hr.mono (by decide)) (by rfl) T.gTake T.FTake.kp T.bTake .nil pass0 (pa_cons (pv 1) (pa_cons pe_int pa_nil))) pe_int (nomark _)) pa_nil)))
      (pss_cons (ps_set (i := 5) scLaw.nd rfl (by first | exact .inl rfl | exact .inr rfl) (pe_ix (ixl K) (pv 2) (pv 8) (fun _ _ => rfl)))
      (pss_cons (ps_if (pt_cmpR op_eq (pe_call GTake (hr.mono (by decide)) (by rfl) T.gTake T.FTake.kp T.bTake .nil pass0 (pa_cons (pv 1) (pa_cons pe_int pa_nil))) pe_int (nomark _)) (pss_one (ps_if (pt_not (pt_val (pe_call GSame (hr.mono (by decide)) (by rfl) T.gSame T.FSame.kp T.bSame .nil pass0 (pa_cons (pe_call GTold (hr.mono (by decide)) (by rfl) T.gTold T.FTold.kp T.bTold .nil pass0 (pa_cons (pe_ix (ixl K) (pv 6) (pv 8) (fun _ _ => rfl)) (pa_cons pe_non pa_nil))) (pa_cons (pe_call GDueSail (hr.mono (by decide)) (by rfl) T.gDueSail T.FDueSail.kp T.bDueSail .nil pass0 (pa_cons (pv 5) pa_nil)) pa_nil))))) (pss_one (ps_ret pe_bl)) pss_nil)) (pss_cons (ps_set (i := 9) scLaw.nd rfl (by first | exact .inl rfl | exact .inr rfl) (pe_call GLoads (hr.mono (by decide)) (by rfl) T.gLoads T.FLoads.kp T.bLoads .nil pass0 (pa_cons (pv 1) (pa_cons (pv 5) pa_nil))))
      (pss_one (ps_if (pt_not (pt_val (pe_call GSame (hr.mono (by decide)) (by rfl) T.gSame T.FSame.kp T.bSame .nil pass0 (pa_cons (pe_call GTold (hr.mono (by decide)) (by rfl) T.gTold T.FTold.kp T.bTold .nil pass0 (pa_cons (pe_ix (ixl K) (pv 6) (pv 8) (fun _ _ => rfl)) (pa_cons (pv 9) pa_nil))) (pa_cons (pe_call GDueLoad (hr.mono (by decide)) (by rfl) T.gDueLoad T.FDueLoad.kp T.bDueLoad .nil pass0 (pa_cons (pv 5) (pa_cons (pv 9) pa_nil))) pa_nil))))) (pss_one (ps_ret pe_bl)) pss_nil))))
      (pss_one (ps_if (PW.pt (pw_or (pt_not (pt_val (pe_call GSeen (hr.mono (by decide)) (by rfl) T.gSeen T.FSeen.kp T.bSeen .nil pass0 (pa_cons (pe_ix (ixl K) (pv 6) pe_int (fun _ _ => rfl)) (pa_cons (pe_ix (ixl K) (pv 2) pe_int (fun _ _ => rfl)) pa_nil))))) (pw_or1 (pt_not (pt_val (pe_call GSeen (hr.mono (by decide)) (by rfl) T.gSeen T.FSeen.kp T.bSeen .nil pass0 (pa_cons (pe_ix (ixl K) (pv 6) pe_int (fun _ _ => rfl)) (pa_cons (pe_ix (ixl K) (pv 2) pe_int (fun _ _ => rfl)) pa_nil)))))))) (pss_one (ps_ret pe_bl)) pss_nil))))))
      (pss_one (ps_ret (pe_call GAsSim (hr.mono (by decide)) (by rfl) T.gAsSim T.FAsSim.kp T.bAsSim .nil pass0 (pa_cons (pv 1) pa_nil))))))))), ?_⟩)
  · obtain ⟨l, ns, rfl, _⟩ := h
    rfl
  · obtain ⟨l, ns, rfl, hl, hns, hT, k⟩ := h
    have hargs : EvA (tCons (tVar 0) tNil) [some (.ref l), none, none, none, none, none, none, none, none, none, none] H [.ref l] := ea_one (ev_var rfl)
    refine q_asgCallN hargs fun H0 e0 => ⟨l, ns, rfl, ex_l e0 hl, hns, fun p c H1 np nc e1 hp1 => ?_⟩
    have hT1 := (hT.ext e0).ext e1
    refine q_asgLD eld_nil fun bl H2 nbl e2 hbl => ?_
    have hp2 := hp1.ex' e2
    have npbl : bl ≠ p := by
      obtain ⟨⟨xs, h⟩, _⟩ := hp1.has
      exact (ne_of_none h nbl).symm
    have hbl0 : H2 bl = some (.lst []) := LstD.nats (ns := []) hbl
    -- the two dicts
    refine q_forR1 (n := 2) (ea_one ev_c) (by omega) (fun i σ' H' => (∃ x3 x4, σ' = [some (.ref l), some (.ref p), some (.ref bl), x3, x4, none, none, none, none, none, none]) ∧ PoolAt H' p c ∧ Mo (fun b => b = p ∨ b = bl) H2 H' ∧ BoxesAt H2 H' bl i) (fun H3 e3 => ?_) (fun i σ' H' hi q => ?_) (fun σ' H' q => ?_)
    · exact ⟨⟨_, _, rfl⟩, hp2.ex' e3, .ex e3, e3 _ _ hbl0⟩
    · obtain ⟨⟨x3, x4, rfl⟩, hp', m', hB⟩ := q
      refine k_asg (I := fun _ => True) (k_op (g := fun i j => i + j) (k_ev stab_true (fun _ _ => ev_c (v := .int 1))) (k_takeJ rfl (k_ev stab_true (fun _ _ => ev_c (v := .int 5))) (fun i hi => by omega) stab_true)) trivial hp' fun x H3 hx _ hp3 m3 => ?_
      obtain ⟨u, y, gu, ⟨m, gm, g1, g2⟩, gx⟩ := hx
      have gx' : x = u + y := gx
      obtain ⟨n, rfl⟩ : ∃ n : Nat, x = (n : Int) := ⟨x.toNat, by omega⟩
      have mo3 : Mo (fun b => b = p ∨ b = bl) H2 H3 := m'.trans (m3.mono fun b hb => .inl hb)
      have npb : ∀ {b}, H2 b = none → ¬ (b = p ∨ b = bl) := fun {b} hb z => by
        rcases z with rfl | rfl
        · obtain ⟨⟨xs, h⟩, _⟩ := hp2.has
          rw [h] at hb
          cases hb
        · rw [hbl0] at hb
          cases hb
      match i, hi, hB with
      | 0, _, hB =>
        refine s_appDisp rfl rfl rfl (fun x => rfl) (by omega) (by omega) hp3 (m3.keep _ _ hB (.inl npbl)) npbl (by simp) fun d S H4 nd hS m4 hp4 dd hbl4 => ?_
        have m5 : Mo (fun b => b = bl) H4 (upd H4 bl (.lst ([] ++ [V.ref d]))) := (Mo.refl).updL hbl4 (.inl rfl)
        have nd2 : H2 d = none := mo3.fresh nd
        refine ⟨⟨_, _, rfl⟩, hp4.kp (m5.kp (P := 0)) npbl.symm (fun z => ?_), (mo3.trans (m4.mono fun b hb => .inl hb)).trans (m5.mono fun b hb => .inr hb), d, S, upd_same, hS, nd2, ?_⟩
        · exact ne_of_none (hp1.has.2.choose_spec) nbl z
        · have ddx : DictAt (fun b => H2 b = none ∧ b ≠ d) H4 d S := dd.mono (fun b _ z => ⟨mo3.fresh z.1, z.2⟩) (fun z => z.2 rfl)
          exact ddx.kp (m5.kp (P := 0)) (fun b z e => npb z.1 (.inr e)) (fun e => npb nd2 (.inr e))
      | 1, _, hB =>
        obtain ⟨d0, S0, hb1, hS0, nd0, dd0⟩ := hB
        refine s_appDisp rfl rfl rfl (fun x => rfl) (by omega) (by omega) hp3 (m3.keep _ _ hb1 (.inl npbl)) npbl (by simp) fun d S H4 nd hS m4 hp4 dd hbl4 => ?_
        have m5 : Mo (fun b => b = bl) H4 (upd H4 bl (.lst ([V.ref d0] ++ [V.ref d]))) := (Mo.refl).updL hbl4 (.inl rfl)
        have nd2 : H2 d = none := mo3.fresh nd
        have nd' : H' d = none := m3.fresh nd
        have m35 : Mo (fun b => b = p ∨ b = bl) H' (upd H4 bl (.lst ([V.ref d0] ++ [V.ref d]))) := ((m3.trans m4).mono fun b hb => .inl hb).trans (m5.mono fun b hb => .inr hb)
        obtain ⟨o0, ho0, _⟩ := dd0.has
        have nd0d : d0 ≠ d := ne_of_none ho0 nd'
        refine ⟨⟨_, _, rfl⟩, hp4.kp (m5.kp (P := 0)) npbl.symm (fun z => ?_), m'.trans m35, d0, S0, d, S, upd_same, hS0, hS, nd0d, nd0, nd2, ?_, ?_⟩
        · exact ne_of_none (hp1.has.2.choose_spec) nbl z
        · exact dd0.keepTo (m35.kp (P := 0)) (fun b z => npb z.1) (npb nd0) (fun b hb z => ⟨z.1, z.2, fun e => by
            obtain ⟨o, ho, _⟩ := hb
            rw [e, nd'] at ho
            cases ho⟩) (fun z => z.2.1 rfl)
        · have ddx : DictAt (fun b => H2 b = none ∧ b ≠ d0 ∧ b ≠ d) H4 d S := by
            refine dd.mono (fun b _ z => ⟨mo3.fresh z.1, fun e => ?_, z.2⟩) (fun z => z.2.2 rfl)
            obtain ⟨o3, ho3, _⟩ := (m3.there _ _ ho0)
            rw [e, ho3] at z
            cases z.1
          exact ddx.kp (m5.kp (P := 0)) (fun b z e => npb z.1 (.inr e)) (fun e => npb nd2 (.inr e))
      | i + 2, hi, _ => exact absurd hi (by omega)
    · obtain ⟨⟨x3, x4, rfl⟩, hp', m', d0, S0, d1, S1, hbl', hS0, hS1, nd01, nd0, nd1, dd0, dd1⟩ := q
      -- the two voyages
      have tab' : TabS H' a.kP lamQ := (m'.kp (P := a.kP)).tab (hT1.ext e2)
      refine asg_of ?_
      refine ⟨_, rfl, bl, rfl, ⟨_, sq_of hbl'⟩, fun Dl hD => ?_⟩
      refine lc_list (xs := [.ref d0, .ref d1]) (fun i Hx => Ex H' Hx ∧ VoysAt a.cV H' Hx Dl S0 S1 i) ⟨Ex.new hD, upd_same⟩ (fun i Hx _ r => sq_of (r.1 _ _ hbl')) (fun i x Hx hi r => ⟨rfl, ?_⟩) (fun Hv r => ?_)
      · obtain ⟨ex, hv⟩ := r
        unfold tYes
        show (if true = true then _ else _)
        rw [if_pos rfl]
        match i, hi, hv with
        | 0, hi, hv =>
          cases hi
          refine make_ok rfl (dd0.kp (Kp.ex (P := 0) (M := fun _ => False) ex) (fun _ _ z => z) id) hS0 fun x R H4 hR V4 hO e4 => ?_
          have nDx : Dl ≠ x := ne_of_none hv (hO x (.inl rfl))
          have hD4 := e4 _ _ hv
          have mo : Mo (fun b => b = Dl) H4 (upd H4 Dl (.lst ([] ++ [V.ref x]))) := (Mo.refl).updL hD4 (.inl rfl)
          have noD : ∀ b, R.ow x b → b ≠ Dl := fun b hb z => by
            have := hO b hb
            rw [z, hv] at this
            cases this
          exact ⟨[], hD4, by decide, Ex.mut (ex.trans e4) hD, x, R, upd_same, hR, V4.kp (mo.kp (P := 0)) noD, fun b hb => ⟨fresh_back ex (hO b hb), noD b hb⟩⟩
        | 1, hi, hv =>
          cases hi
          obtain ⟨v0, R0, hv0, hR0, V0, hO0⟩ := hv
          refine make_ok rfl (dd1.kp (Kp.ex (P := 0) (M := fun _ => False) ex) (fun _ _ z => z) id) hS1 fun x R H4 hR V4 hO e4 => ?_
          have hD4 := e4 _ _ hv0
          have mo : Mo (fun b => b = Dl) H4 (upd H4 Dl (.lst ([V.ref v0] ++ [V.ref x]))) := (Mo.refl).updL hD4 (.inl rfl)
          have noD : ∀ b, R.ow x b → b ≠ Dl := fun b hb z => by
            have := hO b hb
            rw [z, hv0] at this
            cases this
          refine ⟨[V.ref v0], hD4, by show 1 < sizeLine; decide, Ex.mut (ex.trans e4) hD, v0, R0, x, R, upd_same, hR0, hR, (V0.ex e4).kp (mo.kp (P := 0)) fun b hb => (hO0 b hb).2, V4.kp (mo.kp (P := 0)) noD, hO0, fun b hb => ⟨fresh_back ex (hO b hb), noD b hb⟩, fun b hb z => ?_⟩
          obtain ⟨o, ho, _⟩ := V0.has z
          rw [hO b hb] at ho
          cases ho
        | i + 2, hi, _ => simp at hi
      · obtain ⟨exv, v0, R0, v1, R1, hvl, hR0, hR1, V0, V1, hO0, hO1, hO01⟩ := r
        -- the tags
        obtain ⟨g, g_p, gA0, gA1, gA4, gA5, gAz⟩ := tags p d0 d1 (R0.ow v0) (R1.ow v1)
        have has0 := dd0.has
        have has1 := dd1.has
        obtain ⟨⟨pxs, hpx⟩, ⟨cxs, hcx⟩⟩ := hp'.has
        have nO : ∀ {b}, Has H' b → ¬ R0.ow v0 b ∧ ¬ R1.ow v1 b := fun {b} hb => by
          obtain ⟨o, ho, _⟩ := hb
          exact ⟨fun z => (by have := (hO0 b z).1; rw [ho] at this; cases this), fun z => (by have := (hO1 b z).1; rw [ho] at this; cases this)⟩
        obtain ⟨⟨px2, hpx2⟩, ⟨cx2, hcx2⟩⟩ := hp2.has
        have np0 : p ≠ d0 := ne_of_none hpx2 nd0
        have np1 : p ≠ d1 := ne_of_none hpx2 nd1
        have g_0 : g d0 = 2 := gA0 np0.symm
        have g_1 : g d1 = 3 := gA1 np1.symm (Ne.symm nd01)
        have g_z : ∀ {b}, b ≠ p → b ≠ d0 → b ≠ d1 → ¬ R0.ow v0 b → ¬ R1.ow v1 b → g b = 0 := fun {b} h1 h2 h3 h4 h5 => gAz b h1 h2 h3 h4 h5
        have ne' : ∀ {b o}, H' b = none → H' o ≠ none → b ≠ o := fun {b o} hb ho z => ho (by rw [← z]; exact hb)
        have exd0 : H' d0 ≠ none := by obtain ⟨o, ho, _⟩ := has0; rw [ho]; simp
        have exd1 : H' d1 ≠ none := by obtain ⟨o, ho, _⟩ := has1; rw [ho]; simp
        have exp : H' p ≠ none := by rw [hpx]; simp
        have g_4 : ∀ b, R0.ow v0 b → g b = 4 := fun b hb => by
          have hn := (hO0 b hb).1
          exact gA4 b (ne' hn exp) (ne' hn exd0) (ne' hn exd1) hb
        have g_5 : ∀ b, R1.ow v1 b → g b = 5 := fun b hb => by
          have hn := (hO1 b hb).1
          exact gA5 b (ne' hn exp) (ne' hn exd0) (ne' hn exd1) (hO01 b hb) hb
        have nz2 : ∀ {b}, Has H' b → H2 b = none → b ≠ p := fun {b} _ hb z => by rw [z, hpx2] at hb; cases hb
        have L : LS a g Hv p c bl Dl (fun i => match i with | 0 => d0 | _ => d1) (fun i => match i with | 0 => v0 | _ => v1) (fun i => match i with | 0 => R0 | _ => R1) := by
          refine ⟨⟨hp'.ex' exv, g_p, ?_, exv _ _ hbl', ?_, hvl, ?_, tab'.ext exv⟩, fun i hi => ?_⟩
          · have h1 := nO ⟨_, hcx, noTbl_lst⟩
            exact g_z (by obtain ⟨_, ne⟩ := hp2; exact ne) (ne_of_none hcx2 nd0) (ne_of_none hcx2 nd1) h1.1 h1.2
          · have h1 := nO ⟨_, hbl', noTbl_lst⟩
            exact g_z npbl (ne_of_none hbl0 nd0) (ne_of_none hbl0 nd1) h1.1 h1.2
          · exact g_z (ne' hD exp) (ne' hD exd0) (ne' hD exd1) (fun z => (hO0 _ z).2 rfl) (fun z => (hO1 _ z).2 rfl)
          · match i, hi with
            | 0, _ =>
              refine ⟨?_, by show VoyAt a.cV Hv v0 R0.l R0.lb R0.lf R0.as R0.S; rw [hR0]; exact V0, by show Wf R0.S; rw [hR0]; exact hS0.wf.1, g_0, g_4, by show 1 ≤ R0.S.stacks.length; rw [hR0]; exact hS0.wf.2⟩
              show DictAt (fun b => g b = 0) Hv d0 R0.S
              rw [hR0]
              exact dd0.keepTo (Kp.ex (P := 0) (M := fun _ => False) exv) (fun _ _ z => z) id (fun b hb z => g_z (nz2 hb z.1) z.2.1 z.2.2 (nO hb).1 (nO hb).2) (fun z => by rw [g_0] at z; cases z)
            | 1, _ =>
              refine ⟨?_, by show VoyAt a.cV Hv v1 R1.l R1.lb R1.lf R1.as R1.S; rw [hR1]; exact V1, by show Wf R1.S; rw [hR1]; exact hS1.wf.1, g_1, g_5, by show 1 ≤ R1.S.stacks.length; rw [hR1]; exact hS1.wf.2⟩
              show DictAt (fun b => g b = 0) Hv d1 R1.S
              rw [hR1]
              exact dd1.keepTo (Kp.ex (P := 0) (M := fun _ => False) exv) (fun _ _ z => z) id (fun b hb z => g_z (nz2 hb z.1) z.2.1 z.2.2 (nO hb).1 (nO hb).2) (fun z => by rw [g_1] at z; cases z)
        obtain ⟨D, hDD⟩ : ∃ D : Nat → Addr, D = fun i => match i with | 0 => d0 | _ => d1 := ⟨_, rfl⟩
        obtain ⟨W, hWW⟩ : ∃ W : Nat → Addr, W = fun i => match i with | 0 => v0 | _ => v1 := ⟨_, rfl⟩
        rw [← hDD, ← hWW] at L
        clear hDD hWW
        refine k_for (I := fun _ => True) (R := fun x => 0 ≤ x ∧ x ≤ 100) ((k_op (g := fun i j => i + j) (k_ev stab_true (fun _ _ => ev_c (v := .int 12))) (k_takeJ (j := 1) rfl (k_ev stab_true (fun _ _ => ev_c (v := .int 20))) (fun i hi => by omega) stab_true)).imp (fun i hi => by
          obtain ⟨u, y, gu, ⟨m, gm, g1, g2⟩, gx⟩ := hi
          have gx' : i = u + y := gx
          omega)) trivial L.bs.pool (fun i hi => by omega) (fun i σ' H' => (∃ x3 x4 x5 x7 x8 x9, σ' = [some (.ref l), some (.ref p), some (.ref bl), x3, x4, x5, some (.ref Dl), x7, x8, x9, none]) ∧ ∃ g X, LS a g H' p c bl Dl D W X) (fun H1 _ hp1 m1 => ⟨⟨_, _, _, _, _, _, rfl⟩, g, _, L.take m1 hp1⟩) (fun i n σ' H1 hn hi q => ?_) (fun n σ' H1 hn q => ?_)
        · obtain ⟨⟨x3, x4, x5, x7, x8, x9, rfl⟩, g, X, L⟩ := q
          refine k_asg (I := fun _ => True) (k_int01 (k_takeJ (j := 1) rfl (k_ev stab_true (fun _ _ => ev_c (v := .int 5))) (fun i hi => by omega) stab_true)) trivial L.bs.pool fun at_ H3 hat _ hp3 m3 => ?_
          obtain ⟨j, hj, rfl⟩ : ∃ j : Nat, j < 2 ∧ at_ = (j : Int) := by
            rcases hat with rfl | rfl
            · exact ⟨0, by omega, rfl⟩
            · exact ⟨1, by omega, rfl⟩
          have L3 := L.take m3 hp3
          have hDj : ([V.ref (D 0), V.ref (D 1)] : List L2.V)[j]? = some (.ref (D j)) := by
            match j, hj with
            | 0, _ => rfl
            | 1, _ => rfl
          refine q_asg (ev_op (ev_var (v := .ref bl) rfl) (ev_var (v := nV j) rfl) (rv_ixL (sq_of L3.bs.hb) (atI_nat hDj))) fun H4 e4 => ?_
          have L4 := L3.ex e4
          -- behind the comparison
          have aft : ∀ {σ' : L2.St} {H' : Hp} {x9' : Option L2.V} {Dd : Ends}, σ' = [some (.ref l), some (.ref p), some (.ref bl), x3, x4, some (.ref (D j)), some (.ref Dl), some (nV i), some (nV j), x9', none] → (∃ g X, LS a g H' p c bl Dl D W X) → (∀ H2, (∃ g X, LS a g H2 p c bl Dl D W X) → Dd.nx σ' H2) →
              tIfS (tOr (tNot (tB (tCall (spSeen a) [] E0 (tCons (tOp (rIxL K) (tVar 6) (tC (.int 0))) (tCons (tOp (rIxL K) (tVar 2) (tC (.int 0))) tNil))))) (tNot (tB (tCall (spSeen a) [] E0 (tCons (tOp (rIxL K) (tVar 6) (tC (.int 1))) (tCons (tOp (rIxL K) (tVar 2) (tC (.int 1))) tNil)))))) (tRet (tC (.bl false))) tNext Dd σ' H' := fun {σ' H' x9' Dd} hσ hL fin => by
            subst hσ
            obtain ⟨g, X, L⟩ := hL
            exact s_when (b := false) (et_or (a := false) (b := false) (et_not (a := true) (et_B (ev_seen L (i := 0) (by omega) rfl rfl))) fun _ => et_not (a := true) (et_B (ev_seen L (i := 1) (by omega) rfl rfl))) (fun z => by cases z) (fun _ H2 e2 => fin H2 ⟨g, X, L.ex e2⟩)
          refine k_if0 (I := fun _ => True) (k_takeJ (j := 1) rfl (k_ev stab_true (fun _ _ => ev_c (v := .int 2))) (fun i hi => by omega) stab_true) trivial L4.bs.pool (fun H5 _ hp5 m5 => ?_) (fun H5 _ hp5 m5 => ?_)
          · have L5 := L4.take m5 hp5
            refine s_same (Post := fun H' => ∃ g X, LS a g H' p c bl Dl D W X) (fun Q' hQ => turn_sail L5 hj rfl rfl rfl fun H2 g2 X2 hL => hQ H2 ⟨g2, X2, hL⟩) fun H6 hL => ?_
            exact aft rfl hL fun H7 hL7 => ⟨⟨_, _, _, _, _, _, rfl⟩, hL7⟩
          · have L5 := L4.take m5 hp5
            have s5 := L5.sh j hj
            have hargs : EvA (tCons (tVar 1) (tCons (tVar 5) tNil)) [some (.ref l), some (.ref p), some (.ref bl), x3, x4, some (.ref (D j)), some (.ref Dl), some (nV i), some (nV j), x9, none] H5 [.ref p, .ref (D j)] := ea_cons (ev_var rfl) (ea_one (ev_var rfl))
            refine q_asgCallN hargs fun H6 e6 => ?_
            have L6 := L5.ex e6
            have s6 := L6.sh j hj
            refine ⟨p, c, D j, _, (X j).S, rfl, L6.bs.pool, s6.dd, s6.ww, s6.n1, (fun z => by have := s6.gd; rw [z, L6.bs.gp] at this; omega), (fun b hb z => by rw [z, L6.bs.gp] at hb; cases hb), fun ld ls H7 m7 hp7 nld hld hl6 => ?_⟩
            have L7 := L6.take m7 hp7
            have noV : ¬ (X j).ow (W j) ld := s6.vv.free (.of nld)
            have noD : ld ≠ D j := by
              obtain ⟨o, ho, _⟩ := s6.dd.has
              exact (ne_of_none ho nld).symm
            refine s_same (Post := fun H' => ∃ g X, LS a g H' p c bl Dl D W X) (fun Q' hQ => turn_load L7 hj rfl rfl rfl rfl hld hl6 noV noD fun H2 g2 X2 hL => hQ H2 ⟨g2, X2, hL⟩) fun H8 hL => ?_
            exact aft rfl hL fun H9 hL9 => ⟨⟨_, _, _, _, _, _, rfl⟩, hL9⟩
        · obtain ⟨⟨x3, x4, x5, x7, x8, x9, rfl⟩, g, X, L⟩ := q
          exact ⟨_, rfl, p, c, rfl, L.bs.pool, L.bs.tab, fun H' => k H'⟩
end
end Q
/-! The end: from what the top has written to the law's promise (printed by mkend.py). -/
namespace Q
open PySem PySem.Spec PyProof.Rows L2 Evl LamX QM
theorem all_mk {l : PySem.W.OpenLaw} {w : World} {K : PySem.W.Frag} {h : Heap} {mg : Str → Option Value} {fa : Addr} (X : K.In h) (G : h.Ns mainGlobals mg) (hfa : mg "law" = some (.ref fa))
    {cQuay cOver cBad cMany cFull cV iBad iFull kc kP cdaB ccB cdaF ccF fCount fOpened fLoading fVoyg fSimd fIni fCheck fLoad fSail fStacks fLifts fPool fTake fIsint fSame fBoxes fPlan fWork fInto fLoads fDueLoad fDueSail fTold fSeen fAsSim fLaw : Addr}
    {tP tM : Tok}
    {ocCount kVCount dcCount pmCount cdCount ctCount ocOpened kVOpened dcOpened pmOpened cdOpened ctOpened ocLoading kVLoading dcLoading pmLoading ctLoading ocVoyg kVVoyg dcVoyg pmVoyg cdVoyg ctVoyg ocSimd kVSimd dcSimd pmSimd cdSimd ctSimd ocIni kVIni dcIni pmIni cdIni ctIni ocCheck kVCheck dcCheck pmCheck cdCheck ctCheck ocLoad kVLoad dcLoad pmLoad cdLoad ctLoad ocSail kVSail dcSail pmSail cdSail ctSail ocStacks kVStacks dcStacks pmStacks cdStacks ctStacks ocLifts kVLifts dcLifts pmLifts cdLifts ctLifts ocPool kVPool dcPool pmPool cdPool ctPool ocTake kVTake dcTake pmTake cdTake ctTake ocIsint kVIsint dcIsint pmIsint cdIsint ctIsint ocSame kVSame dcSame pmSame cdSame ctSame ocBoxes kVBoxes dcBoxes pmBoxes cdBoxes ctBoxes ocPlan kVPlan dcPlan pmPlan cdPlan ctPlan ocWork kVWork dcWork pmWork cdWork ctWork ocInto kVInto dcInto pmInto cdInto ctInto ocLoads kVLoads dcLoads pmLoads cdLoads ctLoads ocDueLoad kVDueLoad dcDueLoad pmDueLoad cdDueLoad ctDueLoad ocDueSail kVDueSail dcDueSail pmDueSail cdDueSail ctDueSail ocTold kVTold dcTold pmTold cdTold ctTold ocSeen kVSeen dcSeen pmSeen cdSeen ctSeen ocAsSim kVAsSim dcAsSim pmAsSim cdAsSim ctAsSim ocLaw kVLaw dcLaw pmLaw cdLaw ctLaw : Value}
    {odCount anCount odOpened anOpened odLoading anLoading odVoyg anVoyg odSimd anSimd odIni anIni odCheck anCheck odLoad anLoad odSail anSail odStacks anStacks odLifts anLifts odPool anPool odTake anTake odIsint anIsint odSame anSame odBoxes anBoxes odPlan anPlan odWork anWork odInto anInto odLoads anLoads odDueLoad anDueLoad odDueSail anDueSail odTold anTold odSeen anSeen odAsSim anAsSim odLaw anLaw : Option Addr}
    {slCount slOpened slLoading slVoyg slSimd slIni slCheck slLoad slSail slStacks slLifts slPool slTake slIsint slSame slBoxes slPlan slWork slInto slLoads slDueLoad slDueSail slTold slSeen slAsSim slLaw : Array (Option Value)}
    {nmB qnB : Str} {NNB : Addr} {bsB bmB : List Value} {snB : List Str} {subB : List Value} {abB : Bool} {colB : Option Bool} {ddB : Option Addr} {m0B m1B m2B m3B m5B : Option Value} {ocB dcB pmB ctB : Value} {odB anB : Option Addr} {slB ccsB ksB : Array (Option Value)} {cclB klB : Value} {cddB kdB : Option Addr} {vsB : Array Value} {fileB : Str} {tfB : Tok}
    {nmF qnF : Str} {NNF : Addr} {bsF bmF : List Value} {snF : List Str} {subF : List Value} {abF : Bool} {colF : Option Bool} {ddF : Option Addr} {m0F m1F m2F m3F m5F : Option Value} {ocF dcF pmF ctF : Value} {odF anF : Option Addr} {slF ccsF ksF : Array (Option Value)} {cclF klF : Value} {cddF kdF : Option Addr} {vsF : Array Value} {fileF : Str} {tfF : Tok}
    (gV : PySem.W.nsIn K mainGlobals "Voyage" = some (some (.ref cV)))
    (zmax : PySem.W.nsIn K mainGlobals "max" = some (none))
    (zmin : PySem.W.nsIn K mainGlobals "min" = some (none))
    (zenumerate : PySem.W.nsIn K mainGlobals "enumerate" = some (none))
    (zsorted : PySem.W.nsIn K mainGlobals "sorted" = some (none))
    (zrange : PySem.W.nsIn K mainGlobals "range" = some (none))
    (zlen : PySem.W.nsIn K mainGlobals "len" = some (none))
    (ztuple : PySem.W.nsIn K mainGlobals "tuple" = some (none))
    (zlist : PySem.W.nsIn K mainGlobals "list" = some (none))
    (zisinstance : PySem.W.nsIn K mainGlobals "isinstance" = some (none))
    (zint : PySem.W.nsIn K mainGlobals "int" = some (none))
    (zbool : PySem.W.nsIn K mainGlobals "bool" = some (none))
    (zstr : PySem.W.nsIn K mainGlobals "str" = some (none))
    (zall : PySem.W.nsIn K mainGlobals "all" = some (none))
    (zsuper : PySem.W.nsIn K mainGlobals "super" = some (none))
    (gPorts : PySem.W.nsIn K mainGlobals "PORTS" = some (some (.int 12 tP)))
    (gMost : PySem.W.nsIn K mainGlobals "MOST_BOXES" = some (some (.int 60 tM)))
    (aCount : PySem.W.nsIn K mainGlobals "stack_count" = some (some (.ref fCount)))
    (lCount : K.lookup fCount = some ⟨ocCount, odCount, .func (PySem.W.fnOf "stack_count" "stack_count" (defArgs sCount) (defBody sCount) (defScope sCount) .none kVCount dcCount pmCount anCount cdCount ctCount), slCount⟩)
    (cCount : PySem.W.codeIn K cdCount "stack_count" = true)
    (kCount : PySem.W.keepIn K (.ref fCount) = true)
    (aOpened : PySem.W.nsIn K mainGlobals "opened" = some (some (.ref fOpened)))
    (lOpened : K.lookup fOpened = some ⟨ocOpened, odOpened, .func (PySem.W.fnOf "opened" "opened" (defArgs sOpened) (defBody sOpened) (defScope sOpened) .none kVOpened dcOpened pmOpened anOpened cdOpened ctOpened), slOpened⟩)
    (cOpened : PySem.W.codeIn K cdOpened "opened" = true)
    (kOpened : PySem.W.keepIn K (.ref fOpened) = true)
    (aLoading : PySem.W.nsIn K mainGlobals "loading" = some (some (.ref fLoading)))
    (lLoading : K.lookup fLoading = some ⟨ocLoading, odLoading, .func (PySem.W.fnOf "loading" "loading" (defArgs sLoading) (defBody sLoading) (defScope sLoading) .none kVLoading dcLoading pmLoading anLoading (.ref kc) ctLoading), slLoading⟩)
    (cLoading : PySem.W.codeIn K (.ref kc) "loading" = true)
    (kLoading : PySem.W.keepIn K (.ref fLoading) = true)
    (aVoyg : PySem.W.nsIn K mainGlobals "voyage" = some (some (.ref fVoyg)))
    (lVoyg : K.lookup fVoyg = some ⟨ocVoyg, odVoyg, .func (PySem.W.fnOf "voyage" "voyage" (defArgs sVoyg) (defBody sVoyg) (defScope sVoyg) .none kVVoyg dcVoyg pmVoyg anVoyg cdVoyg ctVoyg), slVoyg⟩)
    (cVoyg : PySem.W.codeIn K cdVoyg "voyage" = true)
    (kVoyg : PySem.W.keepIn K (.ref fVoyg) = true)
    (aSimd : PySem.W.nsIn K mainGlobals "simulated" = some (some (.ref fSimd)))
    (lSimd : K.lookup fSimd = some ⟨ocSimd, odSimd, .func (PySem.W.fnOf "simulated" "simulated" (defArgs sSimd) (defBody sSimd) (defScope sSimd) .none kVSimd dcSimd pmSimd anSimd cdSimd ctSimd), slSimd⟩)
    (cSimd : PySem.W.codeIn K cdSimd "simulated" = true)
    (kSimd : PySem.W.keepIn K (.ref fSimd) = true)
    (aIni : PySem.W.findIn K (.ref cV) "__init__" = some (some (.ref fIni)))
    (iIni : PySem.W.isFn K (.ref fIni) = true)
    (lIni : K.lookup fIni = some ⟨ocIni, odIni, .func (PySem.W.fnOf "__init__" "Voyage.__init__" (defArgs sIni) (defBody sIni) (defScope sIni) .none kVIni dcIni pmIni anIni cdIni ctIni), slIni⟩)
    (cIni : PySem.W.codeIn K cdIni "Voyage.__init__" = true)
    (kIni : PySem.W.keepIn K (.ref fIni) = true)
    (aCheck : PySem.W.findIn K (.ref cV) "_check" = some (some (.ref fCheck)))
    (iCheck : PySem.W.isFn K (.ref fCheck) = true)
    (lCheck : K.lookup fCheck = some ⟨ocCheck, odCheck, .func (PySem.W.fnOf "_check" "Voyage._check" (defArgs sCheck) (defBody sCheck) (defScope sCheck) .none kVCheck dcCheck pmCheck anCheck cdCheck ctCheck), slCheck⟩)
    (cCheck : PySem.W.codeIn K cdCheck "Voyage._check" = true)
    (kCheck : PySem.W.keepIn K (.ref fCheck) = true)
    (aLoad : PySem.W.findIn K (.ref cV) "load" = some (some (.ref fLoad)))
    (iLoad : PySem.W.isFn K (.ref fLoad) = true)
    (lLoad : K.lookup fLoad = some ⟨ocLoad, odLoad, .func (PySem.W.fnOf "load" "Voyage.load" (defArgs sLoad) (defBody sLoad) (defScope sLoad) .none kVLoad dcLoad pmLoad anLoad cdLoad ctLoad), slLoad⟩)
    (cLoad : PySem.W.codeIn K cdLoad "Voyage.load" = true)
    (kLoad : PySem.W.keepIn K (.ref fLoad) = true)
    (aSail : PySem.W.findIn K (.ref cV) "sail" = some (some (.ref fSail)))
    (iSail : PySem.W.isFn K (.ref fSail) = true)
    (lSail : K.lookup fSail = some ⟨ocSail, odSail, .func (PySem.W.fnOf "sail" "Voyage.sail" (defArgs sSail) (defBody sSail) (defScope sSail) .none kVSail dcSail pmSail anSail cdSail ctSail), slSail⟩)
    (cSail : PySem.W.codeIn K cdSail "Voyage.sail" = true)
    (kSail : PySem.W.keepIn K (.ref fSail) = true)
    (aStacks : PySem.W.findIn K (.ref cV) "stacks" = some (some (.ref fStacks)))
    (iStacks : PySem.W.isFn K (.ref fStacks) = true)
    (lStacks : K.lookup fStacks = some ⟨ocStacks, odStacks, .func (PySem.W.fnOf "stacks" "Voyage.stacks" (defArgs sStacks) (defBody sStacks) (defScope sStacks) .none kVStacks dcStacks pmStacks anStacks cdStacks ctStacks), slStacks⟩)
    (cStacks : PySem.W.codeIn K cdStacks "Voyage.stacks" = true)
    (kStacks : PySem.W.keepIn K (.ref fStacks) = true)
    (aLifts : PySem.W.findIn K (.ref cV) "lift_counts" = some (some (.ref fLifts)))
    (iLifts : PySem.W.isFn K (.ref fLifts) = true)
    (lLifts : K.lookup fLifts = some ⟨ocLifts, odLifts, .func (PySem.W.fnOf "lift_counts" "Voyage.lift_counts" (defArgs sLifts) (defBody sLifts) (defScope sLifts) .none kVLifts dcLifts pmLifts anLifts cdLifts ctLifts), slLifts⟩)
    (cLifts : PySem.W.codeIn K cdLifts "Voyage.lift_counts" = true)
    (kLifts : PySem.W.keepIn K (.ref fLifts) = true)
    (aPool : PySem.W.nsIn K mainGlobals "_law_pool" = some (some (.ref fPool)))
    (lPool : K.lookup fPool = some ⟨ocPool, odPool, .func (PySem.W.fnOf "_law_pool" "_law_pool" (defArgs sPool) (defBody sPool) (defScope sPool) .none kVPool dcPool pmPool anPool cdPool ctPool), slPool⟩)
    (cPool : PySem.W.codeIn K cdPool "_law_pool" = true)
    (kPool : PySem.W.keepIn K (.ref fPool) = true)
    (aTake : PySem.W.nsIn K mainGlobals "_law_take" = some (some (.ref fTake)))
    (lTake : K.lookup fTake = some ⟨ocTake, odTake, .func (PySem.W.fnOf "_law_take" "_law_take" (defArgs sTake) (defBody sTake) (defScope sTake) .none kVTake dcTake pmTake anTake cdTake ctTake), slTake⟩)
    (cTake : PySem.W.codeIn K cdTake "_law_take" = true)
    (kTake : PySem.W.keepIn K (.ref fTake) = true)
    (aIsint : PySem.W.nsIn K mainGlobals "_law_is_integer" = some (some (.ref fIsint)))
    (lIsint : K.lookup fIsint = some ⟨ocIsint, odIsint, .func (PySem.W.fnOf "_law_is_integer" "_law_is_integer" (defArgs sIsint) (defBody sIsint) (defScope sIsint) .none kVIsint dcIsint pmIsint anIsint cdIsint ctIsint), slIsint⟩)
    (cIsint : PySem.W.codeIn K cdIsint "_law_is_integer" = true)
    (kIsint : PySem.W.keepIn K (.ref fIsint) = true)
    (aSame : PySem.W.nsIn K mainGlobals "_law_same" = some (some (.ref fSame)))
    (lSame : K.lookup fSame = some ⟨ocSame, odSame, .func (PySem.W.fnOf "_law_same" "_law_same" (defArgs sSame) (defBody sSame) (defScope sSame) .none kVSame dcSame pmSame anSame cdSame ctSame), slSame⟩)
    (cSame : PySem.W.codeIn K cdSame "_law_same" = true)
    (kSame : PySem.W.keepIn K (.ref fSame) = true)
    (aBoxes : PySem.W.nsIn K mainGlobals "_law_boxes" = some (some (.ref fBoxes)))
    (lBoxes : K.lookup fBoxes = some ⟨ocBoxes, odBoxes, .func (PySem.W.fnOf "_law_boxes" "_law_boxes" (defArgs sBoxes) (defBody sBoxes) (defScope sBoxes) .none kVBoxes dcBoxes pmBoxes anBoxes cdBoxes ctBoxes), slBoxes⟩)
    (cBoxes : PySem.W.codeIn K cdBoxes "_law_boxes" = true)
    (kBoxes : PySem.W.keepIn K (.ref fBoxes) = true)
    (aPlan : PySem.W.nsIn K mainGlobals "_law_plan" = some (some (.ref fPlan)))
    (lPlan : K.lookup fPlan = some ⟨ocPlan, odPlan, .func (PySem.W.fnOf "_law_plan" "_law_plan" (defArgs sPlan) (defBody sPlan) (defScope sPlan) .none kVPlan dcPlan pmPlan anPlan cdPlan ctPlan), slPlan⟩)
    (cPlan : PySem.W.codeIn K cdPlan "_law_plan" = true)
    (kPlan : PySem.W.keepIn K (.ref fPlan) = true)
    (aWork : PySem.W.nsIn K mainGlobals "_law_work" = some (some (.ref fWork)))
    (lWork : K.lookup fWork = some ⟨ocWork, odWork, .func (PySem.W.fnOf "_law_work" "_law_work" (defArgs sWork) (defBody sWork) (defScope sWork) .none kVWork dcWork pmWork anWork cdWork ctWork), slWork⟩)
    (cWork : PySem.W.codeIn K cdWork "_law_work" = true)
    (kWork : PySem.W.keepIn K (.ref fWork) = true)
    (aInto : PySem.W.nsIn K mainGlobals "_law_into" = some (some (.ref fInto)))
    (lInto : K.lookup fInto = some ⟨ocInto, odInto, .func (PySem.W.fnOf "_law_into" "_law_into" (defArgs sInto) (defBody sInto) (defScope sInto) .none kVInto dcInto pmInto anInto cdInto ctInto), slInto⟩)
    (cInto : PySem.W.codeIn K cdInto "_law_into" = true)
    (kInto : PySem.W.keepIn K (.ref fInto) = true)
    (aLoads : PySem.W.nsIn K mainGlobals "_law_loads" = some (some (.ref fLoads)))
    (lLoads : K.lookup fLoads = some ⟨ocLoads, odLoads, .func (PySem.W.fnOf "_law_loads" "_law_loads" (defArgs sLoads) (defBody sLoads) (defScope sLoads) .none kVLoads dcLoads pmLoads anLoads cdLoads ctLoads), slLoads⟩)
    (cLoads : PySem.W.codeIn K cdLoads "_law_loads" = true)
    (kLoads : PySem.W.keepIn K (.ref fLoads) = true)
    (aDueLoad : PySem.W.nsIn K mainGlobals "_law_due_load" = some (some (.ref fDueLoad)))
    (lDueLoad : K.lookup fDueLoad = some ⟨ocDueLoad, odDueLoad, .func (PySem.W.fnOf "_law_due_load" "_law_due_load" (defArgs sDueLoad) (defBody sDueLoad) (defScope sDueLoad) .none kVDueLoad dcDueLoad pmDueLoad anDueLoad cdDueLoad ctDueLoad), slDueLoad⟩)
    (cDueLoad : PySem.W.codeIn K cdDueLoad "_law_due_load" = true)
    (kDueLoad : PySem.W.keepIn K (.ref fDueLoad) = true)
    (aDueSail : PySem.W.nsIn K mainGlobals "_law_due_sail" = some (some (.ref fDueSail)))
    (lDueSail : K.lookup fDueSail = some ⟨ocDueSail, odDueSail, .func (PySem.W.fnOf "_law_due_sail" "_law_due_sail" (defArgs sDueSail) (defBody sDueSail) (defScope sDueSail) .none kVDueSail dcDueSail pmDueSail anDueSail cdDueSail ctDueSail), slDueSail⟩)
    (cDueSail : PySem.W.codeIn K cdDueSail "_law_due_sail" = true)
    (kDueSail : PySem.W.keepIn K (.ref fDueSail) = true)
    (aTold : PySem.W.nsIn K mainGlobals "_law_told" = some (some (.ref fTold)))
    (lTold : K.lookup fTold = some ⟨ocTold, odTold, .func (PySem.W.fnOf "_law_told" "_law_told" (defArgs sTold) (defBody sTold) (defScope sTold) .none kVTold dcTold pmTold anTold cdTold ctTold), slTold⟩)
    (cTold : PySem.W.codeIn K cdTold "_law_told" = true)
    (kTold : PySem.W.keepIn K (.ref fTold) = true)
    (aSeen : PySem.W.nsIn K mainGlobals "_law_seen" = some (some (.ref fSeen)))
    (lSeen : K.lookup fSeen = some ⟨ocSeen, odSeen, .func (PySem.W.fnOf "_law_seen" "_law_seen" (defArgs sSeen) (defBody sSeen) (defScope sSeen) .none kVSeen dcSeen pmSeen anSeen cdSeen ctSeen), slSeen⟩)
    (cSeen : PySem.W.codeIn K cdSeen "_law_seen" = true)
    (kSeen : PySem.W.keepIn K (.ref fSeen) = true)
    (aAsSim : PySem.W.nsIn K mainGlobals "_law_is_as_simulated" = some (some (.ref fAsSim)))
    (lAsSim : K.lookup fAsSim = some ⟨ocAsSim, odAsSim, .func (PySem.W.fnOf "_law_is_as_simulated" "_law_is_as_simulated" (defArgs sAsSim) (defBody sAsSim) (defScope sAsSim) .none kVAsSim dcAsSim pmAsSim anAsSim cdAsSim ctAsSim), slAsSim⟩)
    (cAsSim : PySem.W.codeIn K cdAsSim "_law_is_as_simulated" = true)
    (kAsSim : PySem.W.keepIn K (.ref fAsSim) = true)
    (aLaw : PySem.W.nsIn K mainGlobals "law" = some (some (.ref fLaw)))
    (lLaw : K.lookup fLaw = some ⟨ocLaw, odLaw, .func (PySem.W.fnOf "law" "law" (defArgs sLaw) (defBody sLaw) (defScope sLaw) .none kVLaw dcLaw pmLaw anLaw cdLaw ctLaw), slLaw⟩)
    (cLaw : PySem.W.codeIn K cdLaw "law" = true)
    (kLaw : PySem.W.keepIn K (.ref fLaw) = true)
    (hdT : PySem.W.codeHdIn K kc kP = true)
    (nT : K.lookup kP = none)
    (pgV : PySem.W.plainGet K cV Str.empty = true)
    (hdV : PySem.W.hasDictIn K cV = true)
    (poV : PySem.W.plainOver K cV = true)
    (saV : PySem.W.findIn K (.ref cV) "__setattr__" = some (some (.builtin "object.__setattr__")))
    (mkV : PySem.W.makesIn K cV = true)
    (kcV : PySem.W.keepIn K (.ref cV) = true)
    (noheight : PySem.W.findIn K (.ref cV) "height" = some none)
    (noport : PySem.W.findIn K (.ref cV) "port" = some none)
    (no_stacks : PySem.W.findIn K (.ref cV) "_stacks" = some none)
    (no_boxes : PySem.W.findIn K (.ref cV) "_boxes" = some none)
    (no_lifts : PySem.W.findIn K (.ref cV) "_lifts" = some none)
    (gQ : PySem.W.nsIn K mainGlobals "QuayError" = some (some (.ref cQuay)))
    (gO : PySem.W.nsIn K mainGlobals "VoyageOver" = some (some (.ref cOver)))
    (qO : PySem.W.excIn K cOver [.type "ValueError", .type "Exception", .type "BaseException", .type "object"] "ValueError.__new__" = true)
    (kkO : PySem.W.keepIn K (.ref cOver) = true)
    (eO : PySem.W.subIn K (.ref cOver) (.type "BaseException") = some true)
    (tO : PySem.W.typeIn K (.ref cOver) = some (.type "type"))
    (gM : PySem.W.nsIn K mainGlobals "TooManyBoxes" = some (some (.ref cMany)))
    (qM : PySem.W.excIn K cMany [.type "ValueError", .type "Exception", .type "BaseException", .type "object"] "ValueError.__new__" = true)
    (kkM : PySem.W.keepIn K (.ref cMany) = true)
    (eM : PySem.W.subIn K (.ref cMany) (.type "BaseException") = some true)
    (tM : PySem.W.typeIn K (.ref cMany) = some (.type "type"))
    (gB : PySem.W.nsIn K mainGlobals "BadStack" = some (some (.ref cBad)))
    (xB : K.lookup cBad = some (excClassObj nmB qnB cBad NNB bsB bmB true snB subB abB colB ddB m0B m1B m2B m3B m5B "ValueError.__new__"))
    (vB : PySem.HandSPX.refsVE bmB = true)
    (saB : PySem.W.findIn K (.ref cBad) "__setattr__" = some (some (.builtin "object.__setattr__")))
    (gaB : PySem.W.findIn K (.ref cBad) "__getattribute__" = some (some (.builtin "BaseException.__getattribute__")))
    (ggB : PySem.W.findIn K (.ref cBad) "__getattr__" = some none)
    (nnB : PySem.W.findIn K (.ref cBad) "box" = some none)
    (icB : PySem.W.findIn K (.ref cBad) "__init__" = some (some (.ref iBad)))
    (tiB : PySem.W.typeIn K (.ref iBad) = some (.type "function"))
    (kkB : PySem.W.keepIn K (.ref cBad) = true)
    (eB : PySem.W.subIn K (.ref cBad) (.type "BaseException") = some true)
    (veB : PySem.W.subIn K (.ref cBad) (.type "ValueError") = some true)
    (tB : PySem.W.typeIn K (.ref cBad) = some (.type "type"))
    (hdB : PySem.W.hasDictIn K cBad = true)
    (mrB : PySem.W.mroIn K cBad (.ref cBad) = some true)
    (suB : PySem.W.ks_superIn K cBad cBad "__init__" = some (some (.builtin "ValueError.__init__")))
    (flB : K.lookup iBad = some ⟨ocB, odB, .func (PySem.W.ksFn "__init__" "BadStack.__init__" (L2.defArgs sBad) (L2.defBody sBad) (L2.defScope sBad) .none .none dcB pmB anB (.ref cdaB) ctB ccB), slB⟩)
    (fcB : PySem.W.codeIn K (.ref cdaB) "BadStack.__init__" = true)
    (foB : K.lookup cdaB = some ⟨cclB, cddB, .fields vsB, ccsB⟩)
    (f2B : vsB[2]? = some (.str fileB tfB))
    (f3B : ((l.prog.main.file : Str) == fileB) = true)
    (clB : K.lookup ccB = some ⟨klB, kdB, .cell (some (.ref cBad)), ksB⟩)
    (gF : PySem.W.nsIn K mainGlobals "StackFull" = some (some (.ref cFull)))
    (xF : K.lookup cFull = some (excClassObj nmF qnF cFull NNF bsF bmF true snF subF abF colF ddF m0F m1F m2F m3F m5F "ValueError.__new__"))
    (vF : PySem.HandSPX.refsVE bmF = true)
    (saF : PySem.W.findIn K (.ref cFull) "__setattr__" = some (some (.builtin "object.__setattr__")))
    (gaF : PySem.W.findIn K (.ref cFull) "__getattribute__" = some (some (.builtin "BaseException.__getattribute__")))
    (ggF : PySem.W.findIn K (.ref cFull) "__getattr__" = some none)
    (nnF : PySem.W.findIn K (.ref cFull) "stack" = some none)
    (icF : PySem.W.findIn K (.ref cFull) "__init__" = some (some (.ref iFull)))
    (tiF : PySem.W.typeIn K (.ref iFull) = some (.type "function"))
    (kkF : PySem.W.keepIn K (.ref cFull) = true)
    (eF : PySem.W.subIn K (.ref cFull) (.type "BaseException") = some true)
    (veF : PySem.W.subIn K (.ref cFull) (.type "ValueError") = some true)
    (tF : PySem.W.typeIn K (.ref cFull) = some (.type "type"))
    (hdF : PySem.W.hasDictIn K cFull = true)
    (mrF : PySem.W.mroIn K cFull (.ref cFull) = some true)
    (suF : PySem.W.ks_superIn K cFull cFull "__init__" = some (some (.builtin "ValueError.__init__")))
    (flF : K.lookup iFull = some ⟨ocF, odF, .func (PySem.W.ksFn "__init__" "StackFull.__init__" (L2.defArgs sFull) (L2.defBody sFull) (L2.defScope sFull) .none .none dcF pmF anF (.ref cdaF) ctF ccF), slF⟩)
    (fcF : PySem.W.codeIn K (.ref cdaF) "StackFull.__init__" = true)
    (foF : K.lookup cdaF = some ⟨cclF, cddF, .fields vsF, ccsF⟩)
    (f2F : vsF[2]? = some (.str fileF tfF))
    (f3F : ((l.prog.main.file : Str) == fileF) = true)
    (clF : K.lookup ccF = some ⟨klF, kdF, .cell (some (.ref cFull)), ksF⟩)
    (tp : PySem.W.nsIn K cStatics "thirdparty.any" = some none)
    (topS : (l.prog.main.scope.names.lookup ("super" : Str)).isSome = false)
    (echg : PySem.W.findIn K (.ref cOver) "__getattribute__" = some (some (.builtin "BaseException.__getattribute__")))
    (echk : PySem.W.findIn K (.ref cOver) "__getattr__" = some none)
    (echd : PySem.W.hasDictIn K cOver = true)
    (echa : PySem.W.findIn K (.ref cOver) "__class__" = some (some (.builtin "object.__class__")))
    (echn : PySem.W.specialIn K (.builtin "object.__class__") "__get__" = some (some (.builtin "getset_descriptor.__get__")))
    (echt : PySem.W.takesIn K (.builtin "object.__class__") = some true)
    (echm : PySem.W.mroIn K cOver (.type "object") = some true)
    (kit : PySem.W.kitOne K (.ref cOver) (.ref cQuay) = some true)
    (emoo : PySem.W.exmOne K (.ref cOver) (.ref cOver) = some true)
    (embo : PySem.W.exmOne K (.ref cBad) (.ref cOver) = some false)
    (embb : PySem.W.exmOne K (.ref cBad) (.ref cBad) = some true)
    (emmo : PySem.W.exmOne K (.ref cMany) (.ref cOver) = some false)
    (emmb : PySem.W.exmOne K (.ref cMany) (.ref cBad) = some false)
    (emmm : PySem.W.exmOne K (.ref cMany) (.ref cMany) = some true)
    (emfo : PySem.W.exmOne K (.ref cFull) (.ref cOver) = some false)
    (emfb : PySem.W.exmOne K (.ref cFull) (.ref cBad) = some false)
    (emfm : PySem.W.exmOne K (.ref cFull) (.ref cMany) = some false)
    (emff : PySem.W.exmOne K (.ref cFull) (.ref cFull) = some true)
    (tabT : h.get? kP = some { cls := .none, data := .fields #[] }) :
    LamX.LawAtS l w K CX0 7 63 "_law_script" mg fa h := by
  have e := hfa.symm.trans (PySem.W.mg_of X G aLaw)
  cases e
  have FCount := fun_mk (st := sCount) lCount cCount kCount
  have bCount := FCount.binds (ps := ["plan"]) fun _ _ _ _ _ _ us hl => match us, hl with | [_], _ => rfl
  have FOpened := fun_mk (st := sOpened) lOpened cOpened kOpened
  have bOpened := FOpened.binds (ps := ["stack", "boxes", "port"]) fun _ _ _ _ _ _ us hl => match us, hl with | [_, _, _], _ => rfl
  have FLoading := fun_mk (st := sLoading) lLoading cLoading kLoading
  have bLoading := FLoading.binds (ps := ["boxes", "chosen"]) fun _ _ _ _ _ _ us hl => match us, hl with | [_, _], _ => rfl
  have FVoyg := fun_mk (st := sVoyg) lVoyg cVoyg kVoyg
  have bVoyg := FVoyg.binds (ps := ["boxes", "plan"]) fun _ _ _ _ _ _ us hl => match us, hl with | [_, _], _ => rfl
  have FSimd := fun_mk (st := sSimd) lSimd cSimd kSimd
  have bSimd := FSimd.binds (ps := ["boxes", "plan"]) fun _ _ _ _ _ _ us hl => match us, hl with | [_, _], _ => rfl
  have FIni := fun_mk (st := sIni) lIni cIni kIni
  have bIni := FIni.binds (ps := ["self", "stacks", "height"]) fun _ _ _ _ _ _ us hl => match us, hl with | [_, _, _], _ => rfl
  have FCheck := fun_mk (st := sCheck) lCheck cCheck kCheck
  have bCheck := FCheck.binds (ps := ["self", "loads"]) fun _ _ _ _ _ _ us hl => match us, hl with | [_, _], _ => rfl
  have FLoad := fun_mk (st := sLoad) lLoad cLoad kLoad
  have bLoad := FLoad.binds (ps := ["self", "loads"]) fun _ _ _ _ _ _ us hl => match us, hl with | [_, _], _ => rfl
  have FSail := fun_mk (st := sSail) lSail cSail kSail
  have bSail := FSail.binds (ps := ["self"]) fun _ _ _ _ _ _ us hl => match us, hl with | [_], _ => rfl
  have FStacks := fun_mk (st := sStacks) lStacks cStacks kStacks
  have bStacks := FStacks.binds (ps := ["self"]) fun _ _ _ _ _ _ us hl => match us, hl with | [_], _ => rfl
  have FLifts := fun_mk (st := sLifts) lLifts cLifts kLifts
  have bLifts := FLifts.binds (ps := ["self"]) fun _ _ _ _ _ _ us hl => match us, hl with | [_], _ => rfl
  have FPool := fun_mk (st := sPool) lPool cPool kPool
  have bPool := FPool.binds (ps := ["_law_script"]) fun _ _ _ _ _ _ us hl => match us, hl with | [_], _ => rfl
  have FTake := fun_mk (st := sTake) lTake cTake kTake
  have bTake := FTake.binds (ps := ["_law_pool_here", "_law_many"]) fun _ _ _ _ _ _ us hl => match us, hl with | [_, _], _ => rfl
  have FIsint := fun_mk (st := sIsint) lIsint cIsint kIsint
  have bIsint := FIsint.binds (ps := ["_law_actual"]) fun _ _ _ _ _ _ us hl => match us, hl with | [_], _ => rfl
  have FSame := fun_mk (st := sSame) lSame cSame kSame
  have bSame := FSame.binds (ps := ["_law_actual", "_law_due"]) fun _ _ _ _ _ _ us hl => match us, hl with | [_, _], _ => rfl
  have FBoxes := fun_mk (st := sBoxes) lBoxes cBoxes kBoxes
  have bBoxes := FBoxes.binds (ps := ["_law_pool_here", "_law_most"]) fun _ _ _ _ _ _ us hl => match us, hl with | [_, _], _ => rfl
  have FPlan := fun_mk (st := sPlan) lPlan cPlan kPlan
  have bPlan := FPlan.binds (ps := ["_law_pool_here", "_law_boxes_here", "_law_stacks"]) fun _ _ _ _ _ _ us hl => match us, hl with | [_, _, _], _ => rfl
  have FWork := fun_mk (st := sWork) lWork cWork kWork
  have bWork := FWork.binds (ps := ["_law_boxes_here", "_law_stack", "_law_port"]) fun _ _ _ _ _ _ us hl => match us, hl with | [_, _, _], _ => rfl
  have FInto := fun_mk (st := sInto) lInto cInto kInto
  have bInto := FInto.binds (ps := ["_law_boxes_here", "_law_chosen"]) fun _ _ _ _ _ _ us hl => match us, hl with | [_, _], _ => rfl
  have FLoads := fun_mk (st := sLoads) lLoads cLoads kLoads
  have bLoads := FLoads.binds (ps := ["_law_pool_here", "_law_box"]) fun _ _ _ _ _ _ us hl => match us, hl with | [_, _], _ => rfl
  have FDueLoad := fun_mk (st := sDueLoad) lDueLoad cDueLoad kDueLoad
  have bDueLoad := FDueLoad.binds (ps := ["_law_box", "_law_loads_here"]) fun _ _ _ _ _ _ us hl => match us, hl with | [_, _], _ => rfl
  have FDueSail := fun_mk (st := sDueSail) lDueSail cDueSail kDueSail
  have bDueSail := FDueSail.binds (ps := ["_law_box"]) fun _ _ _ _ _ _ us hl => match us, hl with | [_], _ => rfl
  have FTold := fun_mk (st := sTold) lTold cTold kTold
  have bTold := FTold.binds (ps := ["_law_voyage", "_law_loads_here"]) fun _ _ _ _ _ _ us hl => match us, hl with | [_, _], _ => rfl
  have FSeen := fun_mk (st := sSeen) lSeen cSeen kSeen
  have bSeen := FSeen.binds (ps := ["_law_voyage", "_law_box"]) fun _ _ _ _ _ _ us hl => match us, hl with | [_, _], _ => rfl
  have FAsSim := fun_mk (st := sAsSim) lAsSim cAsSim kAsSim
  have bAsSim := FAsSim.binds (ps := ["_law_pool_here"]) fun _ _ _ _ _ _ us hl => match us, hl with | [_], _ => rfl
  have FLaw := fun_mk (st := sLaw) lLaw cLaw kLaw
  have bLaw := FLaw.binds (ps := ["_law_script"]) fun _ _ _ _ _ _ us hl => match us, hl with | [_], _ => rfl
  let a : Ads := { aCount := fCount, fCount := PySem.W.fnOf "stack_count" "stack_count" (defArgs sCount) (defBody sCount) (defScope sCount) .none kVCount dcCount pmCount anCount cdCount ctCount, aOpened := fOpened, fOpened := PySem.W.fnOf "opened" "opened" (defArgs sOpened) (defBody sOpened) (defScope sOpened) .none kVOpened dcOpened pmOpened anOpened cdOpened ctOpened, aLoading := fLoading, fLoading := PySem.W.fnOf "loading" "loading" (defArgs sLoading) (defBody sLoading) (defScope sLoading) .none kVLoading dcLoading pmLoading anLoading (.ref kc) ctLoading, aVoyg := fVoyg, fVoyg := PySem.W.fnOf "voyage" "voyage" (defArgs sVoyg) (defBody sVoyg) (defScope sVoyg) .none kVVoyg dcVoyg pmVoyg anVoyg cdVoyg ctVoyg, aSimd := fSimd, fSimd := PySem.W.fnOf "simulated" "simulated" (defArgs sSimd) (defBody sSimd) (defScope sSimd) .none kVSimd dcSimd pmSimd anSimd cdSimd ctSimd, aIni := fIni, fIni := PySem.W.fnOf "__init__" "Voyage.__init__" (defArgs sIni) (defBody sIni) (defScope sIni) .none kVIni dcIni pmIni anIni cdIni ctIni, aCheck := fCheck, fCheck := PySem.W.fnOf "_check" "Voyage._check" (defArgs sCheck) (defBody sCheck) (defScope sCheck) .none kVCheck dcCheck pmCheck anCheck cdCheck ctCheck, aLoad := fLoad, fLoad := PySem.W.fnOf "load" "Voyage.load" (defArgs sLoad) (defBody sLoad) (defScope sLoad) .none kVLoad dcLoad pmLoad anLoad cdLoad ctLoad, aSail := fSail, fSail := PySem.W.fnOf "sail" "Voyage.sail" (defArgs sSail) (defBody sSail) (defScope sSail) .none kVSail dcSail pmSail anSail cdSail ctSail, aStacks := fStacks, fStacks := PySem.W.fnOf "stacks" "Voyage.stacks" (defArgs sStacks) (defBody sStacks) (defScope sStacks) .none kVStacks dcStacks pmStacks anStacks cdStacks ctStacks, aLifts := fLifts, fLifts := PySem.W.fnOf "lift_counts" "Voyage.lift_counts" (defArgs sLifts) (defBody sLifts) (defScope sLifts) .none kVLifts dcLifts pmLifts anLifts cdLifts ctLifts, aPool := fPool, fPool := PySem.W.fnOf "_law_pool" "_law_pool" (defArgs sPool) (defBody sPool) (defScope sPool) .none kVPool dcPool pmPool anPool cdPool ctPool, aTake := fTake, fTake := PySem.W.fnOf "_law_take" "_law_take" (defArgs sTake) (defBody sTake) (defScope sTake) .none kVTake dcTake pmTake anTake cdTake ctTake, aIsint := fIsint, fIsint := PySem.W.fnOf "_law_is_integer" "_law_is_integer" (defArgs sIsint) (defBody sIsint) (defScope sIsint) .none kVIsint dcIsint pmIsint anIsint cdIsint ctIsint, aSame := fSame, fSame := PySem.W.fnOf "_law_same" "_law_same" (defArgs sSame) (defBody sSame) (defScope sSame) .none kVSame dcSame pmSame anSame cdSame ctSame, aBoxes := fBoxes, fBoxes := PySem.W.fnOf "_law_boxes" "_law_boxes" (defArgs sBoxes) (defBody sBoxes) (defScope sBoxes) .none kVBoxes dcBoxes pmBoxes anBoxes cdBoxes ctBoxes, aPlan := fPlan, fPlan := PySem.W.fnOf "_law_plan" "_law_plan" (defArgs sPlan) (defBody sPlan) (defScope sPlan) .none kVPlan dcPlan pmPlan anPlan cdPlan ctPlan, aWork := fWork, fWork := PySem.W.fnOf "_law_work" "_law_work" (defArgs sWork) (defBody sWork) (defScope sWork) .none kVWork dcWork pmWork anWork cdWork ctWork, aInto := fInto, fInto := PySem.W.fnOf "_law_into" "_law_into" (defArgs sInto) (defBody sInto) (defScope sInto) .none kVInto dcInto pmInto anInto cdInto ctInto, aLoads := fLoads, fLoads := PySem.W.fnOf "_law_loads" "_law_loads" (defArgs sLoads) (defBody sLoads) (defScope sLoads) .none kVLoads dcLoads pmLoads anLoads cdLoads ctLoads, aDueLoad := fDueLoad, fDueLoad := PySem.W.fnOf "_law_due_load" "_law_due_load" (defArgs sDueLoad) (defBody sDueLoad) (defScope sDueLoad) .none kVDueLoad dcDueLoad pmDueLoad anDueLoad cdDueLoad ctDueLoad, aDueSail := fDueSail, fDueSail := PySem.W.fnOf "_law_due_sail" "_law_due_sail" (defArgs sDueSail) (defBody sDueSail) (defScope sDueSail) .none kVDueSail dcDueSail pmDueSail anDueSail cdDueSail ctDueSail, aTold := fTold, fTold := PySem.W.fnOf "_law_told" "_law_told" (defArgs sTold) (defBody sTold) (defScope sTold) .none kVTold dcTold pmTold anTold cdTold ctTold, aSeen := fSeen, fSeen := PySem.W.fnOf "_law_seen" "_law_seen" (defArgs sSeen) (defBody sSeen) (defScope sSeen) .none kVSeen dcSeen pmSeen anSeen cdSeen ctSeen, aAsSim := fAsSim, fAsSim := PySem.W.fnOf "_law_is_as_simulated" "_law_is_as_simulated" (defArgs sAsSim) (defBody sAsSim) (defScope sAsSim) .none kVAsSim dcAsSim pmAsSim anAsSim cdAsSim ctAsSim, aLaw := fa, fLaw := PySem.W.fnOf "law" "law" (defArgs sLaw) (defBody sLaw) (defScope sLaw) .none kVLaw dcLaw pmLaw anLaw cdLaw ctLaw, cV := cV, cQuay := cQuay, cOver := cOver, cBad := cBad, cMany := cMany, cFull := cFull, iBad := iBad, iFull := iFull, kc := kc, kP := kP }
  have T : Txt K mg a := { zmax := PySem.W.mg_none_of X G zmax, zmin := PySem.W.mg_none_of X G zmin, zenumerate := PySem.W.mg_none_of X G zenumerate, zsorted := PySem.W.mg_none_of X G zsorted, zrange := PySem.W.mg_none_of X G zrange, zlen := PySem.W.mg_none_of X G zlen, ztuple := PySem.W.mg_none_of X G ztuple, zlist := PySem.W.mg_none_of X G zlist, zisinstance := PySem.W.mg_none_of X G zisinstance, zint := PySem.W.mg_none_of X G zint, zbool := PySem.W.mg_none_of X G zbool, zstr := PySem.W.mg_none_of X G zstr, zall := PySem.W.mg_none_of X G zall, zPorts := ⟨_, PySem.W.mg_of X G gPorts⟩, zMost := ⟨_, PySem.W.mg_of X G gMost⟩, FCount := FCount, bCount := bCount, gCount := PySem.W.mg_of X G aCount, FOpened := FOpened, bOpened := bOpened, gOpened := PySem.W.mg_of X G aOpened, FLoading := FLoading, bLoading := bLoading, gLoading := PySem.W.mg_of X G aLoading, FVoyg := FVoyg, bVoyg := bVoyg, gVoyg := PySem.W.mg_of X G aVoyg, FSimd := FSimd, bSimd := bSimd, gSimd := PySem.W.mg_of X G aSimd, FIni := FIni, bIni := bIni, FCheck := FCheck, bCheck := bCheck, mCheck := ⟨aCheck, iCheck, kCheck⟩, FLoad := FLoad, bLoad := bLoad, mLoad := ⟨aLoad, iLoad, kLoad⟩, FSail := FSail, bSail := bSail, mSail := ⟨aSail, iSail, kSail⟩, FStacks := FStacks, bStacks := bStacks, mStacks := ⟨aStacks, iStacks, kStacks⟩, FLifts := FLifts, bLifts := bLifts, mLifts := ⟨aLifts, iLifts, kLifts⟩, FPool := FPool, bPool := bPool, gPool := PySem.W.mg_of X G aPool, FTake := FTake, bTake := bTake, gTake := PySem.W.mg_of X G aTake, FIsint := FIsint, bIsint := bIsint, gIsint := PySem.W.mg_of X G aIsint, FSame := FSame, bSame := bSame, gSame := PySem.W.mg_of X G aSame, FBoxes := FBoxes, bBoxes := bBoxes, gBoxes := PySem.W.mg_of X G aBoxes, FPlan := FPlan, bPlan := bPlan, gPlan := PySem.W.mg_of X G aPlan, FWork := FWork, bWork := bWork, gWork := PySem.W.mg_of X G aWork, FInto := FInto, bInto := bInto, gInto := PySem.W.mg_of X G aInto, FLoads := FLoads, bLoads := bLoads, gLoads := PySem.W.mg_of X G aLoads, FDueLoad := FDueLoad, bDueLoad := bDueLoad, gDueLoad := PySem.W.mg_of X G aDueLoad, FDueSail := FDueSail, bDueSail := bDueSail, gDueSail := PySem.W.mg_of X G aDueSail, FTold := FTold, bTold := bTold, gTold := PySem.W.mg_of X G aTold, FSeen := FSeen, bSeen := bSeen, gSeen := PySem.W.mg_of X G aSeen, FAsSim := FAsSim, bAsSim := bAsSim, gAsSim := PySem.W.mg_of X G aAsSim, FLaw := FLaw, bLaw := bLaw, gLaw := PySem.W.mg_of X G aLaw, gV := PySem.W.mg_of X G gV, mkV := ⟨mkV, aIni, iIni, kcV⟩, clV := ⟨pgV, hdV, poV, saV⟩, noHeight := noheight, noPort := noport, noStacks := no_stacks, noBoxes := no_boxes, noLifts := no_lifts }
  have SB : QX.SupTxt l.prog K mg sBad "BadStack.__init__" "BadStack" "box" cBad iBad := { gC := PySem.W.mg_of X G gB, cls := ⟨_, _, _, _, _, _, _, _, _, _, _, _, _, _, _, xB, vB⟩, sa := saB, ga := gaB, gg := ggB, noN := nnB, iC := icB, tC := tiB, kC := kkB, exC := eB, veC := veB, tyC := tB, hdC := hdB, mrC := mrB, sup := suB, tp := tp, gS := PySem.W.mg_none_of X G zsuper, fn := ⟨_, _, _, _, _, _, _, _, _, flB, fcB, ⟨_, _, _, _, _, _, foB, f2B, f3B⟩, ⟨_, _, _, clB⟩⟩, top := topS }
  have SF : QX.SupTxt l.prog K mg sFull "StackFull.__init__" "StackFull" "stack" cFull iFull := { gC := PySem.W.mg_of X G gF, cls := ⟨_, _, _, _, _, _, _, _, _, _, _, _, _, _, _, xF, vF⟩, sa := saF, ga := gaF, gg := ggF, noN := nnF, iC := icF, tC := tiF, kC := kkF, exC := eF, veC := veF, tyC := tF, hdC := hdF, mrC := mrF, sup := suF, tp := tp, gS := PySem.W.mg_none_of X G zsuper, fn := ⟨_, _, _, _, _, _, _, _, _, flF, fcF, ⟨_, _, _, _, _, _, foF, f2F, f3F⟩, ⟨_, _, _, clF⟩⟩, top := topS }
  have Et : ErrTxt l.prog K mg a := { bad := SB, full := SF, gO := PySem.W.mg_of X G gO, qO := qO, kO := kkO, eO := eO, tO := tO, gM := PySem.W.mg_of X G gM, qM := qM, kM := kkM, eM := eM, tM := tM }
  have Tt : TryTxt K mg a := { gQ := PySem.W.mg_of X G gQ, eC := ⟨echg, echk, eO, echd, echa, echn, echt, echm⟩, kit := kit, oo := emoo, bo := embo, bb := embb, mo := emmo, mb := emmb, mm := emmm, fo := emfo, fb := emfb, fm := emfm, ff := emff }
  have FC : FunC K "loading" "loading" sLoading a.aLoading a.fLoading a.kc a.kP := ⟨⟨_, _, _, _, _, _, _, _, rfl, lLoading, cLoading⟩, hdT⟩
  refine ⟨PySem.W.fnOf "law" "law" (defArgs sLaw) (defBody sLaw) (defScope sLaw) .none kVLaw dcLaw pmLaw anLaw cdLaw ctLaw, [(kc, kP)], spLaw K a, fun p hp => ?_, fun p hp => ?_, fun p hp => ?_, fun s u => .of_eq rfl, fun H b ns hl _ hT hS => ?_, fun base hb hbn hTB => ?_⟩
  · rw [List.mem_singleton.mp hp]
    exact tabT
  · rw [List.mem_singleton.mp hp]
    exact nT
  · rw [List.mem_singleton.mp hp]
    exact PySem.W.codeHd_of_K X hdT
  · refine ⟨b, ns, rfl, hS, by omega, ⟨#[], hT _ (List.mem_singleton.mpr rfl), ?_, fun pos cv hc => ?_⟩, fun _ => rfl⟩
    · first | exact trivial | exact True.intro | exact .nil | simp [TriplesOk]
    · cases hc
  · exact ok_law T Et Tt FC (hTB _ (List.mem_singleton.mpr rfl))
end Q
open PySem PySem.W PyProof.Rows
set_option maxHeartbeats 0 in
theorem PySem.Challenge.cw_quaybest_k28_whole_voyages_holds : PySem.Challenge.rw_quaybest_k28_whole_voyages.Holds := by
  w_on; o_law; k_head; (case hw => w_witness2)
  k_fill
  refine LamX.walk_ofTs (l := PySem.Challenge.rw_quaybest_k28_whole_voyages) (n := 63) (k := 7) (CX := fun _ => L2.CX0) (x := "_law_script") rfl (by decide) rfl ⟨rfl, by decide, by decide⟩ (fun w h Y => PySem.W.km_in_of Y) ?F (fun _ _ _ _ _ z => z)
  case F =>
    intro w mg fa h Y KX G hmg
    refine' Q.all_mk (kP := 41) KX G hmg ?gV ?zmax ?zmin ?zenumerate ?zsorted ?zrange ?zlen ?ztuple ?zlist ?zisinstance ?zint ?zbool ?zstr ?zall ?zsuper ?gPorts ?gMost ?aCount ?lCount ?cCount ?kCount ?aOpened ?lOpened ?cOpened ?kOpened ?aLoading ?lLoading ?cLoading ?kLoading ?aVoyg ?lVoyg ?cVoyg ?kVoyg ?aSimd ?lSimd ?cSimd ?kSimd ?aIni ?iIni ?lIni ?cIni ?kIni ?aCheck ?iCheck ?lCheck ?cCheck ?kCheck ?aLoad ?iLoad ?lLoad ?cLoad ?kLoad ?aSail ?iSail ?lSail ?cSail ?kSail ?aStacks ?iStacks ?lStacks ?cStacks ?kStacks ?aLifts ?iLifts ?lLifts ?cLifts ?kLifts ?aPool ?lPool ?cPool ?kPool ?aTake ?lTake ?cTake ?kTake ?aIsint ?lIsint ?cIsint ?kIsint ?aSame ?lSame ?cSame ?kSame ?aBoxes ?lBoxes ?cBoxes ?kBoxes ?aPlan ?lPlan ?cPlan ?kPlan ?aWork ?lWork ?cWork ?kWork ?aInto ?lInto ?cInto ?kInto ?aLoads ?lLoads ?cLoads ?kLoads ?aDueLoad ?lDueLoad ?cDueLoad ?kDueLoad ?aDueSail ?lDueSail ?cDueSail ?kDueSail ?aTold ?lTold ?cTold ?kTold ?aSeen ?lSeen ?cSeen ?kSeen ?aAsSim ?lAsSim ?cAsSim ?kAsSim ?aLaw ?lLaw ?cLaw ?kLaw ?hdT ?nT ?pgV ?hdV ?poV ?saV ?mkV ?kcV ?noheight ?noport ?no_stacks ?no_boxes ?no_lifts ?gQ ?gO ?qO ?kkO ?eO ?tO ?gM ?qM ?kkM ?eM ?tM ?gB ?xB ?vB ?saB ?gaB ?ggB ?nnB ?icB ?tiB ?kkB ?eB ?veB ?tB ?hdB ?mrB ?suB ?flB ?fcB ?foB ?f2B ?f3B ?clB ?gF ?xF ?vF ?saF ?gaF ?ggF ?nnF ?icF ?tiF ?kkF ?eF ?veF ?tF ?hdF ?mrF ?suF ?flF ?fcF ?foF ?f2F ?f3F ?clF ?tp ?topS ?echg ?echk ?echd ?echa ?echn ?echt ?echm ?kit ?emoo ?embo ?embb ?emmo ?emmb ?emmm ?emfo ?emfb ?emfm ?emff ?tabT
    (case gV => k_is)
    (case zmax => k_is)
    (case zmin => k_is)
    (case zenumerate => k_is)
    (case zsorted => k_is)
    (case zrange => k_is)
    (case zlen => k_is)
    (case ztuple => k_is)
    (case zlist => k_is)
    (case zisinstance => k_is)
    (case zint => k_is)
    (case zbool => k_is)
    (case zstr => k_is)
    (case zall => k_is)
    (case zsuper => k_is)
    (case gPorts => k_is)
    (case gMost => k_is)
    (case aCount => k_is)
    (case lCount => k_is)
    (case cCount => k_is)
    (case kCount => k_is)
    (case aOpened => k_is)
    (case lOpened => k_is)
    (case cOpened => k_is)
    (case kOpened => k_is)
    (case aLoading => k_is)
    (case lLoading => k_is)
    (case cLoading => k_is)
    (case kLoading => k_is)
    (case aVoyg => k_is)
    (case lVoyg => k_is)
    (case cVoyg => k_is)
    (case kVoyg => k_is)
    (case aSimd => k_is)
    (case lSimd => k_is)
    (case cSimd => k_is)
    (case kSimd => k_is)
    (case aIni => k_is)
    (case iIni => k_is)
    (case lIni => k_is)
    (case cIni => k_is)
    (case kIni => k_is)
    (case aCheck => k_is)
    (case iCheck => k_is)
    (case lCheck => k_is)
    (case cCheck => k_is)
    (case kCheck => k_is)
    (case aLoad => k_is)
    (case iLoad => k_is)
    (case lLoad => k_is)
    (case cLoad => k_is)
    (case kLoad => k_is)
    (case aSail => k_is)
    (case iSail => k_is)
    (case lSail => k_is)
    (case cSail => k_is)
    (case kSail => k_is)
    (case aStacks => k_is)
    (case iStacks => k_is)
    (case lStacks => k_is)
    (case cStacks => k_is)
    (case kStacks => k_is)
    (case aLifts => k_is)
    (case iLifts => k_is)
    (case lLifts => k_is)
    (case cLifts => k_is)
    (case kLifts => k_is)
    (case aPool => k_is)
    (case lPool => k_is)
    (case cPool => k_is)
    (case kPool => k_is)
    (case aTake => k_is)
    (case lTake => k_is)
    (case cTake => k_is)
    (case kTake => k_is)
    (case aIsint => k_is)
    (case lIsint => k_is)
    (case cIsint => k_is)
    (case kIsint => k_is)
    (case aSame => k_is)
    (case lSame => k_is)
    (case cSame => k_is)
    (case kSame => k_is)
    (case aBoxes => k_is)
    (case lBoxes => k_is)
    (case cBoxes => k_is)
    (case kBoxes => k_is)
    (case aPlan => k_is)
    (case lPlan => k_is)
    (case cPlan => k_is)
    (case kPlan => k_is)
    (case aWork => k_is)
    (case lWork => k_is)
    (case cWork => k_is)
    (case kWork => k_is)
    (case aInto => k_is)
    (case lInto => k_is)
    (case cInto => k_is)
    (case kInto => k_is)
    (case aLoads => k_is)
    (case lLoads => k_is)
    (case cLoads => k_is)
    (case kLoads => k_is)
    (case aDueLoad => k_is)
    (case lDueLoad => k_is)
    (case cDueLoad => k_is)
    (case kDueLoad => k_is)
    (case aDueSail => k_is)
    (case lDueSail => k_is)
    (case cDueSail => k_is)
    (case kDueSail => k_is)
    (case aTold => k_is)
    (case lTold => k_is)
    (case cTold => k_is)
    (case kTold => k_is)
    (case aSeen => k_is)
    (case lSeen => k_is)
    (case cSeen => k_is)
    (case kSeen => k_is)
    (case aAsSim => k_is)
    (case lAsSim => k_is)
    (case cAsSim => k_is)
    (case kAsSim => k_is)
    (case aLaw => k_is)
    (case lLaw => k_is)
    (case cLaw => k_is)
    (case kLaw => k_is)
    (case hdT => kernel_rfl)
    (case nT => kernel_rfl)
    (case pgV => k_is)
    (case hdV => k_is)
    (case poV => k_is)
    (case saV => k_is)
    (case mkV => k_is)
    (case kcV => k_is)
    (case noheight => k_is)
    (case noport => k_is)
    (case no_stacks => k_is)
    (case no_boxes => k_is)
    (case no_lifts => k_is)
    (case gQ => k_is)
    (case gO => k_is)
    (case qO => kernel_rfl)
    (case kkO => k_is)
    (case eO => k_is)
    (case tO => k_is)
    (case gM => k_is)
    (case qM => kernel_rfl)
    (case kkM => k_is)
    (case eM => k_is)
    (case tM => k_is)
    (case gB => k_is)
    (case xB => k_is)
    (case vB => kernel_rfl)
    (case saB => k_is)
    (case gaB => k_is)
    (case ggB => k_is)
    (case nnB => k_is)
    (case icB => k_is)
    (case tiB => k_is)
    (case kkB => k_is)
    (case eB => k_is)
    (case veB => k_is)
    (case tB => k_is)
    (case hdB => k_is)
    (case mrB => k_is)
    (case suB => kernel_rfl)
    (case flB => k_is)
    (case fcB => k_is)
    (case foB => k_is)
    (case f2B => exact rfl)
    (case f3B => kernel_rfl)
    (case clB => k_is)
    (case gF => k_is)
    (case xF => k_is)
    (case vF => kernel_rfl)
    (case saF => k_is)
    (case gaF => k_is)
    (case ggF => k_is)
    (case nnF => k_is)
    (case icF => k_is)
    (case tiF => k_is)
    (case kkF => k_is)
    (case eF => k_is)
    (case veF => k_is)
    (case tF => k_is)
    (case hdF => k_is)
    (case mrF => k_is)
    (case suF => kernel_rfl)
    (case flF => k_is)
    (case fcF => k_is)
    (case foF => k_is)
    (case f2F => exact rfl)
    (case f3F => kernel_rfl)
    (case clF => k_is)
    (case tp => k_is)
    (case topS => kernel_rfl)
    (case echg => k_is)
    (case echk => k_is)
    (case echd => k_is)
    (case echa => k_is)
    (case echn => k_is)
    (case echt => k_is)
    (case echm => k_is)
    (case kit => kernel_rfl)
    (case emoo => kernel_rfl)
    (case embo => kernel_rfl)
    (case embb => kernel_rfl)
    (case emmo => kernel_rfl)
    (case emmb => kernel_rfl)
    (case emmm => kernel_rfl)
    (case emfo => kernel_rfl)
    (case emfb => kernel_rfl)
    (case emfm => kernel_rfl)
    (case emff => kernel_rfl)
    (case tabT => exact PySem.W.km_tabs_of Y 41 (List.mem_singleton.mpr rfl))
