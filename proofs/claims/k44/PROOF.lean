import PyProof.Rows.All
import Wide.All
import OpenK.AllK
import Wide.FinOn
import HandS.ForMost
import HandS.IsInst
import HandS.Wide
import HandS.Flow
import HandS.Walk
import HandS.Lambda
import HandS.Head2
import HandS.HeadHook2
import HandS.HeadEnd
import KE.KExcPX
import KE.GoesMore
import KE.GoesEnum
import KE.SortData
import HandS.Style
import HandS.TupAny
import HandS.TupSets
import HandS.GenList
import HandS.Dict
import HandS.Iter
import HandS.Sort
import HandS.SortInts
import PyProof.MinMaxWalk
import PyProof.WalkInts
import PyProof.AutoSeq1
import HandS.WordsExc
import HandS.TryMany
import HandS.Property
import HandS.ClsMeth
import HandS.ExcInit
import HandS.MakeKwOnly
import HandS.ExcField
import HandS.ExcIs
import KE.KExcIs
import HandS.CallSlots
import HandS.Text
import HandS.SetFor
import KE.KSuper
import HandS.More
import HandS.Conv
import KE.KDictSum
import HandS.WordsDict
import KE.KUnpackStar
import KE.DataMinMax
import HandS.Star
import PySem.Challenge.RW_standingorders_k44_whole_days_add_up
set_option Elab.async false
set_option linter.all false
set_option maxRecDepth 100000
set_option maxHeartbeats 4000000
namespace DL
open PySem L2
abbrev Frag := PySem.W.Frag
/-- the law's own promise -/
def spLaw (K : Frag) : Sp := fun vs H Q _ => ∃ (a : Addr) (ns : List Int), vs = [.ref a] ∧ SqL K H a (ns.map V.int) ∧ ns.length ≤ 63 ∧ ∀ H', Q (.bl true) H'
def exmB (K : Frag) (D c : Addr) (b : Bool) : Bool := decide (PySem.W.exmOne K (.ref D) (.ref c) = some b)
end DL
set_option maxRecDepth 100000
set_option maxHeartbeats 4000000
namespace HM
open PySem PySem.Spec PyProof.Rows L2
abbrev Frag := PySem.W.Frag
/-- the tables of code objects stay out of the written part: calls write at them -/
def isTab (o : Obj) : Bool := match o.cls with
  | .none => (match o.data with
    | .fields _ => true
    | _ => false)
  | _ => false
def keepO (g : Addr → Option Obj) (a : Addr) : Option (Addr × Obj) := match g a with
  | some o => (match isTab o with
    | true => none
    | false => some (a, o))
  | none => none
def frH (g : Addr → Option Obj) (as : List Addr) : Frag := as.filterMap (keepO g)
theorem keepO_ok {g : Addr → Option Obj} {a b : Addr} {o : Obj} (h : keepO g a = some (b, o)) : a = b ∧ g a = some o := by
  unfold keepO at h
  cases e : g a with
  | none => rw [e] at h; cases h
  | some x =>
    rw [e] at h
    dsimp only at h
    cases t : isTab x with
    | true => rw [t] at h; cases h
    | false => rw [t] at h; cases h; exact ⟨rfl, rfl⟩
theorem frH_in {h : Heap} {as : List Addr} : (frH h.get? as).In h := fun a o e => by
  unfold frH at e
  induction as with
  | nil => cases e
  | cons b r ih =>
    rw [List.filterMap_cons] at e
    cases q : keepO h.get? b with
    | none => rw [q] at e; exact ih e
    | some p =>
      obtain ⟨b', o'⟩ := p
      rw [q] at e
      obtain ⟨rfl, hg⟩ := keepO_ok q
      rw [List.lookup_cons] at e
      cases z : (a == b) with
      | true =>
        rw [z] at e
        rw [beq_iff_eq.mp z, hg]
        exact e
      | false => rw [z] at e; exact ih e
/-- what a function names: its code object, its keyword defaults -/
def ofFn (g : Addr → Option Obj) (a : Addr) : List Addr := match g a with
  | some ⟨_, _, .func fd, _⟩ => He.refV fd.code ++ He.refV fd.kwdefaults
  | _ => []
/-- what a module's name brings: a function's parts, a class's names and what they stand for -/
def ofTop (g : Addr → Option Obj) (a : Addr) : List Addr := match g a with
  | some ⟨_, _, .func fd, _⟩ => He.refV fd.code ++ He.refV fd.kwdefaults
  | some ⟨_, _, .cls cd, _⟩ => cd.ns :: (match g cd.ns with
    | some ⟨_, _, .dict es _, _⟩ => es.toList.flatMap fun e => He.refV e.val
    | _ => [])
  | _ => []
/-- what a class's name brings: a method's parts, the function of a property -/
def ofCls (g : Addr → Option Obj) (a : Addr) : List Addr := match g a with
  | some ⟨_, _, .func fd, _⟩ => He.refV fd.code ++ He.refV fd.kwdefaults
  | some ⟨.type n, _, .fields vs, _⟩ => (match n == "code" with
    | true => []
    | false => vs.toList.flatMap He.refV)
  | _ => []
def topRefs (g : Addr → Option Obj) : List Addr := match g mainGlobals with
  | some ⟨_, _, .dict es _, _⟩ => es.toList.flatMap fun e => He.refV e.val
  | _ => []
/-- the addresses: the module's names, the statics, what the names reach -/
def asP (g : Addr → Option Obj) : List Addr := mainGlobals :: cStatics :: (topRefs g ++ ((topRefs g).flatMap (ofTop g) ++ (((topRefs g).flatMap (ofTop g)).flatMap (ofCls g) ++ (((topRefs g).flatMap (ofTop g)).flatMap (ofCls g)).flatMap (ofFn g))))
abbrev ga := He.ga
def gaV : Option (Option Value) → Addr
  | some (some (.ref a)) => a
  | _ => 0
def ma (K : Frag) (C : Addr) (m : Str) : Addr := gaV (PySem.W.findIn K (.ref C) m)
def getA : Option PySem.W.CFound → Addr
  | some (.get _ (.ref p) _ _) => p
  | _ => 0
def recA : Option (List Value) → Addr
  | some (.ref f :: _) => f
  | _ => 0
def isStr (o : Option (Option Value)) (v : Str) : Bool := match o with
  | some (some (.str y _)) => decide (y = v)
  | _ => false
theorem isStr_ok {o : Option (Option Value)} {v : Str} (h : isStr o v = true) : ∃ t, o = some (some (.str v t)) := by
  unfold isStr at h
  split at h
  · exact ⟨_, by rw [of_decide_eq_true h]⟩
  · cases h
def isInt (o : Option (Option Value)) (v : Int) : Bool := match o with
  | some (some (.int y _)) => decide (y = v)
  | _ => false
theorem isInt_ok {o : Option (Option Value)} {v : Int} (h : isInt o v = true) : ∃ t, o = some (some (.int v t)) := by
  unfold isInt at h
  split at h
  · exact ⟨_, by rw [of_decide_eq_true h]⟩
  · cases h
def isStrC (o : Option PySem.W.CFound) (v : Str) : Bool := match o with
  | some (.val (.str y _)) => decide (y = v)
  | _ => false
theorem isStrC_ok {o : Option PySem.W.CFound} {v : Str} (h : isStrC o v = true) : ∃ t, o = some (.val (.str v t)) := by
  unfold isStrC at h
  split at h
  · exact ⟨_, by rw [of_decide_eq_true h]⟩
  · cases h
def isBC (o : Option PySem.W.CFound) (n : String) : Bool := match o with
  | some (.val (.builtin m)) => decide (m = n)
  | _ => false
theorem isBC_ok {o : Option PySem.W.CFound} {n : String} (h : isBC o n = true) : o = some (.val (.builtin n)) := by
  unfold isBC at h
  split at h
  · rw [of_decide_eq_true h]
  · cases h
def isGet (o : Option PySem.W.CFound) (n : String) (C : Addr) : Bool := match o with
  | some (.get (.builtin m) (.ref _) .none (.ref D)) => decide (m = n) && decide (D = C)
  | _ => false
theorem isGet_ok {o : Option PySem.W.CFound} {n : String} {C : Addr} (h : isGet o n C = true) : o = some (.get (.builtin n) (.ref (getA o)) .none (.ref C)) := by
  unfold isGet at h
  split at h
  · rw [Bool.and_eq_true] at h
    rw [of_decide_eq_true h.1, of_decide_eq_true h.2]
    rfl
  · cases h
def isRec (o : Option (List Value)) : Bool := match o with
  | some (.ref _ :: _) => true
  | _ => false
theorem isRec_ok {o : Option (List Value)} (h : isRec o = true) : ∃ rs, o = some (.ref (recA o) :: rs) := by
  unfold isRec at h
  split at h
  · exact ⟨_, rfl⟩
  · cases h
/-- what is asked of a function beside its code object and its defaults by keyword -/
structure FnP where
  nm : Str
  qn : Str
  ps : Arguments
  bd : FuncBody
  sc : Scope
  gl : Addr
  cl : List (Str × Addr)
  df : Value
  bi : Addr
def partsOf (u : FuncData) : FnP where
  nm := u.name
  qn := u.qualname
  ps := u.params
  bd := u.body
  sc := u.scope
  gl := u.globals
  cl := u.closure
  df := u.defaults
  bi := u.builtins
def fnV (K : Frag) (a : Addr) : Option FnP := match K.lookup a with
  | some ⟨_, _, .func u, _⟩ => some (partsOf u)
  | _ => none
def codeB (K : Frag) (a : Addr) (q : Str) : Bool := match K.lookup a with
  | some ⟨_, _, .func fd, _⟩ => PySem.W.codeIn K fd.code q
  | _ => false
def kwB (K : Frag) (a : Addr) (l : List (Str × Int)) : Bool := match K.lookup a with
  | some ⟨_, _, .func fd, _⟩ => (match fd.kwdefaults with
    | .ref D => l.all fun q => isInt (PySem.W.nsIn K D q.1) q.2
    | _ => false)
  | _ => false
structure DefM where
  ad : Frag → Addr
  name : Str
  qual : Str
  params : Arguments
  body : List Stmt
  scope : Scope
def DefM.val (d : DefM) : Option FnP := some
  { nm := d.name, qn := d.qual, ps := d.params, bd := .stmts d.body, sc := d.scope, gl := mainGlobals, cl := [], df := .none, bi := builtinsNs }
theorem parts_eq {u : FuncData} {d : DefM} (h : some (partsOf u) = d.val) : u = PySem.W.fnOf d.name d.qual d.params d.body d.scope .none u.kwdefaults u.doc u.pyModule u.annotations u.code u.closureTuple := by
  have h := Option.some.inj h
  have e1 := congrArg FnP.nm h
  have e2 := congrArg FnP.qn h
  have e3 := congrArg FnP.ps h
  have e4 := congrArg FnP.bd h
  have e5 := congrArg FnP.sc h
  have e6 := congrArg FnP.gl h
  have e7 := congrArg FnP.cl h
  have e8 := congrArg FnP.df h
  have e9 := congrArg FnP.bi h
  cases u
  cases e1; cases e2; cases e3; cases e4; cases e5; cases e6; cases e7; cases e8; cases e9
  rfl
theorem fn_ok {K : Frag} {a : Addr} {d : DefM} (e : fnV K a = d.val) (c : codeB K a d.qual = true) :
    ∃ oc od osl kV doc pm an cdv ct, K.lookup a = some ⟨oc, od, .func (PySem.W.fnOf d.name d.qual d.params d.body d.scope .none kV doc pm an cdv ct), osl⟩ ∧ PySem.W.codeIn K cdv d.qual = true := by
  unfold fnV at e
  unfold codeB at c
  split at e
  · rename_i oc od u osl lk
    rw [lk] at c
    exact ⟨oc, od, osl, u.kwdefaults, u.doc, u.pyModule, u.annotations, u.code, u.closureTuple, by rw [lk]; exact congrArg (fun z => some (Obj.mk oc od (.func z) osl)) (parts_eq e), c⟩
  · cases e
theorem kw_ok {K : Frag} {a : Addr} {n q : Str} {ps : Arguments} {bd : List Stmt} {sc : Scope} {oc kV doc pm cdv ct : Value} {od an : Option Addr} {osl : Array (Option Value)} {l : List (Str × Int)} (lk : K.lookup a = some ⟨oc, od, .func (PySem.W.fnOf n q ps bd sc .none kV doc pm an cdv ct), osl⟩) (h : kwB K a l = true) :
    ∃ kd, kV = .ref kd ∧ ∀ z ∈ l, ∃ t, PySem.W.nsIn K kd z.1 = some (some (.int z.2 t)) := by
  unfold kwB at h
  rw [lk] at h
  dsimp only at h
  split at h
  · exact ⟨_, rfl, fun z hz => isInt_ok (List.all_eq_true.mp h z hz)⟩
  · cases h
def exB (K : Frag) (C : Addr) : Bool := match K.lookup C with
  | some ⟨.type t, _, .cls ⟨_, _, .ref D :: bm, _, _, hd, _, _, _, _, del⟩, sl⟩ => (match sl.toList with
    | [_, _, _, _, some (.builtin n), _] => decide (t = "type") && (decide (D = C) && (hd && (!del && (decide (n = "ValueError.__new__") && PySem.HandSPX.refsVE bm))))
    | _ => false)
  | _ => false
theorem ex_ok {K : Frag} {C : Addr} (h : exB K C = true) : ∃ nm q N bs bm sn sub ab col dd ka kb kd ke kg, K.lookup C = some (excClassObj nm q C N bs bm true sn sub ab col dd ka kb kd ke kg "ValueError.__new__") ∧ PySem.HandSPX.refsVE bm = true := by
  unfold exB at h
  split at h
  · rename_i t dd nm bs D bm N q hd sn sub ab col del sl lk
    split at h
    · rename_i ka kb kd ke n kg hs
      simp only [Bool.and_eq_true, decide_eq_true_eq, Bool.not_eq_true'] at h
      obtain ⟨h1, h2, h3, h4, h5, h6⟩ := h
      subst h1 h2 h3 h4 h5
      refine ⟨nm, q, N, bs, bm, sn, sub, ab, col, dd, ka, kb, kd, ke, kg, ?_, h6⟩
      rw [lk]
      have e : sl = #[ka, kb, kd, ke, some (.builtin "ValueError.__new__"), kg] := by
        rw [← Array.toArray_toList (xs := sl), hs]
      rw [e]
    · cases h
  · cases h
abbrev Al : Type := Bool × List (Option FnP)
def obsK (fb : Frag → List Bool) (fn : List DefM) (K : Frag) : Al := ((fb K).all id, fn.map fun d => fnV K (d.ad K))
def valK (fn : List DefM) : Al := (true, fn.map DefM.val)
def Says (fb : Frag → List Bool) (fn : List DefM) (K : Frag) : Prop := obsK fb fn K = valK fn
theorem Says.fact {fb : Frag → List Bool} {fn : List DefM} {K : Frag} (c : Says fb fn K) (i : Nat) {b : Bool} (h : (fb K)[i]? = some b := by rfl) : b = true :=
  List.all_eq_true.mp (congrArg (fun z : Al => z.1) c : (fb K).all id = true) b (List.mem_of_getElem? h)
theorem map_at {α β : Type} {f g : α → β} : ∀ {l : List α}, l.map f = l.map g → ∀ {i : Nat} {x : α}, l[i]? = some x → f x = g x
  | [], _, _, _, h => by cases h
  | y :: l, e, 0, x, h => by
    cases h
    exact (List.cons.inj e).1
  | y :: l, e, i + 1, x, h => map_at (List.cons.inj e).2 (i := i) h
theorem Says.def_ {fb : Frag → List Bool} {fn : List DefM} {K : Frag} (c : Says fb fn K) (i : Nat) {d : DefM} (h : fn[i]? = some d := by rfl) : fnV K (d.ad K) = d.val :=
  map_at (f := fun d => fnV K (d.ad K)) (Prod.mk.inj c).2 h
theorem at_ {l : List Bool} (h : l.all id = true) (i : Nat) {b : Bool} (e : l[i]? = some b := by exact rfl) : b = true := List.all_eq_true.mp h b (List.mem_of_getElem? e)
def obsT (fb : Frag → List Bool) (fn : List DefM) (g : Addr → Option Obj) : Al := obsK fb fn (frH g (asP g))
def hook (fb : Frag → List Bool) (fn : List DefM) : PySem.W.Hook where
  α := Al
  obs := fun s => obsT fb fn s.heap.get?
  val := fun _ => valK fn
  says := fun _ h => ∃ K : Frag, K.In h ∧ Says fb fn K
  of := fun _ _ e => ⟨_, frH_in, e⟩
  keeps := by
    rintro w h h' ⟨K, hK, c⟩ more
    exact ⟨K, fun a o e => more a o (hK a o e), c⟩
def ob (fb : Frag → List Bool) (fn : List DefM) (s : PySem.W.SharedT) : Al := obsT fb fn (HandSHeadRun.getT s)
theorem ob_eq {fb : Frag → List Bool} {fn : List DefM} (s : PySem.W.SharedT) : ob fb fn s = (hook fb fn).obs s.abs := by
  unfold ob
  rw [show HandSHeadRun.getT s = s.abs.heap.get? from funext (HandSHeadRun.getT_eq s)]
  rfl
end HM
namespace Law
open PySem L2 DL
def top (i : Nat) : Stmt := PySem.Challenge.pw_standingorders_k44_whole_days_add_up.main.body.getD i (.Pass ⟨0, 0, 0, 0⟩)
abbrev s_is_integer : Stmt := top 25
abbrev s_validate_calendarX : Stmt := top 26
abbrev s_is_order : Stmt := top 27
abbrev s_first_invalid_order : Stmt := top 28
abbrev s_validate_ordersX : Stmt := top 29
abbrev s_days_due : Stmt := top 30
abbrev s_times_dueX : Stmt := top 32
abbrev s_is_amount : Stmt := top 37
abbrev s_Account___init__ : Stmt := inClass (top 38) 1
abbrev s_Account_is_name : Stmt := inClass (top 38) 2
abbrev s_Account_allows : Stmt := inClass (top 38) 9
abbrev s_LimitedAccount_allows : Stmt := inClass (top 39) 3
abbrev s_Account_made : Stmt := inClass (top 38) 3
abbrev s_Account_balance : Stmt := inClass (top 38) 8
abbrev s_Account_floor : Stmt := inClass (top 38) 7
abbrev s_LimitedAccount_floor : Stmt := inClass (top 39) 2
abbrev s_Books___init__ : Stmt := inClass (top 42) 0
abbrev s_Books_copied : Stmt := inClass (top 42) 1
abbrev s_Books_payments : Stmt := inClass (top 42) 2
abbrev s_Books_add_balance : Stmt := inClass (top 42) 3
abbrev s_validate_amount : Stmt := top 66
abbrev s_Ledger___init__ : Stmt := inClass (top 67) 0
abbrev s_Ledger_today : Stmt := inClass (top 67) 5
abbrev s_Ledger_names : Stmt := inClass (top 67) 6
abbrev s_Ledger_orders : Stmt := inClass (top 67) 7
abbrev s_Ledger_account_in : Stmt := inClass (top 67) 10
abbrev s_Ledger_account : Stmt := inClass (top 67) 11
abbrev s_Ledger_commit : Stmt := inClass (top 67) 13
abbrev s_Ledger_open_books : Stmt := inClass (top 67) 14
abbrev s_Ledger_open_account : Stmt := inClass (top 67) 15
abbrev s_Ledger_add_item : Stmt := inClass (top 67) 19
abbrev s_Ledger_validate_parties : Stmt := inClass (top 67) 20
abbrev s_Ledger_validate_item : Stmt := inClass (top 67) 21
abbrev s_Ledger_add_order : Stmt := inClass (top 67) 22
abbrev s_Ledger_add_transfer : Stmt := inClass (top 67) 23
abbrev s_Ledger_first_overdraft : Stmt := inClass (top 67) 27
abbrev s_Ledger_pass_days : Stmt := inClass (top 67) 28
abbrev s_Ledger_undo : Stmt := inClass (top 67) 30
abbrev s_Ledger_total : Stmt := inClass (top 67) 34
abbrev s_law_mix : Stmt := top 69
abbrev s_law_next : Stmt := top 70
abbrev s_law_alike : Stmt := top 71
abbrev s_law_calendarH : Stmt := top 73
abbrev s_law_filled : Stmt := top 74
abbrev s_law : Stmt := top 75
abbrev s_XInvalidCalendar : Stmt := inClass (top 3) 0
abbrev s_XInvalidOrder : Stmt := inClass (top 4) 0
abbrev s_XInvalidName : Stmt := inClass (top 8) 0
abbrev s_XOverdrawn : Stmt := inClass (top 11) 0
abbrev s_XUnknownAccount : Stmt := inClass (top 13) 0
abbrev s_XDuplicateName : Stmt := inClass (top 12) 0
end Law
namespace Head
open PySem PySem.Spec PyProof.Rows L2 DL Law
def fb0 (K : PySem.W.Frag) : List Bool := [decide (PySem.W.nsIn K mainGlobals "Account" = some (some (.ref (HM.ga K "Account")))),
  decide (PySem.W.nsIn K mainGlobals "LimitedAccount" = some (some (.ref (HM.ga K "LimitedAccount")))),
  decide (PySem.W.nsIn K mainGlobals "SavingsAccount" = some (some (.ref (HM.ga K "SavingsAccount")))),
  decide (PySem.W.nsIn K mainGlobals "Books" = some (some (.ref (HM.ga K "Books")))),
  decide (PySem.W.nsIn K mainGlobals "Ledger" = some (some (.ref (HM.ga K "Ledger")))),
  decide (PySem.W.nsIn K mainGlobals "InvalidCalendar" = some (some (.ref (HM.ga K "InvalidCalendar")))),
  decide (PySem.W.nsIn K mainGlobals "InvalidOrder" = some (some (.ref (HM.ga K "InvalidOrder")))),
  decide (PySem.W.nsIn K mainGlobals "InvalidName" = some (some (.ref (HM.ga K "InvalidName")))),
  decide (PySem.W.nsIn K mainGlobals "Overdrawn" = some (some (.ref (HM.ga K "Overdrawn")))),
  decide (PySem.W.nsIn K mainGlobals "UnknownAccount" = some (some (.ref (HM.ga K "UnknownAccount")))),
  decide (PySem.W.nsIn K mainGlobals "DuplicateName" = some (some (.ref (HM.ga K "DuplicateName")))),
  decide (PySem.W.nsIn K mainGlobals "InvalidAmount" = some (some (.ref (HM.ga K "InvalidAmount")))),
  decide (PySem.W.nsIn K mainGlobals "InvalidCount" = some (some (.ref (HM.ga K "InvalidCount")))),
  decide (PySem.W.nsIn K mainGlobals "SameAccount" = some (some (.ref (HM.ga K "SameAccount")))),
  decide (PySem.W.nsIn K mainGlobals "TooManyAccounts" = some (some (.ref (HM.ga K "TooManyAccounts")))),
  decide (PySem.W.nsIn K mainGlobals "TooManyOrders" = some (some (.ref (HM.ga K "TooManyOrders")))),
  decide (PySem.W.nsIn K mainGlobals "UnknownKind" = some (some (.ref (HM.ga K "UnknownKind")))),
  decide (PySem.W.nsIn K mainGlobals "OrderError" = some (some (.ref (HM.ga K "OrderError")))),
  PySem.W.plainGet K (HM.ga K "Account") Str.empty,
  PySem.W.hasDictIn K (HM.ga K "Account")]
def fb1 (K : PySem.W.Frag) : List Bool := [PySem.W.plainOver K (HM.ga K "Account"),
  decide (PySem.W.findIn K (.ref (HM.ga K "Account")) "__setattr__" = some (some (.builtin "object.__setattr__"))),
  PySem.W.makesIn K (HM.ga K "Account"),
  PySem.W.keepIn K (.ref (HM.ga K "Account")),
  PySem.W.plainGet K (HM.ga K "LimitedAccount") Str.empty,
  PySem.W.hasDictIn K (HM.ga K "LimitedAccount"),
  PySem.W.plainOver K (HM.ga K "LimitedAccount"),
  decide (PySem.W.findIn K (.ref (HM.ga K "LimitedAccount")) "__setattr__" = some (some (.builtin "object.__setattr__"))),
  PySem.W.makesIn K (HM.ga K "LimitedAccount"),
  PySem.W.keepIn K (.ref (HM.ga K "LimitedAccount")),
  PySem.W.plainGet K (HM.ga K "SavingsAccount") Str.empty,
  PySem.W.hasDictIn K (HM.ga K "SavingsAccount"),
  PySem.W.plainOver K (HM.ga K "SavingsAccount"),
  decide (PySem.W.findIn K (.ref (HM.ga K "SavingsAccount")) "__setattr__" = some (some (.builtin "object.__setattr__"))),
  PySem.W.makesIn K (HM.ga K "SavingsAccount"),
  PySem.W.keepIn K (.ref (HM.ga K "SavingsAccount")),
  PySem.W.plainGet K (HM.ga K "Books") Str.empty,
  PySem.W.hasDictIn K (HM.ga K "Books"),
  PySem.W.plainOver K (HM.ga K "Books"),
  decide (PySem.W.findIn K (.ref (HM.ga K "Books")) "__setattr__" = some (some (.builtin "object.__setattr__")))]
def fb2 (K : PySem.W.Frag) : List Bool := [PySem.W.makesIn K (HM.ga K "Books"),
  PySem.W.keepIn K (.ref (HM.ga K "Books")),
  PySem.W.plainGet K (HM.ga K "Ledger") Str.empty,
  PySem.W.hasDictIn K (HM.ga K "Ledger"),
  PySem.W.plainOver K (HM.ga K "Ledger"),
  decide (PySem.W.findIn K (.ref (HM.ga K "Ledger")) "__setattr__" = some (some (.builtin "object.__setattr__"))),
  PySem.W.makesIn K (HM.ga K "Ledger"),
  PySem.W.keepIn K (.ref (HM.ga K "Ledger")),
  decide (PySem.W.findIn K (.ref (HM.ga K "Account")) "amount" = some none),
  decide (PySem.W.findIn K (.ref (HM.ga K "Account")) "credit" = some none),
  decide (PySem.W.findIn K (.ref (HM.ga K "Account")) "cycle" = some none),
  decide (PySem.W.findIn K (.ref (HM.ga K "Account")) "title" = some none),
  decide (PySem.W.findIn K (.ref (HM.ga K "Books")) "accounts" = some none),
  decide (PySem.W.findIn K (.ref (HM.ga K "Books")) "day_number" = some none),
  decide (PySem.W.findIn K (.ref (HM.ga K "Books")) "dues" = some none),
  decide (PySem.W.findIn K (.ref (HM.ga K "Books")) "following" = some none),
  decide (PySem.W.findIn K (.ref (HM.ga K "Ledger")) "books" = some none),
  decide (PySem.W.findIn K (.ref (HM.ga K "Ledger")) "future" = some none),
  decide (PySem.W.findIn K (.ref (HM.ga K "Ledger")) "past" = some none),
  decide (PySem.W.findIn K (.ref (HM.ga K "Ledger")) "periods" = some none)]
def fb3 (K : PySem.W.Frag) : List Bool := [decide (PySem.W.findIn K (.ref (HM.ga K "LimitedAccount")) "amount" = some none),
  decide (PySem.W.findIn K (.ref (HM.ga K "LimitedAccount")) "credit" = some none),
  decide (PySem.W.findIn K (.ref (HM.ga K "LimitedAccount")) "cycle" = some none),
  decide (PySem.W.findIn K (.ref (HM.ga K "LimitedAccount")) "title" = some none),
  decide (PySem.W.findIn K (.ref (HM.ga K "SavingsAccount")) "amount" = some none),
  decide (PySem.W.findIn K (.ref (HM.ga K "SavingsAccount")) "credit" = some none),
  decide (PySem.W.findIn K (.ref (HM.ga K "SavingsAccount")) "cycle" = some none),
  decide (PySem.W.findIn K (.ref (HM.ga K "SavingsAccount")) "title" = some none),
  PySem.W.readsIn K (HM.ga K "Account") (.type "type"),
  decide (PySem.W.specialIn K (.ref (HM.ga K "Account")) "__getattribute__" = some (some (.builtin "type.__getattribute__"))),
  PySem.W.readsIn K (HM.ga K "LimitedAccount") (.type "type"),
  decide (PySem.W.specialIn K (.ref (HM.ga K "LimitedAccount")) "__getattribute__" = some (some (.builtin "type.__getattribute__"))),
  PySem.W.readsIn K (HM.ga K "OrderError") (.type "type"),
  decide (PySem.W.specialIn K (.ref (HM.ga K "OrderError")) "__getattribute__" = some (some (.builtin "type.__getattribute__"))),
  PySem.W.readsIn K (HM.ga K "SavingsAccount") (.type "type"),
  decide (PySem.W.specialIn K (.ref (HM.ga K "SavingsAccount")) "__getattribute__" = some (some (.builtin "type.__getattribute__"))),
  PySem.W.excIn K (HM.ga K "InvalidAmount") [.type "ValueError", .type "Exception", .type "BaseException", .type "object"] "ValueError.__new__",
  PySem.W.keepIn K (.ref (HM.ga K "InvalidAmount")),
  decide (PySem.W.subIn K (.ref (HM.ga K "InvalidAmount")) (.type "BaseException") = some true),
  decide (PySem.W.typeIn K (.ref (HM.ga K "InvalidAmount")) = some (.type "type"))]
def fb4 (K : PySem.W.Frag) : List Bool := [PySem.W.excIn K (HM.ga K "InvalidCount") [.type "ValueError", .type "Exception", .type "BaseException", .type "object"] "ValueError.__new__",
  PySem.W.keepIn K (.ref (HM.ga K "InvalidCount")),
  decide (PySem.W.subIn K (.ref (HM.ga K "InvalidCount")) (.type "BaseException") = some true),
  decide (PySem.W.typeIn K (.ref (HM.ga K "InvalidCount")) = some (.type "type")),
  PySem.W.excIn K (HM.ga K "SameAccount") [.type "ValueError", .type "Exception", .type "BaseException", .type "object"] "ValueError.__new__",
  PySem.W.keepIn K (.ref (HM.ga K "SameAccount")),
  decide (PySem.W.subIn K (.ref (HM.ga K "SameAccount")) (.type "BaseException") = some true),
  decide (PySem.W.typeIn K (.ref (HM.ga K "SameAccount")) = some (.type "type")),
  PySem.W.excIn K (HM.ga K "TooManyAccounts") [.type "ValueError", .type "Exception", .type "BaseException", .type "object"] "ValueError.__new__",
  PySem.W.keepIn K (.ref (HM.ga K "TooManyAccounts")),
  decide (PySem.W.subIn K (.ref (HM.ga K "TooManyAccounts")) (.type "BaseException") = some true),
  decide (PySem.W.typeIn K (.ref (HM.ga K "TooManyAccounts")) = some (.type "type")),
  PySem.W.excIn K (HM.ga K "TooManyOrders") [.type "ValueError", .type "Exception", .type "BaseException", .type "object"] "ValueError.__new__",
  PySem.W.keepIn K (.ref (HM.ga K "TooManyOrders")),
  decide (PySem.W.subIn K (.ref (HM.ga K "TooManyOrders")) (.type "BaseException") = some true),
  decide (PySem.W.typeIn K (.ref (HM.ga K "TooManyOrders")) = some (.type "type")),
  PySem.W.excIn K (HM.ga K "UnknownKind") [.type "ValueError", .type "Exception", .type "BaseException", .type "object"] "ValueError.__new__",
  PySem.W.keepIn K (.ref (HM.ga K "UnknownKind")),
  decide (PySem.W.subIn K (.ref (HM.ga K "UnknownKind")) (.type "BaseException") = some true),
  decide (PySem.W.typeIn K (.ref (HM.ga K "UnknownKind")) = some (.type "type"))]
def fb5 (K : PySem.W.Frag) : List Bool := [decide (PySem.W.nsIn K mainGlobals "is_integer" = some (some (.ref (HM.ga K "is_integer")))),
  PySem.W.keepIn K (.ref (HM.ga K "is_integer")),
  decide (PySem.W.nsIn K mainGlobals "validate_calendar" = some (some (.ref (HM.ga K "validate_calendar")))),
  PySem.W.keepIn K (.ref (HM.ga K "validate_calendar")),
  decide (PySem.W.nsIn K mainGlobals "is_order" = some (some (.ref (HM.ga K "is_order")))),
  PySem.W.keepIn K (.ref (HM.ga K "is_order")),
  decide (PySem.W.nsIn K mainGlobals "first_invalid_order" = some (some (.ref (HM.ga K "first_invalid_order")))),
  PySem.W.keepIn K (.ref (HM.ga K "first_invalid_order")),
  decide (PySem.W.nsIn K mainGlobals "validate_orders" = some (some (.ref (HM.ga K "validate_orders")))),
  PySem.W.keepIn K (.ref (HM.ga K "validate_orders")),
  decide (PySem.W.nsIn K mainGlobals "days_due" = some (some (.ref (HM.ga K "days_due")))),
  PySem.W.keepIn K (.ref (HM.ga K "days_due")),
  decide (PySem.W.nsIn K mainGlobals "times_due" = some (some (.ref (HM.ga K "times_due")))),
  PySem.W.keepIn K (.ref (HM.ga K "times_due")),
  decide (PySem.W.nsIn K mainGlobals "is_amount" = some (some (.ref (HM.ga K "is_amount")))),
  PySem.W.keepIn K (.ref (HM.ga K "is_amount")),
  decide (PySem.W.findIn K (.ref (HM.ga K "Account")) "__init__" = some (some (.ref (HM.ma K (HM.ga K "Account") "__init__")))),
  PySem.W.isFn K (.ref (HM.ma K (HM.ga K "Account") "__init__")),
  PySem.W.keepIn K (.ref (HM.ma K (HM.ga K "Account") "__init__")),
  HM.isGet (PySem.W.findCls K (.ref (HM.ga K "Account")) (.type "type") "is_name") "staticmethod.__get__" (HM.ga K "Account")]
def fb6 (K : PySem.W.Frag) : List Bool := [PySem.W.keepIn K (.ref (HM.recA (PySem.W.recIn K (HM.getA (PySem.W.findCls K (.ref (HM.ga K "Account")) (.type "type") "is_name")) "staticmethod"))),
  decide (PySem.W.findIn K (.ref (HM.ga K "Account")) "allows" = some (some (.ref (HM.ma K (HM.ga K "Account") "allows")))),
  PySem.W.isFn K (.ref (HM.ma K (HM.ga K "Account") "allows")),
  PySem.W.keepIn K (.ref (HM.ma K (HM.ga K "Account") "allows")),
  decide (PySem.W.findIn K (.ref (HM.ga K "LimitedAccount")) "allows" = some (some (.ref (HM.ma K (HM.ga K "LimitedAccount") "allows")))),
  PySem.W.isFn K (.ref (HM.ma K (HM.ga K "LimitedAccount") "allows")),
  PySem.W.keepIn K (.ref (HM.ma K (HM.ga K "LimitedAccount") "allows")),
  HM.isGet (PySem.W.findCls K (.ref (HM.ga K "Account")) (.type "type") "made") "classmethod.__get__" (HM.ga K "Account"),
  PySem.W.fnIn K (HM.recA (PySem.W.recIn K (HM.getA (PySem.W.findCls K (.ref (HM.ga K "Account")) (.type "type") "made")) "classmethod")),
  PySem.W.keepIn K (.ref (HM.recA (PySem.W.recIn K (HM.getA (PySem.W.findCls K (.ref (HM.ga K "Account")) (.type "type") "made")) "classmethod"))),
  decide (PySem.W.findIn K (.ref (HM.ga K "Account")) "balance" = some (some (.ref (HM.ma K (HM.ga K "Account") "balance")))),
  decide (PySem.W.specialIn K (.ref (HM.ma K (HM.ga K "Account") "balance")) "__get__" = some (some (.builtin "property.__get__"))),
  decide (PySem.W.takesIn K (.ref (HM.ma K (HM.ga K "Account") "balance")) = some true),
  PySem.W.keepIn K (.ref (HM.recA (PySem.W.recIn K (HM.ma K (HM.ga K "Account") "balance") "property"))),
  decide (PySem.W.findIn K (.ref (HM.ga K "Account")) "floor" = some (some (.ref (HM.ma K (HM.ga K "Account") "floor")))),
  decide (PySem.W.specialIn K (.ref (HM.ma K (HM.ga K "Account") "floor")) "__get__" = some (some (.builtin "property.__get__"))),
  decide (PySem.W.takesIn K (.ref (HM.ma K (HM.ga K "Account") "floor")) = some true),
  PySem.W.keepIn K (.ref (HM.recA (PySem.W.recIn K (HM.ma K (HM.ga K "Account") "floor") "property"))),
  decide (PySem.W.findIn K (.ref (HM.ga K "LimitedAccount")) "floor" = some (some (.ref (HM.ma K (HM.ga K "LimitedAccount") "floor")))),
  decide (PySem.W.specialIn K (.ref (HM.ma K (HM.ga K "LimitedAccount") "floor")) "__get__" = some (some (.builtin "property.__get__")))]
def fb7 (K : PySem.W.Frag) : List Bool := [decide (PySem.W.takesIn K (.ref (HM.ma K (HM.ga K "LimitedAccount") "floor")) = some true),
  PySem.W.keepIn K (.ref (HM.recA (PySem.W.recIn K (HM.ma K (HM.ga K "LimitedAccount") "floor") "property"))),
  decide (PySem.W.findIn K (.ref (HM.ga K "Books")) "__init__" = some (some (.ref (HM.ma K (HM.ga K "Books") "__init__")))),
  PySem.W.isFn K (.ref (HM.ma K (HM.ga K "Books") "__init__")),
  PySem.W.keepIn K (.ref (HM.ma K (HM.ga K "Books") "__init__")),
  decide (PySem.W.findIn K (.ref (HM.ga K "Books")) "copied" = some (some (.ref (HM.ma K (HM.ga K "Books") "copied")))),
  PySem.W.isFn K (.ref (HM.ma K (HM.ga K "Books") "copied")),
  PySem.W.keepIn K (.ref (HM.ma K (HM.ga K "Books") "copied")),
  decide (PySem.W.findIn K (.ref (HM.ga K "Books")) "payments" = some (some (.ref (HM.ma K (HM.ga K "Books") "payments")))),
  PySem.W.isFn K (.ref (HM.ma K (HM.ga K "Books") "payments")),
  PySem.W.keepIn K (.ref (HM.ma K (HM.ga K "Books") "payments")),
  decide (PySem.W.findIn K (.ref (HM.ga K "Books")) "add_balance" = some (some (.ref (HM.ma K (HM.ga K "Books") "add_balance")))),
  PySem.W.isFn K (.ref (HM.ma K (HM.ga K "Books") "add_balance")),
  PySem.W.keepIn K (.ref (HM.ma K (HM.ga K "Books") "add_balance")),
  decide (PySem.W.nsIn K mainGlobals "validate_amount" = some (some (.ref (HM.ga K "validate_amount")))),
  PySem.W.keepIn K (.ref (HM.ga K "validate_amount")),
  decide (PySem.W.findIn K (.ref (HM.ga K "Ledger")) "__init__" = some (some (.ref (HM.ma K (HM.ga K "Ledger") "__init__")))),
  PySem.W.isFn K (.ref (HM.ma K (HM.ga K "Ledger") "__init__")),
  PySem.W.keepIn K (.ref (HM.ma K (HM.ga K "Ledger") "__init__")),
  decide (PySem.W.findIn K (.ref (HM.ga K "Ledger")) "today" = some (some (.ref (HM.ma K (HM.ga K "Ledger") "today"))))]
def fb8 (K : PySem.W.Frag) : List Bool := [decide (PySem.W.specialIn K (.ref (HM.ma K (HM.ga K "Ledger") "today")) "__get__" = some (some (.builtin "property.__get__"))),
  decide (PySem.W.takesIn K (.ref (HM.ma K (HM.ga K "Ledger") "today")) = some true),
  PySem.W.keepIn K (.ref (HM.recA (PySem.W.recIn K (HM.ma K (HM.ga K "Ledger") "today") "property"))),
  decide (PySem.W.findIn K (.ref (HM.ga K "Ledger")) "names" = some (some (.ref (HM.ma K (HM.ga K "Ledger") "names")))),
  decide (PySem.W.specialIn K (.ref (HM.ma K (HM.ga K "Ledger") "names")) "__get__" = some (some (.builtin "property.__get__"))),
  decide (PySem.W.takesIn K (.ref (HM.ma K (HM.ga K "Ledger") "names")) = some true),
  PySem.W.keepIn K (.ref (HM.recA (PySem.W.recIn K (HM.ma K (HM.ga K "Ledger") "names") "property"))),
  decide (PySem.W.findIn K (.ref (HM.ga K "Ledger")) "orders" = some (some (.ref (HM.ma K (HM.ga K "Ledger") "orders")))),
  decide (PySem.W.specialIn K (.ref (HM.ma K (HM.ga K "Ledger") "orders")) "__get__" = some (some (.builtin "property.__get__"))),
  decide (PySem.W.takesIn K (.ref (HM.ma K (HM.ga K "Ledger") "orders")) = some true),
  PySem.W.keepIn K (.ref (HM.recA (PySem.W.recIn K (HM.ma K (HM.ga K "Ledger") "orders") "property"))),
  decide (PySem.W.findIn K (.ref (HM.ga K "Ledger")) "account_in" = some (some (.ref (HM.ma K (HM.ga K "Ledger") "account_in")))),
  PySem.W.isFn K (.ref (HM.ma K (HM.ga K "Ledger") "account_in")),
  PySem.W.keepIn K (.ref (HM.ma K (HM.ga K "Ledger") "account_in")),
  decide (PySem.W.findIn K (.ref (HM.ga K "Ledger")) "account" = some (some (.ref (HM.ma K (HM.ga K "Ledger") "account")))),
  PySem.W.isFn K (.ref (HM.ma K (HM.ga K "Ledger") "account")),
  PySem.W.keepIn K (.ref (HM.ma K (HM.ga K "Ledger") "account")),
  decide (PySem.W.findIn K (.ref (HM.ga K "Ledger")) "commit" = some (some (.ref (HM.ma K (HM.ga K "Ledger") "commit")))),
  PySem.W.isFn K (.ref (HM.ma K (HM.ga K "Ledger") "commit")),
  PySem.W.keepIn K (.ref (HM.ma K (HM.ga K "Ledger") "commit"))]
def fb9 (K : PySem.W.Frag) : List Bool := [decide (PySem.W.findIn K (.ref (HM.ga K "Ledger")) "open_books" = some (some (.ref (HM.ma K (HM.ga K "Ledger") "open_books")))),
  PySem.W.isFn K (.ref (HM.ma K (HM.ga K "Ledger") "open_books")),
  PySem.W.keepIn K (.ref (HM.ma K (HM.ga K "Ledger") "open_books")),
  decide (PySem.W.findIn K (.ref (HM.ga K "Ledger")) "open_account" = some (some (.ref (HM.ma K (HM.ga K "Ledger") "open_account")))),
  PySem.W.isFn K (.ref (HM.ma K (HM.ga K "Ledger") "open_account")),
  PySem.W.keepIn K (.ref (HM.ma K (HM.ga K "Ledger") "open_account")),
  decide (PySem.W.findIn K (.ref (HM.ga K "Ledger")) "add_item" = some (some (.ref (HM.ma K (HM.ga K "Ledger") "add_item")))),
  PySem.W.isFn K (.ref (HM.ma K (HM.ga K "Ledger") "add_item")),
  PySem.W.keepIn K (.ref (HM.ma K (HM.ga K "Ledger") "add_item")),
  decide (PySem.W.findIn K (.ref (HM.ga K "Ledger")) "validate_parties" = some (some (.ref (HM.ma K (HM.ga K "Ledger") "validate_parties")))),
  PySem.W.isFn K (.ref (HM.ma K (HM.ga K "Ledger") "validate_parties")),
  PySem.W.keepIn K (.ref (HM.ma K (HM.ga K "Ledger") "validate_parties")),
  decide (PySem.W.findIn K (.ref (HM.ga K "Ledger")) "validate_item" = some (some (.ref (HM.ma K (HM.ga K "Ledger") "validate_item")))),
  PySem.W.isFn K (.ref (HM.ma K (HM.ga K "Ledger") "validate_item")),
  PySem.W.keepIn K (.ref (HM.ma K (HM.ga K "Ledger") "validate_item")),
  decide (PySem.W.findIn K (.ref (HM.ga K "Ledger")) "add_order" = some (some (.ref (HM.ma K (HM.ga K "Ledger") "add_order")))),
  PySem.W.isFn K (.ref (HM.ma K (HM.ga K "Ledger") "add_order")),
  PySem.W.keepIn K (.ref (HM.ma K (HM.ga K "Ledger") "add_order")),
  decide (PySem.W.findIn K (.ref (HM.ga K "Ledger")) "add_transfer" = some (some (.ref (HM.ma K (HM.ga K "Ledger") "add_transfer")))),
  PySem.W.isFn K (.ref (HM.ma K (HM.ga K "Ledger") "add_transfer"))]
def fb10 (K : PySem.W.Frag) : List Bool := [PySem.W.keepIn K (.ref (HM.ma K (HM.ga K "Ledger") "add_transfer")),
  decide (PySem.W.findIn K (.ref (HM.ga K "Ledger")) "first_overdraft" = some (some (.ref (HM.ma K (HM.ga K "Ledger") "first_overdraft")))),
  PySem.W.isFn K (.ref (HM.ma K (HM.ga K "Ledger") "first_overdraft")),
  PySem.W.keepIn K (.ref (HM.ma K (HM.ga K "Ledger") "first_overdraft")),
  decide (PySem.W.findIn K (.ref (HM.ga K "Ledger")) "pass_days" = some (some (.ref (HM.ma K (HM.ga K "Ledger") "pass_days")))),
  PySem.W.isFn K (.ref (HM.ma K (HM.ga K "Ledger") "pass_days")),
  PySem.W.keepIn K (.ref (HM.ma K (HM.ga K "Ledger") "pass_days")),
  decide (PySem.W.findIn K (.ref (HM.ga K "Ledger")) "undo" = some (some (.ref (HM.ma K (HM.ga K "Ledger") "undo")))),
  PySem.W.isFn K (.ref (HM.ma K (HM.ga K "Ledger") "undo")),
  PySem.W.keepIn K (.ref (HM.ma K (HM.ga K "Ledger") "undo")),
  decide (PySem.W.findIn K (.ref (HM.ga K "Ledger")) "total" = some (some (.ref (HM.ma K (HM.ga K "Ledger") "total")))),
  PySem.W.isFn K (.ref (HM.ma K (HM.ga K "Ledger") "total")),
  PySem.W.keepIn K (.ref (HM.ma K (HM.ga K "Ledger") "total")),
  decide (PySem.W.nsIn K mainGlobals "_law_mix" = some (some (.ref (HM.ga K "_law_mix")))),
  PySem.W.keepIn K (.ref (HM.ga K "_law_mix")),
  decide (PySem.W.nsIn K mainGlobals "_law_next" = some (some (.ref (HM.ga K "_law_next")))),
  PySem.W.keepIn K (.ref (HM.ga K "_law_next")),
  decide (PySem.W.nsIn K mainGlobals "_law_alike" = some (some (.ref (HM.ga K "_law_alike")))),
  PySem.W.keepIn K (.ref (HM.ga K "_law_alike")),
  decide (PySem.W.nsIn K mainGlobals "_law_calendar" = some (some (.ref (HM.ga K "_law_calendar"))))]
def fb11 (K : PySem.W.Frag) : List Bool := [PySem.W.keepIn K (.ref (HM.ga K "_law_calendar")),
  decide (PySem.W.nsIn K mainGlobals "_law_filled" = some (some (.ref (HM.ga K "_law_filled")))),
  PySem.W.keepIn K (.ref (HM.ga K "_law_filled")),
  decide (PySem.W.nsIn K mainGlobals "law" = some (some (.ref (HM.ga K "law")))),
  PySem.W.keepIn K (.ref (HM.ga K "law")),
  decide (PySem.W.findIn K (.ref (HM.ga K "LimitedAccount")) "__init__" = some (some (.ref (HM.ma K (HM.ga K "Account") "__init__")))),
  decide (PySem.W.findIn K (.ref (HM.ga K "SavingsAccount")) "__init__" = some (some (.ref (HM.ma K (HM.ga K "Account") "__init__")))),
  decide (PySem.W.findIn K (.ref (HM.ga K "SavingsAccount")) "allows" = some (some (.ref (HM.ma K (HM.ga K "LimitedAccount") "allows")))),
  decide (PySem.W.findIn K (.ref (HM.ga K "SavingsAccount")) "floor" = some (some (.ref (HM.ma K (HM.ga K "LimitedAccount") "floor")))),
  decide (PySem.W.findIn K (.ref (HM.ga K "LimitedAccount")) "balance" = some (some (.ref (HM.ma K (HM.ga K "Account") "balance")))),
  decide (PySem.W.findIn K (.ref (HM.ga K "SavingsAccount")) "balance" = some (some (.ref (HM.ma K (HM.ga K "Account") "balance")))),
  decide (PySem.W.findIn K (.ref (HM.ga K "InvalidCalendar")) "__setattr__" = some (some (.builtin "object.__setattr__"))),
  decide (PySem.W.subIn K (.ref (HM.ga K "InvalidCalendar")) (.type "BaseException") = some true),
  decide (PySem.W.typeIn K (.ref (HM.ga K "InvalidCalendar")) = some (.type "type")),
  PySem.W.keepIn K (.ref (HM.ga K "InvalidCalendar")),
  decide (PySem.W.findIn K (.ref (HM.ga K "InvalidCalendar")) "index" = some none),
  decide (PySem.W.findIn K (.ref (HM.ga K "InvalidCalendar")) "__init__" = some (some (.ref (HM.ma K (HM.ga K "InvalidCalendar") "__init__")))),
  decide (PySem.W.typeIn K (.ref (HM.ma K (HM.ga K "InvalidCalendar") "__init__")) = some (.type "function")),
  PySem.W.keepIn K (.ref (HM.ma K (HM.ga K "InvalidCalendar") "__init__")),
  decide (PySem.W.findIn K (.ref (HM.ga K "InvalidOrder")) "__setattr__" = some (some (.builtin "object.__setattr__")))]
def fb12 (K : PySem.W.Frag) : List Bool := [decide (PySem.W.subIn K (.ref (HM.ga K "InvalidOrder")) (.type "BaseException") = some true),
  decide (PySem.W.typeIn K (.ref (HM.ga K "InvalidOrder")) = some (.type "type")),
  PySem.W.keepIn K (.ref (HM.ga K "InvalidOrder")),
  decide (PySem.W.findIn K (.ref (HM.ga K "InvalidOrder")) "index" = some none),
  decide (PySem.W.findIn K (.ref (HM.ga K "InvalidOrder")) "__init__" = some (some (.ref (HM.ma K (HM.ga K "InvalidOrder") "__init__")))),
  decide (PySem.W.typeIn K (.ref (HM.ma K (HM.ga K "InvalidOrder") "__init__")) = some (.type "function")),
  PySem.W.keepIn K (.ref (HM.ma K (HM.ga K "InvalidOrder") "__init__")),
  decide (PySem.W.findIn K (.ref (HM.ga K "InvalidName")) "__setattr__" = some (some (.builtin "object.__setattr__"))),
  decide (PySem.W.subIn K (.ref (HM.ga K "InvalidName")) (.type "BaseException") = some true),
  decide (PySem.W.typeIn K (.ref (HM.ga K "InvalidName")) = some (.type "type")),
  PySem.W.keepIn K (.ref (HM.ga K "InvalidName")),
  decide (PySem.W.findIn K (.ref (HM.ga K "InvalidName")) "name" = some none),
  decide (PySem.W.findIn K (.ref (HM.ga K "InvalidName")) "__init__" = some (some (.ref (HM.ma K (HM.ga K "InvalidName") "__init__")))),
  decide (PySem.W.typeIn K (.ref (HM.ma K (HM.ga K "InvalidName") "__init__")) = some (.type "function")),
  PySem.W.keepIn K (.ref (HM.ma K (HM.ga K "InvalidName") "__init__")),
  decide (PySem.W.findIn K (.ref (HM.ga K "Overdrawn")) "__setattr__" = some (some (.builtin "object.__setattr__"))),
  decide (PySem.W.subIn K (.ref (HM.ga K "Overdrawn")) (.type "BaseException") = some true),
  decide (PySem.W.typeIn K (.ref (HM.ga K "Overdrawn")) = some (.type "type")),
  PySem.W.keepIn K (.ref (HM.ga K "Overdrawn")),
  decide (PySem.W.findIn K (.ref (HM.ga K "Overdrawn")) "name" = some none)]
def fb13 (K : PySem.W.Frag) : List Bool := [decide (PySem.W.findIn K (.ref (HM.ga K "Overdrawn")) "day" = some none),
  decide (PySem.W.findIn K (.ref (HM.ga K "Overdrawn")) "__init__" = some (some (.ref (HM.ma K (HM.ga K "Overdrawn") "__init__")))),
  decide (PySem.W.typeIn K (.ref (HM.ma K (HM.ga K "Overdrawn") "__init__")) = some (.type "function")),
  PySem.W.keepIn K (.ref (HM.ma K (HM.ga K "Overdrawn") "__init__")),
  decide (PySem.W.findIn K (.ref (HM.ga K "UnknownAccount")) "__setattr__" = some (some (.builtin "object.__setattr__"))),
  decide (PySem.W.subIn K (.ref (HM.ga K "UnknownAccount")) (.type "BaseException") = some true),
  decide (PySem.W.typeIn K (.ref (HM.ga K "UnknownAccount")) = some (.type "type")),
  PySem.W.keepIn K (.ref (HM.ga K "UnknownAccount")),
  decide (PySem.W.findIn K (.ref (HM.ga K "UnknownAccount")) "name" = some none),
  decide (PySem.W.findIn K (.ref (HM.ga K "UnknownAccount")) "__init__" = some (some (.ref (HM.ma K (HM.ga K "UnknownAccount") "__init__")))),
  decide (PySem.W.typeIn K (.ref (HM.ma K (HM.ga K "UnknownAccount") "__init__")) = some (.type "function")),
  PySem.W.keepIn K (.ref (HM.ma K (HM.ga K "UnknownAccount") "__init__")),
  decide (PySem.W.findIn K (.ref (HM.ga K "DuplicateName")) "__setattr__" = some (some (.builtin "object.__setattr__"))),
  decide (PySem.W.subIn K (.ref (HM.ga K "DuplicateName")) (.type "BaseException") = some true),
  decide (PySem.W.typeIn K (.ref (HM.ga K "DuplicateName")) = some (.type "type")),
  PySem.W.keepIn K (.ref (HM.ga K "DuplicateName")),
  decide (PySem.W.findIn K (.ref (HM.ga K "DuplicateName")) "name" = some none),
  decide (PySem.W.findIn K (.ref (HM.ga K "DuplicateName")) "__init__" = some (some (.ref (HM.ma K (HM.ga K "DuplicateName") "__init__")))),
  decide (PySem.W.typeIn K (.ref (HM.ma K (HM.ga K "DuplicateName") "__init__")) = some (.type "function")),
  PySem.W.keepIn K (.ref (HM.ma K (HM.ga K "DuplicateName") "__init__"))]
def fb14 (K : PySem.W.Frag) : List Bool := [HM.isBC (PySem.W.findCls K (.ref (HM.ga K "OrderError")) (.type "type") "__init__") "ValueError.__init__",
  decide (PySem.W.nsIn K mainGlobals "all" = some none),
  decide (PySem.W.nsIn K mainGlobals "bool" = some none),
  decide (PySem.W.nsIn K mainGlobals "dict" = some none),
  decide (PySem.W.nsIn K mainGlobals "enumerate" = some none),
  decide (PySem.W.nsIn K mainGlobals "int" = some none),
  decide (PySem.W.nsIn K mainGlobals "isinstance" = some none),
  decide (PySem.W.nsIn K mainGlobals "len" = some none),
  decide (PySem.W.nsIn K mainGlobals "list" = some none),
  decide (PySem.W.nsIn K mainGlobals "max" = some none),
  decide (PySem.W.nsIn K mainGlobals "min" = some none),
  decide (PySem.W.nsIn K mainGlobals "range" = some none),
  decide (PySem.W.nsIn K mainGlobals "sorted" = some none),
  decide (PySem.W.nsIn K mainGlobals "str" = some none),
  decide (PySem.W.nsIn K mainGlobals "sum" = some none),
  decide (PySem.W.nsIn K mainGlobals "tuple" = some none),
  exmB K (HM.ga K "UnknownKind") (HM.ga K "Overdrawn") false,
  exmB K (HM.ga K "InvalidName") (HM.ga K "Overdrawn") false,
  exmB K (HM.ga K "InvalidAmount") (HM.ga K "Overdrawn") false,
  exmB K (HM.ga K "Overdrawn") (HM.ga K "Overdrawn") true]
def fb15 (K : PySem.W.Frag) : List Bool := [HM.isStrC (PySem.W.findCls K (.ref (HM.ga K "Account")) (.type "type") "KIND") "open",
  HM.isStrC (PySem.W.findCls K (.ref (HM.ga K "LimitedAccount")) (.type "type") "KIND") "limited",
  HM.isStrC (PySem.W.findCls K (.ref (HM.ga K "SavingsAccount")) (.type "type") "KIND") "savings",
  HM.codeB K (HM.ga K "is_integer") "is_integer",
  HM.codeB K (HM.ga K "validate_calendar") "validate_calendar",
  HM.codeB K (HM.ga K "is_order") "is_order",
  HM.codeB K (HM.ga K "first_invalid_order") "first_invalid_order",
  HM.codeB K (HM.ga K "validate_orders") "validate_orders",
  HM.codeB K (HM.ga K "days_due") "days_due",
  HM.codeB K (HM.ga K "times_due") "times_due",
  HM.codeB K (HM.ga K "is_amount") "is_amount",
  HM.codeB K (HM.ma K (HM.ga K "Account") "__init__") "Account.__init__",
  HM.isRec (PySem.W.recIn K (HM.getA (PySem.W.findCls K (.ref (HM.ga K "Account")) (.type "type") "is_name")) "staticmethod"),
  HM.codeB K (HM.recA (PySem.W.recIn K (HM.getA (PySem.W.findCls K (.ref (HM.ga K "Account")) (.type "type") "is_name")) "staticmethod")) "Account.is_name",
  HM.codeB K (HM.ma K (HM.ga K "Account") "allows") "Account.allows",
  HM.codeB K (HM.ma K (HM.ga K "LimitedAccount") "allows") "LimitedAccount.allows",
  HM.isRec (PySem.W.recIn K (HM.getA (PySem.W.findCls K (.ref (HM.ga K "Account")) (.type "type") "made")) "classmethod"),
  HM.codeB K (HM.recA (PySem.W.recIn K (HM.getA (PySem.W.findCls K (.ref (HM.ga K "Account")) (.type "type") "made")) "classmethod")) "Account.made",
  HM.kwB K (HM.recA (PySem.W.recIn K (HM.getA (PySem.W.findCls K (.ref (HM.ga K "Account")) (.type "type") "made")) "classmethod")) [("limit", 0), ("balance", 0), ("cycle", 1)],
  HM.isRec (PySem.W.recIn K (HM.ma K (HM.ga K "Account") "balance") "property")]
def fb16 (K : PySem.W.Frag) : List Bool := [HM.codeB K (HM.recA (PySem.W.recIn K (HM.ma K (HM.ga K "Account") "balance") "property")) "Account.balance",
  HM.isRec (PySem.W.recIn K (HM.ma K (HM.ga K "Account") "floor") "property"),
  HM.codeB K (HM.recA (PySem.W.recIn K (HM.ma K (HM.ga K "Account") "floor") "property")) "Account.floor",
  HM.isRec (PySem.W.recIn K (HM.ma K (HM.ga K "LimitedAccount") "floor") "property"),
  HM.codeB K (HM.recA (PySem.W.recIn K (HM.ma K (HM.ga K "LimitedAccount") "floor") "property")) "LimitedAccount.floor",
  HM.codeB K (HM.ma K (HM.ga K "Books") "__init__") "Books.__init__",
  HM.codeB K (HM.ma K (HM.ga K "Books") "copied") "Books.copied",
  HM.codeB K (HM.ma K (HM.ga K "Books") "payments") "Books.payments",
  HM.codeB K (HM.ma K (HM.ga K "Books") "add_balance") "Books.add_balance",
  HM.codeB K (HM.ga K "validate_amount") "validate_amount",
  HM.codeB K (HM.ma K (HM.ga K "Ledger") "__init__") "Ledger.__init__",
  HM.kwB K (HM.ma K (HM.ga K "Ledger") "__init__") [("day", 0)],
  HM.isRec (PySem.W.recIn K (HM.ma K (HM.ga K "Ledger") "today") "property"),
  HM.codeB K (HM.recA (PySem.W.recIn K (HM.ma K (HM.ga K "Ledger") "today") "property")) "Ledger.today",
  HM.isRec (PySem.W.recIn K (HM.ma K (HM.ga K "Ledger") "names") "property"),
  HM.codeB K (HM.recA (PySem.W.recIn K (HM.ma K (HM.ga K "Ledger") "names") "property")) "Ledger.names",
  HM.isRec (PySem.W.recIn K (HM.ma K (HM.ga K "Ledger") "orders") "property"),
  HM.codeB K (HM.recA (PySem.W.recIn K (HM.ma K (HM.ga K "Ledger") "orders") "property")) "Ledger.orders",
  HM.codeB K (HM.ma K (HM.ga K "Ledger") "account_in") "Ledger.account_in",
  HM.codeB K (HM.ma K (HM.ga K "Ledger") "account") "Ledger.account"]
def fb17 (K : PySem.W.Frag) : List Bool := [HM.codeB K (HM.ma K (HM.ga K "Ledger") "commit") "Ledger.commit",
  HM.codeB K (HM.ma K (HM.ga K "Ledger") "open_books") "Ledger.open_books",
  HM.codeB K (HM.ma K (HM.ga K "Ledger") "open_account") "Ledger.open_account",
  HM.codeB K (HM.ma K (HM.ga K "Ledger") "add_item") "Ledger.add_item",
  HM.codeB K (HM.ma K (HM.ga K "Ledger") "validate_parties") "Ledger.validate_parties",
  HM.codeB K (HM.ma K (HM.ga K "Ledger") "validate_item") "Ledger.validate_item",
  HM.codeB K (HM.ma K (HM.ga K "Ledger") "add_order") "Ledger.add_order",
  HM.codeB K (HM.ma K (HM.ga K "Ledger") "add_transfer") "Ledger.add_transfer",
  HM.codeB K (HM.ma K (HM.ga K "Ledger") "first_overdraft") "Ledger.first_overdraft",
  HM.codeB K (HM.ma K (HM.ga K "Ledger") "pass_days") "Ledger.pass_days",
  HM.codeB K (HM.ma K (HM.ga K "Ledger") "undo") "Ledger.undo",
  HM.codeB K (HM.ma K (HM.ga K "Ledger") "total") "Ledger.total",
  HM.codeB K (HM.ga K "_law_mix") "_law_mix",
  HM.codeB K (HM.ga K "_law_next") "_law_next",
  HM.codeB K (HM.ga K "_law_alike") "_law_alike",
  HM.codeB K (HM.ga K "_law_calendar") "_law_calendar",
  HM.codeB K (HM.ga K "_law_filled") "_law_filled",
  HM.codeB K (HM.ga K "law") "law",
  HM.exB K (HM.ga K "InvalidCalendar"),
  HM.codeB K (HM.ma K (HM.ga K "InvalidCalendar") "__init__") "InvalidCalendar.__init__"]
def fb18 (K : PySem.W.Frag) : List Bool := [HM.exB K (HM.ga K "InvalidOrder"),
  HM.codeB K (HM.ma K (HM.ga K "InvalidOrder") "__init__") "InvalidOrder.__init__",
  HM.exB K (HM.ga K "InvalidName"),
  HM.codeB K (HM.ma K (HM.ga K "InvalidName") "__init__") "InvalidName.__init__",
  HM.exB K (HM.ga K "Overdrawn"),
  HM.codeB K (HM.ma K (HM.ga K "Overdrawn") "__init__") "Overdrawn.__init__",
  HM.exB K (HM.ga K "UnknownAccount"),
  HM.codeB K (HM.ma K (HM.ga K "UnknownAccount") "__init__") "UnknownAccount.__init__",
  HM.exB K (HM.ga K "DuplicateName"),
  HM.codeB K (HM.ma K (HM.ga K "DuplicateName") "__init__") "DuplicateName.__init__",
  HM.isStr (PySem.W.nsIn K mainGlobals "LETTERS") "abcdefghijklmnopqrstuvwxyz",
  HM.isInt (PySem.W.nsIn K mainGlobals "MAX_ACCOUNTS") 20,
  HM.isInt (PySem.W.nsIn K mainGlobals "MAX_AMOUNT") 1000000000000000000,
  HM.isInt (PySem.W.nsIn K mainGlobals "MAX_DAYS") 1000000000000000000,
  HM.isInt (PySem.W.nsIn K mainGlobals "MAX_LETTERS") 8,
  HM.isInt (PySem.W.nsIn K mainGlobals "MAX_ORDERS_ledger") 60,
  HM.isInt (PySem.W.nsIn K mainGlobals "MAX_PERIOD") 400,
  HM.isInt (PySem.W.nsIn K mainGlobals "MAX_PERIODS") 5]
def fb (K : PySem.W.Frag) : List Bool := [(fb0 K).all id, (fb1 K).all id, (fb2 K).all id, (fb3 K).all id, (fb4 K).all id, (fb5 K).all id, (fb6 K).all id, (fb7 K).all id, (fb8 K).all id, (fb9 K).all id, (fb10 K).all id, (fb11 K).all id, (fb12 K).all id, (fb13 K).all id, (fb14 K).all id, (fb15 K).all id, (fb16 K).all id, (fb17 K).all id, (fb18 K).all id]
def fn : List HM.DefM := [⟨fun K => (HM.ga K "is_integer"), "is_integer", "is_integer", defArgs s_is_integer, defBody s_is_integer, defScope s_is_integer⟩,
  ⟨fun K => (HM.ga K "validate_calendar"), "validate_calendar", "validate_calendar", defArgs s_validate_calendarX, defBody s_validate_calendarX, defScope s_validate_calendarX⟩,
  ⟨fun K => (HM.ga K "is_order"), "is_order", "is_order", defArgs s_is_order, defBody s_is_order, defScope s_is_order⟩,
  ⟨fun K => (HM.ga K "first_invalid_order"), "first_invalid_order", "first_invalid_order", defArgs s_first_invalid_order, defBody s_first_invalid_order, defScope s_first_invalid_order⟩,
  ⟨fun K => (HM.ga K "validate_orders"), "validate_orders", "validate_orders", defArgs s_validate_ordersX, defBody s_validate_ordersX, defScope s_validate_ordersX⟩,
  ⟨fun K => (HM.ga K "days_due"), "days_due", "days_due", defArgs s_days_due, defBody s_days_due, defScope s_days_due⟩,
  ⟨fun K => (HM.ga K "times_due"), "times_due", "times_due", defArgs s_times_dueX, defBody s_times_dueX, defScope s_times_dueX⟩,
  ⟨fun K => (HM.ga K "is_amount"), "is_amount", "is_amount", defArgs s_is_amount, defBody s_is_amount, defScope s_is_amount⟩,
  ⟨fun K => (HM.ma K (HM.ga K "Account") "__init__"), "__init__", "Account.__init__", defArgs s_Account___init__, defBody s_Account___init__, defScope s_Account___init__⟩,
  ⟨fun K => (HM.recA (PySem.W.recIn K (HM.getA (PySem.W.findCls K (.ref (HM.ga K "Account")) (.type "type") "is_name")) "staticmethod")), "is_name", "Account.is_name", defArgs s_Account_is_name, defBody s_Account_is_name, defScope s_Account_is_name⟩,
  ⟨fun K => (HM.ma K (HM.ga K "Account") "allows"), "allows", "Account.allows", defArgs s_Account_allows, defBody s_Account_allows, defScope s_Account_allows⟩,
  ⟨fun K => (HM.ma K (HM.ga K "LimitedAccount") "allows"), "allows", "LimitedAccount.allows", defArgs s_LimitedAccount_allows, defBody s_LimitedAccount_allows, defScope s_LimitedAccount_allows⟩,
  ⟨fun K => (HM.recA (PySem.W.recIn K (HM.getA (PySem.W.findCls K (.ref (HM.ga K "Account")) (.type "type") "made")) "classmethod")), "made", "Account.made", defArgs s_Account_made, defBody s_Account_made, defScope s_Account_made⟩,
  ⟨fun K => (HM.recA (PySem.W.recIn K (HM.ma K (HM.ga K "Account") "balance") "property")), "balance", "Account.balance", defArgs s_Account_balance, defBody s_Account_balance, defScope s_Account_balance⟩,
  ⟨fun K => (HM.recA (PySem.W.recIn K (HM.ma K (HM.ga K "Account") "floor") "property")), "floor", "Account.floor", defArgs s_Account_floor, defBody s_Account_floor, defScope s_Account_floor⟩,
  ⟨fun K => (HM.recA (PySem.W.recIn K (HM.ma K (HM.ga K "LimitedAccount") "floor") "property")), "floor", "LimitedAccount.floor", defArgs s_LimitedAccount_floor, defBody s_LimitedAccount_floor, defScope s_LimitedAccount_floor⟩,
  ⟨fun K => (HM.ma K (HM.ga K "Books") "__init__"), "__init__", "Books.__init__", defArgs s_Books___init__, defBody s_Books___init__, defScope s_Books___init__⟩,
  ⟨fun K => (HM.ma K (HM.ga K "Books") "copied"), "copied", "Books.copied", defArgs s_Books_copied, defBody s_Books_copied, defScope s_Books_copied⟩,
  ⟨fun K => (HM.ma K (HM.ga K "Books") "payments"), "payments", "Books.payments", defArgs s_Books_payments, defBody s_Books_payments, defScope s_Books_payments⟩,
  ⟨fun K => (HM.ma K (HM.ga K "Books") "add_balance"), "add_balance", "Books.add_balance", defArgs s_Books_add_balance, defBody s_Books_add_balance, defScope s_Books_add_balance⟩,
  ⟨fun K => (HM.ga K "validate_amount"), "validate_amount", "validate_amount", defArgs s_validate_amount, defBody s_validate_amount, defScope s_validate_amount⟩,
  ⟨fun K => (HM.ma K (HM.ga K "Ledger") "__init__"), "__init__", "Ledger.__init__", defArgs s_Ledger___init__, defBody s_Ledger___init__, defScope s_Ledger___init__⟩,
  ⟨fun K => (HM.recA (PySem.W.recIn K (HM.ma K (HM.ga K "Ledger") "today") "property")), "today", "Ledger.today", defArgs s_Ledger_today, defBody s_Ledger_today, defScope s_Ledger_today⟩,
  ⟨fun K => (HM.recA (PySem.W.recIn K (HM.ma K (HM.ga K "Ledger") "names") "property")), "names", "Ledger.names", defArgs s_Ledger_names, defBody s_Ledger_names, defScope s_Ledger_names⟩,
  ⟨fun K => (HM.recA (PySem.W.recIn K (HM.ma K (HM.ga K "Ledger") "orders") "property")), "orders", "Ledger.orders", defArgs s_Ledger_orders, defBody s_Ledger_orders, defScope s_Ledger_orders⟩,
  ⟨fun K => (HM.ma K (HM.ga K "Ledger") "account_in"), "account_in", "Ledger.account_in", defArgs s_Ledger_account_in, defBody s_Ledger_account_in, defScope s_Ledger_account_in⟩,
  ⟨fun K => (HM.ma K (HM.ga K "Ledger") "account"), "account", "Ledger.account", defArgs s_Ledger_account, defBody s_Ledger_account, defScope s_Ledger_account⟩,
  ⟨fun K => (HM.ma K (HM.ga K "Ledger") "commit"), "commit", "Ledger.commit", defArgs s_Ledger_commit, defBody s_Ledger_commit, defScope s_Ledger_commit⟩,
  ⟨fun K => (HM.ma K (HM.ga K "Ledger") "open_books"), "open_books", "Ledger.open_books", defArgs s_Ledger_open_books, defBody s_Ledger_open_books, defScope s_Ledger_open_books⟩,
  ⟨fun K => (HM.ma K (HM.ga K "Ledger") "open_account"), "open_account", "Ledger.open_account", defArgs s_Ledger_open_account, defBody s_Ledger_open_account, defScope s_Ledger_open_account⟩,
  ⟨fun K => (HM.ma K (HM.ga K "Ledger") "add_item"), "add_item", "Ledger.add_item", defArgs s_Ledger_add_item, defBody s_Ledger_add_item, defScope s_Ledger_add_item⟩,
  ⟨fun K => (HM.ma K (HM.ga K "Ledger") "validate_parties"), "validate_parties", "Ledger.validate_parties", defArgs s_Ledger_validate_parties, defBody s_Ledger_validate_parties, defScope s_Ledger_validate_parties⟩,
  ⟨fun K => (HM.ma K (HM.ga K "Ledger") "validate_item"), "validate_item", "Ledger.validate_item", defArgs s_Ledger_validate_item, defBody s_Ledger_validate_item, defScope s_Ledger_validate_item⟩,
  ⟨fun K => (HM.ma K (HM.ga K "Ledger") "add_order"), "add_order", "Ledger.add_order", defArgs s_Ledger_add_order, defBody s_Ledger_add_order, defScope s_Ledger_add_order⟩,
  ⟨fun K => (HM.ma K (HM.ga K "Ledger") "add_transfer"), "add_transfer", "Ledger.add_transfer", defArgs s_Ledger_add_transfer, defBody s_Ledger_add_transfer, defScope s_Ledger_add_transfer⟩,
  ⟨fun K => (HM.ma K (HM.ga K "Ledger") "first_overdraft"), "first_overdraft", "Ledger.first_overdraft", defArgs s_Ledger_first_overdraft, defBody s_Ledger_first_overdraft, defScope s_Ledger_first_overdraft⟩,
  ⟨fun K => (HM.ma K (HM.ga K "Ledger") "pass_days"), "pass_days", "Ledger.pass_days", defArgs s_Ledger_pass_days, defBody s_Ledger_pass_days, defScope s_Ledger_pass_days⟩,
  ⟨fun K => (HM.ma K (HM.ga K "Ledger") "undo"), "undo", "Ledger.undo", defArgs s_Ledger_undo, defBody s_Ledger_undo, defScope s_Ledger_undo⟩,
  ⟨fun K => (HM.ma K (HM.ga K "Ledger") "total"), "total", "Ledger.total", defArgs s_Ledger_total, defBody s_Ledger_total, defScope s_Ledger_total⟩,
  ⟨fun K => (HM.ga K "_law_mix"), "_law_mix", "_law_mix", defArgs s_law_mix, defBody s_law_mix, defScope s_law_mix⟩,
  ⟨fun K => (HM.ga K "_law_next"), "_law_next", "_law_next", defArgs s_law_next, defBody s_law_next, defScope s_law_next⟩,
  ⟨fun K => (HM.ga K "_law_alike"), "_law_alike", "_law_alike", defArgs s_law_alike, defBody s_law_alike, defScope s_law_alike⟩,
  ⟨fun K => (HM.ga K "_law_calendar"), "_law_calendar", "_law_calendar", defArgs s_law_calendarH, defBody s_law_calendarH, defScope s_law_calendarH⟩,
  ⟨fun K => (HM.ga K "_law_filled"), "_law_filled", "_law_filled", defArgs s_law_filled, defBody s_law_filled, defScope s_law_filled⟩,
  ⟨fun K => (HM.ga K "law"), "law", "law", defArgs s_law, defBody s_law, defScope s_law⟩,
  ⟨fun K => (HM.ma K (HM.ga K "InvalidCalendar") "__init__"), "__init__", "InvalidCalendar.__init__", defArgs s_XInvalidCalendar, defBody s_XInvalidCalendar, defScope s_XInvalidCalendar⟩,
  ⟨fun K => (HM.ma K (HM.ga K "InvalidOrder") "__init__"), "__init__", "InvalidOrder.__init__", defArgs s_XInvalidOrder, defBody s_XInvalidOrder, defScope s_XInvalidOrder⟩,
  ⟨fun K => (HM.ma K (HM.ga K "InvalidName") "__init__"), "__init__", "InvalidName.__init__", defArgs s_XInvalidName, defBody s_XInvalidName, defScope s_XInvalidName⟩,
  ⟨fun K => (HM.ma K (HM.ga K "Overdrawn") "__init__"), "__init__", "Overdrawn.__init__", defArgs s_XOverdrawn, defBody s_XOverdrawn, defScope s_XOverdrawn⟩,
  ⟨fun K => (HM.ma K (HM.ga K "UnknownAccount") "__init__"), "__init__", "UnknownAccount.__init__", defArgs s_XUnknownAccount, defBody s_XUnknownAccount, defScope s_XUnknownAccount⟩,
  ⟨fun K => (HM.ma K (HM.ga K "DuplicateName") "__init__"), "__init__", "DuplicateName.__init__", defArgs s_XDuplicateName, defBody s_XDuplicateName, defScope s_XDuplicateName⟩]
abbrev R : PySem.W.OpenRow := PySem.W.OpenLaw.row PySem.Challenge.rw_standingorders_k44_whole_days_add_up
def places : List Nat := [75]
def names0 : List Str := ["_wall", "__name__", "OrderError", "InvalidCalendar", "InvalidOrder", "InvalidPlan", "InvalidCount", "Endless", "InvalidName", "UnknownKind", "InvalidAmount", "Overdrawn", "DuplicateName", "UnknownAccount", "TooManyAccounts", "NotEmpty", "WrongDay", "SameAccount", "UnknownOrder", "TooManyOrders", "InvalidOperation", "InvalidText", "MAX_PERIODS", "MAX_PERIOD", "is_integer", "validate_calendar", "is_order", "first_invalid_order", "validate_orders", "days_due"]
def names1 : List Str := ["flow_list", "times_due", "LETTERS", "MAX_LETTERS", "MAX_AMOUNT", "is_amount", "Account", "LimitedAccount", "SavingsAccount", "Books", "format_account", "format_item", "format_lines", "MAX_PHASES", "MAX_ORDERS_plans", "validate_phases", "validate_plan", "spans_of", "totals_until", "balance_at", "Stretch", "stretches", "first_turn", "low_turns", "first_low", "first_below", "MAX_ACCOUNTS", "MAX_ORDERS_ledger", "MAX_DAYS", "validate_amount"]
def names2 : List Str := ["Ledger", "_law_mix", "_law_next", "_law_alike", "_law_outcome", "_law_calendar", "_law_filled"]
def names : List Str := names0 ++ names1 ++ names2
set_option maxHeartbeats 0 in
theorem run (w : World) : HandSHeadRun.RunEq R (PySem.W.view R.prog places) (HM.hook fb fn) (HM.ob fb fn) 20000 names w := by
  intro os
  kernel_rfl
end Head
set_option maxRecDepth 100000
set_option maxHeartbeats 4000000
namespace DL
open PySem L2
/-- what a Python value is worth, whatever its addresses -/
inductive Dat where
  | non
  | bl (b : Bool)
  | int (i : Int)
  | str (x : Str)
  | lst (xs : List Dat)
  | tup (xs : List Dat)
  | obj (C : Addr) (fs : List (Str × Dat))
  | dct (kvs : List (Key × Dat))
  | ho (φ : Addr → HO) (ex : List (Addr × HO))
mutual
inductive Dr (K : Frag) (M : Hp) : V → Dat → Prop
  | non : Dr K M .non .non
  | bl (b : Bool) : Dr K M (.bl b) (.bl b)
  | int (i : Int) : Dr K M (.int i) (.int i)
  | str (x : Str) : Dr K M (.str x) (.str x)
  | lst {a : Addr} {xs : List V} {ds : List Dat} : SqL K M a xs → DrAll K M xs ds → Dr K M (.ref a) (.lst ds)
  | tup {a : Addr} {xs : List V} {ds : List Dat} : SqT K M a xs → DrAll K M xs ds → Dr K M (.ref a) (.tup ds)
  | obj {a C dx : Addr} {fs : List (Str × V)} {ds : List (Str × Dat)} : M a = some (.ins C dx fs) → DrF K M fs ds → Dr K M (.ref a) (.obj C ds)
  | dct {a : Addr} {fs : List (Key × V)} {ds : List (Key × Dat)} : M a = some (.dK fs) → DrD K M fs ds → Dr K M (.ref a) (.dct ds)
  | ho {a : Addr} {φ : Addr → HO} {ex : List (Addr × HO)} : M a = some (φ a) → (∀ p ∈ ex, M p.1 = some p.2) → Dr K M (.ref a) (.ho φ ex)
inductive DrAll (K : Frag) (M : Hp) : List V → List Dat → Prop
  | nil : DrAll K M [] []
  | cons {v : V} {vs : List V} {d : Dat} {ds : List Dat} : Dr K M v d → DrAll K M vs ds → DrAll K M (v :: vs) (d :: ds)
inductive DrF (K : Frag) (M : Hp) : List (Str × V) → List (Str × Dat) → Prop
  | nil : DrF K M [] []
  | cons {f : Str} {v : V} {vs : List (Str × V)} {d : Dat} {ds : List (Str × Dat)} : Dr K M v d → DrF K M vs ds → DrF K M ((f, v) :: vs) ((f, d) :: ds)
inductive DrD (K : Frag) (M : Hp) : List (Key × V) → List (Key × Dat) → Prop
  | nil : DrD K M [] []
  | cons {f : Key} {v : V} {vs : List (Key × V)} {d : Dat} {ds : List (Key × Dat)} : Dr K M v d → DrD K M vs ds → DrD K M ((f, v) :: vs) ((f, d) :: ds)
end
theorem sqL_mono {K : Frag} {M M' : Hp} (s : Same M M') {a : Addr} {xs : List V} (h : SqL K M a xs) : SqL K M' a xs := s.seq h
theorem sqT_mono {K : Frag} {M M' : Hp} (s : Same M M') {a : Addr} {xs : List V} (h : SqT K M a xs) : SqT K M' a xs := by
  rcases h with (h | ⟨o, h⟩) | h
  · exact .inl (.inl (s _ _ h))
  · exact .inl (.inr ⟨o, s _ _ h⟩)
  · exact .inr h
section
variable {K : Frag} {M M' : Hp}
mutual
theorem Dr.mono (s : Same M M') : ∀ {v : V} {d : Dat}, Dr K M v d → Dr K M' v d
  | _, _, .non => .non
  | _, _, .bl b => .bl b
  | _, _, .int i => .int i
  | _, _, .str x => .str x
  | _, _, .lst h k => .lst (sqL_mono s h) (DrAll.mono s k)
  | _, _, .tup h k => .tup (sqT_mono s h) (DrAll.mono s k)
  | _, _, .obj h k => .obj (s _ _ h) (DrF.mono s k)
  | _, _, .dct h k => .dct (s _ _ h) (DrD.mono s k)
  | _, _, .ho h k => .ho (s _ _ h) (fun p hp => s _ _ (k p hp))
theorem DrAll.mono (s : Same M M') : ∀ {v : List V} {d : List Dat}, DrAll K M v d → DrAll K M' v d
  | _, _, .nil => .nil
  | _, _, .cons h k => .cons (Dr.mono s h) (DrAll.mono s k)
theorem DrF.mono (s : Same M M') : ∀ {v : List (Str × V)} {d : List (Str × Dat)}, DrF K M v d → DrF K M' v d
  | _, _, .nil => .nil
  | _, _, .cons h k => .cons (Dr.mono s h) (DrF.mono s k)
theorem DrD.mono (s : Same M M') : ∀ {v : List (Key × V)} {d : List (Key × Dat)}, DrD K M v d → DrD K M' v d
  | _, _, .nil => .nil
  | _, _, .cons h k => .cons (Dr.mono s h) (DrD.mono s k)
end
theorem DrAll.length : ∀ {vs : List V} {ds : List Dat}, DrAll K M vs ds → vs.length = ds.length
  | _, _, .nil => rfl
  | _, _, .cons _ k => congrArg Nat.succ k.length
theorem DrAll.get : ∀ {vs : List V} {ds : List Dat} {i : Nat} {d : Dat}, DrAll K M vs ds → ds[i]? = some d → ∃ v, vs[i]? = some v ∧ Dr K M v d
  | _, _, 0, _, .cons h _, e => by cases e; exact ⟨_, rfl, h⟩
  | _, _, n + 1, _, .cons _ k, e => k.get (i := n) e
  | _, _, _, _, .nil, e => by cases e
theorem DrAll.getV : ∀ {vs : List V} {ds : List Dat} {i : Nat} {v : V}, DrAll K M vs ds → vs[i]? = some v → ∃ d, ds[i]? = some d ∧ Dr K M v d
  | _, _, 0, _, .cons h _, e => by cases e; exact ⟨_, rfl, h⟩
  | _, _, n + 1, _, .cons _ k, e => k.getV (i := n) e
  | _, _, _, _, .nil, e => by cases e
end
/-- a value at hand: plain data, or the value itself (a cell's address, a class ..) -/
inductive Vl where
  | dat (d : Dat)
  | raw (v : V)
abbrev Vl.cell (a : Addr) : Vl := .raw (.ref a)
abbrev Vl.int (i : Int) : Vl := .dat (.int i)
abbrev Vl.bl (b : Bool) : Vl := .dat (.bl b)
abbrev Vl.non : Vl := .dat .non
def RV (K : Frag) (M : Hp) (v : V) : Vl → Prop
  | .dat d => Dr K M v d
  | .raw u => v = u
theorem RV.mono {K : Frag} {M M' : Hp} (s : Same M M') {v : V} {x : Vl} (h : RV K M v x) : RV K M' v x := by
  cases x with
  | dat d => exact Dr.mono s h
  | raw u => exact h
/-- what a mutable object holds -/
inductive CO where
  | lst (xs : List Vl)
  | dk (kvs : List (Key × Vl))
  | dt (kvs : List (List Key × Vl))
  | ins (C : Addr) (fs : List (Str × Vl))
  | lk (o : Obj) (u : HO) (kvs : List (Key × Vl))
  | tg
  | tl (q : Str)
abbrev Cells := Addr → Option CO
def Cells.put (cs : Cells) (a : Addr) (c : CO) : Cells := fun b => if b = a then some c else cs b
def Cells.del (cs : Cells) (a : Addr) : Cells := fun b => if b = a then none else cs b
theorem Cells.put_same {cs : Cells} {a : Addr} {c : CO} : cs.put a c a = some c := by simp [Cells.put]
theorem Cells.put_ne {cs : Cells} {a b : Addr} {c : CO} (h : b ≠ a) : cs.put a c b = cs b := by simp [Cells.put, h]
theorem Cells.put_put {cs : Cells} {a : Addr} {c c' : CO} : (cs.put a c).put a c' = cs.put a c' := by
  funext b; simp only [Cells.put]; split <;> rfl
theorem Cells.del_put {cs : Cells} {a : Addr} {c : CO} (h : cs a = none) : (cs.put a c).del a = cs := by
  funext b; simp only [Cells.put, Cells.del]; split
  · rename_i e; rw [e, h]
  · rfl
theorem Cells.put_self {cs : Cells} {a : Addr} {c : CO} (h : cs a = some c) : cs.put a c = cs := by
  funext b; simp only [Cells.put]; split
  · rename_i e; rw [e, h]
  · rfl
def LkRep (K : Frag) (M : Hp) (ys : List (Key × Vl)) : HO → Prop
  | .dK xs => Paired (fun (p : Key × V) (q : Key × Vl) => p.1 = q.1 ∧ RV K M p.2 q.2) xs ys
  | _ => False
def CRep (K : Frag) (M : Hp) (a : Addr) : HO → CO → Prop
  | .lst xs, .lst ys => Paired (RV K M) xs ys
  | .dK xs, .dk ys => Paired (fun (p : Key × V) (q : Key × Vl) => p.1 = q.1 ∧ RV K M p.2 q.2) xs ys
  | .dT xs, .dt ys => Paired (fun (p : List Key × V) (q : List Key × Vl) => p.1 = q.1 ∧ RV K M p.2 q.2) xs ys
  | .frz o u, .lk o' u' ys => o = o' ∧ u = u' ∧ LkRep K M ys u
  | .tbl ps, .tg => TriplesOk ps.toList
  | .tbl ps, .tl q => TriplesOk ps.toList ∧ ∀ (pos : Pos) (cv : Value), codeAmong pos ps.toList = some cv → ∃ c, cv = .ref c ∧ M c = some (LamX.CodeO c q)
  | .ins C dx fs, .ins C' gs => C = C' ∧ Paired (fun (p : Str × V) (q : Str × Vl) => p.1 = q.1 ∧ RV K M p.2 q.2) fs gs
  | _, _ => False
theorem paired_mono {α β : Type} {R R' : α → β → Prop} (h : ∀ a b, R a b → R' a b) : ∀ {xs : List α} {ys : List β}, Paired R xs ys → Paired R' xs ys
  | _, _, .nil => .nil
  | _, _, .cons a k => .cons (h _ _ a) (paired_mono h k)
theorem CRep.mono {K : Frag} {M M' : Hp} {a : Addr} (s : Same M M') : ∀ {o : HO} {c : CO}, CRep K M a o c → CRep K M' a o c := by
  intro o c h
  cases o <;> cases c <;> try exact h.elim
  · exact paired_mono (fun _ _ q => q.mono s) h
  · exact paired_mono (fun _ _ q => ⟨q.1, q.2.mono s⟩) h
  · exact paired_mono (fun _ _ q => ⟨q.1, q.2.mono s⟩) h
  · exact ⟨h.1, paired_mono (fun _ _ q => ⟨q.1, q.2.mono s⟩) h.2⟩
  · rename_i u _ _ _
    refine ⟨h.1, h.2.1, ?_⟩
    have h2 := h.2.2
    cases u <;> first | exact (show False from h2).elim | exact paired_mono (fun _ _ q => ⟨q.1, q.2.mono s⟩) h2
  · exact h
  · exact ⟨h.1, fun pos cv hc => let ⟨c, e, q⟩ := h.2 pos cv hc; ⟨c, e, s _ _ q⟩⟩
/-- M: what never changes; cs: the cells -/
structure Ok (K : Frag) (M H : Hp) (cs : Cells) : Prop where
  ex : Same M H
  cell : ∀ a c, cs a = some c → M a = none ∧ ∃ o, H a = some o ∧ CRep K M a o c
abbrev DEnv := List (Option Vl)
structure Rho (K : Frag) (M : Hp) (σ : St) (ρ : DEnv) : Prop where
  len : σ.length = ρ.length
  at_ : ∀ (i : Nat) (x : Vl), ρ[i]? = some (some x) → ∃ v, σ[i]? = some (some v) ∧ RV K M v x
theorem Rho.mono {K : Frag} {M M' : Hp} {σ : St} {ρ : DEnv} (s : Same M M') (h : Rho K M σ ρ) : Rho K M' σ ρ :=
  ⟨h.len, fun i x e => let ⟨v, q, r⟩ := h.at_ i x e; ⟨v, q, r.mono s⟩⟩
theorem Rho.set {K : Frag} {M : Hp} {σ : St} {ρ : DEnv} (h : Rho K M σ ρ) {i : Nat} {v : V} {x : Vl} (r : RV K M v x) : Rho K M (σ.set i (some v)) (ρ.set i (some x)) := by
  refine ⟨by rw [List.length_set, List.length_set, h.len], fun j y e => ?_⟩
  by_cases hj : i = j
  · subst hj
    by_cases hl : i < ρ.length
    · rw [List.getElem?_set_self hl] at e
      cases e
      exact ⟨v, by rw [List.getElem?_set_self (by rw [h.len]; exact hl)], r⟩
    · rw [List.getElem?_eq_none (by rw [List.length_set]; omega)] at e
      cases e
  · rw [List.getElem?_set_ne hj] at e
    obtain ⟨u, q, s⟩ := h.at_ j y e
    exact ⟨u, by rw [List.getElem?_set_ne hj]; exact q, s⟩
/-- the continuation at the level of data is one at the level of heaps -/
def Kont (K : Frag) (M : Hp) (P : Vl → Cells → Prop) (Q : VK) : Prop := ∀ v x M' H' cs', Same M M' → Ok K M' H' cs' → RV K M' v x → P x cs' → Q v H'
theorem Kont.mono {K : Frag} {M M' : Hp} {P : Vl → Cells → Prop} {Q : VK} (s : Same M M') (k : Kont K M P Q) : Kont K M' P Q := fun v x M2 H2 cs2 s2 o r p => k v x M2 H2 cs2 (s.trans s2) o r p
def KontT (K : Frag) (M : Hp) (P : Bool → Cells → Prop) (Q : Bool → Hp → Prop) : Prop := ∀ b M' H' cs', Same M M' → Ok K M' H' cs' → P b cs' → Q b H'
def KontA (K : Frag) (M : Hp) (P : List Vl → Cells → Prop) (Q : List V → Hp → Prop) : Prop := ∀ vs xs M' H' cs', Same M M' → Ok K M' H' cs' → Paired (RV K M') vs xs → P xs cs' → Q vs H'
def KontS (K : Frag) (M : Hp) (P : DEnv → Cells → Prop) (Q : St → Hp → Prop) : Prop := ∀ σ' ρ' M' H' cs', Same M M' → Ok K M' H' cs' → Rho K M' σ' ρ' → P ρ' cs' → Q σ' H'
theorem KontT.mono {K : Frag} {M M' : Hp} {P : Bool → Cells → Prop} {Q : Bool → Hp → Prop} (s : Same M M') (k : KontT K M P Q) : KontT K M' P Q := fun b M2 H2 cs2 s2 o p => k b M2 H2 cs2 (s.trans s2) o p
theorem KontA.mono {K : Frag} {M M' : Hp} {P : List Vl → Cells → Prop} {Q : List V → Hp → Prop} (s : Same M M') (k : KontA K M P Q) : KontA K M' P Q := fun v x M2 H2 cs2 s2 o r p => k v x M2 H2 cs2 (s.trans s2) o r p
theorem KontS.mono {K : Frag} {M M' : Hp} {P : DEnv → Cells → Prop} {Q : St → Hp → Prop} (s : Same M M') (k : KontS K M P Q) : KontS K M' P Q := fun v x M2 H2 cs2 s2 o r p => k v x M2 H2 cs2 (s.trans s2) o r p
abbrev WE := DEnv → Cells → (Vl → Cells → Prop) → Prop
abbrev WT := DEnv → Cells → (Bool → Cells → Prop) → Prop
abbrev WA := DEnv → Cells → (List Vl → Cells → Prop) → Prop
structure DEnds where
  nx : DEnv → Cells → Prop
  rt : Vl → Cells → Prop
  bk : DEnv → Cells → Prop := fun _ _ => False
  ct : DEnv → Cells → Prop := fun _ _ => False
abbrev WS := DEnds → DEnv → Cells → Prop
structure EndsOk (K : Frag) (M : Hp) (D : DEnds) (E : Ends) : Prop where
  nx : KontS K M D.nx E.nx
  rt : Kont K M D.rt E.rt
  bk : KontS K M D.bk E.bk
  ct : KontS K M D.ct E.ct
theorem EndsOk.mono {K : Frag} {M M' : Hp} {D : DEnds} {E : Ends} (s : Same M M') (k : EndsOk K M D E) : EndsOk K M' D E := ⟨k.nx.mono s, k.rt.mono s, k.bk.mono s, k.ct.mono s⟩
def lift (K : Frag) (w : WE) : TE := fun σ H Q => ∃ M ρ cs P, Ok K M H cs ∧ Rho K M σ ρ ∧ w ρ cs P ∧ Kont K M P Q
def liftT (K : Frag) (w : WT) : TT := fun σ H Q => ∃ M ρ cs P, Ok K M H cs ∧ Rho K M σ ρ ∧ w ρ cs P ∧ KontT K M P Q
def liftA (K : Frag) (w : WA) : TA := fun σ H Q => ∃ M ρ cs P, Ok K M H cs ∧ Rho K M σ ρ ∧ w ρ cs P ∧ KontA K M P Q
def liftS (K : Frag) (w : WS) : TS := fun E σ H => ∃ M ρ cs D, Ok K M H cs ∧ Rho K M σ ρ ∧ w D ρ cs ∧ EndsOk K M D E
def DE (X : Cx) (e : Expr) (w : WE) : Prop := PE X e (lift X.K w)
def DT (X : Cx) (e : Expr) (w : WT) : Prop := PT X e (liftT X.K w)
def DW (X : Cx) (e : Expr) (w : WT) : Prop := PW X e (liftT X.K w)
def DA (X : Cx) (es : List Expr) (w : WA) : Prop := PA X es (liftA X.K w)
def DS (X : Cx) (st : Stmt) (w : WS) : Prop := PS X st (liftS X.K w)
def DSs (X : Cx) (st : List Stmt) (w : WS) : Prop := PSs X st (liftS X.K w)
section
variable {X : Cx}
theorem pe_imp {e : Expr} {t t' : TE} (h : PE X e t) (m : ∀ σ H Q, t' σ H Q → t σ H Q) : PE X e t' := ⟨fun pins s σ H Q I q => h.run pins s σ H Q I (m σ H Q q)⟩
theorem pt_imp {e : Expr} {t t' : TT} (h : PT X e t) (m : ∀ σ H Q, t' σ H Q → t σ H Q) : PT X e t' := ⟨fun pins s σ H Q I q => h.run pins s σ H Q I (m σ H Q q)⟩
theorem pw_imp {e : Expr} {t t' : TT} (h : PW X e t) (m : ∀ σ H Q, t' σ H Q → t σ H Q) : PW X e t' := ⟨fun w pins s σ H Q I q => h.run w pins s σ H Q I (m σ H Q q)⟩
theorem pa_imp {e : List Expr} {t t' : TA} (h : PA X e t) (m : ∀ σ H Q, t' σ H Q → t σ H Q) : PA X e t' := ⟨fun pos pins s σ H Q I q => h.run pos pins s σ H Q I (m σ H Q q)⟩
theorem ps_imp {e : Stmt} {t t' : TS} (h : PS X e t) (m : ∀ D σ H, t' D σ H → t D σ H) : PS X e t' := ⟨fun pins s σ H D I q => h.run pins s σ H D I (m D σ H q)⟩
theorem pss_imp {e : List Stmt} {t t' : TS} (h : PSs X e t) (m : ∀ D σ H, t' D σ H → t D σ H) : PSs X e t' := ⟨fun pins s σ H D I q => h.run pins s σ H D I (m D σ H q)⟩
end
end DL
set_option maxRecDepth 100000
set_option maxHeartbeats 4000000
namespace DL
open PySem L2
section
variable {K : Frag} {M H : Hp} {cs : Cells}
theorem Ok.free (o : Ok K M H cs) {p : Addr} (h : H p = none) : M p = none := o.ex.free h
theorem Ok.freeC (o : Ok K M H cs) {p : Addr} (h : H p = none) : cs p = none := by
  cases e : cs p with
  | none => rfl
  | some c =>
    obtain ⟨_, u, q, _⟩ := o.cell p c e
    rw [q] at h; cases h
theorem same_upd {p : Addr} {u : HO} (h : M p = none) : Same M (upd M p u) := fun b o e => by
  rw [upd_ne (ne_of_none e h)]; exact e
/-- a new object that will never change -/
theorem Ok.newM (o : Ok K M H cs) {p : Addr} (h : H p = none) (u : HO) : Same M (upd M p u) ∧ Ok K (upd M p u) (upd H p u) cs := by
  have s := same_upd (M := M) (u := u) (o.free h)
  refine ⟨s, fun b ob e => ?_, fun a c e => ?_⟩
  · by_cases hb : b = p
    · rw [hb] at e ⊢; rw [upd_same] at e ⊢; exact e
    · rw [upd_ne hb] at e ⊢; exact o.ex b ob e
  · obtain ⟨m, ob, q, r⟩ := o.cell a c e
    have na : a ≠ p := ne_of_none q h
    exact ⟨by rw [upd_ne na]; exact m, ob, by rw [upd_ne na]; exact q, r.mono s⟩
/-- a new cell -/
theorem Ok.newC (o : Ok K M H cs) {p : Addr} (h : H p = none) {u : HO} {c : CO} (r : CRep K M p u c) : Ok K M (upd H p u) (cs.put p c) := by
  refine ⟨fun b ob e => ?_, fun a c' e => ?_⟩
  · rw [upd_ne (ne_of_none (o.ex b ob e) h)]; exact o.ex b ob e
  · by_cases ha : a = p
    · subst ha
      rw [Cells.put_same] at e; cases e
      exact ⟨o.free h, u, upd_same, r⟩
    · rw [Cells.put_ne ha] at e
      obtain ⟨m, ob, q, z⟩ := o.cell a c' e
      exact ⟨m, ob, by rw [upd_ne ha]; exact q, z⟩
/-- a cell is changed -/
theorem Ok.setC (o : Ok K M H cs) {p : Addr} {c0 : CO} (h : cs p = some c0) {u : HO} {c : CO} (r : CRep K M p u c) : Ok K M (upd H p u) (cs.put p c) := by
  obtain ⟨m0, _⟩ := o.cell p c0 h
  refine ⟨fun b ob e => ?_, fun a c' e => ?_⟩
  · rw [upd_ne (ne_of_none e m0)]; exact o.ex b ob e
  · by_cases ha : a = p
    · subst ha
      rw [Cells.put_same] at e; cases e
      exact ⟨m0, u, upd_same, r⟩
    · rw [Cells.put_ne ha] at e
      obtain ⟨m, ob, q, z⟩ := o.cell a c' e
      exact ⟨m, ob, by rw [upd_ne ha]; exact q, z⟩
theorem Ok.sub (o : Ok K M H cs) {cs' : Cells} (h : ∀ a c, cs' a = some c → cs a = some c) : Ok K M H cs' := ⟨o.ex, fun a c e => o.cell a c (h a c e)⟩
theorem Ok.seqL (o : Ok K M H cs) {a : Addr} {xs : List V} (h : SqL K M a xs) : SqL K H a xs := sqL_mono o.ex h
theorem Ok.seqT (o : Ok K M H cs) {a : Addr} {xs : List V} (h : SqT K M a xs) : SqT K H a xs := sqT_mono o.ex h
theorem DrAll.paired : ∀ {vs : List V} {ds : List Dat}, DrAll K M vs ds → Paired (RV K M) vs (ds.map .dat)
  | _, _, .nil => .nil
  | _, _, .cons h k => .cons h k.paired
theorem DrAll.of_paired : ∀ {vs : List V} {ds : List Dat}, Paired (RV K M) vs (ds.map .dat) → DrAll K M vs ds
  | [], [], .nil => .nil
  | _ :: _, _ :: _, .cons h k => .cons h (DrAll.of_paired k)
theorem Paired.len {α β : Type} {R : α → β → Prop} : ∀ {xs : List α} {ys : List β}, Paired R xs ys → xs.length = ys.length
  | _, _, .nil => rfl
  | _, _, .cons _ k => congrArg Nat.succ (Paired.len k)
theorem Paired.getR {α β : Type} {R : α → β → Prop} : ∀ {xs : List α} {ys : List β} {i : Nat} {y : β}, Paired R xs ys → ys[i]? = some y → ∃ x, xs[i]? = some x ∧ R x y
  | _, _, 0, _, .cons h _, e => by cases e; exact ⟨_, rfl, h⟩
  | _, _, n + 1, _, .cons _ k, e => Paired.getR (i := n) k e
  | _, _, _, _, .nil, e => by cases e
theorem Paired.getL {α β : Type} {R : α → β → Prop} : ∀ {xs : List α} {ys : List β} {i : Nat} {x : α}, Paired R xs ys → xs[i]? = some x → ∃ y, ys[i]? = some y ∧ R x y
  | _, _, 0, _, .cons h _, e => by cases e; exact ⟨_, rfl, h⟩
  | _, _, n + 1, _, .cons _ k, e => Paired.getL (i := n) k e
  | _, _, _, _, .nil, e => by cases e
theorem Paired.app {α β : Type} {R : α → β → Prop} : ∀ {xs : List α} {ys : List β} {xs' : List α} {ys' : List β}, Paired R xs ys → Paired R xs' ys' → Paired R (xs ++ xs') (ys ++ ys')
  | _, _, _, _, .nil, k => k
  | _, _, _, _, .cons h t, k => .cons h (Paired.app t k)
theorem Paired.set {α β : Type} {R : α → β → Prop} : ∀ {xs : List α} {ys : List β} {i : Nat} {x : α} {y : β}, Paired R xs ys → R x y → Paired R (xs.set i x) (ys.set i y)
  | _, _, 0, _, _, .cons _ k, r => .cons r k
  | _, _, n + 1, _, _, .cons h k, r => .cons h (Paired.set (i := n) k r)
  | _, _, _, _, _, .nil, _ => .nil
end
def coSeq : Option CO → Option (Bool × List Vl)
  | some (.lst xs) => some (true, xs)
  | _ => none
def seqD (cs : Cells) : Vl → Option (Bool × List Vl)
  | .dat (.lst ds) => some (true, ds.map .dat)
  | .dat (.tup ds) => some (false, ds.map .dat)
  | .raw (.ref a) => coSeq (cs a)
  | _ => none
theorem rv_dat {K : Frag} {M : Hp} {v : V} {d : Dat} (h : Dr K M v d) : RV K M v (.dat d) := h
theorem rv_raw {K : Frag} {M : Hp} {v : V} : RV K M v (.raw v) := rfl
section
variable {K : Frag} {M H : Hp} {cs : Cells} {v : V} {x : Vl} {xs : List Vl}
theorem seqD_list (o : Ok K M H cs) (r : RV K M v x) (h : seqD cs x = some (true, xs)) : ∃ a vs, v = .ref a ∧ SqL K H a vs ∧ Paired (RV K M) vs xs := by
  match x, r, h with
  | .dat (.lst ds), r, h =>
    cases h
    cases (show Dr K M v (.lst ds) from r) with
    | lst q k => exact ⟨_, _, rfl, o.seqL q, k.paired⟩
  | .dat (.tup ds), r, h => exact nomatch (show some (false, _) = some (true, _) from h)
  | .raw (.ref a), r, h =>
    cases (show v = .ref a from r)
    have h : coSeq (cs a) = some _ := h
    cases e : cs a with
    | none => rw [e] at h; cases h
    | some c =>
      rw [e] at h
      cases c with
      | lst ys =>
        cases h
        obtain ⟨_, u, q, z⟩ := o.cell a _ e
        cases u <;> try exact (show False from z).elim
        exact ⟨a, _, rfl, .inl (.inl q), z⟩
      | _ => cases h
theorem seqD_tup (o : Ok K M H cs) (r : RV K M v x) (h : seqD cs x = some (false, xs)) : ∃ a vs, v = .ref a ∧ SqT K H a vs ∧ Paired (RV K M) vs xs := by
  match x, r, h with
  | .dat (.lst ds), r, h => exact nomatch (show some (true, _) = some (false, _) from h)
  | .dat (.tup ds), r, h =>
    cases h
    cases (show Dr K M v (.tup ds) from r) with
    | tup q k => exact ⟨_, _, rfl, o.seqT q, k.paired⟩
  | .raw (.ref a), r, h =>
    have h : coSeq (cs a) = some _ := h
    cases e : cs a with
    | none => rw [e] at h; cases h
    | some c =>
      rw [e] at h
      cases c <;> cases h
theorem seqD_any (o : Ok K M H cs) (r : RV K M v x) {b : Bool} (h : seqD cs x = some (b, xs)) : ∃ a vs, v = .ref a ∧ (SqL K H a vs ∨ SqT K H a vs) ∧ Paired (RV K M) vs xs := by
  cases b with
  | true => obtain ⟨a, vs, e, q, p⟩ := seqD_list o r h; exact ⟨a, vs, e, .inl q, p⟩
  | false => obtain ⟨a, vs, e, q, p⟩ := seqD_tup o r h; exact ⟨a, vs, e, .inr q, p⟩
end
abbrev W2 := Vl → Vl → Cells → (Vl → Cells → Prop) → Prop
abbrev W1 := Vl → Cells → (Vl → Cells → Prop) → Prop
abbrev WN := List Vl → Cells → (Vl → Cells → Prop) → Prop
def wVar (i : Nat) : WE := fun ρ cs P => ∃ x, ρ[i]? = some (some x) ∧ P x cs
def wC (d : Dat) : WE := fun _ cs P => P (.dat d) cs
def wOp (r : W2) (wa wb : WE) : WE := fun ρ cs P => wa ρ cs fun x cs1 => wb ρ cs1 fun y cs2 => r x y cs2 P
def wUn (r : W1) (wa : WE) : WE := fun ρ cs P => wa ρ cs fun x cs1 => r x cs1 P
def wNil : WA := fun _ cs P => P [] cs
def wCons (wa : WE) (wr : WA) : WA := fun ρ cs P => wa ρ cs fun x cs1 => wr ρ cs1 fun xs cs2 => P (x :: xs) cs2
def wFn (r : WN) (wa : WA) : WE := fun ρ cs P => wa ρ cs fun xs cs1 => r xs cs1 P
def wTest (we : WE) : WT := fun ρ cs P => we ρ cs fun x cs1 => ∃ k, x = .dat (.bl k) ∧ P k cs1
def wNot (w : WT) : WT := fun ρ cs P => w ρ cs fun b cs1 => P (!b) cs1
def wAnd (w u : WT) : WT := fun ρ cs P => w ρ cs fun b cs1 => if b = true then u ρ cs1 P else P false cs1
def wOr (w u : WT) : WT := fun ρ cs P => w ρ cs fun b cs1 => if b = true then P true cs1 else u ρ cs1 P
def wAndV (w u : WE) : WE := fun ρ cs P => w ρ cs fun x cs1 => ∃ b, x = .dat (.bl b) ∧ if b = true then u ρ cs1 P else P (.dat (.bl false)) cs1
def wOrV (w u : WE) : WE := fun ρ cs P => w ρ cs fun x cs1 => ∃ b, x = .dat (.bl b) ∧ if b = true then P (.dat (.bl true)) cs1 else u ρ cs1 P
def wNotV (w : WE) : WE := fun ρ cs P => w ρ cs fun x cs1 => ∃ b, x = .dat (.bl b) ∧ P (.dat (.bl (!b))) cs1
def wIf (w : WT) (wa wb : WE) : WE := fun ρ cs P => w ρ cs fun b cs1 => if b = true then wa ρ cs1 P else wb ρ cs1 P
def wChain (r r' : W2) (wa wb wc : WE) : WE := fun ρ cs P => wa ρ cs fun x cs1 => wb ρ cs1 fun y cs2 => r x y cs2 fun z cs3 => ∃ k, z = .dat (.bl k) ∧
  if k = true then wc ρ cs3 fun u cs4 => r' y u cs4 P else P (.dat (.bl false)) cs3
def R2Ok (K : Frag) (r : R2) (w : W2) : Prop := ∀ M H cs x y a b P Q, Ok K M H cs → RV K M x a → RV K M y b → w a b cs P → Kont K M P Q → r x y H Q
def R1Ok (K : Frag) (r : V → Hp → VK → Prop) (w : W1) : Prop := ∀ M H cs x a P Q, Ok K M H cs → RV K M x a → w a cs P → Kont K M P Q → r x H Q
def RNOk (K : Frag) (r : List V → Hp → VK → Prop) (w : WN) : Prop := ∀ M H cs xs as P Q, Ok K M H cs → Paired (RV K M) xs as → w as cs P → Kont K M P Q → r xs H Q
theorem inv_int {K : Frag} {M : Hp} {v : V} {i : Int} (h : RV K M v (.dat (.int i))) : v = .int i := by
  cases (show Dr K M v (.int i) from h); rfl
theorem inv_bl {K : Frag} {M : Hp} {v : V} {i : Bool} (h : RV K M v (.dat (.bl i))) : v = .bl i := by
  cases (show Dr K M v (.bl i) from h); rfl
theorem inv_non {K : Frag} {M : Hp} {v : V} (h : RV K M v (.dat .non)) : v = .non := by
  cases (show Dr K M v .non from h); rfl
theorem inv_str {K : Frag} {M : Hp} {v : V} {x : Str} (h : RV K M v (.dat (.str x))) : v = .str x := by
  cases (show Dr K M v (.str x) from h); rfl
section
variable {X : Cx} {a b c e : Expr} {es : List Expr} {wa wb wc we : WE} {w u : WT} {wr : WA} {pos : Pos}
theorem de_var (i : Nat) {x : Str} (hN : X.N[i]? = some x := by rfl) (hv : Vis X.env.scope x := by first | exact Or.inl rfl | exact Or.inr (Or.inl rfl) | exact Or.inr (Or.inr rfl)) (hd : (x == ("__debug__" : Str)) = false := by decide)
    (hcd : (x == ("__classdict__" : Str)) = false := by decide) : DE X (.Name x pos) (wVar i) :=
  pe_imp (pv i hN hv hd hcd) fun σ H Q ⟨M, ρ, cs, P, o, r, ⟨x, ex, p⟩, k⟩ => let ⟨v, ev, rv⟩ := r.at_ i x ex; ⟨v, ev, k v x M H cs (Same.refl _) o rv p⟩
theorem de_c {v : V} {d : Dat} (h : PE X e (tC v)) (hd : ∀ M, Dr X.K M v d) : DE X e (wC d) :=
  pe_imp h fun σ H Q ⟨M, ρ, cs, P, o, r, p, k⟩ => k _ _ M H cs (Same.refl _) o (rv_dat (hd M)) p
theorem de_int {i : Int} {j : Nat} : DE X (.Constant (.int i) j pos) (wC (.int i)) := de_c pe_int fun _ => .int i
theorem de_bl {b : Bool} {j : Nat} : DE X (.Constant (.bool b) j pos) (wC (.bl b)) := de_c pe_bl fun _ => .bl b
theorem de_non {j : Nat} : DE X (.Constant .none j pos) (wC .non) := de_c pe_non fun _ => .non
theorem de_str {x : Str} {j : Nat} : DE X (.Constant (.str x) j pos) (wC (.str x)) := de_c pe_str fun _ => .str x
theorem de_gint {x : Str} {i : Int} {t : Tok} (hm : X.mg x = some (.int i t)) (hg : Gl X x := by rfl) (hd : (x == ("__debug__" : Str)) = false := by decide) : DE X (.Name x pos) (wC (.int i)) :=
  de_c (v := .int i) (pe_glob hg hm ⟨t, rfl⟩ hd) fun _ => .int i
/-- two parts, from the left -/
theorem lift2 {K : Frag} {r : R2} {w2 : W2} (hr : R2Ok K r w2) {σ : St} {H : Hp} {Q : VK} (h : lift K (wOp w2 wa wb) σ H Q) : tOp r (lift K wa) (lift K wb) σ H Q := by
  obtain ⟨M, ρ, cs, P, o, r0, p, k⟩ := h
  refine ⟨M, ρ, cs, _, o, r0, p, fun v x M1 H1 cs1 s1 o1 r1 p1 => ?_⟩
  refine ⟨M1, ρ, cs1, _, o1, r0.mono s1, p1, fun v2 y M2 H2 cs2 s2 o2 r2 p2 => ?_⟩
  exact hr M2 H2 cs2 v v2 x y P Q o2 (r1.mono s2) r2 p2 (k.mono (s1.trans s2))
theorem de_op {op : Operator} {r : R2} {w2 : W2} (ho : OpR X (binaryOp op) r) (hr : R2Ok X.K r w2) (ha : DE X a wa) (hb : DE X b wb) : DE X (.BinOp a op b pos) (wOp w2 wa wb) := pe_imp (pe_op ho ha hb) fun _ _ _ h => lift2 hr h
theorem de_un {op : UnaryOp} {r : V → Hp → VK → Prop} {w1 : W1} (ho : UnR X (unaryOp op) r) (hr : R1Ok X.K r w1) (ha : DE X a wa) : DE X (.UnaryOp op a pos) (wUn w1 wa) :=
  pe_imp (pe_un ho ha) fun σ H Q ⟨M, ρ, cs, P, o, r0, p, k⟩ => ⟨M, ρ, cs, _, o, r0, p, fun v x M1 H1 cs1 s1 o1 r1 p1 => hr M1 H1 cs1 v x P Q o1 r1 p1 (k.mono s1)⟩
theorem de_cmp {op : CmpOp} {r : R2} {w2 : W2} (ho : OpR X (compareOp op) r) (hr : R2Ok X.K r w2) (ha : DE X a wa) (hb : DE X b wb) (hm : behindInMarks op b = false) : DE X (.Compare a [op] [b] pos) (wOp w2 wa wb) := pe_imp (pe_cmpR ho ha hb hm) fun _ _ _ h => lift2 hr h
theorem dt_cmp {op : CmpOp} {r : R2} {w2 : W2} (ho : OpR X (compareOp op) r) (hr : R2Ok X.K r w2) (ha : DE X a wa) (hb : DE X b wb) (hm : behindInMarks op b = false) : DT X (.Compare a [op] [b] pos) (wTest (wOp w2 wa wb)) :=
  pt_imp (pt_cmpR ho ha hb hm) fun σ H Q ⟨M, ρ, cs, P, o, r0, p, k⟩ => lift2 hr ⟨M, ρ, cs, _, o, r0, p, fun v x M1 H1 cs1 s1 o1 r1 ⟨q, ex, p1⟩ => by
    subst ex
    exact ⟨q, inv_bl r1, k q M1 H1 cs1 s1 o1 p1⟩⟩
theorem liftChain {K : Frag} {r r' : R2} {w2 w2' : W2} (hr : R2Ok K r w2) (hr' : R2Ok K r' w2') {σ : St} {H : Hp} {Q : VK} (h : lift K (wChain w2 w2' wa wb wc) σ H Q) : tChain r r' (lift K wa) (lift K wb) (lift K wc) σ H Q := by
  obtain ⟨M, ρ, cs, P, o, r0, p, k⟩ := h
  refine ⟨M, ρ, cs, _, o, r0, p, fun v x M1 H1 cs1 s1 o1 r1 p1 => ?_⟩
  refine ⟨M1, ρ, cs1, _, o1, r0.mono s1, p1, fun v2 y M2 H2 cs2 s2 o2 r2 p2 => ?_⟩
  refine hr M2 H2 cs2 v v2 x y _ _ o2 (r1.mono s2) r2 p2 fun z zz M3 H3 cs3 s3 o3 r3 ⟨kk, ez, p3⟩ => ?_
  subst ez
  refine ⟨kk, inv_bl r3, ?_⟩
  have s123 := s1.trans (s2.trans s3)
  cases kk with
  | true =>
    refine iteT ?_
    have p3' : wc ρ cs3 fun u cs4 => w2' y u cs4 P := by simpa using p3
    exact ⟨M3, ρ, cs3, _, o3, r0.mono s123, p3', fun v4 y4 M4 H4 cs4 s4 o4 r4 p4 => hr' M4 H4 cs4 v2 v4 y y4 P Q o4 (r2.mono (s3.trans s4)) r4 p4 (k.mono (s123.trans s4))⟩
  | false =>
    refine iteF ?_
    exact k _ _ M3 H3 cs3 s123 o3 (rv_dat (.bl false)) (by simpa using p3)
theorem de_chain {op op' : CmpOp} {r r' : R2} {w2 w2' : W2} (ho : OpR X (compareOp op) r) (hr : R2Ok X.K r w2) (ho' : OpR X (compareOp op') r') (hr' : R2Ok X.K r' w2') (ha : DE X a wa) (hb : DE X b wb) (hc : DE X c wc)
    (hm : lastMarks [op, op'] [b, c] = false := by with_unfolding_all rfl) : DE X (.Compare a [op, op'] [b, c] pos) (wChain w2 w2' wa wb wc) := pe_imp (pe_chain ho ho' ha hb hc hm) fun _ _ _ h => liftChain hr hr' h
theorem dt_chain {op op' : CmpOp} {r r' : R2} {w2 w2' : W2} (ho : OpR X (compareOp op) r) (hr : R2Ok X.K r w2) (ho' : OpR X (compareOp op') r') (hr' : R2Ok X.K r' w2') (ha : DE X a wa) (hb : DE X b wb) (hc : DE X c wc)
    (hm : lastMarks [op, op'] [b, c] = false := by with_unfolding_all rfl) : DT X (.Compare a [op, op'] [b, c] pos) (wTest (wChain w2 w2' wa wb wc)) :=
  pt_imp (pt_chain ho ho' ha hb hc hm) fun σ H Q ⟨M, ρ, cs, P, o, r0, p, k⟩ => liftChain hr hr' ⟨M, ρ, cs, _, o, r0, p, fun v x M1 H1 cs1 s1 o1 r1 ⟨q, ex, p1⟩ => by
    subst ex
    exact ⟨q, inv_bl r1, k q M1 H1 cs1 s1 o1 p1⟩⟩
theorem dt_val (h : DE X e we) (he : ∀ whole, isTrue e X.env whole = (do let v ← whole; standAt e.pos; holding [v] (truthy v)) := by intro _; rfl) : DT X e (wTest we) :=
  pt_imp (pt_val h he) fun σ H Q ⟨M, ρ, cs, P, o, r0, p, k⟩ => ⟨M, ρ, cs, _, o, r0, p, fun v x M1 H1 cs1 s1 o1 r1 ⟨q, ex, p1⟩ => by
    subst ex
    exact ⟨q, inv_bl r1, k q M1 H1 cs1 s1 o1 p1⟩⟩
theorem dt_not (h : DT X a w) : DT X (.UnaryOp .Not a pos) (wNot w) :=
  pt_imp (pt_not h) fun σ H Q ⟨M, ρ, cs, P, o, r0, p, k⟩ => ⟨M, ρ, cs, _, o, r0, p, fun b M1 H1 cs1 s1 o1 p1 => k (!b) M1 H1 cs1 s1 o1 p1⟩
theorem dw_and1 (h : DT X a w) : DW X (.BoolOp .And [a] pos) w := pw_and1 h
theorem dw_or1 (h : DT X a w) : DW X (.BoolOp .Or [a] pos) w := pw_or1 h
theorem DW.dt (h : DW X e w) : DT X e w := PW.pt h
theorem dw_and {rest : List Expr} (ha : DT X a w) (hb : DW X (.BoolOp .And (b :: rest) pos) u) : DW X (.BoolOp .And (a :: b :: rest) pos) (wAnd w u) :=
  pw_imp (pw_and ha hb) fun σ H Q ⟨M, ρ, cs, P, o, r0, p, k⟩ => ⟨M, ρ, cs, _, o, r0, p, fun b M1 H1 cs1 s1 o1 p1 => by
    cases b with
    | true => exact iteT ⟨M1, ρ, cs1, P, o1, r0.mono s1, by simpa using p1, k.mono s1⟩
    | false => exact iteF (k false M1 H1 cs1 s1 o1 (by simpa using p1))⟩
theorem dw_or {rest : List Expr} (ha : DT X a w) (hb : DW X (.BoolOp .Or (b :: rest) pos) u) : DW X (.BoolOp .Or (a :: b :: rest) pos) (wOr w u) :=
  pw_imp (pw_or ha hb) fun σ H Q ⟨M, ρ, cs, P, o, r0, p, k⟩ => ⟨M, ρ, cs, _, o, r0, p, fun b M1 H1 cs1 s1 o1 p1 => by
    cases b with
    | true => exact iteT (k true M1 H1 cs1 s1 o1 (by simpa using p1))
    | false => exact iteF ⟨M1, ρ, cs1, P, o1, r0.mono s1, by simpa using p1, k.mono s1⟩⟩
theorem de_one {op : BoolOp} (h : DE X a wa) : DE X (.BoolOp op [a] pos) wa := pe_one h
theorem de_and {rest : List Expr} (ha : DE X a wa) (hb : DE X (.BoolOp .And (b :: rest) pos) wb) : DE X (.BoolOp .And (a :: b :: rest) pos) (wAndV wa wb) :=
  pe_imp (pe_and ha hb) fun σ H Q ⟨M, ρ, cs, P, o, r0, p, k⟩ => ⟨M, ρ, cs, _, o, r0, p, fun v x M1 H1 cs1 s1 o1 r1 ⟨q, ex, p1⟩ => by
    subst ex
    refine ⟨q, inv_bl r1, ?_⟩
    cases q with
    | true => exact iteT ⟨M1, ρ, cs1, P, o1, r0.mono s1, by simpa using p1, k.mono s1⟩
    | false => exact iteF (k _ _ M1 H1 cs1 s1 o1 (rv_dat (.bl false)) (by simpa using p1))⟩
theorem de_not (ha : DE X a wa) : DE X (.UnaryOp .Not a pos) (wNotV wa) :=
  pe_imp (pe_not ha) fun σ H Q ⟨M, ρ, cs, P, o, r0, p, k⟩ => ⟨M, ρ, cs, _, o, r0, p, fun v x M1 H1 cs1 s1 o1 r1 ⟨q, ex, p1⟩ => by
    subst ex
    exact ⟨q, inv_bl r1, k _ _ M1 H1 cs1 s1 o1 (rv_dat (.bl _)) p1⟩⟩
theorem de_if (hc : DT X c w) (ha : DE X a wa) (hb : DE X b wb) : DE X (.IfExp c a b pos) (wIf w wa wb) :=
  pe_imp (pe_ifExp hc ha hb) fun σ H Q ⟨M, ρ, cs, P, o, r0, p, k⟩ => ⟨M, ρ, cs, _, o, r0, p, fun b M1 H1 cs1 s1 o1 p1 => by
    cases b with
    | true => exact iteT ⟨M1, ρ, cs1, P, o1, r0.mono s1, by simpa using p1, k.mono s1⟩
    | false => exact iteF ⟨M1, ρ, cs1, P, o1, r0.mono s1, by simpa using p1, k.mono s1⟩⟩
theorem da_nil : DA X [] wNil := pa_imp pa_nil fun σ H Q ⟨M, ρ, cs, P, o, r0, p, k⟩ => k [] [] M H cs (Same.refl _) o .nil p
end
end DL
set_option maxRecDepth 100000
set_option maxHeartbeats 4000000
namespace DL
open PySem L2
def wI (C : Int → Int → Prop) (g : Int → Int → Dat) : W2 := fun x y cs P => ∃ i j, x = .dat (.int i) ∧ y = .dat (.int j) ∧ C i j ∧ P (.dat (g i j)) cs
def wI0 (g : Int → Int → Dat) : W2 := fun x y cs P => ∃ i j, x = .dat (.int i) ∧ y = .dat (.int j) ∧ P (.dat (g i j)) cs
theorem r2_I {K : Frag} {C : Int → Int → Prop} {f : Int → Int → V} {g : Int → Int → Dat} (h : ∀ M i j, Dr K M (f i j) (g i j)) : R2Ok K (rI C f) (wI C g) :=
  fun M H cs x y a b P Q o rx ry ⟨i, j, ea, eb, c, p⟩ k => by
    subst ea eb
    exact ⟨i, j, inv_int rx, inv_int ry, c, k _ _ M H cs (Same.refl _) o (rv_dat (h M i j)) p⟩
theorem r2_I0 {K : Frag} {f : Int → Int → V} {g : Int → Int → Dat} (h : ∀ M i j, Dr K M (f i j) (g i j)) : R2Ok K (rI0 f) (wI0 g) :=
  fun M H cs x y a b P Q o rx ry ⟨i, j, ea, eb, p⟩ k => by
    subst ea eb
    exact ⟨i, j, inv_int rx, inv_int ry, k _ _ M H cs (Same.refl _) o (rv_dat (h M i j)) p⟩
abbrev wAdd : W2 := wI0 fun i j => .int (i + j)
abbrev wSub : W2 := wI0 fun i j => .int (i - j)
abbrev wMul : W2 := wI CMul fun i j => .int (i * j)
abbrev wDiv : W2 := wI CDivW fun i j => .int (i / j)
abbrev wMod : W2 := wI (fun _ j => 0 < j) fun i j => .int (i % j)
abbrev wPow : W2 := wI CPow fun i j => .int (i ^ j.toNat)
abbrev wLt : W2 := wI0 fun i j => .bl (decide (i < j))
abbrev wLe : W2 := wI0 fun i j => .bl (decide (i ≤ j))
abbrev wGt : W2 := wI0 fun i j => .bl (decide (j < i))
abbrev wGe : W2 := wI0 fun i j => .bl (decide (j ≤ i))
def wNeg : W1 := fun x cs P => ∃ i, x = .dat (.int i) ∧ P (.dat (.int (-i))) cs
section
variable {X : Cx} {a b c e : Expr} {es : List Expr} {wa wb wc we : WE} {w u : WT} {wr : WA} {pos : Pos}
theorem de_add (ha : DE X a wa) (hb : DE X b wb) : DE X (.BinOp a .Add b pos) (wOp wAdd wa wb) := de_op op_add (r2_I0 fun _ _ _ => .int _) ha hb
theorem de_sub (ha : DE X a wa) (hb : DE X b wb) : DE X (.BinOp a .Sub b pos) (wOp wSub wa wb) := de_op op_sub (r2_I0 fun _ _ _ => .int _) ha hb
theorem de_mul (ha : DE X a wa) (hb : DE X b wb) : DE X (.BinOp a .Mult b pos) (wOp wMul wa wb) := de_op op_mul (r2_I fun _ _ _ => .int _) ha hb
theorem de_div (ha : DE X a wa) (hb : DE X b wb) : DE X (.BinOp a .FloorDiv b pos) (wOp wDiv wa wb) := de_op op_fdivW (r2_I fun _ _ _ => .int _) ha hb
theorem de_mod (ha : DE X a wa) (hb : DE X b wb) : DE X (.BinOp a .Mod b pos) (wOp wMod wa wb) := de_op op_mod (r2_I fun _ _ _ => .int _) ha hb
theorem de_pow (ha : DE X a wa) (hb : DE X b wb) : DE X (.BinOp a .Pow b pos) (wOp wPow wa wb) := de_op op_pow (r2_I fun _ _ _ => .int _) ha hb
theorem de_neg (ha : DE X a wa) : DE X (.UnaryOp .USub a pos) (wUn wNeg wa) := de_un un_neg (fun M H cs x a P Q o rx ⟨i, ea, p⟩ k => by
  subst ea
  exact ⟨i, inv_int rx, k _ _ M H cs (Same.refl _) o (rv_dat (.int _)) p⟩) ha
/-- the four comparisons of ints: the operator's rule with its data -/
structure CmpD (X : Cx) (op : CmpOp) (w2 : W2) : Prop where
  ex : ∃ r, OpR X (compareOp op) r ∧ R2Ok X.K r w2
  nm : op ≠ .In ∧ op ≠ .NotIn
theorem c_lt : CmpD X .Lt wLt := ⟨⟨_, op_lt, r2_I0 fun _ _ _ => .bl _⟩, by decide⟩
theorem c_le : CmpD X .LtE wLe := ⟨⟨_, op_le, r2_I0 fun _ _ _ => .bl _⟩, by decide⟩
theorem c_gt : CmpD X .Gt wGt := ⟨⟨_, op_gt, r2_I0 fun _ _ _ => .bl _⟩, by decide⟩
theorem c_ge : CmpD X .GtE wGe := ⟨⟨_, op_ge, r2_I0 fun _ _ _ => .bl _⟩, by decide⟩
theorem de_cmpD {op : CmpOp} {w2 : W2} (h : CmpD X op w2) (ha : DE X a wa) (hb : DE X b wb) : DE X (.Compare a [op] [b] pos) (wOp w2 wa wb) := by
  obtain ⟨⟨r, ho, hr⟩, m1, m2⟩ := h
  exact de_cmp ho hr ha hb (nomark b m1 m2)
theorem dt_cmpD {op : CmpOp} {w2 : W2} (h : CmpD X op w2) (ha : DE X a wa) (hb : DE X b wb) : DT X (.Compare a [op] [b] pos) (wTest (wOp w2 wa wb)) := by
  obtain ⟨⟨r, ho, hr⟩, m1, m2⟩ := h
  exact dt_cmp ho hr ha hb (nomark b m1 m2)
theorem dt_chainD {op op' : CmpOp} {w2 w2' : W2} (h : CmpD X op w2) (h' : CmpD X op' w2') (ha : DE X a wa) (hb : DE X b wb) (hc : DE X c wc) (hm : lastMarks [op, op'] [b, c] = false := by with_unfolding_all rfl) : DT X (.Compare a [op, op'] [b, c] pos) (wTest (wChain w2 w2' wa wb wc)) := by
  obtain ⟨⟨r, ho, hr⟩, _⟩ := h
  obtain ⟨⟨r', ho', hr'⟩, _⟩ := h'
  exact dt_chain ho hr ho' hr' ha hb hc hm
theorem de_chainD {op op' : CmpOp} {w2 w2' : W2} (h : CmpD X op w2) (h' : CmpD X op' w2') (ha : DE X a wa) (hb : DE X b wb) (hc : DE X c wc) (hm : lastMarks [op, op'] [b, c] = false := by with_unfolding_all rfl) : DE X (.Compare a [op, op'] [b, c] pos) (wChain w2 w2' wa wb wc) := by
  obtain ⟨⟨r, ho, hr⟩, _⟩ := h
  obtain ⟨⟨r', ho', hr'⟩, _⟩ := h'
  exact de_chain ho hr ho' hr' ha hb hc hm
def isNon : Vl → Bool
  | .dat .non => true
  | .raw .non => true
  | _ => false
theorem isNon_ok {K : Frag} {M : Hp} {v : V} {x : Vl} (r : RV K M v x) : decide (v = .non) = isNon x := by
  cases x with
  | dat d => cases (show Dr K M v d from r) <;> rfl
  | raw u =>
    cases (show v = u from r)
    cases v <;> rfl
def wIsN : W2 := fun x y cs P => y = .dat .non ∧ P (.dat (.bl (isNon x))) cs
def wNotN : W2 := fun x y cs P => y = .dat .non ∧ P (.dat (.bl (!isNon x))) cs
theorem c_isN : CmpD X .Is wIsN := ⟨⟨_, op_isN, fun M H cs x y a b P Q o rx ry ⟨e, p⟩ k => by
  subst e
  refine ⟨inv_non ry, ?_⟩
  rw [isNon_ok rx]
  exact k _ _ M H cs (Same.refl _) o (rv_dat (.bl _)) p⟩, by decide⟩
theorem c_notN : CmpD X .IsNot wNotN := ⟨⟨_, op_notN, fun M H cs x y a b P Q o rx ry ⟨e, p⟩ k => by
  subst e
  refine ⟨inv_non ry, ?_⟩
  rw [isNon_ok rx]
  exact k _ _ M H cs (Same.refl _) o (rv_dat (.bl _)) p⟩, by decide⟩
mutual
def Dat.py : Dat → Option PyData
  | .non => some .none
  | .bl b => some (.bool b)
  | .int i => some (.int i)
  | .str x => some (.str x)
  | .lst xs => (Dat.pys xs).map .list
  | .tup xs => (Dat.pys xs).map .tuple
  | .obj _ _ => none
  | .dct _ => none
  | .ho _ _ => none
def Dat.pys : List Dat → Option (List PyData)
  | [] => some []
  | d :: ds => match Dat.py d, Dat.pys ds with
    | some p, some ps => some (p :: ps)
    | _, _ => none
end
mutual
theorem Dr.dp {K : Frag} {M : Hp} : ∀ (d : Dat) {v : V} {p : PyData}, Dr K M v d → d.py = some p → Dp K M v p
  | .non, _, _, h, e => by cases h; cases e; exact .non
  | .bl b, _, _, h, e => by cases h; cases e; exact .bl b
  | .int i, _, _, h, e => by cases h; cases e; exact .int i
  | .str x, _, _, h, e => by cases h; cases e; exact .str x
  | .lst xs, _, _, h, e => by
    cases h with
    | lst q k =>
      unfold Dat.py at e
      obtain ⟨ps, e1, rfl⟩ := Option.map_eq_some_iff.mp e
      exact .lst q (DrAll.dp xs k e1)
  | .tup xs, _, _, h, e => by
    cases h with
    | tup q k =>
      unfold Dat.py at e
      obtain ⟨ps, e1, rfl⟩ := Option.map_eq_some_iff.mp e
      exact .tup q (DrAll.dp xs k e1)
  | .obj _ _, _, _, _, e => by cases e
  | .dct _, _, _, _, e => by cases e
  | .ho _ _, _, _, _, e => by cases e
theorem DrAll.dp {K : Frag} {M : Hp} : ∀ (ds : List Dat) {vs : List V} {ps : List PyData}, DrAll K M vs ds → Dat.pys ds = some ps → DpAll K M vs ps
  | [], _, _, h, e => by cases h; cases e; exact .nil
  | d :: ds, _, _, h, e => by
    cases h with
    | cons h k =>
      unfold Dat.pys at e
      split at e
      · rename_i p ps e1 e2
        cases e
        exact .cons (Dr.dp d h e1) (DrAll.dp ds k e2)
      · cases e
end
mutual
theorem dp_mono {K : Frag} {M M' : Hp} (s : Same M M') : ∀ {v : V} {d : PyData}, Dp K M v d → Dp K M' v d
  | _, _, .non => .non
  | _, _, .bl b => .bl b
  | _, _, .int i => .int i
  | _, _, .str x => .str x
  | _, _, .lst h k => .lst (sqL_mono s h) (dpAll_mono s k)
  | _, _, .tup h k => .tup (sqT_mono s h) (dpAll_mono s k)
theorem dpAll_mono {K : Frag} {M M' : Hp} (s : Same M M') : ∀ {v : List V} {d : List PyData}, DpAll K M v d → DpAll K M' v d
  | _, _, .nil => .nil
  | _, _, .cons h k => .cons (dp_mono s h) (dpAll_mono s k)
end
/-- the data that stands behind a value, a cell's list too -/
def allDat : List Vl → Option (List Dat)
  | [] => some []
  | .dat d :: r => (allDat r).map (d :: ·)
  | _ => none
def coDat : Option CO → Option Dat
  | some (.lst xs) => (allDat xs).map .lst
  | _ => none
def seen (cs : Cells) : Vl → Option Dat
  | .dat d => some d
  | .raw (.ref a) => coDat (cs a)
  | _ => none
theorem allDat_eq : ∀ {xs : List Vl} {ds : List Dat}, allDat xs = some ds → xs = ds.map .dat
  | [], _, h => by cases h; rfl
  | .dat d :: r, _, h => by
    unfold allDat at h
    obtain ⟨es, e1, rfl⟩ := Option.map_eq_some_iff.mp h
    rw [allDat_eq e1]; rfl
  | .raw _ :: _, _, h => by cases h
theorem allDat_map : ∀ (ds : List Dat), allDat (ds.map .dat) = some ds
  | [] => rfl
  | d :: ds => by show (allDat (ds.map .dat)).map (d :: ·) = _; rw [allDat_map ds]; rfl
theorem seen_dp {K : Frag} {M H : Hp} {cs : Cells} {v : V} {x : Vl} {d : Dat} {p : PyData} (o : Ok K M H cs) (r : RV K M v x) (h : seen cs x = some d) (e : d.py = some p) : Dp K H v p := by
  match x, r, h with
  | .dat d', r, h =>
    cases h
    exact dp_mono o.ex (Dr.dp _ r e)
  | .raw (.ref a), r, h =>
    cases (show v = .ref a from r)
    have h : coDat (cs a) = some d := h
    cases q : cs a with
    | none => rw [q] at h; cases h
    | some c =>
      rw [q] at h
      cases c with
      | lst ys =>
        obtain ⟨es, e1, rfl⟩ := Option.map_eq_some_iff.mp (show (allDat ys).map Dat.lst = some d from h)
        obtain ⟨_, u, hu, z⟩ := o.cell a _ q
        cases u <;> try exact (show False from z).elim
        rw [allDat_eq e1] at z
        unfold Dat.py at e
        obtain ⟨ps, e2, rfl⟩ := Option.map_eq_some_iff.mp e
        exact .lst (.inl (.inl hu)) (dpAll_mono o.ex (DrAll.dp _ (DrAll.of_paired z) e2))
      | _ => cases h
def wEqD (neg : Bool) : W2 := fun x y cs P => ∃ d e p q, seen cs x = some d ∧ seen cs y = some e ∧ d.py = some p ∧ e.py = some q ∧ SeqAt.shaped p = true ∧ SeqAt.shaped q = true ∧ P (.dat (.bl (if neg then !PyData.eqv p q else PyData.eqv p q))) cs
theorem c_eq (hu : X.A.units + 64 < cLine) : CmpD X .Eq (wEqD false) := ⟨⟨_, op_eqD hu, fun M H cs x y a b P Q o rx ry ⟨d, e, p, q, h1, h2, h3, h4, s1, s2, h⟩ k =>
  ⟨p, q, seen_dp o rx h1 h3, seen_dp o ry h2 h4, s1, s2, k _ _ M H cs (Same.refl _) o (rv_dat (.bl _)) (by simpa using h)⟩⟩, by decide⟩
theorem c_ne (hu : X.A.units + 64 < cLine) : CmpD X .NotEq (wEqD true) := ⟨⟨_, op_neD hu, fun M H cs x y a b P Q o rx ry ⟨d, e, p, q, h1, h2, h3, h4, s1, s2, h⟩ k =>
  ⟨p, q, seen_dp o rx h1 h3, seen_dp o ry h2 h4, s1, s2, k _ _ M H cs (Same.refl _) o (rv_dat (.bl _)) (by simpa using h)⟩⟩, by decide⟩
def flatD : Vl → Option V
  | .dat .non => some .non
  | .dat (.bl b) => some (.bl b)
  | .dat (.int i) => some (.int i)
  | .dat (.str x) => some (.str x)
  | _ => none
def flatsD : List Vl → Option (List V)
  | [] => some []
  | x :: r => match flatD x, flatsD r with
    | some v, some vs => some (v :: vs)
    | _, _ => none
theorem flatD_ok {K : Frag} {M : Hp} {v u : V} {x : Vl} (r : RV K M v x) (h : flatD x = some u) : v = u ∧ flatV u = true := by
  match x, r, h with
  | .dat .non, r, h => cases h; exact ⟨inv_non r, rfl⟩
  | .dat (.bl b), r, h => cases h; exact ⟨inv_bl r, rfl⟩
  | .dat (.int i), r, h => cases h; exact ⟨inv_int r, rfl⟩
  | .dat (.str s), r, h => cases h; exact ⟨inv_str r, rfl⟩
theorem flatsD_ok {K : Frag} {M : Hp} : ∀ {vs us : List V} {xs : List Vl}, Paired (RV K M) vs xs → flatsD xs = some us → vs = us ∧ us.all flatV = true
  | _, _, _, .nil, h => by cases h; exact ⟨rfl, rfl⟩
  | _, _, _, .cons r k, h => by
    unfold flatsD at h
    split at h
    · rename_i v vs e1 e2
      cases h
      obtain ⟨h1, h2⟩ := flatD_ok r e1
      obtain ⟨h3, h4⟩ := flatsD_ok k e2
      exact ⟨by rw [h1, h3], by rw [List.all_cons, h2, h4]; rfl⟩
    · cases h
def wIn (neg : Bool) : W2 := fun x y cs P => ∃ b ys u us, seqD cs y = some (b, ys) ∧ flatD x = some u ∧ flatsD ys = some us ∧ P (.dat (.bl (if neg then !inV u us else inV u us))) cs
theorem r2_in {K : Frag} {neg : Bool} : R2Ok K (rIn K neg) (wIn neg) := fun M H cs x y a b P Q o rx ry ⟨bb, ys, u, us, h1, h2, h3, p⟩ k => by
  obtain ⟨ad, vs, e, q, pr⟩ := seqD_any o ry h1
  obtain ⟨e2, f2⟩ := flatD_ok rx h2
  obtain ⟨e3, f3⟩ := flatsD_ok pr h3
  subst e e2 e3
  exact ⟨ad, vs, rfl, q, f2, f3, k _ _ M H cs (Same.refl _) o (rv_dat (.bl _)) p⟩
theorem dt_notin (ha : DE X a wa) (hb : DE X b wb) (hm : behindInMarks .NotIn b = false := by rfl) : DT X (.Compare a [.NotIn] [b] pos) (wTest (wOp (wIn true) wa wb)) := dt_cmp op_notIn_seq r2_in ha hb hm
theorem da_cons (ha : DE X e we) (hr : DA X es wr) (hs : starEach (e :: es) X.env = (false, eval e X.env) :: starEach es X.env := by rfl) : DA X (e :: es) (wCons we wr) :=
  pa_imp (pa_cons ha hr hs) fun σ H Q ⟨M, ρ, cs, P, o, r0, p, k⟩ => ⟨M, ρ, cs, _, o, r0, p, fun v x M1 H1 cs1 s1 o1 r1 p1 =>
    ⟨M1, ρ, cs1, _, o1, r0.mono s1, p1, fun vs xs M2 H2 cs2 s2 o2 r2 p2 => k _ _ M2 H2 cs2 (s1.trans s2) o2 (.cons (r1.mono s2) r2) p2⟩⟩
/-- a new tuple: data alone -/
def wTup (wa : WA) : WE := fun ρ cs P => wa ρ cs fun xs cs1 => ∃ ds, allDat xs = some ds ∧ ds.length ≤ 16777216 ∧ P (.dat (.tup ds)) cs1
/-- a new list: a cell, or data for ever -/
def newL (xs : List Vl) (cs : Cells) (P : Vl → Cells → Prop) : Prop := (∀ p, cs p = none → P (.cell p) (cs.put p (.lst xs))) ∨ ∃ ds, allDat xs = some ds ∧ P (.dat (.lst ds)) cs
def wLst (wa : WA) : WE := fun ρ cs P => wa ρ cs fun xs cs1 => xs.length ≤ 16777216 ∧ newL xs cs1 P
theorem size_line {n : Nat} (h : n ≤ 16777216) : n ≤ sizeLine := by rw [sizeLine_eq]; exact h
theorem newT_ok {K : Frag} {M H : Hp} {cs : Cells} {P : Vl → Cells → Prop} {Q : VK} {vs : List V} {ds : List Dat} (o : Ok K M H cs) (r : Paired (RV K M) vs (ds.map .dat)) (p : P (.dat (.tup ds)) cs) (k : Kont K M P Q) : ∀ q, H q = none → Q (.ref q) (upd H q (.tup vs)) := fun q hq => by
  obtain ⟨s, o'⟩ := o.newM hq (.tup vs)
  exact k _ _ _ _ cs s o' (rv_dat (.tup (.inl (.inl upd_same)) ((DrAll.of_paired r).mono s))) p
theorem newL_ok {K : Frag} {M H : Hp} {cs : Cells} {P : Vl → Cells → Prop} {Q : VK} {vs : List V} {xs : List Vl} (o : Ok K M H cs) (r : Paired (RV K M) vs xs) (p : newL xs cs P) (k : Kont K M P Q) : ∀ q, H q = none → Q (.ref q) (upd H q (.lst vs)) := fun q hq => by
  rcases p with p | ⟨ds, e, p⟩
  · exact k _ _ M _ _ (Same.refl _) (o.newC hq (c := .lst xs) r) rv_raw (p q (o.freeC hq))
  · obtain ⟨s, o'⟩ := o.newM hq (.lst vs)
    rw [allDat_eq e] at r
    exact k _ _ _ _ cs s o' (rv_dat (.lst (.inl (.inl upd_same)) ((DrAll.of_paired r).mono s))) p
theorem de_tup {x1 : Nat} (h : DA X es wr) : DE X (.Tuple es x1 pos) (wTup wr) :=
  pe_imp (pe_tup h) fun σ H Q ⟨M, ρ, cs, P, o, r0, p, k⟩ => ⟨M, ρ, cs, _, o, r0, p, fun vs xs M1 H1 cs1 s1 o1 r1 ⟨ds, e, hz, p1⟩ => by
    have e' := allDat_eq e
    subst e'
    exact ⟨by rw [Paired.len r1, List.length_map]; exact size_line hz, newT_ok o1 r1 p1 (k.mono s1)⟩⟩
theorem de_lst (h : DA X es wr) : DE X (.List es pos) (wLst wr) :=
  pe_imp (pe_lst h) fun σ H Q ⟨M, ρ, cs, P, o, r0, p, k⟩ => ⟨M, ρ, cs, _, o, r0, p, fun vs xs M1 H1 cs1 s1 o1 r1 ⟨hz, p1⟩ =>
    ⟨by rw [Paired.len r1]; exact size_line hz, newL_ok o1 r1 p1 (k.mono s1)⟩⟩
theorem paired_atI {K : Frag} {M : Hp} {vs : List V} {xs : List Vl} {i : Int} {x : Vl} (r : Paired (RV K M) vs xs) (h : atI xs i = some x) : ∃ v, atI vs i = some v ∧ RV K M v x := by
  unfold atI at h ⊢
  rw [Paired.len r]
  cases e : ixN xs.length i with
  | none => rw [e] at h; cases h
  | some j =>
    rw [e] at h
    exact Paired.getR r h
/-- x[i] of a list or a tuple -/
def wIx : W2 := fun x y cs P => ∃ b xs i z, seqD cs x = some (b, xs) ∧ y = .dat (.int i) ∧ atI xs i = some z ∧ P z cs
theorem r2_ix {K : Frag} : R2Ok K (rIx K) wIx := fun M H cs x y a b P Q o rx ry ⟨bb, xs, i, z, h1, ey, h2, p⟩ k => by
  subst ey
  cases bb with
  | true =>
    obtain ⟨ad, vs, e, q, pr⟩ := seqD_list o rx h1
    obtain ⟨v, hv, rv⟩ := paired_atI pr h2
    exact .inl ⟨ad, vs, i, v, e, inv_int ry, q, hv, k _ _ M H cs (Same.refl _) o rv p⟩
  | false =>
    obtain ⟨ad, vs, e, q, pr⟩ := seqD_tup o rx h1
    obtain ⟨v, hv, rv⟩ := paired_atI pr h2
    exact .inr (.inl ⟨ad, vs, i, v, e, inv_int ry, q, hv, k _ _ M H cs (Same.refl _) o rv p⟩)
theorem de_ix (ha : DE X a wa) (hb : DE X b wb) (hs : PlainIx b := by exact fun _ _ => rfl) : DE X (.Subscript a b pos) (wOp wIx wa wb) := pe_imp (pe_ix ix_seq ha hb hs) fun _ _ _ h => lift2 r2_ix h
theorem liftN {K : Frag} {r : List V → Hp → VK → Prop} {wn : WN} (hr : RNOk K r wn) {σ : St} {H : Hp} {Q : VK} (h : lift K (wFn wn wr) σ H Q) : tCB r (liftA K wr) σ H Q := by
  obtain ⟨M, ρ, cs, P, o, r0, p, k⟩ := h
  exact ⟨M, ρ, cs, _, o, r0, p, fun vs xs M1 H1 cs1 s1 o1 r1 p1 => hr M1 H1 cs1 vs xs P Q o1 r1 p1 (k.mono s1)⟩
theorem de_callB {x : Str} {id : String} {r : List V → Hp → VK → Prop} {wn : WN} {p : Pos} (hc : CallR X (.builtin id) r) (hr : RNOk X.K r wn) (hm : X.mg x = none) (hv : bootBuiltins x = some (.builtin id)) (ha : DA X (e :: es) wr) (hg : Gl X x := by rfl) (hn : x ≠ "__name__" := by decide) (hdb : (x == ("__debug__" : Str)) = false := by decide)
    (he : starEach (e :: es) X.env = (false, eval e X.env) :: starEach es X.env := by rfl) (hpl : (backTo pos (starEach es X.env)).any (·.1) = false := by rfl) : DE X (.Call (.Name x p) (e :: es) [] pos) (wFn wn wr) :=
  pe_imp (pe_callB hc hg hm hv ha hn hdb he hpl) fun _ _ _ h => liftN hr h
theorem de_callTy {x : Str} {T : String} {r : List V → Hp → VK → Prop} {wn : WN} {p : Pos} (hc : CallR X (.type T) r) (hr : RNOk X.K r wn) (hm : X.mg x = none) (hv : bootBuiltins x = some (.type T)) (ha : DA X (e :: es) wr) (hg : Gl X x := by rfl) (hn : x ≠ "__name__" := by decide) (hdb : (x == ("__debug__" : Str)) = false := by decide)
    (he : starEach (e :: es) X.env = (false, eval e X.env) :: starEach es X.env := by rfl) (hpl : (backTo pos (starEach es X.env)).any (·.1) = false := by rfl) : DE X (.Call (.Name x p) (e :: es) [] pos) (wFn wn wr) :=
  pe_imp (pe_callTy hc hg hm hv ha hn hdb he hpl) fun _ _ _ h => liftN hr h
def wLen : WN := fun xs cs P => ∃ x b ys, xs = [x] ∧ seqD cs x = some (b, ys) ∧ P (.dat (.int (ys.length : Int))) cs
theorem rn_len {K : Frag} : RNOk K (fun xs H Q => ∃ p ys, xs = [.ref p] ∧ (SqL K H p ys ∨ SqT K H p ys) ∧ Q (.int ys.length) H) wLen := fun M H cs xs as P Q o r ⟨x, b, ys, e, h, p⟩ k => by
  subst e
  cases r with
  | cons r1 rr =>
    cases rr
    obtain ⟨ad, vs, e, q, pr⟩ := seqD_any o r1 h
    subst e
    exact ⟨ad, vs, rfl, q, by rw [Paired.len pr]; exact k _ _ M H cs (Same.refl _) o (rv_dat (.int _)) p⟩
theorem de_len {p : Pos} (hm : X.mg "len" = none) (ha : DA X [e] wr) (hg : Gl X "len" := by rfl) (he : starEach [e] X.env = (false, eval e X.env) :: starEach [] X.env := by rfl) (hpl : (backTo pos (starEach [] X.env)).any (·.1) = false := by rfl) :
    DE X (.Call (.Name "len" p) [e] [] pos) (wFn wLen wr) := de_callB call_len_seq rn_len hm PySem.boot_len ha hg (by decide) (by decide) he hpl
def wMax2 : WN := fun xs cs P => ∃ i j, xs = [.dat (.int i), .dat (.int j)] ∧ P (.dat (.int (if j > i then j else i))) cs
def wMin2 : WN := fun xs cs P => ∃ i j, xs = [.dat (.int i), .dat (.int j)] ∧ P (.dat (.int (if j < i then j else i))) cs
theorem rn_II {K : Frag} {f : Int → Int → Int} : RNOk K (fun xs H Q => ∃ i j, xs = [.int i, .int j] ∧ Q (.int (f i j)) H) (fun xs cs P => ∃ i j, xs = [.dat (.int i), .dat (.int j)] ∧ P (.dat (.int (f i j))) cs) := fun M H cs xs as P Q o r ⟨i, j, e, p⟩ k => by
  subst e
  cases r with
  | cons r1 rr =>
    cases rr with
    | cons r2 rr =>
      cases rr
      exact ⟨i, j, by rw [inv_int r1, inv_int r2], k _ _ M H cs (Same.refl _) o (rv_dat (.int _)) p⟩
theorem de_max2 {p : Pos} {a b : Expr} (hc : X.calm = true) (hm : X.mg "max" = none) (ha : DA X [a, b] wr) (hg : Gl X "max" := by rfl) (he : starEach [a, b] X.env = (false, eval a X.env) :: starEach [b] X.env := by rfl) (hpl : (backTo pos (starEach [b] X.env)).any (·.1) = false := by rfl) :
    DE X (.Call (.Name "max" p) [a, b] [] pos) (wFn wMax2 wr) := de_callB (call_max2 hc) rn_II hm (by decide +kernel) ha hg (by decide) (by decide) he hpl
/-- tuple(x) -/
def wTuple : WN := fun xs cs P => ∃ x b ys ds, xs = [x] ∧ seqD cs x = some (b, ys) ∧ allDat ys = some ds ∧ P (.dat (.tup ds)) cs
theorem rn_tuple {K : Frag} : RNOk K (fun xs H Q => ∃ p ys, xs = [.ref p] ∧ ((SqL K H p ys ∧ ∀ l, H l = none → Q (.ref l) (upd H l (.tup ys))) ∨ (SqT K H p ys ∧ Q (.ref p) H))) wTuple := fun M H cs xs as P Q o r ⟨x, b, ys, ds, e, h, hd, p⟩ k => by
  subst e
  cases r with
  | cons r1 rr =>
    cases rr
    have hy := allDat_eq hd
    subst hy
    cases b with
    | true =>
      obtain ⟨ad, vs, e, q, pr⟩ := seqD_list o r1 h
      subst e
      exact ⟨ad, vs, rfl, .inl ⟨q, newT_ok o pr p k⟩⟩
    | false =>
      obtain ⟨ad, vs, e, q, pr⟩ := seqD_tup o r1 h
      subst e
      refine ⟨ad, vs, rfl, .inr ⟨q, ?_⟩⟩
      have hx : x = .dat (.tup ds) := by
        match x, h with
        | .dat (.tup es), h =>
          have h' : es.map Vl.dat = ds.map Vl.dat := by
            have := (Option.some.inj h)
            exact (Prod.mk.inj this).2
          have : es = ds := by
            have z := allDat_map es
            rw [h', allDat_map] at z
            exact (Option.some.inj z).symm
          rw [this]
        | .dat (.lst es), h => exact nomatch (show some (true, _) = some (false, _) from h)
        | .raw (.ref a), h =>
          have h : coSeq (cs a) = some (false, ds.map Vl.dat) := h
          cases q : cs a with
          | none => rw [q] at h; cases h
          | some c => rw [q] at h; cases c <;> cases h
      subst hx
      exact k _ _ M H cs (Same.refl _) o r1 p
theorem de_tuple {p : Pos} (hm : X.mg "tuple" = none) (ha : DA X [e] wr) (hg : Gl X "tuple" := by rfl) (he : starEach [e] X.env = (false, eval e X.env) :: starEach [] X.env := by rfl) (hpl : (backTo pos (starEach [] X.env)).any (·.1) = false := by rfl) :
    DE X (.Call (.Name "tuple" p) [e] [] pos) (wFn wTuple wr) := de_callTy call_tuple_of rn_tuple hm (by decide +kernel) ha hg (by decide) (by decide) he hpl
/-- list(x) -/
def wListOf : WN := fun xs cs P => ∃ x b ys, xs = [x] ∧ seqD cs x = some (b, ys) ∧ newL ys cs P
theorem rn_list {K : Frag} : RNOk K (fun xs H Q => ∃ p ys, xs = [.ref p] ∧ (SqL K H p ys ∨ SqT K H p ys) ∧ ∀ l, H l = none → Q (.ref l) (upd H l (.lst ys))) wListOf := fun M H cs xs as P Q o r ⟨x, b, ys, e, h, p⟩ k => by
  subst e
  cases r with
  | cons r1 rr =>
    cases rr
    obtain ⟨ad, vs, e, q, pr⟩ := seqD_any o r1 h
    subst e
    exact ⟨ad, vs, rfl, q, newL_ok o pr p k⟩
theorem de_list {p : Pos} (hm : X.mg "list" = none) (ha : DA X [e] wr) (hg : Gl X "list" := by rfl) (he : starEach [e] X.env = (false, eval e X.env) :: starEach [] X.env := by rfl) (hpl : (backTo pos (starEach [] X.env)).any (·.1) = false := by rfl) :
    DE X (.Call (.Name "list" p) [e] [] pos) (wFn wListOf wr) := de_callTy call_list_of rn_list hm (by decide +kernel) ha hg (by decide) (by decide) he hpl
end
end DL
set_option maxRecDepth 100000
set_option maxHeartbeats 4000000
namespace DL
open PySem L2
def wNext : WS := fun D ρ cs => D.nx ρ cs
def wSeq (w u : WS) : WS := fun D ρ cs => w { D with nx := u D } ρ cs
def wRet (we : WE) : WS := fun D ρ cs => we ρ cs D.rt
def wRetN : WS := fun D _ cs => D.rt (.dat .non) cs
def wDrop (we : WE) : WS := fun D ρ cs => we ρ cs fun _ cs1 => D.nx ρ cs1
def wIfS (c : WT) (w u : WS) : WS := fun D ρ cs => c ρ cs fun b cs1 => if b = true then w D ρ cs1 else u D ρ cs1
def wNever : WS := fun _ _ _ => False
abbrev WG := Vl → DEnv → Cells → (DEnv → Cells → Prop) → Prop
abbrev WGs := List Vl → DEnv → Cells → (DEnv → Cells → Prop) → Prop
/-- js: the slots that a target may set -/
def KontG (K : Frag) (M : Hp) (js : List Nat) (σ : St) (P : DEnv → Cells → Prop) (Q : St → Hp → Prop) : Prop :=
  ∀ σ' ρ' M' H' cs', Same M M' → Ok K M' H' cs' → Rho K M' σ' ρ' → σ'.length = σ.length → (∀ i, i ∉ js → σ'[i]? = σ[i]?) → P ρ' cs' → Q σ' H'
def liftG (K : Frag) (js : List Nat) (g : WG) : TG := fun v σ H Q => ∃ M ρ cs x P, Ok K M H cs ∧ Rho K M σ ρ ∧ RV K M v x ∧ g x ρ cs P ∧ KontG K M js σ P Q
def liftGs (K : Frag) (js : List Nat) (g : WGs) : TGs := fun vs σ H Q => ∃ M ρ cs xs P, Ok K M H cs ∧ Rho K M σ ρ ∧ Paired (RV K M) vs xs ∧ g xs ρ cs P ∧ KontG K M js σ P Q
def DG (X : Cx) (js : List Nat) (tg : Expr) (g : WG) : Prop := PG X tg (liftG X.K js g)
def DGs (X : Cx) (js : List Nat) (tg : List Expr) (g : WGs) : Prop := PGs X tg (liftGs X.K js g)
def gN (i : Nat) : WG := fun x ρ cs P => P (ρ.set i (some x)) cs
def gNil : WGs := fun xs ρ cs P => xs = [] ∧ P ρ cs
def gCons (g : WG) (gs : WGs) : WGs := fun xs ρ cs P => ∃ x r, xs = x :: r ∧ g x ρ cs fun ρ1 cs1 => gs r ρ1 cs1 P
def gT (n : Nat) (gs : WGs) : WG := fun x ρ cs P => ∃ xs, seqD cs x = some (false, xs) ∧ xs.length = n ∧ gs xs ρ cs P
/-- xs[i] = v, a cell's list -/
def gIx (wo wi : WE) : WG := fun v ρ cs P => wo ρ cs fun o cs1 => wi ρ cs1 fun i cs2 => ∃ a xs k j, o = .cell a ∧ i = .dat (.int k) ∧ cs2 a = some (.lst xs) ∧ ixN xs.length k = some j ∧ P ρ (cs2.put a (.lst (xs.set j v)))
def wAsg (we : WE) (g : WG) : WS := fun D ρ cs => we ρ cs fun x cs1 => g x ρ cs1 D.nx
def wAug (i : Nat) (we : WE) (f : Int → Int → Int) : WS := fun D ρ cs => ∃ a, ρ[i]? = some (some (.dat (.int a))) ∧ we ρ cs fun y cs1 => ∃ b, y = .dat (.int b) ∧ D.nx (ρ.set i (some (.dat (.int (f a b))))) cs1
def wPar (i j : Nat) (wa : WA) : WS := fun D ρ cs => wa ρ cs fun xs cs1 => ∃ x y, xs = [x, y] ∧ D.nx ((ρ.set i (some x)).set j (some y)) cs1
theorem pg_imp {X : Cx} {e : Expr} {t t' : TG} (h : PG X e t) (m : ∀ v σ H Q, t' v σ H Q → t v σ H Q) : PG X e t' := ⟨fun pins s σ H v u Q I r q => h.run pins s σ H v u Q I r (m v σ H Q q)⟩
theorem pgs_imp {X : Cx} {e : List Expr} {t t' : TGs} (h : PGs X e t) (m : ∀ v σ H Q, t' v σ H Q → t v σ H Q) : PGs X e t' := ⟨fun pins s σ H v u Q I r q => h.run pins s σ H v u Q I r (m v σ H Q q)⟩
theorem pi_imp {X : Cx} {tg e : Expr} {t t' : TI} (h : PI X tg e t) (m : ∀ σ H R, t' σ H R → t σ H R) : PI X tg e t' := ⟨fun pins s σ H R I q => h.run pins s σ H R I (m σ H R q)⟩
section
variable {X : Cx} {a b c e : Expr} {es : List Expr} {wa wb wc we : WE} {w u : WT} {wr : WA} {pos : Pos} {st : Stmt} {sts : List Stmt} {ws wt : WS}
theorem dss_nil : DSs X [] wNext := pss_imp pss_nil fun E σ H ⟨M, ρ, cs, D, o, r, h, e⟩ => e.nx σ ρ M H cs (Same.refl _) o r h
theorem dss_cons (h1 : DS X st ws) (h2 : DSs X sts wt) : DSs X (st :: sts) (wSeq ws wt) :=
  pss_imp (pss_cons h1 h2) fun E σ H ⟨M, ρ, cs, D, o, r, h, e⟩ => ⟨M, ρ, cs, _, o, r, h, ⟨fun σ' ρ' M' H' cs' s o' r' p => ⟨M', ρ', cs', D, o', r', p, e.mono s⟩, e.rt, e.bk, e.ct⟩⟩
theorem dss_one (h1 : DS X st ws) : DSs X [st] ws := pss_one h1
theorem ds_never : DS X st wNever := ps_imp ps_never fun E σ H ⟨M, ρ, cs, D, o, r, h, e⟩ => h
theorem ds_ret (h : DE X e we) : DS X (.Return (some e) pos) (wRet we) := ps_imp (ps_ret h) fun E σ H ⟨M, ρ, cs, D, o, r, h, e⟩ => ⟨M, ρ, cs, _, o, r, h, e.rt⟩
theorem ds_expr (h : DE X e we) (hs : swapsWith e none pos.line X.env = pure false := by rfl) : DS X (.Expr e pos) (wDrop we) :=
  ps_imp (ps_expr h hs) fun E σ H ⟨M, ρ, cs, D, o, r, h, e⟩ => ⟨M, ρ, cs, _, o, r, h, fun v x M' H' cs' s o' _ p => e.nx σ ρ M' H' cs' s o' (r.mono s) p⟩
theorem ds_if {sa sb : List Stmt} (hc : DT X c w) (ha : DSs X sa ws) (hb : DSs X sb wt) : DS X (.If c sa sb pos) (wIfS w ws wt) :=
  ps_imp (ps_if hc ha hb) fun E σ H ⟨M, ρ, cs, D, o, r, h, e⟩ => ⟨M, ρ, cs, _, o, r, h, fun b M' H' cs' s o' p => by
    cases b with
    | true => exact iteT ⟨M', ρ, cs', D, o', r.mono s, by simpa using p, e.mono s⟩
    | false => exact iteF ⟨M', ρ, cs', D, o', r.mono s, by simpa using p, e.mono s⟩⟩
theorem dg_name {i : Nat} {x : Str} (hN : X.N.Nodup) (hi : X.N[i]? = some x := by rfl) (hx : Loc X.env.scope x := by first | exact Or.inl rfl | exact Or.inr rfl) (hf : X.fn x = true ∨ X.env.scope.names.lookup x = some .local := by first | exact .inl rfl | exact .inr rfl | assumption) : DG X [i] (.Name x pos) (gN i) :=
  pg_imp (pg_name hN hi hx hf) fun v σ H Q ⟨M, ρ, cs, x, P, o, r, rv, p, k⟩ => k _ _ M H cs (Same.refl _) o (r.set rv) (by rw [List.length_set]) (fun j hj => by rw [List.getElem?_set_ne (by intro z; exact hj (by simp [z]))]) p
theorem dgs_nil : DGs X [] [] gNil := pgs_imp pgs_nil fun v σ H Q ⟨M, ρ, cs, xs, P, o, r, rv, ⟨e, p⟩, k⟩ => by
  subst e
  cases rv
  exact ⟨rfl, k _ _ M H cs (Same.refl _) o r rfl (fun _ _ => rfl) p⟩
theorem dgs_cons {js js' : List Nat} {g : WG} {gs : WGs} (h1 : DG X js e g) (h2 : DGs X js' es gs) (hs : (assignEach (e :: es) X.env).map (·.2) = assign e X.env :: (assignEach es X.env).map (·.2) := by rfl) : DGs X (js ++ js') (e :: es) (gCons g gs) :=
  pgs_imp (pgs_cons h1 h2 hs) fun vs σ H Q ⟨M, ρ, cs, xs, P, o, r, rv, ⟨x, rest, ex, p⟩, k⟩ => by
    subst ex
    cases rv with
    | cons r1 rr =>
      refine ⟨_, _, rfl, M, ρ, cs, x, _, o, r, r1, p, fun σ' ρ' M' H' cs' s o' r' hl hj p' => ?_⟩
      refine ⟨M', ρ', cs', rest, _, o', r', paired_mono (fun _ _ q => q.mono s) rr, p', fun σ2 ρ2 M2 H2 cs2 s2 o2 r2 hl2 hj2 p2 => ?_⟩
      exact k σ2 ρ2 M2 H2 cs2 (s.trans s2) o2 r2 (hl2.trans hl) (fun i hi => by rw [hj2 i (fun z => hi (List.mem_append.mpr (.inr z))), hj i (fun z => hi (List.mem_append.mpr (.inl z)))]) p2
theorem dg_tup {js : List Nat} {gs : WGs} {n k : Nat} (hc : X.calm = true) (h : DGs X js es gs) (hn : (assignEach es X.env).length = n := by rfl) (hst : (assignEach es X.env).findIdx? (·.1) = none := by rfl) : DG X js (.Tuple es k pos) (gT n gs) :=
  pg_imp (pg_tup hc h hn hst) fun v σ H Q ⟨M, ρ, cs, x, P, o, r, rv, ⟨xs, hx, hl, p⟩, k⟩ => by
    obtain ⟨ad, vs, ev, q, pr⟩ := seqD_tup o rv hx
    exact ⟨ad, vs, ev, q, (Paired.len pr).trans hl, M, ρ, cs, xs, P, o, r, pr, p, k⟩
theorem paired_set {K : Frag} {M : Hp} {vs : List V} {xs : List Vl} {j : Nat} {v : V} {x : Vl} (h : Paired (RV K M) vs xs) (r : RV K M v x) : Paired (RV K M) (vs.set j v) (xs.set j x) := Paired.set h r
theorem dg_ix (ho : DE X a wa) (hi : DE X b wb)
    (ha : ∀ v, assign (.Subscript a b pos) X.env v = (do
      let ov ← holding [v] (eval a X.env)
      let iv ← holding [v, ov] (eval b X.env)
      standAt pos
      holding [v, ov, iv] (setItem ov iv v)
      release [v, ov, iv] []) := by intros; rfl) : DG X [] (.Subscript a b pos) (gIx wa wb) :=
  pg_imp (pg_sub ho hi set_list ha) fun v σ H Q ⟨M, ρ, cs, x, P, o, r, rv, p, k⟩ => by
    refine ⟨M, ρ, cs, _, o, r, p, fun v1 x1 M1 H1 cs1 s1 o1 r1 p1 => ?_⟩
    refine ⟨M1, ρ, cs1, _, o1, r.mono s1, p1, fun v2 x2 M2 H2 cs2 s2 o2 r2 ⟨ad, xs, kk, j, e1, e2, hc, hj, p2⟩ => ?_⟩
    subst e1 e2
    obtain ⟨m0, ob, hob, cr⟩ := o2.cell ad _ hc
    cases ob <;> try exact (show False from cr).elim
    rename_i ys
    have cr : Paired (RV X.K M2) ys xs := cr
    have e1 : v1 = .ref ad := r1
    refine ⟨ad, ys, kk, j, e1, inv_int r2, hob, by rw [Paired.len cr]; exact hj, ?_⟩
    exact k σ ρ M2 _ _ (s1.trans s2) (o2.setC hc (c := .lst (xs.set j x)) (paired_set cr (rv.mono (s1.trans s2)))) (r.mono (s1.trans s2)) rfl (fun _ _ => rfl) p2
theorem ds_asg {js : List Nat} {tg : Expr} {g : WG} (he : DE X e we) (hg : DG X js tg g) (hs : swapsWithSole [tg] e pos.line X.env = pure false := by rfl) (hw : swappedStores [tg] e X.env = pure none := by rfl)
    (h1 : (assignEach [tg] X.env).map (·.2) = [assign tg X.env] := by rfl) : DS X (.Assign [tg] e pos) (wAsg we g) :=
  ps_imp (ps_asg he hg hs hw h1) fun E σ H ⟨M, ρ, cs, D, o, r, h, e⟩ => ⟨M, ρ, cs, _, o, r, h, fun v x M' H' cs' s o' rv p =>
    ⟨M', ρ, cs', x, _, o', r.mono s, rv, p, fun σ2 ρ2 M2 H2 cs2 s2 o2 r2 _ _ p2 => e.nx σ2 ρ2 M2 H2 cs2 (s.trans s2) o2 r2 p2⟩⟩
theorem ds_set {i : Nat} {x : Str} {pos' : Pos} (hN : X.N.Nodup) (he : DE X e we) (hi : X.N[i]? = some x := by rfl) (hx : Loc X.env.scope x := by first | exact Or.inl rfl | exact Or.inr rfl) (hs : swapsWith e (some (.Name x pos')) pos.line X.env = pure false := by rfl) (hf : X.fn x = true ∨ X.env.scope.names.lookup x = some .local := by first | exact .inl rfl | exact .inr rfl | assumption) :
    DS X (.Assign [.Name x pos'] e pos) (wAsg we (gN i)) :=
  ps_imp (ps_set hN hi hx he hs hf) fun E σ H ⟨M, ρ, cs, D, o, r, h, e⟩ => ⟨M, ρ, cs, _, o, r, h, fun v x M' H' cs' s o' rv p => e.nx _ _ M' H' cs' s o' ((r.mono s).set rv) p⟩
theorem ds_par {i j : Nat} {x y : Str} {px py pt pt2 : Pos} {kt k2 : Nat} (hc : X.calm = true) (hN : X.N.Nodup) (ha : DA X [a, b] wr) (hi : X.N[i]? = some x := by rfl) (hj : X.N[j]? = some y := by rfl) (hij : i ≠ j := by decide)
    (hx : X.env.scope.names.lookup x = some .local := by rfl) (hy : X.env.scope.names.lookup y = some .local := by rfl)
    (hw : swappedStores [.Tuple [.Name x px, .Name y py] kt pt] (.Tuple [a, b] k2 pt2) X.env = pure (some [x, y]) := by rfl)
    (hs : swapsWithSole [.Tuple [.Name x px, .Name y py] kt pt] (.Tuple [a, b] k2 pt2) pos.line X.env = pure false := by rfl) :
    DS X (.Assign [.Tuple [.Name x px, .Name y py] kt pt] (.Tuple [a, b] k2 pt2) pos) (wPar i j wr) :=
  ps_imp (ps_par hc hN hi hj hij hx hy ha hw hs) fun E σ H ⟨M, ρ, cs, D, o, r, h, e⟩ => ⟨M, ρ, cs, _, o, r, h, fun vs xs M' H' cs' s o' rv ⟨x1, y1, ex, p⟩ => by
    subst ex
    cases rv with
    | cons r1 rr =>
      cases rr with
      | cons r2 rr =>
        cases rr
        exact ⟨_, _, rfl, e.nx _ _ M' H' cs' s o' (((r.mono s).set r1).set r2) p⟩⟩
end
structure ItOk (K : Frag) (M0 : Hp) (J : It) (items : List Vl) (G : Cells → Prop) : Prop where
  go : ∀ i M H cs, Same M0 M → Ok K M H cs → G cs → i < items.length → J.go i H
  stop : ∀ M H cs, Same M0 M → Ok K M H cs → G cs → J.stop items.length H
  yld : ∀ i M H cs v H', Same M0 M → Ok K M H cs → G cs → J.yld i H v H' → i < items.length → ∃ M' x, items[i]? = some x ∧ Same M M' ∧ Ok K M' H' cs ∧ RV K M' v x
abbrev WI := DEnv → Cells → (List Vl → (Cells → Prop) → Cells → Prop) → Prop
def liftI (K : Frag) (wi : WI) : TI := fun σ H R => ∃ M ρ cs P, Ok K M H cs ∧ Rho K M σ ρ ∧ wi ρ cs P ∧ ∀ J items G M' H' cs', Same M M' → Ok K M' H' cs' → ItOk K M' J items G → P items G cs' → R J H'
def DI (X : Cx) (tg e : Expr) (wi : WI) : Prop := PI X tg e (liftI X.K wi)
def wFor (wi : WI) (g : WG) (wb : WS) : WS := fun D ρ cs => wi ρ cs fun items G cs1 => ∃ Inv : Nat → DEnv → Cells → Prop, Inv 0 ρ cs1 ∧ (∀ i ρ' cs', i ≤ items.length → Inv i ρ' cs' → G cs') ∧
  (∀ i x ρ' cs', items[i]? = some x → Inv i ρ' cs' → g x ρ' cs' fun ρ2 cs2 => wb { D with nx := Inv (i + 1), ct := Inv (i + 1), bk := D.nx } ρ2 cs2) ∧ ∀ ρ' cs', Inv items.length ρ' cs' → D.nx ρ' cs'
theorem ds_for {X : Cx} {tg iter : Expr} {body : List Stmt} {pos : Pos} {js : List Nat} {wi : WI} {g : WG} {wb : WS} (hi : DI X tg iter wi) (hg : DG X js tg g) (hb : DSs X body wb) (hc : X.calm = true := by rfl) (hp : PassesOwn (model X.prog X.w) X.A X.env X.xe := by exact PassesOwn.never)
    (hs : ∀ x, foldedSetIterable iter X.env x = pure x := by intro _; rfl) : DS X (.For tg iter body [] pos) (wFor wi g wb) :=
  ps_imp (ps_for hp hc hi hg hb hs) fun E σ H ⟨M, ρ, cs, D, o, r, h, e⟩ => by
    refine ⟨M, ρ, cs, _, o, r, h, fun J items G M1 H1 cs1 s1 o1 it ⟨Iv, i0, iG, turn, fin⟩ => ?_⟩
    refine ⟨fun i m σ' H' => m = items.length - i ∧ i ≤ items.length ∧ ∃ M' ρ' cs', Same M1 M' ∧ Ok X.K M' H' cs' ∧ Rho X.K M' σ' ρ' ∧ Iv i ρ' cs', ⟨items.length, by simp, Nat.zero_le _, M1, ρ, cs1, Same.refl _, o1, r.mono s1, i0⟩, ?_⟩
    rintro i m σ' H' ⟨rfl, hi, M', ρ', cs', s', o', r', inv⟩
    have g' := iG i ρ' cs' hi inv
    by_cases hlt : i < items.length
    · refine .inr ⟨it.go i M' H' cs' s' o' g' hlt, fun σ2 H2 => i + 1 ≤ items.length ∧ ∃ M2 ρ2 cs2, Same M1 M2 ∧ Ok X.K M2 H2 cs2 ∧ Rho X.K M2 σ2 ρ2 ∧ Iv (i + 1) ρ2 cs2, fun σ2 H2 q => ⟨_, by omega, rfl, q.1, q.2⟩, fun v H2 y => ?_⟩
      obtain ⟨M2, x, ex, s2, o2, rv⟩ := it.yld i M' H' cs' v H2 s' o' g' y hlt
      refine ⟨M2, ρ', cs', x, _, o2, r'.mono s2, rv, turn i x ρ' cs' ex inv, fun σ3 ρ3 M3 H3 cs3 s3 o3 r3 _ _ p3 => ?_⟩
      refine ⟨M3, ρ3, cs3, _, o3, r3, p3, ⟨fun σ4 ρ4 M4 H4 cs4 s4 o4 r4 p4 => ?_, e.rt.mono (s1.trans (s'.trans (s2.trans s3))), ?_, fun σ4 ρ4 M4 H4 cs4 s4 o4 r4 p4 => ?_⟩⟩
      · exact ⟨hlt, M4, ρ4, cs4, s'.trans (s2.trans (s3.trans s4)), o4, r4, p4⟩
      · exact e.nx.mono (s1.trans (s'.trans (s2.trans s3)))
      · exact ⟨hlt, M4, ρ4, cs4, s'.trans (s2.trans (s3.trans s4)), o4, r4, p4⟩
    · have ei : i = items.length := by omega
      subst ei
      exact .inl ⟨it.stop M' H' cs' s' o' g', e.nx σ' ρ' M' H' cs' (s1.trans s') o' r' (fin ρ' cs' inv)⟩
/-- a list or a tuple -/
def iSeq (K : Frag) (tl : TE) : TI := fun σ H R => tl σ H fun x H1 => (∃ a, x = .ref a ∧ (∃ xs, SqL K H1 a xs) ∧ R (Itl K a) H1) ∨ ∃ a, x = .ref a ∧ (∃ xs, SqT K H1 a xs) ∧ R (Itt K a) H1
theorem pi_seq {X : Cx} {tg l : Expr} {tl : TE} (hl : PE X l tl) : PI X tg l (iSeq X.K tl) := by
  refine ⟨fun pins s σ H R I h => ?_⟩
  refine thn (hl.run pins s σ H _ I h) fun v s1 ⟨x, H1, I1, r1, q1⟩ => ?_
  rcases q1 with ⟨a, e, ⟨xs, hq⟩, q⟩ | ⟨a, e, ⟨xs, hq⟩, q⟩
  · subst e
    cases r1
    obtain ⟨its, rv, p, hz⟩ := I1.list hq
    refine wpAny_pyIter_list p.isList ?_
    refine ⟨s1.heap.objs.size, [s1.heap.objs.size], _, _, H1, rfl, I1.kept (t' := s1.toks) fun b o e => Heap.get?_push_of_some _ e, turn_list a _, ⟨_, Heap.get?_push_size _ rfl, rfl, rfl⟩, fun b hb => ?_, q⟩
    have e : b = s1.heap.objs.size := by simpa using hb
    subst e
    exact I1.fpOk (Nat.le_refl _) (I1.hok.fresh (Nat.le_refl _))
  · subst e
    cases r1
    obtain ⟨its, rv, p, hz⟩ := I1.tuple hq
    refine wpAny_pyIter_tuple (show s1.heap.IsTuple a its.toArray from p) ?_
    refine ⟨s1.heap.objs.size, [s1.heap.objs.size], _, _, H1, rfl, I1.kept (t' := s1.toks) fun b o e => Heap.get?_push_of_some _ e, turn_tuple a _, ⟨_, Heap.get?_push_size _ rfl, rfl, rfl⟩, fun b hb => ?_, q⟩
    have e : b = s1.heap.objs.size := by simpa using hb
    subst e
    exact I1.fpOk (Nat.le_refl _) (I1.hok.fresh (Nat.le_refl _))
def wiSeq (we : WE) : WI := fun ρ cs P => we ρ cs fun x cs1 => ∃ b xs, seqD cs1 x = some (b, xs) ∧ P xs (fun cs' => seqD cs' x = some (b, xs)) cs1
section
variable {K : Frag} {M0 : Hp} {x : Vl} {xs : List Vl} {a : Addr}
theorem it_list (r : RV K M0 (.ref a) x) : ItOk K M0 (Itl K a) xs (fun cs' => seqD cs' x = some (true, xs)) := by
  refine ⟨fun i M2 H2 cs2 s2 o2 g2 hi => ?_, fun M2 H2 cs2 s2 o2 g2 => ?_, fun i M2 H2 cs2 v2 H3 s2 o2 g2 y hi => ?_⟩
  all_goals
    obtain ⟨a2, vs2, ea2, q2, pr2⟩ := seqD_list o2 (r.mono s2) g2
    cases ea2
  · have hl := Paired.len pr2
    exact ⟨vs2, vs2[i]'(by omega), q2, by simp [show i < vs2.length by omega]⟩
  · exact ⟨vs2, q2, by rw [Paired.len pr2]; exact Nat.le_refl _⟩
  · obtain ⟨e1, e2⟩ := y
    subst e1
    obtain ⟨x2, hx2, rx2⟩ := Paired.getL pr2 (e2 vs2 q2)
    exact ⟨M2, x2, hx2, Same.refl _, o2, rx2⟩
theorem it_tup (r : RV K M0 (.ref a) x) : ItOk K M0 (Itt K a) xs (fun cs' => seqD cs' x = some (false, xs)) := by
  refine ⟨fun i M2 H2 cs2 s2 o2 g2 hi => ?_, fun M2 H2 cs2 s2 o2 g2 => ?_, fun i M2 H2 cs2 v2 H3 s2 o2 g2 y hi => ?_⟩
  all_goals
    obtain ⟨a2, vs2, ea2, q2, pr2⟩ := seqD_tup o2 (r.mono s2) g2
    cases ea2
  · have hl := Paired.len pr2
    exact ⟨vs2, vs2[i]'(by omega), q2, by simp [show i < vs2.length by omega]⟩
  · exact ⟨vs2, q2, by rw [Paired.len pr2]; exact Nat.le_refl _⟩
  · obtain ⟨e1, e2⟩ := y
    subst e1
    obtain ⟨x2, hx2, rx2⟩ := Paired.getL pr2 (e2 vs2 q2)
    exact ⟨M2, x2, hx2, Same.refl _, o2, rx2⟩
end
theorem di_seq {X : Cx} {tg e : Expr} {we : WE} (h : DE X e we) : DI X tg e (wiSeq we) :=
  pi_imp (pi_seq h) fun σ H R ⟨M, ρ, cs, P, o, r, p, k⟩ => by
    refine ⟨M, ρ, cs, _, o, r, p, fun v x M1 H1 cs1 s1 o1 r1 ⟨b, xs, hx, p1⟩ => ?_⟩
    cases b with
    | true =>
      obtain ⟨a, vs, ea, q, pr⟩ := seqD_list o1 r1 hx
      subst ea
      exact .inl ⟨a, rfl, ⟨vs, q⟩, k _ xs _ M1 H1 cs1 s1 o1 (it_list r1) p1⟩
    | false =>
      obtain ⟨a, vs, ea, q, pr⟩ := seqD_tup o1 r1 hx
      subst ea
      exact .inr ⟨a, rfl, ⟨vs, q⟩, k _ xs _ M1 H1 cs1 s1 o1 (it_tup r1) p1⟩
def rangeD (lo c : Int) (n : Nat) : List Vl := (List.range n).map fun (i : Nat) => .dat (.int (lo + (i : Int) * c))
theorem rangeD_len {lo c : Int} {n : Nat} : (rangeD lo c n).length = n := by simp [rangeD]
theorem rangeD_get {lo c : Int} {n i : Nat} (h : i < n) : (rangeD lo c n)[i]? = some (.dat (.int (lo + (i : Int) * c))) := by
  simp [rangeD, h]
theorem rangeD_at {lo c : Int} {n i : Nat} {x : Vl} (h : (rangeD lo c n)[i]? = some x) : i < n ∧ x = .dat (.int (lo + (i : Int) * c)) := by
  have hl := (List.getElem?_eq_some_iff.mp h).1
  rw [rangeD_len] at hl
  rw [rangeD_get hl] at h
  cases h
  exact ⟨hl, rfl⟩
theorem it_range {K : Frag} {M0 : Hp} {lo : Int} {n : Nat} : ItOk K M0 (Itr lo n) (rangeD lo 1 n) (fun _ => True) := by
  refine ⟨fun i M2 H2 cs2 s2 o2 g2 hi => ?_, fun M2 H2 cs2 s2 o2 g2 => ?_, fun i M2 H2 cs2 v2 H3 s2 o2 g2 y hi => ?_⟩
  · rw [rangeD_len] at hi; exact hi
  · rw [rangeD_len]; exact Nat.le_refl _
  · rw [rangeD_len] at hi
    obtain ⟨e1, e2⟩ := y
    subst e1 e2
    exact ⟨M2, _, rangeD_get hi, Same.refl _, o2, by rw [Int.mul_one]; exact rv_dat (.int _)⟩
def wiRng1 (wa : WA) : WI := fun ρ cs P => wa ρ cs fun xs cs1 => ∃ j : Int, xs = [.dat (.int j)] ∧ -(2 ^ 62) ≤ j ∧ j < 2 ^ 62 ∧ P (rangeD 0 1 j.toNat) (fun _ => True) cs1
section
variable {X : Cx} {tg a b c : Expr} {wa : WA} {p pos : Pos}
theorem di_range1 (hm : X.mg "range" = none) (ha : DA X [a] wa) (hg : Gl X "range" := by rfl) (hs : starEach [a] X.env = [(false, eval a X.env)] := by rfl) : DI X tg (.Call (.Name "range" p) [a] [] pos) (wiRng1 wa) :=
  pi_imp (pi_range1 hg hm ha hs) fun σ H R ⟨M, ρ, cs, P, o, r, p, k⟩ => ⟨M, ρ, cs, _, o, r, p, fun v x M1 H1 cs1 s1 o1 r1 ⟨j, ej, h1, h2, p1⟩ => by
    subst ej
    cases r1 with
    | cons r1 rr =>
      cases rr
      exact ⟨j, by rw [inv_int r1], h1, h2, k _ _ _ M1 H1 cs1 s1 o1 it_range p1⟩⟩
end
end DL
set_option maxRecDepth 100000
set_option maxHeartbeats 4000000
namespace PySem
set_option maxHeartbeats 4000000 in
theorem dl_enum_newB {v : Value} {o : Obj} {H : Heap → Prop} (B : Begins v o H) :
    Meets (Builtin.«enumerate.__new__» ⟨[.type "enumerate", v], []⟩) (fun _ R s => H s.heap ∧
      R (.ok (.ret (.ref (s.heap.push o).objs.size))) { s with heap := (s.heap.push o).push { cls := .type "enumerate", data := .fields #[.none, .bool false, .ref s.heap.objs.size, rawInt 0, .none, .none] } }) :=
  .of_wp fun prog w A R s h => by
    obtain ⟨hp, g, d, tk, os⟩ := s; obtain ⟨h1, h⟩ := h
    have hsub := sub_enumerate
    have q1 : ∀ {A' : Around} {E : Value → Shared → Prop} {Q : Value → Shared → Prop}, Q (.ref hp.objs.size) ⟨hp.push o, g, d, tk, os⟩ → wpAny (model prog w) A' (pyIter v) Q E ⟨hp, g, d, tk, os⟩ :=
      fun q => B.iter prog w _ _ ⟨hp, g, d, tk, os⟩ _ h1 q
    wp_walk using q1
    refine wpAny_stack_any fun st => wpAny_pure ?_
    split
    · rename_i c _ _ _ _ _
      cases (c == Value.type "enumerate")
      · wp_walk using q1
        exact ⟨_, rfl, h⟩
      · wp_walk using q1
        exact ⟨_, rfl, h⟩
    · wp_walk using q1
      exact ⟨_, rfl, h⟩
theorem dl_enum_begins {prog : Program} {w : World} {A : Around} {E : Value → Shared → Prop} {s : Shared} {v : Value} {o : Obj} {H : Heap → Prop} {Q : Value → Shared → Prop} (B : Begins v o H) (h1 : H s.heap)
    (h : ∀ h', IsEnum h' (s.heap.objs.size + 1) s.heap.objs.size 0 .none → h'.get? s.heap.objs.size = some o → h'.objs.size = s.heap.objs.size + 2 →
      (∀ b o, s.heap.get? b = some o → h'.get? b = some o) → Q (.ref (s.heap.objs.size + 1)) { s with heap := h' }) :
    wpAny (model prog w) A (call (.type "enumerate") [v]) Q E s := by
  refine callType_new F.called_enumerate (by decide) (F.typeCall_enumerate_1 _) (F.newCall_enumerate_1 _) (fun obj => F.args_object_init_2 obj _) F.entry_enumerate_new
    (dl_enum_newB B) ⟨h1, ?_⟩
  have hz : (s.heap.push o).objs.size = s.heap.objs.size + 1 := Heap.size_push ..
  show _ ∧ _
  rw [hz]
  have he : IsEnum ((s.heap.push o).push { cls := .type "enumerate", data := .fields #[.none, .bool false, .ref s.heap.objs.size, rawInt 0, .none, .none] }) (s.heap.objs.size + 1) s.heap.objs.size 0 .none := by
    have := Heap.get?_push_size (s.heap.push o) (o := { cls := .type "enumerate", data := .fields #[.none, .bool false, .ref s.heap.objs.size, rawInt 0, .none, .none] }) rfl
    rw [hz] at this; exact this
  refine ⟨⟨_, he, rfl⟩, h _ he (Heap.get?_push_of_some _ (Heap.get?_push_size _ B.free)) (by rw [Heap.size_push, hz]) fun b o x => Heap.get?_push_of_some _ (Heap.get?_push_of_some _ x)⟩
end PySem
namespace DL
open PySem L2
/-- the tuple at a, each item in a new pair -/
def IteT (K : Frag) (a : Addr) : It :=
  ⟨fun i H => ∃ (xs : List V) (x : V), SqT K H a xs ∧ xs[i]? = some x, fun i H v H' => ∃ T x, v = .ref T ∧ H T = none ∧ H' = upd H T (.tup [.int (i : Nat), x]) ∧ ∀ xs, SqT K H a xs → xs[i]? = some x, fun i H => ∃ xs : List V, SqT K H a xs ∧ xs.length ≤ i⟩
theorem dl_tuple_inj {X : Cx} {pins : List (Addr × Obj)} {σ : St} {H : Hp} {s : Shared} (I : L2.Inv X pins σ H s) {a : Addr} {xs ys : List V} (h1 : SqT X.K H a xs) (h2 : SqT X.K H a ys) : xs = ys := by
  exact I.tuple_inj h1 h2
theorem turn_enumT {P : Program} {w : World} {K : Frag} {elts : List Expr} {kk : Nat} {tpos : Pos} (a e it : Addr) :
    Turn P w K (.Tuple elts kk tpos) (IteT K a) [e, it] e (fun i h => (∃ old, IsEnum h e it ((i : Nat) : Int) old) ∧ h.IsTupleIter it a i ∧ e ≠ it) where
  mem := by simp
  obj := fun i h st b hb => by
    obtain ⟨⟨old, he⟩, ⟨o, ho, hc, hd⟩, _⟩ := st
    have e' : b = e ∨ b = it := by simpa using hb
    rcases e' with z | z
    · rw [z]; exact ⟨_, he, fun v q => nomatch q⟩
    · rw [z]; exact ⟨o, ho, fun v q => by rw [hd] at q; cases q⟩
  keep := fun i h h' st k => let ⟨⟨old, he⟩, hi, hne⟩ := st; ⟨⟨old, k e (by simp) _ he⟩, hi.at fun o q => k it (by simp) o q, hne⟩
  item := by
    intro X hP hw hK hc i pins s σ H E I hf st hg
    subst hP hw hK
    obtain ⟨⟨old, he⟩, hit, hne⟩ := st
    obtain ⟨xs, x, hq, hx⟩ := hg
    obtain ⟨its, rv, p, hz⟩ := I.tuple hq
    obtain ⟨u, hu, ru⟩ := rv.get hx
    have p' : s.heap.IsTuple a its.toArray := p
    have hel : e < s.heap.objs.size := Heap.lt_size he
    have hil : it < s.heap.objs.size := by obtain ⟨_, q, _⟩ := hit; exact Heap.lt_size q
    have hai : a ≠ it := fun z => by
      obtain ⟨o1, q1, c1, _⟩ := p'
      obtain ⟨o2, q2, c2, _⟩ := hit
      rw [z, q2] at q1; cases q1; rw [c2] at c1; exact absurd (Value.type.inj c1) (by decide)
    have hae : e ≠ a := fun z => by
      obtain ⟨o1, q1, c1, _⟩ := p'
      have he' : s.heap.get? e = some _ := he
      rw [← z, he'] at q1; cases q1; exact absurd (Value.type.inj c1) (by decide)
    have hisz : i < its.toArray.size := by
      have := (List.getElem?_eq_some_iff.mp hu).1
      simpa using this
    have D := Draws.tuple (prog := X.prog) (w := X.w) (A := X.A.in1) (show X.A.in1.handled = none from I.ok.hd hc) it a hai its.toArray
    refine wpAny_pyNext_enum_itemD D he ⟨hit, p'⟩ hisz hne (by simp [hne, hae]) fun x' h' tk hP ho hst' hT hsz hk => ?_
    have hxu : x' = u := by
      have h1 : its.toArray[i]? = some x' := hP
      have h2 : its.toArray[i]? = some u := by simpa using hu
      rw [h1] at h2; exact Option.some.inj h2
    subst hxu
    refine ⟨_, rfl, wpAny_letOwnedTupleGo_enum (s := { s with heap := h', toks := tk + 1 }) ho fun h'' he' sb => ?_⟩
    have hT2 : h''.get? s.heap.objs.size = some { cls := .type "tuple", data := .seq #[.int i tk, x'] } := (sb.2 _ (Nat.ne_of_gt hel)).trans hT
    have new : ObjOk X.prog X.w (upd H s.heap.objs.size (.tup [.int (i : Nat), x])) h'' s.heap.objs.size (.tup [.int (i : Nat), x]) :=
      ⟨by show 2 ≤ sizeLine; decide, [.int i tk, x'], .cons ⟨_, rfl⟩ (.cons ru .nil), ⟨_, hT2, rfl, _, rfl⟩⟩
    have I1 : L2.Inv X pins σ (upd H s.heap.objs.size (.tup [.int (i : Nat), x])) { s with heap := h'', toks := tk + 1 } :=
      I.turnedNew (ch := [e, it]) (fun b ob hb q => (sb.2 b (fun z => hb (by simp [z]))).trans (hk b ob (fun z => hb (by simp [z])) (fun z => hb (by simp [z])) q)) hf (Nat.le_refl _) new
    refine ⟨.ref s.heap.objs.size, _, I1, rfl, ⟨_, x, rfl, I.hok.fresh (Nat.le_refl _), rfl, fun ys hy => by rw [dl_tuple_inj I hy hq]; exact hx⟩, ⟨⟨x', ?_⟩, hst'.1.at fun o q => (sb.2 it (Ne.symm hne)).trans q, hne⟩, fun b hb => ?_⟩
    · have e1 : ((i + 1 : Nat) : Int) = (i : Int) + 1 := by omega
      rw [e1]; exact he'
    · have hb' : b < s.heap.objs.size := by
        have e' : b = e ∨ b = it := by simpa using hb
        rcases e' with z | z
        · rw [z]; exact hel
        · rw [z]; exact hil
      rw [upd_ne (Nat.ne_of_lt hb')]
      exact (hf b hb).1
  done := by
    intro X hP hw hK hc i pins s σ H E I hf st hg
    subst hP hw hK
    obtain ⟨⟨old, he⟩, hit, hne⟩ := st
    obtain ⟨xs, hq, hx⟩ := hg
    obtain ⟨its, rv, p, hz⟩ := I.tuple hq
    have p' : s.heap.IsTuple a its.toArray := p
    have hai : a ≠ it := fun z => by
      obtain ⟨o1, q1, c1, _⟩ := p'
      obtain ⟨o2, q2, c2, _⟩ := hit
      rw [z, q2] at q1; cases q1; rw [c2] at c1; exact absurd (Value.type.inj c1) (by decide)
    obtain ⟨f0, f1, f2, f3, f4, f5⟩ := hf it (by simp)
    have hl := rv.length
    have D : Draws X.prog X.w X.A.in1 it [it, a] i (fun _ _ => False) (fun j h => j = i ∧ h.IsTupleIter it a j ∧ h.IsTuple a its.toArray) := {
      live := fun _ _ st => let ⟨o, ho, _⟩ := st.2.1; ⟨o, ho⟩
      frame := fun _ _ _ st hk => ⟨st.1, st.2.1.at fun o e => hk it (by simp) o e, st.2.2.at fun o e => hk a (by simp) o e⟩
      item := fun j s' Q E hj st hQ => absurd st.1 (by omega)
      done := fun s' Q E st hE => wpAny_nextOf_tuple_end (show X.A.in1.handled = none from I.ok.hd hc) st.2.1 st.2.2 (by simp; omega) hE }
    exact wpAny_pyNext_enum_endD D he ⟨rfl, hit, p'⟩ fun h' eb => ⟨rfl, I.turned (t' := s.toks) (fun b o hb q => eb b o hb q) f0 f1 f3 f4 f5⟩
  self := fun A i s Q E st h => let ⟨⟨_, he⟩, _⟩ := st; wpAny_pyIter_enum he h
def iEnumS (K : Frag) (ta : TA) : TI := fun σ H R => ta σ H fun vs H1 => ∃ a, vs = [.ref a] ∧ ((∃ xs, SqL K H1 a xs) ∧ R (Ite K a) H1 ∨ (∃ xs, SqT K H1 a xs) ∧ R (IteT K a) H1)
theorem pi_enumS {X : Cx} {e : Expr} {ta : TA} {p pos tpos : Pos} {elts : List Expr} {kk : Nat} (hg : Gl X "enumerate") (hm : X.mg "enumerate" = none) (ha : PA X [e] ta) (hs : starEach [e] X.env = [(false, eval e X.env)] := by rfl) :
    PI X (.Tuple elts kk tpos) (.Call (.Name "enumerate" p) [e] [] pos) (iEnumS X.K ta) := by
  refine ⟨fun pins s σ H R I h => ?_⟩
  refine PyProof.Rows.Call_ (ld_blt I hg hm PyProof.Rows.boot_enumerate (PyProof.Rows.callWith_type1 (thn (ha.run pos pins s σ H _ I h) fun us s1 ⟨vs, H1, I1, r1, q1⟩ => ?_) hs rfl))
  obtain ⟨a, ex, q⟩ := q1
  subst ex
  cases r1 with
  | cons r rr =>
    cases rr
    cases r
    rcases q with ⟨⟨xs, hq⟩, q⟩ | ⟨⟨xs, hq⟩, q⟩
    · obtain ⟨its, rv, p', hz⟩ := I1.list hq
      refine call_enumerate_list p'.isList fun h' he hit hsz hk => wpAny_pyIter_enum he ?_
      have I2 : L2.Inv X pins σ H1 { s1 with heap := h' } := I1.kept (t' := s1.toks) hk
      refine ⟨s1.heap.objs.size + 1, [s1.heap.objs.size + 1, s1.heap.objs.size], _, _, H1, rfl, I2, turn_enum a (s1.heap.objs.size + 1) s1.heap.objs.size, ⟨⟨.none, he⟩, hit, Nat.succ_ne_self _⟩, fun b hb => ?_, q⟩
      have e' : b = s1.heap.objs.size + 1 ∨ b = s1.heap.objs.size := by simpa using hb
      have hle : s1.heap.objs.size ≤ b := by
        rcases e' with z | z
        · rw [z]; exact Nat.le_add_right _ _
        · rw [z]; exact Nat.le_refl _
      exact I1.fpOk hle (I1.hok.fresh hle)
    · obtain ⟨its, rv, p', hz⟩ := I1.tuple hq
      refine dl_enum_begins (begins_tuple a its.toArray) p' fun h' he hit hsz hk => wpAny_pyIter_enum he ?_
      have I2 : L2.Inv X pins σ H1 { s1 with heap := h' } := I1.kept (t' := s1.toks) hk
      refine ⟨s1.heap.objs.size + 1, [s1.heap.objs.size + 1, s1.heap.objs.size], _, _, H1, rfl, I2, turn_enumT a (s1.heap.objs.size + 1) s1.heap.objs.size, ⟨⟨.none, he⟩, ⟨_, hit, rfl, rfl⟩, Nat.succ_ne_self _⟩, fun b hb => ?_, q⟩
      have e' : b = s1.heap.objs.size + 1 ∨ b = s1.heap.objs.size := by simpa using hb
      have hle : s1.heap.objs.size ≤ b := by
        rcases e' with z | z
        · rw [z]; exact Nat.le_add_right _ _
        · rw [z]; exact Nat.le_refl _
      exact I1.fpOk hle (I1.hok.fresh hle)
/-- the pairs of enumerate -/
def enumF (n : Nat) : List Dat → List Vl
  | [] => []
  | d :: ds => .dat (.tup [.int (n : Int), d]) :: enumF (n + 1) ds
theorem enumF_len : ∀ (ds : List Dat) (n : Nat), (enumF n ds).length = ds.length
  | [], _ => rfl
  | _ :: ds, n => congrArg Nat.succ (enumF_len ds (n + 1))
theorem enumF_get : ∀ (ds : List Dat) (n i : Nat) (d : Dat), ds[i]? = some d → (enumF n ds)[i]? = some (.dat (.tup [.int ((n + i : Nat) : Int), d]))
  | _ :: ds, n, 0, _, h => by cases h; rfl
  | _ :: ds, n, i + 1, d, h => by
    have := enumF_get ds (n + 1) i d h
    rw [show n + 1 + i = n + (i + 1) by omega] at this
    exact this
theorem enumF_at {ds : List Dat} {i : Nat} {x : Vl} (h : (enumF 0 ds)[i]? = some x) : ∃ d, ds[i]? = some d ∧ x = .dat (.tup [.int (i : Int), d]) := by
  have hl := (List.getElem?_eq_some_iff.mp h).1
  rw [enumF_len] at hl
  have hd : ds[i]? = some ds[i] := List.getElem?_eq_getElem hl
  refine ⟨_, hd, ?_⟩
  rw [enumF_get ds 0 i _ hd] at h
  cases h
  simp
def wiEnum (wa : WA) : WI := fun ρ cs P => wa ρ cs fun xs cs1 => ∃ x b ys ds, xs = [x] ∧ seqD cs1 x = some (b, ys) ∧ allDat ys = some ds ∧ P (enumF 0 ds) (fun cs' => seqD cs' x = some (b, ys)) cs1
section
variable {K : Frag} {M0 : Hp} {x : Vl} {a : Addr} {ds : List Dat}
theorem enum_yield {M H : Hp} {cs : Cells} {v : V} {d : Dat} {T : Addr} {i : Nat} (o : Ok K M H cs) (hT : H T = none) (r : Dr K M v d) :
    ∃ M', Same M M' ∧ Ok K M' (upd H T (.tup [.int (i : Nat), v])) cs ∧ RV K M' (.ref T) (.dat (.tup [.int (i : Int), d])) := by
  obtain ⟨s, o'⟩ := o.newM hT (.tup [.int (i : Nat), v])
  exact ⟨_, s, o', rv_dat (.tup (.inl (.inl upd_same)) (.cons (.int _) (.cons (r.mono s) .nil)))⟩
theorem it_enumL (r : RV K M0 (.ref a) x) : ItOk K M0 (Ite K a) (enumF 0 ds) (fun cs' => seqD cs' x = some (true, ds.map .dat)) := by
  refine ⟨fun i M2 H2 cs2 s2 o2 g2 hi => ?_, fun M2 H2 cs2 s2 o2 g2 => ?_, fun i M2 H2 cs2 v2 H3 s2 o2 g2 y hi => ?_⟩
  all_goals
    obtain ⟨a2, vs2, ea2, q2, pr2⟩ := seqD_list o2 (r.mono s2) g2
    cases ea2
    have hl := Paired.len pr2
    rw [List.length_map] at hl
    have da := DrAll.of_paired pr2
  · rw [enumF_len] at hi
    exact ⟨vs2, vs2[i]'(by omega), q2, by simp [show i < vs2.length by omega]⟩
  · exact ⟨vs2, q2, by rw [enumF_len, hl]; exact Nat.le_refl _⟩
  · obtain ⟨T, x1, e1, hT, e2, hx⟩ := y
    subst e1 e2
    obtain ⟨d, hd, rd⟩ := da.getV (hx vs2 q2)
    obtain ⟨M', s', o', r'⟩ := enum_yield (i := i) o2 hT rd
    exact ⟨M', _, by have := enumF_get ds 0 i d hd; rw [Nat.zero_add] at this; exact this, s', o', r'⟩
theorem it_enumT (r : RV K M0 (.ref a) x) : ItOk K M0 (IteT K a) (enumF 0 ds) (fun cs' => seqD cs' x = some (false, ds.map .dat)) := by
  refine ⟨fun i M2 H2 cs2 s2 o2 g2 hi => ?_, fun M2 H2 cs2 s2 o2 g2 => ?_, fun i M2 H2 cs2 v2 H3 s2 o2 g2 y hi => ?_⟩
  all_goals
    obtain ⟨a2, vs2, ea2, q2, pr2⟩ := seqD_tup o2 (r.mono s2) g2
    cases ea2
    have hl := Paired.len pr2
    rw [List.length_map] at hl
    have da := DrAll.of_paired pr2
  · rw [enumF_len] at hi
    exact ⟨vs2, vs2[i]'(by omega), q2, by simp [show i < vs2.length by omega]⟩
  · exact ⟨vs2, q2, by rw [enumF_len, hl]; exact Nat.le_refl _⟩
  · obtain ⟨T, x1, e1, hT, e2, hx⟩ := y
    subst e1 e2
    obtain ⟨d, hd, rd⟩ := da.getV (hx vs2 q2)
    obtain ⟨M', s', o', r'⟩ := enum_yield (i := i) o2 hT rd
    exact ⟨M', _, by have := enumF_get ds 0 i d hd; rw [Nat.zero_add] at this; exact this, s', o', r'⟩
end
theorem di_enum {X : Cx} {e : Expr} {wa : WA} {p pos tpos : Pos} {elts : List Expr} {kk : Nat} (hm : X.mg "enumerate" = none) (ha : DA X [e] wa) (hg : Gl X "enumerate" := by rfl) (hs : starEach [e] X.env = [(false, eval e X.env)] := by rfl) :
    DI X (.Tuple elts kk tpos) (.Call (.Name "enumerate" p) [e] [] pos) (wiEnum wa) :=
  pi_imp (pi_enumS hg hm ha hs) fun σ H R ⟨M, ρ, cs, P, o, r, p, k⟩ => by
    refine ⟨M, ρ, cs, _, o, r, p, fun vs xs M1 H1 cs1 s1 o1 r1 ⟨x, b, ys, ds, ex, hx, hd, p1⟩ => ?_⟩
    subst ex
    cases r1 with
    | cons r1 rr =>
      cases rr
      have hy := allDat_eq hd
      subst hy
      cases b with
      | true =>
        obtain ⟨a, vs, ea, q, pr⟩ := seqD_list o1 r1 hx
        subst ea
        exact ⟨a, rfl, .inl ⟨⟨vs, q⟩, k _ _ _ M1 H1 cs1 s1 o1 (it_enumL r1) p1⟩⟩
      | false =>
        obtain ⟨a, vs, ea, q, pr⟩ := seqD_tup o1 r1 hx
        subst ea
        exact ⟨a, rfl, .inr ⟨⟨vs, q⟩, k _ _ _ M1 H1 cs1 s1 o1 (it_enumT r1) p1⟩⟩
end DL
set_option maxRecDepth 100000
set_option maxHeartbeats 4000000
namespace DL
open PySem L2
def wAugIx (wo wi we : WE) (f : Int → Int → Int) : WS := fun D ρ cs => wo ρ cs fun o cs1 => wi ρ cs1 fun i cs2 => ∃ a xs k j n, o = .cell a ∧ i = .dat (.int k) ∧ cs2 a = some (.lst xs) ∧ ixN xs.length k = some j ∧ xs[j]? = some (.dat (.int n)) ∧
  we ρ cs2 fun y cs3 => ∃ m, y = .dat (.int m) ∧ cs3 a = some (.lst xs) ∧ D.nx ρ (cs3.put a (.lst (xs.set j (.dat (.int (f n m))))))
section
variable {X : Cx} {a b c e o : Expr} {es : List Expr} {wa wb wc we wo : WE} {w u : WT} {wr : WA} {pos : Pos}
def wApp (wo we : WE) : WE := fun ρ cs P => wo ρ cs fun o cs1 => ∃ a xs0, o = .cell a ∧ cs1 a = some (.lst xs0) ∧ we ρ cs1 fun y cs2 => ∃ xs, cs2 a = some (.lst xs) ∧ xs.length < 16777216 ∧ P (.dat .non) (cs2.put a (.lst (xs ++ [y])))
theorem size_lt {n : Nat} (h : n < 16777216) : n < sizeLine := by rw [sizeLine_eq]; exact h
theorem cell_lst {K : Frag} {M H : Hp} {cs : Cells} {a : Addr} {xs : List Vl} (o : Ok K M H cs) (h : cs a = some (.lst xs)) : ∃ ys, H a = some (.lst ys) ∧ Paired (RV K M) ys xs := by
  obtain ⟨m3, ob3, hob3, cr3⟩ := o.cell a _ h
  cases ob3 <;> try exact (show False from cr3).elim
  exact ⟨_, hob3, cr3⟩
theorem de_append {apos cpos : Pos} (ho : DE X o wo) (he : DE X e we) (hbase : attributeBase o "append" X.env (eval o X.env) = eval o X.env := by rfl)
    (hfew : ((backTo cpos (starEach [e] X.env)).all (fun x => !x.1) && (backToKw cpos (keywordEach [] X.env)).all (fun x => x.1.isSome)
      && decide ([e].length + ([] : List Keyword).length + (if ([] : List Keyword).isEmpty then 0 else 1) < 30)) = true := by rfl)
    (hline : (apos.endLine == cpos.line) = true := by rfl) (hs : starEach [e] X.env = (false, eval e X.env) :: starEach [] X.env := by rfl) (hplain : (backTo cpos (starEach [] X.env)).any (·.1) = false := by rfl) :
    DE X (.Call (.Attribute o "append" apos) [e] [] cpos) (wApp wo we) :=
  pe_imp (pe_bm PySem.F.plainAttrs_list PySem.F.slot_list_append PySem.F.type_list_append mt_append ho (pa_cons he pa_nil hs) hbase hfew hline hs hplain) fun σ H Q ⟨M, ρ, cs, P, o, r0, p, k⟩ => by
    refine ⟨M, ρ, cs, _, o, r0, p, fun v x M1 H1 cs1 s1 o1 r1 ⟨a, xs0, ea, hc, p1⟩ => ?_⟩
    subst ea
    have e1 : v = .ref a := r1
    subst e1
    obtain ⟨ys, hy, py⟩ := cell_lst o1 hc
    refine ⟨.inl ⟨rfl, _, .inl (.inl hy)⟩, M1, ρ, cs1, _, o1, r0.mono s1, p1, fun v2 x2 M2 H2 cs2 s2 o2 r2 ⟨xs, hc2, hz, p2⟩ => ?_⟩
    obtain ⟨ys2, hy2, py2⟩ := cell_lst o2 hc2
    refine ⟨a, ys2, v2, rfl, rfl, hy2, by rw [Paired.len py2]; exact size_lt hz, ?_⟩
    exact k _ _ M2 _ _ (s1.trans s2) (o2.setC hc2 (c := .lst (xs ++ [x2])) (Paired.app py2 (.cons r2 .nil))) (rv_dat .non) p2
def wExt (wo we : WE) : WE := fun ρ cs P => wo ρ cs fun o cs1 => ∃ a xs0, o = .cell a ∧ cs1 a = some (.lst xs0) ∧ we ρ cs1 fun y cs2 => ∃ b xs zs, y = .cell b ∧ cs2 a = some (.lst xs) ∧ cs2 b = some (.lst zs) ∧ xs.length + zs.length ≤ 16777216 ∧ P (.dat .non) (cs2.put a (.lst (xs ++ zs)))
def SubC (cs' cs : Cells) : Prop := ∀ a c, cs' a = some c → cs a = some c
theorem SubC.refl (cs : Cells) : SubC cs cs := fun _ _ h => h
theorem SubC.put {cs : Cells} {p : Addr} {c : CO} (h : cs p = none) : SubC cs (cs.put p c) := fun a d e => by
  rw [Cells.put_ne (by intro z; rw [z, h] at e; cases e)]; exact e
theorem SubC.trans {a b c : Cells} (h : SubC a b) (h' : SubC b c) : SubC a c := fun x d e => h' x d (h x d e)
end
inductive Ty where
  | non | bool | int | str | list | tuple | dict
  deriving DecidableEq
def Ty.nm : Ty → String
  | .non => "NoneType"
  | .bool => "bool"
  | .int => "int"
  | .str => "str"
  | .list => "list"
  | .tuple => "tuple"
  | .dict => "dict"
def isiT : Ty → Ty → Bool
  | .bool, .int => true
  | a, b => decide (a = b)
theorem kit_isi (a b : Ty) : kitB a.nm b.nm = some (isiT a b) := by cases a <;> cases b <;> decide +kernel
def coTy : Option CO → Option Ty
  | some (.lst _) => some .list
  | some (.dk _) => some .dict
  | some (.dt _) => some .dict
  | _ => none
def tyD (cs : Cells) : Vl → Option Ty
  | .dat .non => some .non
  | .dat (.bl _) => some .bool
  | .dat (.int _) => some .int
  | .dat (.str _) => some .str
  | .dat (.lst _) => some .list
  | .dat (.tup _) => some .tuple
  | .dat (.obj _ _) => none
  | .dat (.dct _) => some .dict
  | .dat (.ho _ _) => none
  | .raw (.ref a) => coTy (cs a)
  | .raw _ => none
theorem tyX_list {K : Frag} {H : Hp} {a : Addr} {xs : List V} (h : SqL K H a xs) : TyX K H (.ref a) (.type "list") := by
  rcases h with (h | ⟨o, h⟩) | ⟨o, its, n, hk, hc, _⟩
  · exact .base (.lst h)
  · exact .base (.frz h)
  · exact .kList hk hc
theorem tyX_tup {K : Frag} {H : Hp} {a : Addr} {xs : List V} (h : SqT K H a xs) : TyX K H (.ref a) (.type "tuple") := by
  rcases h with (h | ⟨o, h⟩) | ⟨o, its, n, hk, hc, _⟩
  · exact .base (.tup h)
  · exact .fTuple h
  · exact .kTuple hk hc
theorem tyD_ok {K : Frag} {M H : Hp} {cs : Cells} {v : V} {x : Vl} {t : Ty} (o : Ok K M H cs) (r : RV K M v x) (h : tyD cs x = some t) : TyX K H v (.type t.nm) := by
  match x, r, h with
  | .dat .non, r, h => cases h; rw [inv_non r]; exact .base .non
  | .dat (.bl b), r, h => cases h; rw [inv_bl r]; exact .base (.bl b)
  | .dat (.int b), r, h => cases h; rw [inv_int r]; exact .base (.int b)
  | .dat (.str b), r, h => cases h; rw [inv_str r]; exact .base (.str b)
  | .dat (.lst ds), r, h =>
    cases h
    cases (show Dr K M v (.lst ds) from r) with
    | lst q k => exact tyX_list (o.seqL q)
  | .dat (.tup ds), r, h =>
    cases h
    cases (show Dr K M v (.tup ds) from r) with
    | tup q k => exact tyX_tup (o.seqT q)
  | .dat (.dct ds), r, h =>
    cases h
    cases (show Dr K M v (.dct ds) from r) with
    | dct q k => exact .base (.dK (o.ex _ _ q))
  | .raw (.ref a), r, h =>
    cases (show v = .ref a from r)
    have h : coTy (cs a) = some t := h
    cases q : cs a with
    | none => rw [q] at h; cases h
    | some c =>
      rw [q] at h
      obtain ⟨_, u, hu, z⟩ := o.cell a _ q
      cases c with
      | lst ys =>
        cases h
        cases u <;> try exact (show False from z).elim
        exact .base (.lst hu)
      | dk ys =>
        cases h
        cases u <;> try exact (show False from z).elim
        exact .base (.dK hu)
      | dt ys =>
        cases h
        cases u <;> try exact (show False from z).elim
        exact .base (.dT hu)
      | ins C fs => cases h
      | lk o' u' ys => cases h
      | tg => cases h
      | tl q => cases h
def wIsi (T : Ty) (we : WE) : WE := fun ρ cs P => we ρ cs fun x cs1 => ∃ t, tyD cs1 x = some t ∧ P (.dat (.bl (isiT t T))) cs1
def wIsi2 (T U : Ty) (we : WE) : WE := fun ρ cs P => we ρ cs fun x cs1 => ∃ t, tyD cs1 x = some t ∧ P (.dat (.bl (isiT t T || isiT t U))) cs1
section
variable {X : Cx} {a b c e o : Expr} {es : List Expr} {wa wb wc we wo : WE} {w u : WT} {wr : WA} {pos : Pos}
theorem de_isi (T : Ty) {tn : Str} {p pt : Pos} (hm : X.mg "isinstance" = none) (ht : X.mg tn = none) (hv : bootBuiltins tn = some (.type T.nm)) (h : DE X e we) (hg : Gl X "isinstance" := by rfl) (hgt : Gl X tn := by rfl) (hn : tn ≠ "__name__" := by decide) (hd : (tn == ("__debug__" : Str)) = false := by decide)
    (h1 : starEach [e, .Name tn pt] X.env = (false, eval e X.env) :: starEach [.Name tn pt] X.env := by rfl) (h2 : starEach [.Name tn pt] X.env = (false, eval (.Name tn pt) X.env) :: starEach [] X.env := by rfl)
    (hpl : (backTo pos (starEach [.Name tn pt] X.env)).any (·.1) = false := by rfl) :
    DE X (.Call (.Name "isinstance" p) [e, .Name tn pt] [] pos) (wIsi T we) :=
  pe_imp (pe_callB call_isi hg hm (by decide +kernel) (pa_cons h (pa_cons (pe_bltn (v := .ty T.nm) hgt ht hv rfl hn hd) pa_nil h2) h1) (by decide) (by decide) h1 hpl) fun σ H Q ⟨M, ρ, cs, P, o, r0, p, k⟩ => by
    refine ⟨M, ρ, cs, _, o, r0, p, fun v x M1 H1 cs1 s1 o1 r1 ⟨t, htt, p1⟩ => ?_⟩
    exact ⟨v, .ty T.nm, .type t.nm, .type T.nm, _, rfl, .ty _, tyD_ok o1 r1 htt, kit_ty (kit_isi t T), k _ _ M1 H1 cs1 s1 o1 (rv_dat (.bl _)) p1⟩
theorem de_isi2 (T U : Ty) {tn un : Str} {p pt pu ptt : Pos} {kk : Nat} (hm : X.mg "isinstance" = none) (ht : X.mg tn = none) (hu : X.mg un = none) (hv : bootBuiltins tn = some (.type T.nm)) (hvu : bootBuiltins un = some (.type U.nm)) (h : DE X e we)
    (hg : Gl X "isinstance" := by rfl) (hgt : Gl X tn := by rfl) (hgu : Gl X un := by rfl) (hn : tn ≠ "__name__" := by decide) (hd : (tn == ("__debug__" : Str)) = false := by decide) (hnu : un ≠ "__name__" := by decide) (hdu : (un == ("__debug__" : Str)) = false := by decide)
    (h1 : starEach [e, .Tuple [.Name tn pt, .Name un pu] kk ptt] X.env = (false, eval e X.env) :: starEach [.Tuple [.Name tn pt, .Name un pu] kk ptt] X.env := by rfl)
    (h2 : starEach [.Tuple [.Name tn pt, .Name un pu] kk ptt] X.env = (false, eval (.Tuple [.Name tn pt, .Name un pu] kk ptt) X.env) :: starEach [] X.env := by rfl)
    (h3 : starEach [.Name tn pt, .Name un pu] X.env = (false, eval (.Name tn pt) X.env) :: starEach [.Name un pu] X.env := by rfl) (h4 : starEach [.Name un pu] X.env = (false, eval (.Name un pu) X.env) :: starEach [] X.env := by rfl)
    (hpl : (backTo pos (starEach [.Tuple [.Name tn pt, .Name un pu] kk ptt] X.env)).any (·.1) = false := by rfl) :
    DE X (.Call (.Name "isinstance" p) [e, .Tuple [.Name tn pt, .Name un pu] kk ptt] [] pos) (wIsi2 T U we) :=
  pe_imp (pe_callB call_isiT hg hm (by decide +kernel) (pa_cons h (pa_cons (pe_tup (pa_cons (pe_bltn (v := .ty T.nm) hgt ht hv rfl hn hd) (pa_cons (pe_bltn (v := .ty U.nm) hgu hu hvu rfl hnu hdu) pa_nil h4) h3)) pa_nil h2) h1) (by decide) (by decide) h1 hpl) fun σ H Q ⟨M, ρ, cs, P, o, r0, p, k⟩ => by
    refine ⟨M, ρ, cs, _, o, r0, p, fun v x M1 H1 cs1 s1 o1 r1 ⟨t, htt, p1⟩ => ?_⟩
    refine ⟨by show 2 ≤ sizeLine; decide, fun q hq => ?_⟩
    obtain ⟨s2, o2⟩ := o1.newM hq (.tup [.ty T.nm, .ty U.nm])
    refine ⟨v, q, [.ty T.nm, .ty U.nm], .type t.nm, [.type T.nm, .type U.nm], _, rfl, upd_same, .cons (.ty _) (.cons (.ty _) .nil), tyD_ok o2 (r1.mono s2) htt, ?_, k _ _ _ _ cs1 (s1.trans s2) o2 (rv_dat (.bl (isiT t T || isiT t U))) p1⟩
    refine kitAny_cons (kit_ty (kit_isi t T)) (fun hf => ?_) (fun hf => by rw [hf]; rfl)
    refine kitAny_cons (kit_ty (kit_isi t U)) (fun hg => ?_) (fun hg => by rw [hg, Bool.or_true])
    rw [hf, hg]; rfl
end
end DL
set_option maxRecDepth 100000
set_option maxHeartbeats 4000000
namespace DL
open PySem L2
def wYes : WT := fun _ cs P => P true cs
def DTs (X : Cx) (ifs : List Expr) (w : WT) : Prop := PTs X ifs (liftT X.K w)
theorem pts_imp {X : Cx} {ifs : List Expr} {t t' : TT} (h : PTs X ifs t) (m : ∀ σ H Q, t' σ H Q → t σ H Q) : PTs X ifs t' := ⟨fun pins s σ H Q I q => h.run pins s σ H Q I (m σ H Q q)⟩
theorem dts_nil {X : Cx} : DTs X [] wYes := pts_imp pts_nil fun σ H Q ⟨M, ρ, cs, P, o, r, p, k⟩ => k true M H cs (Same.refl _) o p
theorem dts_one {X : Cx} {c : Expr} {w : WT} (h : DT X c w) : DTs X [c] w := pts_one h
def wipeD (ρ : DEnv) : List Nat → DEnv
  | [] => ρ
  | v :: vs => (wipeD ρ vs).set v none
theorem Rho.wipe {K : Frag} {M : Hp} {σ : St} {ρ : DEnv} (r : Rho K M σ ρ) : ∀ vs, Rho K M (L2.wipe σ vs) (wipeD ρ vs)
  | [] => r
  | v :: vs => by
    have ih := Rho.wipe r vs
    unfold L2.wipe wipeD
    refine ⟨by rw [List.length_set, List.length_set]; exact ih.len, fun i x e => ?_⟩
    by_cases h : v = i
    · subst h
      by_cases hl : v < (wipeD ρ vs).length
      · rw [List.getElem?_set_self hl] at e; cases e
      · rw [List.getElem?_eq_none (by rw [List.length_set]; omega)] at e; cases e
    · rw [List.getElem?_set_ne h] at e
      obtain ⟨u, hu, ru⟩ := ih.at_ i x e
      exact ⟨u, by rw [List.getElem?_set_ne h]; exact hu, ru⟩
theorem wipe_get {σ : St} {i : Nat} : ∀ vs : List Nat, i ∉ vs → (L2.wipe σ vs)[i]? = σ[i]?
  | [], _ => rfl
  | v :: vs, h => by
    unfold L2.wipe
    rw [List.getElem?_set_ne (by intro z; exact h (by simp [z])), wipe_get vs (fun z => h (by simp [z]))]
theorem wipe_in {σ : St} {i : Nat} (hi : i < σ.length) : ∀ vs : List Nat, i ∈ vs → (L2.wipe σ vs)[i]? = some none
  | v :: vs, h => by
    unfold L2.wipe
    by_cases hv : v = i
    · subst hv
      rw [List.getElem?_set_self (by rw [wipe_length]; exact hi)]
    · rw [List.getElem?_set_ne hv]
      exact wipe_in hi vs (by
        rcases List.mem_cons.mp h with z | z
        · exact absurd z.symm hv
        · exact z)
theorem wipe_eq {σ σ2 : St} {vs js : List Nat} (hl : σ2.length = (L2.wipe σ vs).length) (hj : ∀ i, i ∉ js → σ2[i]? = (L2.wipe σ vs)[i]?) (hs : ∀ i ∈ js, i ∈ vs) : L2.wipe σ2 vs = L2.wipe σ vs := by
  rw [wipe_length] at hl
  refine List.ext_getElem? fun i => ?_
  by_cases hi : i < σ.length
  · by_cases hv : i ∈ vs
    · rw [wipe_in (by omega) vs hv, wipe_in hi vs hv]
    · rw [wipe_get vs hv, hj i (fun z => hv (hs i z))]
  · rw [List.getElem?_eq_none (by rw [wipe_length]; omega), List.getElem?_eq_none (by rw [wipe_length]; omega)]
/-- the new list: a cell, or data for ever -/
def doneL (D : Addr) (acc : List Vl) (cs : Cells) (P : Vl → Cells → Prop) : Prop := P (.cell D) cs ∨ ∃ ds, allDat acc = some ds ∧ P (.dat (.lst ds)) (cs.del D)
theorem Ok.frz {K : Frag} {M H : Hp} {cs : Cells} {a : Addr} {ds : List Dat} (o : Ok K M H cs) (h : cs a = some (.lst (ds.map .dat))) : ∃ M', Same M M' ∧ Ok K M' H (cs.del a) ∧ Dr K M' (.ref a) (.lst ds) := by
  obtain ⟨ys, hy, py⟩ := cell_lst o h
  obtain ⟨m0, _⟩ := o.cell a _ h
  have s : Same M (upd M a (.lst ys)) := same_upd m0
  refine ⟨_, s, ⟨fun b ob e => ?_, fun b c e => ?_⟩, .lst (.inl (.inl upd_same)) ((DrAll.of_paired py).mono s)⟩
  · by_cases hb : b = a
    · rw [hb] at e ⊢; rw [upd_same] at e; cases e; exact hy
    · rw [upd_ne hb] at e; exact o.ex b ob e
  · have hb : b ≠ a := by intro z; simp [Cells.del, z] at e
    have e' : cs b = some c := by simpa [Cells.del, hb] using e
    obtain ⟨m, ob, q, r⟩ := o.cell b c e'
    exact ⟨by rw [upd_ne hb]; exact m, ob, q, r.mono s⟩
def wLc (wi : WI) (g : WG) (wt : WT) (we : WE) (vs : List Nat) : WE := fun ρ cs P => wi ρ cs fun items G cs1 => ∀ D, cs1 D = none → ∃ Inv : Nat → Cells → Prop, Inv 0 (cs1.put D (.lst [])) ∧ (∀ i cs', i ≤ items.length → Inv i cs' → G cs') ∧
  (∀ i x cs', items[i]? = some x → Inv i cs' → g x (wipeD ρ vs) cs' fun ρ2 cs2 => wt ρ2 cs2 fun b cs3 => if b = true then we ρ2 cs3 fun y cs4 => ∃ acc, cs4 D = some (.lst acc) ∧ acc.length < 16777216 ∧ Inv (i + 1) (cs4.put D (.lst (acc ++ [y]))) else Inv (i + 1) cs3) ∧
  ∀ cs', Inv items.length cs' → ∃ acc, cs' D = some (.lst acc) ∧ doneL D acc cs' P
theorem liftLc {K : Frag} {wi : WI} {g : WG} {wt : WT} {we : WE} {vs js : List Nat} (hs : ∀ i ∈ js, i ∈ vs) {σ : St} {H : Hp} {Q : VK} (h : lift K (wLc wi g wt we vs) σ H Q) : tLc (liftI K wi) (liftG K js g) (liftT K wt) (lift K we) vs σ H Q := by
  obtain ⟨M, ρ, cs, P, o, r, p, k⟩ := h
  refine ⟨M, ρ, cs, _, o, r, p, fun J items G M1 H1 cs1 s1 o1 it p1 => ?_⟩
  intro D hD
  obtain ⟨Iv, i0, iG, turn, fin⟩ := p1 D (o1.freeC hD)
  refine ⟨fun i m H' => m = items.length - i ∧ i ≤ items.length ∧ ∃ M' cs', Same M1 M' ∧ Ok K M' H' cs' ∧ Iv i cs', ⟨items.length, by simp, Nat.zero_le _, M1, _, Same.refl _, o1.newC hD (u := .lst []) (c := .lst []) .nil, i0⟩, ?_⟩
  rintro i m H' ⟨rfl, hi, M', cs', s', o', inv⟩
  have g' := iG i cs' hi inv
  by_cases hlt : i < items.length
  · refine .inr ⟨it.go i M' H' cs' s' o' g' hlt, fun H2 => ∃ M2 cs2, Same M1 M2 ∧ Ok K M2 H2 cs2 ∧ Iv (i + 1) cs2, fun H2 q => ⟨_, by omega, rfl, hlt, q⟩, fun v H2 y => ?_⟩
    obtain ⟨M2, x, ex, s2, o2, rv⟩ := it.yld i M' H' cs' v H2 s' o' g' y hlt
    refine ⟨M2, wipeD ρ vs, cs', x, _, o2, ((r.mono (s1.trans (s'.trans s2))).wipe vs), rv, turn i x cs' ex inv, fun σ3 ρ3 M3 H3 cs3 s3 o3 r3 hl3 hj3 p3 => ?_⟩
    refine ⟨wipe_eq hl3 hj3 hs, M3, ρ3, cs3, _, o3, r3, p3, fun b M4 H4 cs4 s4 o4 p4 => ?_⟩
    cases b with
    | true =>
      refine iteT ?_
      refine ⟨M4, ρ3, cs4, _, o4, r3.mono s4, (show we ρ3 cs4 fun y cs4 => ∃ acc, cs4 D = some (.lst acc) ∧ acc.length < 16777216 ∧ Iv (i + 1) (cs4.put D (.lst (acc ++ [y]))) by simpa using p4), fun v5 y5 M5 H5 cs5 s5 o5 r5 ⟨acc, hacc, hz, p5⟩ => ?_⟩
      obtain ⟨ys, hy, py⟩ := cell_lst o5 hacc
      exact ⟨ys, hy, by rw [Paired.len py]; exact size_lt hz, M5, _, s'.trans (s2.trans (s3.trans (s4.trans s5))), o5.setC hacc (c := .lst (acc ++ [y5])) (Paired.app py (.cons r5 .nil)), p5⟩
    | false =>
      refine iteF ?_
      exact ⟨M4, cs4, s'.trans (s2.trans (s3.trans s4)), o4, by simpa using p4⟩
  · have ei : i = items.length := by omega
    subst ei
    refine .inl ⟨it.stop M' H' cs' s' o' g', ?_⟩
    obtain ⟨acc, hacc, q⟩ := fin cs' inv
    rcases q with q | ⟨ds, hd, q⟩
    · exact k _ _ M' H' cs' (s1.trans s') o' rv_raw q
    · rw [allDat_eq hd] at hacc
      obtain ⟨M2, s2, o2, rd⟩ := o'.frz hacc
      exact k _ _ M2 H' _ (s1.trans (s'.trans s2)) o2 (rv_dat rd) q
section
variable {X : Cx} {elt tg iter : Expr} {ifs : List Expr} {scope : Scope} {own : List (Str × Nat)} {pos : Pos} {wi : WI} {g : WG} {wt : WT} {we : WE} {js : List Nat}
theorem de_lc (hN : X.N.Nodup) (hi : DI X tg iter wi) (ok : BlkOk X.N X.env.scope scope own)
    (hg : ∀ (s : Shared) (H : Hp) (C : Addr) (cl : List (Str × Addr)) (fp : List Addr), DG (X.blk s H scope (compEnvC scope cl C X.env) fp) js tg g) (ht : ∀ (s : Shared) (H : Hp) (C : Addr) (cl : List (Str × Addr)) (fp : List Addr), DTs (X.blk s H scope (compEnvC scope cl C X.env) fp) ifs wt)
    (he : ∀ (s : Shared) (H : Hp) (C : Addr) (cl : List (Str × Addr)) (fp : List Addr), DE (X.blk s H scope (compEnvC scope cl C X.env) fp) elt we) (hj : ∀ i ∈ js, i ∈ own.map (·.2)) (hc : X.calm = true := by rfl) (hs : ∀ x, foldedSetIterable iter X.env x = pure x := by intro _; rfl) :
    DE X (.ListComp elt [⟨tg, iter, ifs, 0⟩] scope pos) (wLc wi g wt we (own.map (·.2))) := pe_imp (pe_lc (wi := liftI X.K wi) (g := liftG X.K js g) (tt := liftT X.K wt) (te := lift X.K we) hc hN hi ok hg ht he hs) fun _ _ _ h => liftLc hj h
theorem ds_setLc {i : Nat} {y : Str} {py spos : Pos} (hN : X.N.Nodup) (hi : DI X tg iter wi) (ok : BlkOk X.N X.env.scope scope own)
    (hg : ∀ (s : Shared) (H : Hp) (C : Addr) (cl : List (Str × Addr)) (fp : List Addr), DG (X.blk s H scope (compEnvC scope cl C X.env) fp) js tg g) (ht : ∀ (s : Shared) (H : Hp) (C : Addr) (cl : List (Str × Addr)) (fp : List Addr), DTs (X.blk s H scope (compEnvC scope cl C X.env) fp) ifs wt)
    (he : ∀ (s : Shared) (H : Hp) (C : Addr) (cl : List (Str × Addr)) (fp : List Addr), DE (X.blk s H scope (compEnvC scope cl C X.env) fp) elt we) (hj : ∀ i ∈ js, i ∈ own.map (·.2))
    (hsw : swapsWith (.ListComp elt [⟨tg, iter, ifs, 0⟩] scope pos) (some (.Name y py)) spos.line X.env = pure true) (hy : X.N[i]? = some y := by rfl) (hyl : X.env.scope.names.lookup y = some .local := by rfl) (hc : X.calm = true := by rfl) (hs : ∀ x, foldedSetIterable iter X.env x = pure x := by intro _; rfl) :
    DS X (.Assign [.Name y py] (.ListComp elt [⟨tg, iter, ifs, 0⟩] scope pos) spos) (wAsg (wLc wi g wt we (own.map (·.2))) (gN i)) :=
  ps_imp (ps_setLc (wi := liftI X.K wi) (g := liftG X.K js g) (tt := liftT X.K wt) (te := lift X.K we) hc hN hy hyl hsw hi ok hg ht he hs) fun E σ H ⟨M, ρ, cs, D, o, r, h, e⟩ => liftLc hj ⟨M, ρ, cs, _, o, r, h, fun v x M' H' cs' s o' rv p => e.nx _ _ M' H' cs' s o' ((r.mono s).set rv) p⟩
end
abbrev DXP := Value → List (Str × Vl) → Cells → Prop
abbrev DSp := List Vl → Cells → (Vl → Cells → Prop) → DXP → Prop
def XRep (K : Frag) (M : Hp) : Option Addr → List (Str × Vl) → Prop
  | none, fs => fs = []
  | some d, fs => ∃ gs, M d = some (.xd gs) ∧ Paired (fun (p : Str × V) (q : Str × Vl) => p.1 = q.1 ∧ RV K M p.2 q.2) gs fs
def KontX (K : Frag) (M : Hp) (XP : DXP) (E : XK) : Prop := ∀ cls od fs M' H' cs', Same M M' → Ok K M' H' cs' → XRep K M' od fs → XP cls fs cs' → E cls od H'
theorem KontX.mono {K : Frag} {M M' : Hp} {P : DXP} {E : XK} (s : Same M M') (k : KontX K M P E) : KontX K M' P E := fun v x fs M2 H2 cs2 s2 o r p => k v x fs M2 H2 cs2 (s.trans s2) o r p
abbrev X0 : DXP := fun _ _ _ => False
def liftSp (K : Frag) (dsp : DSp) : Sp := fun vs H Q E => ∃ M xs cs P XP, Ok K M H cs ∧ Paired (RV K M) vs xs ∧ dsp xs cs P XP ∧ Kont K M P Q ∧ KontX K M XP E
/-- what stands may be seen otherwise: cells dropped, a list of data frozen -/
def Gh (K : Frag) (v : Vl) (cs : Cells) (v' : Vl) (cs' : Cells) : Prop := ∀ M H x, Ok K M H cs → RV K M x v → ∃ M', Same M M' ∧ Ok K M' H cs' ∧ RV K M' x v'
theorem Gh.refl (K : Frag) (v : Vl) (cs : Cells) : Gh K v cs v cs := fun M _ _ o r => ⟨M, Same.refl _, o, r⟩
theorem Gh.sub {K : Frag} {v : Vl} {cs cs' : Cells} (h : SubC cs' cs) : Gh K v cs v cs' := fun M _ _ o r => ⟨M, Same.refl _, o.sub h, r⟩
theorem Gh.frz {K : Frag} {a : Addr} {cs : Cells} {ds : List Dat} (h : cs a = some (.lst (ds.map .dat))) : Gh K (.cell a) cs (.dat (.lst ds)) (cs.del a) := fun M H x o r => by
  obtain ⟨M', s, o', rd⟩ := o.frz h
  have e : x = .ref a := r
  rw [e]
  exact ⟨M', s, o', rv_dat rd⟩
theorem Gh.trans {K : Frag} {v v' v'' : Vl} {cs cs' cs'' : Cells} (h : Gh K v cs v' cs') (h' : Gh K v' cs' v'' cs'') : Gh K v cs v'' cs'' := fun M H x o r => by
  obtain ⟨M', s, o', r'⟩ := h M H x o r
  obtain ⟨M2, s2, o2, r2⟩ := h' M' H x o' r'
  exact ⟨M2, s.trans s2, o2, r2⟩
def GhK (K : Frag) (P : Vl → Cells → Prop) : Vl → Cells → Prop := fun v cs => ∃ v' cs', Gh K v cs v' cs' ∧ P v' cs'
theorem GhK.now {K : Frag} {P : Vl → Cells → Prop} {v : Vl} {cs : Cells} (h : P v cs) : GhK K P v cs := ⟨v, cs, .refl K v cs, h⟩
theorem GhK.drop {K : Frag} {P : Vl → Cells → Prop} {v : Vl} {cs cs' : Cells} (hs : SubC cs' cs) (h : P v cs') : GhK K P v cs := ⟨v, cs', .sub hs, h⟩
theorem Kont.gh {K : Frag} {M : Hp} {P : Vl → Cells → Prop} {Q : VK} (k : Kont K M P Q) : Kont K M (GhK K P) Q := fun v x M' H' cs' s o r ⟨x2, cs2, gh, p⟩ => by
  obtain ⟨M2, s2, o2, r2⟩ := gh M' H' v o r
  exact k v x2 M2 H' cs2 (s.trans s2) o2 r2 p
def retE (K : Frag) (P : Vl → Cells → Prop) : DEnds := { nx := fun _ cs => GhK K P (.dat .non) cs, rt := GhK K P }
def startD (n : Nat) (xs : List Vl) : DEnv := xs.map some ++ List.replicate (n - xs.length) none
theorem start_rho {K : Frag} {M : Hp} {N : List Str} {vs : List V} {xs : List Vl} (h : Paired (RV K M) vs xs) : Rho K M (L2.start N vs) (startD N.length xs) := by
  unfold L2.start startD
  have hl := Paired.len h
  refine ⟨by rw [List.length_append, List.length_append, List.length_map, List.length_map, List.length_replicate, List.length_replicate, hl], fun i x e => ?_⟩
  by_cases hi : i < xs.length
  · rw [List.getElem?_append_left (by rw [List.length_map]; exact hi), List.getElem?_map] at e
    cases q : xs[i]? with
    | none => rw [q] at e; cases e
    | some y =>
      rw [q] at e
      cases e
      obtain ⟨v, hv, rv⟩ := Paired.getR h q
      exact ⟨v, by rw [List.getElem?_append_left (by rw [List.length_map]; omega), List.getElem?_map, hv]; rfl, rv⟩
  · rw [List.getElem?_append_right (by rw [List.length_map]; omega), List.getElem?_replicate] at e
    split at e <;> cases e
/-- a def of the text, called by its name -/
structure DOk (P : Program) (w : World) (K : Frag) (mg : Str → Option Value) (base : Heap) (CX : CXT) (x : Str) (ps : List Str) (k : Nat) (dsp : DSp) : Prop where
  ex : ∃ f fd, FnOk P w K mg base CX k f fd ps (liftSp K dsp) ∧ mg x = some (.ref f) ∧ PySem.W.keepIn K (.ref f) = true ∧ Binds K fd ps []
theorem fn_dataQ {P : Program} {w : World} {K : Frag} {mg : Str → Option Value} {base : Heap} {x qual : Str} {st : Stmt} {f : Addr} {fd : FuncData} {N ps : List Str} {k : Nat} {dsp : DSp} {ws : WS} (F : Fun K x qual st f fd) (S : FnScope N ps (defScope st))
    (len : ∀ xs cs Q XP, dsp xs cs Q XP → xs.length = ps.length)
    (body : ∀ (cdv : Value) (A : Around) (outer : List Env) (s : Shared) (H : Hp) (E : XK), Room k (A.deeper (PyProof.Rows.envOfC qual (defScope st) s.heap.objs.size f cdv)) → DSs (cxOf CX0 P w K mg base N qual (defScope st) f cdv A outer s H E).nox (defBody st) ws)
    (pure : ∀ xs cs Q XP, dsp xs cs Q XP → ws (retE K Q) (startD N.length xs) cs) : FnOk P w K mg base CX0 (k + 1) f fd ps (liftSp K dsp) := by
  refine F.ok S (fun vs H Q E ⟨M, xs, cs, P', XP, o, r, d, _⟩ => (Paired.len r).trans (len xs cs P' XP d)) (fun cdv A outer s H vs Q E hr ⟨M, xs, cs, P', XP, o, r, d, kk, _⟩ => ⟨_, body cdv A outer s H E hr, ?_⟩)
  exact ⟨M, startD N.length xs, cs, retE K P', o, start_rho r, pure xs cs P' XP d, ⟨fun σ' ρ' M' H' cs' s o' _ p => kk.gh _ _ M' H' cs' s o' (rv_dat .non) p, kk.gh, fun _ _ _ _ _ _ _ _ p => p.elim, fun _ _ _ _ _ _ _ _ p => p.elim⟩⟩
theorem law_imp {K : Frag} {dsp : DSp} (h : ∀ (ns : List Int) cs Q XP, ns.length ≤ 63 → (∀ cs', Q (.dat (.bl true)) cs') → dsp [.dat (.lst (ns.map .int))] cs Q XP) : ∀ vs H Q E, spLaw K vs H Q E → liftSp K dsp vs H Q E := by
  rintro vs H Q E ⟨a, ns, rfl, hS, hl, k⟩
  have hd : DrAll K H (ns.map V.int) (ns.map Dat.int) := by
    clear hS hl
    induction ns with
    | nil => exact .nil
    | cons n r ih => exact .cons (.int n) ih
  refine ⟨H, [.dat (.lst (ns.map .int))], fun _ => none, fun v _ => v = .dat (.bl true), X0, ⟨Same.refl _, fun _ _ e => by cases e⟩, .cons (.lst hS hd) .nil, h ns _ _ _ hl (fun _ => rfl), ?_, fun _ _ _ _ _ _ _ _ _ z => z.elim⟩
  intro v x M' H' cs' _ _ r p
  subst p
  rw [inv_bl r]
  exact k H'
def wCall (dsp : DSp) (wr : WA) : WE := fun ρ cs P => wr ρ cs fun xs cs1 => dsp xs cs1 P X0
theorem de_call {X : Cx} {x : Str} {ps : List Str} {k : Nat} {dsp : DSp} {p pos : Pos} {e : Expr} {es : List Expr} {wr : WA} (G : DOk X.prog X.w X.K X.mg X.base CX0 x ps k dsp) (hr : Room k X.A) (ha : DA X (e :: es) wr) (hg : Gl X x := by rfl)
    (hdb : (x == ("__debug__" : Str)) = false := by decide) (he : starEach (e :: es) X.env = (false, eval e X.env) :: starEach es X.env := by rfl) (hpl : (backTo pos (starEach es X.env)).any (·.1) = false := by rfl) :
    DE X (.Call (.Name x p) (e :: es) [] pos) (wCall dsp wr) := by
  obtain ⟨f, fd, F, hm, hk, hb⟩ := G.ex
  refine pe_imp (pe_call F hr hg hm hk hb .nil pass0 ha hdb he hpl) fun σ H Q ⟨M, ρ, cs, P, o, r0, p, kk⟩ => ?_
  refine ⟨M, ρ, cs, _, o, r0, p, fun vs xs M1 H1 cs1 s1 o1 r1 p1 => ?_⟩
  show liftSp X.K dsp (vs ++ []) H1 Q E0
  rw [List.append_nil]
  exact ⟨M1, xs, cs1, P, X0, o1, r1, p1, kk.mono s1, fun _ _ _ _ _ _ _ _ _ z => z.elim⟩
theorem de_gintE {X : Cx} {x : Str} {i : Int} {pos : Pos} (hm : ∃ t, X.mg x = some (.int i t)) (hg : Gl X x := by rfl) (hd : (x == ("__debug__" : Str)) = false := by decide) : DE X (.Name x pos) (wC (.int i)) := by
  obtain ⟨t, ht⟩ := hm
  exact de_gint ht hg hd
end DL
set_option maxRecDepth 100000
set_option maxHeartbeats 4000000
namespace DL
open PySem L2
def Dat.lv : Nat → Dat → Prop
  | _, .non => True
  | _, .bl _ => False
  | _, .int _ => True
  | _, .str x => PyData.strOk x = true
  | 0, .lst _ => False
  | 0, .tup _ => False
  | n + 1, .lst xs => xs.length ≤ 16777216 ∧ ∀ x ∈ xs, Dat.lv n x
  | n + 1, .tup xs => xs.length ≤ 16777216 ∧ ∀ x ∈ xs, Dat.lv n x
  | _, .obj _ _ => False
  | _, .dct _ => False
  | _, .ho _ _ => False
theorem pys_lv {n : Nat} (ih : ∀ d : Dat, d.lv n → ∃ p, d.py = some p ∧ p.canLay0 = true ∧ p.depth ≤ n + 1) : ∀ xs : List Dat, (∀ x ∈ xs, x.lv n) → ∃ ps, Dat.pys xs = some ps ∧ PyData.canLayAll0 ps = true ∧ PyData.depthAll ps ≤ n + 1
  | [], _ => ⟨[], rfl, rfl, Nat.zero_le _⟩
  | x :: xs, h => by
    obtain ⟨p, e1, c1, d1⟩ := ih x (h x (by simp))
    obtain ⟨ps, e2, c2, d2⟩ := pys_lv ih xs (fun y hy => h y (by simp [hy]))
    refine ⟨p :: ps, ?_, ?_, ?_⟩
    · unfold Dat.pys; rw [e1, e2]
    · unfold PyData.canLayAll0; rw [c1, c2]; rfl
    · unfold PyData.depthAll; exact Nat.max_le.mpr ⟨d1, d2⟩
theorem py_lv : ∀ (n : Nat) (d : Dat), d.lv n → ∃ p, d.py = some p ∧ p.canLay0 = true ∧ p.depth ≤ n + 1 := by
  intro n
  induction n with
  | zero =>
    intro d h
    cases d with
    | non => exact ⟨_, rfl, rfl, by decide⟩
    | int i => exact ⟨_, rfl, rfl, by unfold PyData.depth; omega⟩
    | str x => exact ⟨_, rfl, h, by unfold PyData.depth; omega⟩
    | _ => exact (show False from h).elim
  | succ n ih =>
    intro d h
    cases d with
    | non => exact ⟨_, rfl, rfl, by unfold PyData.depth; omega⟩
    | int i => exact ⟨_, rfl, rfl, by unfold PyData.depth; omega⟩
    | str x => exact ⟨_, rfl, h, by unfold PyData.depth; omega⟩
    | bl b => exact (show False from h).elim
    | obj C fs => exact (show False from h).elim
    | dct kvs => exact (show False from h).elim
    | ho φ ex => exact (show False from h).elim
    | lst xs =>
      obtain ⟨ps, e, c, dd⟩ := pys_lv ih xs h.2
      exact ⟨.list ps, by unfold Dat.py; rw [e]; rfl, by unfold PyData.canLay0; exact c, by unfold PyData.depth; omega⟩
    | tup xs =>
      obtain ⟨ps, e, c, dd⟩ := pys_lv ih xs h.2
      exact ⟨.tuple ps, by unfold Dat.py; rw [e]; rfl, by unfold PyData.canLay0; exact c, by unfold PyData.depth; omega⟩
theorem shaped_lv {n : Nat} (hn : n ≤ 60) {d : Dat} (h : d.lv n) : ∃ p, d.py = some p ∧ SeqAt.shaped p = true := by
  obtain ⟨p, e, c, dd⟩ := py_lv n d h
  exact ⟨p, e, by unfold SeqAt.shaped; rw [c, decide_eq_true (by omega)]; rfl⟩
mutual
theorem eqv_py : ∀ (n : Nat) (d e : Dat) (p q : PyData), d.lv n → e.lv n → d.py = some p → e.py = some q → (PyData.eqv p q = true ↔ d = e)
  | _, .non, e, p, q, _, he, hp, hq => by
    cases hp
    cases e with
    | non => cases hq; simp [PyData.eqv]
    | bl b => exact (by cases ‹Nat› <;> exact he.elim)
    | int i => cases hq; simp [PyData.eqv]
    | str x => cases hq; simp [PyData.eqv]
    | lst xs => unfold Dat.py at hq; obtain ⟨ps, e1, rfl⟩ := Option.map_eq_some_iff.mp hq; simp [PyData.eqv]
    | tup xs => unfold Dat.py at hq; obtain ⟨ps, e1, rfl⟩ := Option.map_eq_some_iff.mp hq; simp [PyData.eqv]
    | obj C fs => cases hq
    | dct kvs => cases hq
    | ho φ ex => cases hq
  | n, .bl b, _, _, _, hd, _, _, _ => by cases n <;> exact (show False from hd).elim
  | n, .int i, e, p, q, _, he, hp, hq => by
    cases hp
    cases e with
    | non => cases hq; simp [PyData.eqv]
    | bl b => cases n <;> exact (show False from he).elim
    | int i => cases hq; simp [PyData.eqv]
    | str x => cases hq; simp [PyData.eqv]
    | lst xs => unfold Dat.py at hq; obtain ⟨ps, e1, rfl⟩ := Option.map_eq_some_iff.mp hq; simp [PyData.eqv]
    | tup xs => unfold Dat.py at hq; obtain ⟨ps, e1, rfl⟩ := Option.map_eq_some_iff.mp hq; simp [PyData.eqv]
    | obj C fs => cases hq
    | dct kvs => cases hq
    | ho φ ex => cases hq
  | n, .str x, e, p, q, _, he, hp, hq => by
    cases hp
    cases e with
    | non => cases hq; simp [PyData.eqv]
    | bl b => cases n <;> exact (show False from he).elim
    | int i => cases hq; simp [PyData.eqv]
    | str x => cases hq; simp [PyData.eqv]
    | lst xs => unfold Dat.py at hq; obtain ⟨ps, e1, rfl⟩ := Option.map_eq_some_iff.mp hq; simp [PyData.eqv]
    | tup xs => unfold Dat.py at hq; obtain ⟨ps, e1, rfl⟩ := Option.map_eq_some_iff.mp hq; simp [PyData.eqv]
    | obj C fs => cases hq
    | dct kvs => cases hq
    | ho φ ex => cases hq
  | n, .lst xs, e, p, q, hd, he, hp, hq => by
    cases n with
    | zero => exact (show False from hd).elim
    | succ n =>
      unfold Dat.py at hp
      obtain ⟨ps, e0, rfl⟩ := Option.map_eq_some_iff.mp hp
      cases e with
      | non => cases hq; simp [PyData.eqv]
      | bl b => exact (show False from he).elim
      | int i => cases hq; simp [PyData.eqv]
      | str x => cases hq; simp [PyData.eqv]
      | lst ys =>
        unfold Dat.py at hq
        obtain ⟨qs, e1, rfl⟩ := Option.map_eq_some_iff.mp hq
        have := eqvs_py n xs ys ps qs hd.2 he.2 e0 e1
        simp only [PyData.eqv, Dat.lst.injEq]
        exact this
      | tup ys => unfold Dat.py at hq; obtain ⟨ps, e1, rfl⟩ := Option.map_eq_some_iff.mp hq; simp [PyData.eqv]
      | obj C fs => cases hq
      | dct kvs => cases hq
      | ho φ ex => cases hq
  | n, .tup xs, e, p, q, hd, he, hp, hq => by
    cases n with
    | zero => exact (show False from hd).elim
    | succ n =>
      unfold Dat.py at hp
      obtain ⟨ps, e0, rfl⟩ := Option.map_eq_some_iff.mp hp
      cases e with
      | non => cases hq; simp [PyData.eqv]
      | bl b => exact (show False from he).elim
      | int i => cases hq; simp [PyData.eqv]
      | str x => cases hq; simp [PyData.eqv]
      | tup ys =>
        unfold Dat.py at hq
        obtain ⟨qs, e1, rfl⟩ := Option.map_eq_some_iff.mp hq
        have := eqvs_py n xs ys ps qs hd.2 he.2 e0 e1
        simp only [PyData.eqv, Dat.tup.injEq]
        exact this
      | lst ys => unfold Dat.py at hq; obtain ⟨ps, e1, rfl⟩ := Option.map_eq_some_iff.mp hq; simp [PyData.eqv]
      | obj C fs => cases hq
      | dct kvs => cases hq
      | ho φ ex => cases hq
  | _, .obj _ _, _, _, _, _, _, hp, _ => by cases hp
  | _, .dct _, _, _, _, _, _, hp, _ => by cases hp
  | _, .ho _ _, _, _, _, _, _, hp, _ => by cases hp
theorem eqvs_py : ∀ (n : Nat) (xs ys : List Dat) (ps qs : List PyData), (∀ x ∈ xs, x.lv n) → (∀ x ∈ ys, x.lv n) → Dat.pys xs = some ps → Dat.pys ys = some qs → (PyData.eqvAll ps qs = true ↔ xs = ys)
  | _, [], ys, ps, qs, _, _, hp, hq => by
    cases hp
    cases ys with
    | nil => cases hq; simp [PyData.eqvAll]
    | cons y ys =>
      unfold Dat.pys at hq
      split at hq
      · cases hq; simp [PyData.eqvAll]
      · cases hq
  | n, x :: xs, ys, ps, qs, hd, he, hp, hq => by
    unfold Dat.pys at hp
    split at hp
    · rename_i p ps' e1 e2
      cases hp
      cases ys with
      | nil => cases hq; simp [PyData.eqvAll]
      | cons y ys =>
        unfold Dat.pys at hq
        split at hq
        · rename_i q qs' f1 f2
          cases hq
          simp only [PyData.eqvAll, Bool.and_eq_true, List.cons.injEq]
          rw [eqv_py n x y p q (hd x (by simp)) (he y (by simp)) e1 f1, eqvs_py n xs ys ps' qs' (fun z hz => hd z (by simp [hz])) (fun z hz => he z (by simp [hz])) e2 f2]
        · cases hq
    · cases hp
end
/-- the answer of == told by equality -/
theorem wEq_of {neg : Bool} {x y : Vl} {cs : Cells} {P : Vl → Cells → Prop} {d e : Dat} (n : Nat) (hn : n ≤ 60) (h1 : seen cs x = some d) (h2 : seen cs y = some e) (l1 : d.lv n) (l2 : e.lv n) (hy : d = e → P (.dat (.bl (!neg))) cs) (hno : d ≠ e → P (.dat (.bl neg)) cs) : wEqD neg x y cs P := by
  obtain ⟨p, e1, s1⟩ := shaped_lv hn l1
  obtain ⟨q, e2, s2⟩ := shaped_lv hn l2
  refine ⟨d, e, p, q, h1, h2, e1, e2, s1, s2, ?_⟩
  have key := eqv_py n d e p q l1 l2 e1 e2
  by_cases h : d = e
  · rw [key.mpr h]
    have := hy h
    cases neg <;> simpa using this
  · have : PyData.eqv p q = false := by
      cases q1 : PyData.eqv p q with
      | false => rfl
      | true => exact absurd (key.mp q1) h
    rw [this]
    have := hno h
    cases neg <;> simpa using this
theorem wEq_int {neg : Bool} {i j : Int} {cs : Cells} {P : Vl → Cells → Prop} : wEqD neg (.dat (.int i)) (.dat (.int j)) cs P ↔ P (.dat (.bl (if neg then !(i == j) else (i == j)))) cs := by
  constructor
  · rintro ⟨d, e, p, q, h1, h2, h3, h4, _, _, h⟩
    cases h1; cases h2; cases h3; cases h4
    simpa only [PyData.eqv] using h
  · intro h
    exact ⟨_, _, _, _, rfl, rfl, rfl, rfl, rfl, rfl, by simpa only [PyData.eqv] using h⟩
theorem wEq_bl {neg : Bool} {i j : Bool} {cs : Cells} {P : Vl → Cells → Prop} : wEqD neg (.dat (.bl i)) (.dat (.bl j)) cs P ↔ P (.dat (.bl (if neg then !(i == j) else (i == j)))) cs := by
  constructor
  · rintro ⟨d, e, p, q, h1, h2, h3, h4, _, _, h⟩
    cases h1; cases h2; cases h3; cases h4
    simpa only [PyData.eqv] using h
  · intro h
    exact ⟨_, _, _, _, rfl, rfl, rfl, rfl, rfl, rfl, by simpa only [PyData.eqv] using h⟩
theorem divOk {i j : Int} (h : 0 < j) (h2 : j ≤ 1000000000000000000000000000000) : CDivW i j := by
  refine wide_div (b := 100) h ?_ (by decide) (by decide)
  have : j.natAbs ≤ 1000000000000000000000000000000 := by omega
  exact Nat.lt_of_le_of_lt this (by decide)
theorem mulR {i j : Int} (h : -18446744073709551616 < j) (h2 : j < 18446744073709551616) : CMul i j := .inr ⟨by omega, by omega⟩
theorem mulL {i j : Int} (h : -18446744073709551616 < i) (h2 : i < 18446744073709551616) : CMul i j := .inl ⟨by omega, by omega⟩
theorem atI_nat {α : Type} {xs : List α} {i : Nat} {x : α} (h : xs[i]? = some x) : atI xs (i : Int) = some x := by
  have hl := (List.getElem?_eq_some_iff.mp h).1
  unfold atI ixN
  rw [if_pos (by omega), if_pos (by omega)]
  simpa using h
theorem atI_int {α : Type} {xs : List α} {i : Int} {x : α} (h0 : 0 ≤ i) (h : xs[i.toNat]? = some x) : atI xs i = some x := by
  have := atI_nat h
  rwa [Int.toNat_of_nonneg h0] at this
theorem atI_last {α : Type} {xs : List α} {x : α} (h : xs.getLast? = some x) : atI xs (-1) = some x := by
  have h0 : xs ≠ [] := by intro z; subst z; cases h
  have hl : 0 < xs.length := List.length_pos_iff.mpr h0
  unfold atI ixN
  rw [if_neg (by omega), if_pos (by omega)]
  rw [List.getLast?_eq_getElem?] at h
  show xs[((-1 : Int) + xs.length).toNat]? = some x
  rw [show ((-1 : Int) + xs.length).toNat = xs.length - 1 by omega]
  exact h
theorem ixN_nat {n i : Nat} (h : i < n) : ixN n (i : Int) = some i := by
  unfold ixN
  rw [if_pos (by omega), if_pos (by omega)]
  simp
theorem ixN_int {n : Nat} {i : Int} (h0 : 0 ≤ i) (h : i < n) : ixN n i = some i.toNat := by
  unfold ixN
  rw [if_pos h0, if_pos h]
section
variable {α : Type} {a b c d e f : α} {l : List α}
theorem at_0 : atI (a :: l) (0 : Int) = some a := atI_nat (i := 0) rfl
theorem at_1 : atI (a :: b :: l) (1 : Int) = some b := atI_nat (i := 1) rfl
theorem at_2 : atI (a :: b :: c :: l) (2 : Int) = some c := atI_nat (i := 2) rfl
theorem at_3 : atI (a :: b :: c :: d :: l) (3 : Int) = some d := atI_nat (i := 3) rfl
theorem at_4 : atI (a :: b :: c :: d :: e :: l) (4 : Int) = some e := atI_nat (i := 4) rfl
theorem at_5 : atI (a :: b :: c :: d :: e :: f :: l) (5 : Int) = some f := atI_nat (i := 5) rfl
theorem ix_0 {n : Nat} (h : 0 < n) : ixN n (0 : Int) = some 0 := ixN_nat (i := 0) h
theorem ix_1 {n : Nat} (h : 1 < n) : ixN n (1 : Int) = some 1 := ixN_nat (i := 1) h
theorem ix_2 {n : Nat} (h : 2 < n) : ixN n (2 : Int) = some 2 := ixN_nat (i := 2) h
theorem ix_3 {n : Nat} (h : 3 < n) : ixN n (3 : Int) = some 3 := ixN_nat (i := 3) h
end
section
variable {cs : Cells} {ds : List Dat} {d : Dat} {a : Addr} {xs : List Vl} {i : Int} {b : Bool} {z : Str} {x : Vl}
theorem seqD_lst : seqD cs (.dat (.lst ds)) = some (true, ds.map .dat) := rfl
theorem seqD_tp : seqD cs (.dat (.tup ds)) = some (false, ds.map .dat) := rfl
theorem seqD_cell : seqD cs (.raw (.ref a)) = coSeq (cs a) := rfl
theorem coSeq_lst : coSeq (some (.lst xs)) = some (true, xs) := rfl
theorem allDat_nil : allDat [] = some [] := rfl
theorem allDat_cons : allDat (.dat d :: xs) = (allDat xs).map (d :: ·) := rfl
theorem tyD_non : tyD cs (.dat .non) = some .non := rfl
theorem tyD_bl : tyD cs (.dat (.bl b)) = some .bool := rfl
theorem tyD_int : tyD cs (.dat (.int i)) = some .int := rfl
theorem tyD_str : tyD cs (.dat (.str z)) = some .str := rfl
theorem tyD_lst : tyD cs (.dat (.lst ds)) = some .list := rfl
theorem tyD_tup : tyD cs (.dat (.tup ds)) = some .tuple := rfl
theorem tyD_cell : tyD cs (.raw (.ref a)) = coTy (cs a) := rfl
theorem coTy_lst : coTy (some (.lst xs)) = some .list := rfl
theorem seen_dat : seen cs (.dat d) = some d := rfl
theorem seen_cell : seen cs (.raw (.ref a)) = coDat (cs a) := rfl
theorem coDat_lst : coDat (some (.lst xs)) = (allDat xs).map .lst := rfl
theorem isNon_non : isNon (.dat .non) = true := rfl
theorem isNon_bl : isNon (.dat (.bl b)) = false := rfl
theorem isNon_int : isNon (.dat (.int i)) = false := rfl
theorem isNon_str : isNon (.dat (.str z)) = false := rfl
theorem isNon_lst : isNon (.dat (.lst ds)) = false := rfl
theorem isNon_tup : isNon (.dat (.tup ds)) = false := rfl
theorem isNon_cell : isNon (.raw (.ref a)) = false := rfl
end
end DL
set_option maxRecDepth 100000
set_option maxHeartbeats 4000000
namespace DL
open PySem L2
def wPar3 (i j l : Nat) (wa : WA) : WS := fun D ρ cs => wa ρ cs fun xs cs1 => ∃ x y z, xs = [x, y, z] ∧ D.nx (((ρ.set i (some x)).set j (some y)).set l (some z)) cs1
section
variable {X : Cx} {a b c e o : Expr} {es : List Expr} {wa wb wc we wo : WE} {w u : WT} {wr : WA} {pos : Pos}
abbrev WO := DEnv → Cells → (Option Int → Cells → Prop) → Prop
def KontO (K : Frag) (M : Hp) (P : Option Int → Cells → Prop) (Q : Option Int → Hp → Prop) : Prop := ∀ b M' H' cs', Same M M' → Ok K M' H' cs' → P b cs' → Q b H'
def liftO (K : Frag) (w : WO) : TO := fun σ H Q => ∃ M ρ cs P, Ok K M H cs ∧ Rho K M σ ρ ∧ w ρ cs P ∧ KontO K M P Q
def DOp (X : Cx) (e : Option Expr) (w : WO) : Prop := PO X e (liftO X.K w)
theorem po_imp {e : Option Expr} {t t' : TO} (h : PO X e t) (m : ∀ σ H Q, t' σ H Q → t σ H Q) : PO X e t' := ⟨fun pins s σ H Q I q => h.run pins s σ H Q I (m σ H Q q)⟩
def wNoPart : WO := fun _ cs P => P none cs
def wPart (we : WE) : WO := fun ρ cs P => we ρ cs fun x cs1 => ∃ i, x = .dat (.int i) ∧ P (some i) cs1
theorem do_none : DOp X none wNoPart := po_imp po_none fun σ H Q ⟨M, ρ, cs, P, o, r, p, k⟩ => k none M H cs (Same.refl _) o p
theorem do_some (h : DE X e we) : DOp X (some e) (wPart we) := po_imp (po_some h) fun σ H Q ⟨M, ρ, cs, P, o, r, p, k⟩ => ⟨M, ρ, cs, _, o, r, p, fun v x M' H' cs' s o' rv ⟨i, ex, p1⟩ => by
  subst ex
  exact ⟨i, inv_int rv, k _ M' H' cs' s o' p1⟩⟩
def cutD {α : Type} (xs : List α) (lo hi : Option Int) : List α := (xs.drop (HT.sIx xs.length 0 lo)).take (HT.sIx xs.length xs.length hi - HT.sIx xs.length 0 lo)
theorem Paired.drop {α β : Type} {R : α → β → Prop} : ∀ {xs : List α} {ys : List β} (n : Nat), Paired R xs ys → Paired R (xs.drop n) (ys.drop n)
  | _, _, 0, h => h
  | _, _, _ + 1, .nil => .nil
  | _, _, n + 1, .cons _ k => Paired.drop n k
theorem Paired.take {α β : Type} {R : α → β → Prop} : ∀ {xs : List α} {ys : List β} (n : Nat), Paired R xs ys → Paired R (xs.take n) (ys.take n)
  | _, _, 0, _ => by rw [List.take_zero, List.take_zero]; exact .nil
  | _, _, _ + 1, .nil => .nil
  | _, _, n + 1, .cons h k => .cons h (Paired.take n k)
theorem paired_cut {K : Frag} {M : Hp} {vs : List V} {xs : List Vl} {lo hi : Option Int} (h : Paired (RV K M) vs xs) : Paired (RV K M) (cutV vs lo hi) (cutD xs lo hi) := by
  unfold cutV cutD
  rw [Paired.len h]
  exact Paired.take _ (Paired.drop _ h)
theorem cutD_map {α β : Type} (f : α → β) (xs : List α) (lo hi : Option Int) : cutD (xs.map f) lo hi = (cutD xs lo hi).map f := by
  unfold cutD
  rw [List.length_map, List.map_take, List.map_drop]
/-- xs[lo:hi] of a list: a new list -/
def wSlL (we : WE) (wl wh : WO) : WE := fun ρ cs P => we ρ cs fun x cs1 => wl ρ cs1 fun lo cs2 => wh ρ cs2 fun hi cs3 => ∃ xs, seqD cs3 x = some (true, xs) ∧ newL (cutD xs lo hi) cs3 P
theorem de_slL {lo hi : Option Expr} {wl wh : WO} {p2 : Pos} (he : DE X e we) (hl : DOp X lo wl) (hh : DOp X hi wh) : DE X (.Subscript e (.Slice lo hi none p2) pos) (wSlL we wl wh) :=
  pe_imp (pe_slice sl_list he hl hh) fun σ H Q ⟨M, ρ, cs, P, o, r, p, k⟩ => ⟨M, ρ, cs, _, o, r, p, fun v x M1 H1 cs1 s1 o1 r1 p1 =>
    ⟨M1, ρ, cs1, _, o1, r.mono s1, p1, fun lo M2 H2 cs2 s2 o2 p2 => ⟨M2, ρ, cs2, _, o2, r.mono (s1.trans s2), p2, fun hi M3 H3 cs3 s3 o3 ⟨xs, hx, p3⟩ => by
      obtain ⟨ad, vs, ev, q, pr⟩ := seqD_list o3 (r1.mono (s2.trans s3)) hx
      exact ⟨ad, vs, ev, q, newL_ok o3 (paired_cut pr) p3 (k.mono (s1.trans (s2.trans s3)))⟩⟩⟩⟩
/-- t[lo:hi] of a tuple: data -/
def wSlT (we : WE) (wl wh : WO) : WE := fun ρ cs P => we ρ cs fun x cs1 => wl ρ cs1 fun lo cs2 => wh ρ cs2 fun hi cs3 => ∃ ds, x = .dat (.tup ds) ∧ P (.dat (.tup (cutD ds lo hi))) cs3
theorem de_slT {lo hi : Option Expr} {wl wh : WO} {p2 : Pos} (he : DE X e we) (hl : DOp X lo wl) (hh : DOp X hi wh) : DE X (.Subscript e (.Slice lo hi none p2) pos) (wSlT we wl wh) :=
  pe_imp (pe_slice sl_tupA he hl hh) fun σ H Q ⟨M, ρ, cs, P, o, r, p, k⟩ => ⟨M, ρ, cs, _, o, r, p, fun v x M1 H1 cs1 s1 o1 r1 p1 =>
    ⟨M1, ρ, cs1, _, o1, r.mono s1, p1, fun lo M2 H2 cs2 s2 o2 p2 => ⟨M2, ρ, cs2, _, o2, r.mono (s1.trans s2), p2, fun hi M3 H3 cs3 s3 o3 ⟨ds, hx, p3⟩ => by
      subst hx
      have s23 := s2.trans s3
      have k3 := k.mono (s1.trans s23)
      have r3 := r1.mono s23
      obtain ⟨ad, vs, ev, q, pr⟩ := seqD_tup o3 r3 (xs := ds.map .dat) rfl
      refine ⟨ad, vs, ev, q, fun hw => ?_, fun _ => newT_ok o3 (by rw [← cutD_map]; exact paired_cut pr) p3 k3⟩
      have hl : vs.length = ds.length := (Paired.len pr).trans (List.length_map _)
      rw [hl] at hw
      have hc : cutD ds lo hi = ds := by
        unfold cutD
        rw [hw.1, hw.2, List.drop_zero, Nat.sub_zero, List.take_length]
      rw [hc] at p3
      rw [← ev]
      exact k3 _ _ M3 H3 cs3 (Same.refl _) o3 r3 p3⟩⟩⟩
def wCatT : W2 := fun x y cs P => ∃ ds es, x = .dat (.tup ds) ∧ y = .dat (.tup es) ∧ ds.length + es.length ≤ 16777216 ∧ P (.dat (.tup (ds ++ es))) cs
theorem de_catT (ha : DE X a wa) (hb : DE X b wb) : DE X (.BinOp a .Add b pos) (wOp wCatT wa wb) := de_op op_catA (fun M H cs x y a b P Q o rx ry ⟨ds, es, ea, eb, hz, hn⟩ k => by
  subst ea eb
  obtain ⟨ad, vs, ev, q, pr⟩ := seqD_tup o rx (xs := ds.map .dat) rfl
  obtain ⟨bd, us, eu, q2, pr2⟩ := seqD_tup o ry (xs := es.map .dat) rfl
  have l1 : vs.length = ds.length := (Paired.len pr).trans (List.length_map _)
  have l2 : us.length = es.length := (Paired.len pr2).trans (List.length_map _)
  refine ⟨ad, bd, vs, us, ev, eu, q, q2, by rw [l1, l2]; exact size_line hz, fun h0 => ?_, fun _ h0 => ?_, fun _ _ => newT_ok o (by rw [List.map_append]; exact Paired.app pr pr2) hn k⟩
  · rw [h0] at l1
    have : ds = [] := List.length_eq_zero_iff.mp l1.symm
    subst this
    rw [← eu]
    exact k _ _ M H cs (Same.refl _) o ry hn
  · rw [h0] at l2
    have : es = [] := List.length_eq_zero_iff.mp l2.symm
    subst this
    rw [← ev]
    rw [List.append_nil] at hn
    exact k _ _ M H cs (Same.refl _) o rx hn) ha hb
def wInt : WN := fun xs cs P => (∃ i, xs = [.dat (.int i)] ∧ P (.dat (.int i)) cs) ∨ ∃ b, xs = [.dat (.bl b)] ∧ P (.dat (.int (if b then 1 else 0))) cs
theorem rn_int {K : Frag} : RNOk K (fun xs H Q => (∃ i, xs = [.int i] ∧ Q (.int i) H) ∨ ∃ k, xs = [.bl k] ∧ Q (.int (if k then 1 else 0)) H) wInt := fun M H cs xs as P Q o r h k => by
  rcases h with ⟨i, e, p⟩ | ⟨b, e, p⟩
  · subst e
    cases r with
    | cons r1 rr =>
      cases rr
      exact .inl ⟨i, by rw [inv_int r1], k _ _ M H cs (Same.refl _) o (rv_dat (.int _)) p⟩
  · subst e
    cases r with
    | cons r1 rr =>
      cases rr
      exact .inr ⟨b, by rw [inv_bl r1], k _ _ M H cs (Same.refl _) o (rv_dat (.int _)) p⟩
theorem de_int1 {p : Pos} (hm : X.mg "int" = none) (ha : DA X [e] wr) (hg : Gl X "int" := by rfl) (he : starEach [e] X.env = (false, eval e X.env) :: starEach [] X.env := by rfl) (hpl : (backTo pos (starEach [] X.env)).any (·.1) = false := by rfl) :
    DE X (.Call (.Name "int" p) [e] [] pos) (wFn wInt wr) := de_callTy call_int1 rn_int hm (by decide +kernel) ha hg (by decide) (by decide) he hpl
theorem paired_ints {K : Frag} {M : Hp} : ∀ {ns : List Int} {vs : List V}, Paired (RV K M) vs (ns.map fun i => Vl.dat (.int i)) → vs = ns.map V.int
  | [], _, .nil => rfl
  | n :: ns, _, .cons r k => by rw [inv_int r, paired_ints k]; rfl
def wSum : WN := fun xs cs P => ∃ (x : Vl) (ns : List Int), xs = [x] ∧ seqD cs x = some (true, ns.map fun i => Vl.dat (.int i)) ∧ P (.dat (.int ns.sum)) cs
end
end DL
set_option maxRecDepth 100000
set_option maxHeartbeats 4000000
namespace GT
open PySem
open Sem (wp)
def isR : Frame → Bool
  | .ret .. => true
  | .gen .. => false
def susp : GenState → Bool
  | .suspended .. => true
  | _ => false
def deaf : GenState → GenState
  | .suspended _ l c p fs cl => .suspended (fun _ => .unsupported "") l c p fs cl
  | x => x
def wfG : GenState → Bool
  | .suspended _ _ _ _ fs _ => fs.all isR
  | _ => true
structure Good (R : Nat → Option GenState) (s : Shared) : Prop where
  deaf : ∀ i r, R i = some r → susp r = true ∧ s.gens[i]? = some (deaf r)
  wf : ∀ i x, s.gens[i]? = some x → R i = none → wfG x = true
section
variable {R : Nat → Option GenState} {s : Shared} {g : Nat} {x : GenState}
theorem Good.lt (G : Good R s) {i : Nat} {r : GenState} (h : R i = some r) : i < s.gens.size := (Array.getElem?_eq_some_iff.mp (G.deaf i r h).2).1
theorem Good.new (G : Good R s) : R s.gens.size = none := by
  cases e : R s.gens.size with
  | none => rfl
  | some r => exact absurd (G.lt e) (Nat.lt_irrefl _)
theorem Good.set (G : Good R s) (h : R g = none) (w : wfG x = true) : Good R (s.setGen g x) := by
  refine ⟨fun i r hi => ⟨(G.deaf i r hi).1, ?_⟩, fun i y hy hi => ?_⟩
  · have : g ≠ i := by intro z; rw [z, hi] at h; cases h
    show (s.gens.setIfInBounds g x)[i]? = _
    rw [Array.getElem?_setIfInBounds_ne this]
    exact (G.deaf i r hi).2
  · have hy : (s.gens.setIfInBounds g x)[i]? = some y := hy
    rw [Array.getElem?_setIfInBounds] at hy
    split at hy
    · split at hy
      · cases hy; exact w
      · cases hy
    · exact G.wf i y hy hi
theorem Good.push (G : Good R s) (w : wfG x = true) : Good R { s with gens := s.gens.push x } := by
  refine ⟨fun i r hi => ⟨(G.deaf i r hi).1, ?_⟩, fun i y hy hi => ?_⟩
  · show (s.gens.push x)[i]? = _
    rw [Array.getElem?_push_lt (G.lt hi), ← Array.getElem?_eq_getElem]
    exact (G.deaf i r hi).2
  · have hy : (s.gens.push x)[i]? = some y := hy
    rw [Array.getElem?_push] at hy
    split at hy
    · cases hy; exact w
    · exact G.wf i y hy hi
end
end GT
set_option maxRecDepth 100000
set_option maxHeartbeats 4000000
namespace GT
open PySem L2 PySem.Spec PyProof.Rows GenW DL
structure GP where
  P : Program
  w : World
  K : PySem.W.Frag
  mg : Str → Option Value
  base : Heap
  N : List Str
  qual : Str
  scope : Scope
  f : Addr
  cdv : Value
  A : Around
  outer : List Env
  L : Addr
  pn : List (Addr × Obj)
abbrev GP.env (G : GP) : Env := envOfC G.qual G.scope G.L G.f G.cdv
end GT
set_option maxRecDepth 100000
set_option maxHeartbeats 4000000
namespace GT
open PySem L2 PySem.Spec PyProof.Rows GenW DL
/-- what stood when it was woken -/
structure Gh where
  s : Shared
  H : Hp
  M : Hp
  cs : Cells
structure GDs where
  nx : List Dat → Cells → DEnv → Cells → Prop
  rt : List Dat → Cells → Vl → Cells → Prop
  bk : List Dat → Cells → DEnv → Cells → Prop := fun _ _ _ _ => False
  ct : List Dat → Cells → DEnv → Cells → Prop := fun _ _ _ _ => False
def GDs.at (D : GDs) (xs : List Dat) (c0 : Cells) : DEnds := { nx := D.nx xs c0, rt := D.rt xs c0, bk := D.bk xs c0, ct := D.ct xs c0 }
end GT
set_option maxRecDepth 100000
set_option maxHeartbeats 4000000
namespace GT
open PySem L2 PySem.Spec PyProof.Rows GenW DL
end GT
set_option maxRecDepth 100000
set_option maxHeartbeats 4000000
namespace GT
open PySem L2 PySem.Spec PyProof.Rows GenW DL
open Sem (wp)
abbrev GSpec := List Vl → Cells → List Dat → Bool → (Cells → Prop) → Prop
def GP.at (G : GP) (A : Around) : GP := { G with A := A }
end GT
set_option maxRecDepth 100000
set_option maxHeartbeats 4000000
namespace GT
open PySem L2 PySem.Spec PyProof.Rows GenW DL
/-- an expression whose value is a new generator -/
abbrev WGe := DEnv → Cells → (List Dat → Bool → (Cells → Prop) → Cells → Prop) → Prop
end GT
set_option maxRecDepth 100000
set_option maxHeartbeats 4000000
namespace DL
open PySem L2 GT
def putV (f : Str) (y : Vl) : List (Str × Vl) → List (Str × Vl)
  | [] => [(f, y)]
  | p :: r => if p.1 = f then (f, y) :: r else p :: putV f y r
abbrev FR (K : Frag) (M : Hp) : (Str × V) → (Str × Vl) → Prop := fun p q => p.1 = q.1 ∧ RV K M p.2 q.2
theorem fr_lookup {K : Frag} {M : Hp} {f : Str} : ∀ {fs : List (Str × V)} {gs : List (Str × Vl)}, Paired (FR K M) fs gs → (∀ x, gs.lookup f = some x → ∃ v, fs.lookup f = some v ∧ RV K M v x) ∧ (gs.lookup f = none → fs.lookup f = none)
  | _, _, .nil => ⟨fun x h => (by cases h), fun _ => rfl⟩
  | (n, v) :: fs, (n', x) :: gs, .cons ⟨e, r⟩ k => by
    have e : n = n' := e
    subst e
    obtain ⟨h1, h2⟩ := fr_lookup (f := f) k
    simp only [List.lookup_cons]
    cases hb : (f == n) with
    | true => exact ⟨fun y h => by cases h; exact ⟨v, rfl, r⟩, fun h => by cases h⟩
    | false => exact ⟨h1, h2⟩
theorem fr_put {K : Frag} {M : Hp} {f : Str} {v : V} {x : Vl} (r : RV K M v x) : ∀ {fs : List (Str × V)} {gs : List (Str × Vl)}, Paired (FR K M) fs gs → Paired (FR K M) (putF f v fs) (putV f x gs)
  | _, _, .nil => .cons ⟨rfl, r⟩ .nil
  | (n, u) :: fs, (n', y) :: gs, .cons ⟨e, r'⟩ k => by
    have e : n = n' := e
    subst e
    unfold putF putV
    by_cases h : n = f
    · simp only [h, if_true]
      exact .cons ⟨rfl, r⟩ k
    · simp only [h, if_false]
      exact .cons ⟨rfl, r'⟩ (fr_put r k)
theorem cell_ins {K : Frag} {M H : Hp} {cs : Cells} {a C : Addr} {gs : List (Str × Vl)} (o : Ok K M H cs) (h : cs a = some (.ins C gs)) : ∃ dx fs, H a = some (.ins C dx fs) ∧ Paired (FR K M) fs gs := by
  obtain ⟨m3, ob3, hob3, cr3⟩ := o.cell a _ h
  cases ob3 <;> try exact (show False from cr3).elim
  obtain ⟨e, p⟩ := cr3
  subst e
  exact ⟨_, _, hob3, p⟩
theorem Ok.newH {K : Frag} {M H : Hp} {cs : Cells} (o : Ok K M H cs) {p : Addr} (h : H p = none) (u : HO) : Ok K M (upd H p u) cs := by
  refine ⟨fun b ob e => ?_, fun a c e => ?_⟩
  · rw [upd_ne (ne_of_none (o.ex b ob e) h)]; exact o.ex b ob e
  · obtain ⟨m, ob, q, r⟩ := o.cell a c e
    exact ⟨m, ob, by rw [upd_ne (ne_of_none q h)]; exact q, r⟩
/-- o.f, o an instance of the class at C -/
def wFld (C : Addr) (f : Str) (wo : WE) : WE := fun ρ cs P => wo ρ cs fun x cs1 => ∃ a fs v, x = .cell a ∧ cs1 a = some (.ins C fs) ∧ fs.lookup f = some v ∧ P v cs1
def wSetF (C : Addr) (f : Str) (wo wv : WE) : WS := fun D ρ cs => wv ρ cs fun y cs1 => wo ρ cs1 fun x cs2 => ∃ a fs, x = .cell a ∧ cs2 a = some (.ins C fs) ∧ fs.length < 1000 ∧ D.nx ρ (cs2.put a (.ins C (putV f y fs)))
def wMeth (C : Addr) (m : Str) (dsp : DSp) (wo : WE) (wr : WA) : WE := fun ρ cs P => wo ρ cs fun x cs1 => ∃ a fs, x = .cell a ∧ cs1 a = some (.ins C fs) ∧ fs.lookup m = none ∧ wr ρ cs1 fun xs cs2 => dsp (x :: xs) cs2 P X0
def wMake (C : Addr) (dsp : DSp) (wr : WA) : WE := fun ρ cs P => wr ρ cs fun xs cs1 => ∀ a, cs1 a = none → dsp (.cell a :: xs) (cs1.put a (.ins C [])) (fun v cs2 => v = .dat .non ∧ P (.cell a) cs2) X0
/-- a method of the text -/
structure DMok (P : Program) (w : World) (K : Frag) (mg : Str → Option Value) (base : Heap) (C : Addr) (m : Str) (ps : List Str) (k : Nat) (dsp : DSp) : Prop where
  ex : ∃ f fd, FnOk P w K mg base CX0 k f fd ps (liftSp K dsp) ∧ Cls K C ∧ Meth K C m f ∧ Binds K fd ps []
section
variable {X : Cx} {a b c e o : Expr} {es : List Expr} {wa wb wc we wo wv : WE} {w u : WT} {wr : WA} {pos : Pos} {C : Addr} {f m : Str}
theorem ds_fld {pos' : Pos} (hc : Cls X.K C) (hn : NoAttr X.K C f) (ho : DE X o wo) (hv : DE X e wv) (hs : swapsWith e (some (.Attribute o f pos')) pos.line X.env = pure false := by rfl) : DS X (.Assign [.Attribute o f pos'] e pos) (wSetF C f wo wv) :=
  ps_imp (ps_fld ho hv hs) fun E σ H ⟨M, ρ, cs, D, o, r, h, eo⟩ => ⟨M, ρ, cs, _, o, r, h, fun v y M1 H1 cs1 s1 o1 r1 p1 => ⟨M1, ρ, cs1, _, o1, r.mono s1, p1, fun v2 x M2 H2 cs2 s2 o2 r2 ⟨a, gs, ex, hc2, hl, p2⟩ => by
    subst ex
    obtain ⟨dx, fs, hH, pr⟩ := cell_ins o2 hc2
    refine ⟨a, C, dx, fs, r2, hH, hc, hn, by rw [Paired.len pr]; exact hl, ?_⟩
    exact eo.nx σ ρ M2 _ _ (s1.trans s2) (o2.setC hc2 (c := .ins C (putV f y gs)) ⟨rfl, fr_put (r1.mono s2) pr⟩) (r.mono (s1.trans s2)) p2⟩⟩
theorem de_make {x : Str} {ps : List Str} {k : Nat} {dsp : DSp} {p : Pos} {fi : Addr} {fd : FuncData} (Mm : Mk X.K C fi) (F : FnOk X.prog X.w X.K X.mg X.base CX0 k fi fd ps (liftSp X.K dsp)) (hb : Binds X.K fd ps []) (hm : X.mg x = some (.ref C)) (hr : Room (k + 1) X.A) (ha : DA X (e :: es) wr) (hg : Gl X x := by rfl)
    (hdb : (x == ("__debug__" : Str)) = false := by decide) (he : starEach (e :: es) X.env = (false, eval e X.env) :: starEach es X.env := by rfl) (hpl : (backTo pos (starEach es X.env)).any (·.1) = false := by rfl) : DE X (.Call (.Name x p) (e :: es) [] pos) (wMake C dsp wr) := by
  refine pe_imp (pe_make Mm F hr hg hm hb .nil pass0 ha hdb he hpl) fun σ H Q ⟨M, ρ, cs, P, o, r0, p, kk⟩ => ?_
  refine ⟨M, ρ, cs, _, o, r0, p, fun vs xs M1 H1 cs1 s1 o1 r1 p1 a dx h1 h2 hne => ?_⟩
  rw [List.append_nil]
  have o2 := o1.newH h2 (.own a)
  have h3 : upd H1 dx (.own a) a = none := by rw [upd_ne hne.symm]; exact h1
  have o3 := o2.newC h3 (u := .ins C dx []) (c := .ins C []) ⟨rfl, .nil⟩
  refine ⟨M1, _, _, _, X0, o3, .cons rv_raw r1, p1 a (o1.freeC h1), fun v x M2 H2 cs2 s2 o2 r2 ⟨ex, p2⟩ => ?_, fun _ _ _ _ _ _ _ _ _ z => z.elim⟩
  subst ex
  exact ⟨inv_non r2, kk _ _ M2 H2 cs2 (s1.trans s2) o2 rv_raw p2⟩
end
def wGCall (sp : GSpec) (wr : WA) : WGe := fun ρ cs R => wr ρ cs fun xs cs1 => ∃ ds fin Gd, sp xs cs1 ds fin Gd ∧ R ds fin Gd cs1
def wGMeth (C : Addr) (m : Str) (sp : GSpec) (wo : WE) (wr : WA) : WGe := fun ρ cs R => wo ρ cs fun x cs1 => ∃ a fs, x = .cell a ∧ cs1 a = some (.ins C fs) ∧ fs.lookup m = none ∧ wr ρ cs1 fun xs cs2 => ∃ ds fin Gd, sp (x :: xs) cs2 ds fin Gd ∧ R ds fin Gd cs2
end DL
set_option maxRecDepth 100000
set_option maxHeartbeats 4000000
namespace DL
open PySem L2 PySem.Spec PyProof.Rows
def keyD : Key → Dat
  | .inl i => .int i
  | .inr x => .str x
section
variable {κ : Type} [DecidableEq κ]
def valD (kvs : List (κ × Vl)) (k : κ) : Option Vl := (kvs.find? fun kv => decide (kv.1 = k)).map (·.2)
def putD (kvs : List (κ × Vl)) (k : κ) (v : Vl) : List (κ × Vl) := if (kvs.any fun kv => decide (kv.1 = k)) = true then kvs.map (fun kv => if kv.1 = k then (kv.1, v) else kv) else kvs ++ [(k, v)]
abbrev KR (K : Frag) (M : Hp) : (κ × V) → (κ × Vl) → Prop := fun p q => p.1 = q.1 ∧ RV K M p.2 q.2
theorem kr_val {K : Frag} {M : Hp} {k : κ} : ∀ {xs : List (κ × V)} {ys : List (κ × Vl)}, Paired (KR K M) xs ys → (∀ y, valD ys k = some y → ∃ v, valV xs k = some v ∧ RV K M v y) ∧ (valD ys k = none → valV xs k = none)
  | _, _, .nil => ⟨fun y h => (by cases h), fun _ => rfl⟩
  | (n, v) :: xs, (n', y) :: ys, .cons ⟨e, r⟩ t => by
    have e : n = n' := e
    subst e
    obtain ⟨h1, h2⟩ := kr_val (k := k) t
    unfold valD valV at *
    by_cases hk : n = k
    · simp only [List.find?_cons, hk, decide_true, Option.map_some]
      exact ⟨fun z hz => ⟨v, rfl, by cases hz; exact r⟩, fun z => by cases z⟩
    · simp only [List.find?_cons, hk, decide_false]
      exact ⟨h1, h2⟩
theorem kr_any {K : Frag} {M : Hp} {k : κ} : ∀ {xs : List (κ × V)} {ys : List (κ × Vl)}, Paired (KR K M) xs ys → (xs.any fun kv => decide (kv.1 = k)) = (ys.any fun kv => decide (kv.1 = k))
  | _, _, .nil => rfl
  | (n, v) :: xs, (n', y) :: ys, .cons ⟨e, r⟩ t => by
    have e : n = n' := e
    subst e
    rw [List.any_cons, List.any_cons, kr_any t]
theorem kr_map {K : Frag} {M : Hp} {k : κ} {v : V} {y : Vl} (r : RV K M v y) : ∀ {xs : List (κ × V)} {ys : List (κ × Vl)}, Paired (KR K M) xs ys → Paired (KR K M) (xs.map fun kv => if kv.1 = k then (kv.1, v) else kv) (ys.map fun kv => if kv.1 = k then (kv.1, y) else kv)
  | _, _, .nil => .nil
  | (n, u) :: xs, (n', z) :: ys, .cons ⟨e, r'⟩ t => by
    have e : n = n' := e
    subst e
    refine .cons ?_ (kr_map r t)
    by_cases h : n = k
    · simp only [h, if_true]; exact ⟨rfl, r⟩
    · simp only [h, if_false]; exact ⟨rfl, r'⟩
theorem kr_put {K : Frag} {M : Hp} {k : κ} {v : V} {y : Vl} (r : RV K M v y) {xs : List (κ × V)} {ys : List (κ × Vl)} (h : Paired (KR K M) xs ys) : Paired (KR K M) (putK xs k v) (putD ys k y) := by
  unfold putK putD
  rw [kr_any h]
  split
  · exact kr_map r h
  · exact Paired.app h (.cons ⟨rfl, r⟩ .nil)
end
theorem rv_key {K : Frag} {M : Hp} {v : V} {k : Key} (r : RV K M v (.dat (keyD k))) : v = kV k := by
  cases k with
  | inl i => exact inv_int r
  | inr x => exact inv_str r
theorem cell_dk {K : Frag} {M H : Hp} {cs : Cells} {a : Addr} {ys : List (Key × Vl)} (o : Ok K M H cs) (h : cs a = some (.dk ys)) : ∃ xs, H a = some (.dK xs) ∧ Paired (KR K M) xs ys := by
  obtain ⟨m3, ob3, hob3, cr3⟩ := o.cell a _ h
  cases ob3 <;> try exact (show False from cr3).elim
  exact ⟨_, hob3, cr3⟩
def wDNewK : WE := fun _ cs P => ∀ p, cs p = none → P (.cell p) (cs.put p (.dk []))
def wDNewT : WE := fun _ cs P => ∀ p, cs p = none → P (.cell p) (cs.put p (.dt []))
/-- d[k] = v -/
def wDPut (wo wi wv : WE) : WS := fun D ρ cs => wv ρ cs fun v cs1 => wo ρ cs1 fun x cs2 => wi ρ cs2 fun y cs3 => ∃ a kvs k, x = .cell a ∧ y = .dat (keyD k) ∧ cs3 a = some (.dk kvs) ∧ kvs.length < 16777216 ∧ D.nx ρ (cs3.put a (.dk (putD kvs k v)))
section
variable {X : Cx} {a b c e f o i : Expr} {es : List Expr} {wa wb wc we wo wi wv wd : WE} {wr : WA} {pos : Pos}
theorem de_dnewK : DE X (.Dict [] [] pos) wDNewK := pe_imp pe_dnewK fun σ H Q ⟨M, ρ, cs, P, o, r, p, k⟩ q hq => k _ _ M _ _ (Same.refl _) (o.newC hq (u := .dK []) (c := .dk []) .nil) rv_raw (p q (o.freeC hq))
theorem ds_dput {pos' : Pos} (hu : X.A.units + 64 < cLine) (ho : DE X o wo) (hi : DE X i wi) (hv : DE X e wv) (hs : swapsWith e (some (.Subscript o i pos')) pos.line X.env = pure false := by rfl) : DS X (.Assign [.Subscript o i pos'] e pos) (wDPut wo wi wv) :=
  ps_imp (ps_dput (by omega) ho hi hv hs) fun E σ H ⟨M, ρ, cs, D, o, r, h, eo⟩ => ⟨M, ρ, cs, _, o, r, h, fun v1 v M1 H1 cs1 s1 o1 r1 p1 => ⟨M1, ρ, cs1, _, o1, r.mono s1, p1, fun v2 x M2 H2 cs2 s2 o2 r2 p2 => ⟨M2, ρ, cs2, _, o2, r.mono (s1.trans s2), p2, fun v3 y M3 H3 cs3 s3 o3 r3 ⟨a, kvs, k, ex, ey, hc, hl, p3⟩ => by
    subst ex ey
    obtain ⟨xs, hH, pr⟩ := cell_dk o3 hc
    refine ⟨a, _, r2, .inl ⟨xs, k, hH, rv_key r3, by rw [Paired.len pr]; exact size_lt hl, rfl⟩, ?_⟩
    exact eo.nx σ ρ M3 _ _ (s1.trans (s2.trans s3)) (o3.setC hc (c := .dk (putD kvs k v)) (kr_put (r1.mono (s2.trans s3)) pr)) (r.mono (s1.trans (s2.trans s3))) p3⟩⟩⟩
end
end DL
set_option maxRecDepth 100000
set_option maxHeartbeats 4000000
namespace DL
open PySem L2 PySem.Spec PyProof.Rows
end DL
set_option maxRecDepth 100000
set_option maxHeartbeats 4000000
namespace DL
open PySem L2 PySem.Spec PyProof.Rows
section
variable {X : Cx} {o e : Expr} {p pos apos mpos : Pos} {td : TE} {wo : WE} {wr : WA}
theorem ints_paired {K : Frag} {M : Hp} : ∀ (ns : List Int), Paired (RV K M) (ns.map V.int) (ns.map fun i => Vl.dat (.int i))
  | [] => .nil
  | n :: ns => .cons (rv_dat (.int n)) (ints_paired ns)
end
end DL
set_option maxRecDepth 100000
set_option maxHeartbeats 4000000
namespace DL
open PySem L2 PySem.Spec PyProof.Rows
theorem add_any (l : Addr) (items : Array Value) (n : Nat) (sl : Array (Option Value)) (b : Addr) (items2 : Array Value) (n2 : Nat) (sl2 : Array (Option Value)) (hc0 : items.size + items2.size ≤ sizeLine) :
    Meets (Builtin.«list.__add__» ⟨[.ref l, .ref b], []⟩) (fun _ R s => s.heap.get? l = some ⟨.type "list", none, .seq items n, sl⟩ ∧ s.heap.get? b = some ⟨.type "list", none, .seq items2 n2, sl2⟩ ∧ R (.ok (.ret (Value.ref s.heap.objs.size))) { s with heap := s.heap.push { cls := Value.type "list", data := Data.seq (items ++ items2) }, toks := s.toks }) :=
  .of_wp fun prog w A R s h => by
    obtain ⟨hp, g, d, tk, os⟩ := s
    obtain ⟨hl, hb, h⟩ := h
    have f3 := PySem.AutoSeq1.sub_list_list
    wp_walk using wpAny_loadPart' hl, wpAny_loadPart' hb
    exact ⟨_, rfl, h⟩
def rCatS (K : Frag) : R2 := fun x y H Q => ∃ l b xs zs, x = .ref l ∧ y = .ref b ∧ SqL K H l xs ∧ SqL K H b zs ∧ xs.length + zs.length ≤ sizeLine ∧ ∀ p, H p = none → Q (.ref p) (upd H p (.lst (xs ++ zs)))
section
variable {X : Cx} {a b e : Expr} {wa wb : WE} {wr : WA} {pos : Pos}
theorem op_catS : OpR X (binaryOp .Add) (rCatS X.K) := by
  intro pins s σ H x y v u Q I rx ry h
  obtain ⟨l, b, xs, zs, rfl, rfl, hH, hB, hz, q⟩ := h
  cases rx
  cases ry
  obtain ⟨its, rv, ⟨⟨cl, di, da, sl⟩, n, ho, hc, hd, hdt⟩, hl⟩ := I.list hH
  obtain ⟨its2, rv2, ⟨⟨cl2, di2, da2, sl2⟩, n2, ho2, hc2, hd2, hdt2⟩, hl2⟩ := I.list hB
  simp only at hc hd hdt hc2 hd2 hdt2
  subst hc hd hdt hc2 hd2 hdt2
  have hsz : its.toArray.size + its2.toArray.size ≤ sizeLine := by rw [List.size_toArray, List.size_toArray, ← rv.length, ← rv2.length]; exact hz
  refine concat_meets ⟨_, ho, rfl⟩ ⟨_, ho2, rfl⟩ noFill_list_add seq_list_add F.slot_list_add F.entry_list_add (F.args_list_add_2 _ _) (add_any l its.toArray n sl b its2.toArray n2 sl2 hsz) ⟨ho, ho2, ?_⟩
  have ea : its.toArray ++ its2.toArray = (its ++ its2).toArray := by simp
  rw [ea]
  exact ⟨.ref _, _, I.lnew (t' := s.toks) (rv.append rv2) (by rw [List.length_append]; omega), rfl, q _ I.fresh⟩
def wCatS : W2 := fun x y cs P => ∃ xs ys, seqD cs x = some (true, xs) ∧ seqD cs y = some (true, ys) ∧ xs.length + ys.length ≤ 16777216 ∧ newL (xs ++ ys) cs P
theorem de_catS (ha : DE X a wa) (hb : DE X b wb) : DE X (.BinOp a .Add b pos) (wOp wCatS wa wb) := de_op op_catS (fun M H cs x y a b P Q o rx ry ⟨xs, ys, h1, h2, hz, hn⟩ k => by
  obtain ⟨p, us, e1, q1, pu⟩ := seqD_list o rx h1
  obtain ⟨q, vs, e2, q2, pv⟩ := seqD_list o ry h2
  exact ⟨p, q, us, vs, e1, e2, q1, q2, by rw [Paired.len pu, Paired.len pv]; exact size_line hz, newL_ok o (Paired.app pu pv) hn k⟩) ha hb
def wAbs : WN := fun xs cs P => ∃ i, xs = [.dat (.int i)] ∧ P (.dat (.int (if i < 0 then -i else i))) cs
end
structure DKok (P : Program) (w : World) (K : Frag) (mg : Str → Option Value) (base : Heap) (C : Addr) (x : Str) (ps : List Str) (k : Nat) (dsp : DSp) : Prop where
  ex : ∃ fi fd, Mk K C fi ∧ FnOk P w K mg base CX0 k fi fd ps (liftSp K dsp) ∧ Binds K fd ps [] ∧ mg x = some (.ref C)
theorem de_makeD {X : Cx} {C : Addr} {x : Str} {ps : List Str} {k : Nat} {dsp : DSp} {p pos : Pos} {e : Expr} {es : List Expr} {wr : WA} (G : DKok X.prog X.w X.K X.mg X.base C x ps k dsp) (hr : Room (k + 1) X.A) (ha : DA X (e :: es) wr) (hg : Gl X x := by rfl)
    (hdb : (x == ("__debug__" : Str)) = false := by decide) (he : starEach (e :: es) X.env = (false, eval e X.env) :: starEach es X.env := by rfl) (hpl : (backTo pos (starEach es X.env)).any (·.1) = false := by rfl) : DE X (.Call (.Name x p) (e :: es) [] pos) (wMake C dsp wr) := by
  obtain ⟨fi, fd, Mm, F, hb, hm⟩ := G.ex
  exact de_make Mm F hb hm hr ha hg hdb he hpl
end DL
namespace DL
open PySem L2
/-- the program's classes, by their addresses -/
structure CE where
  Tree : Addr := 0
  Stretch : Addr := 0
  Account : Addr := 0
  LimitedAccount : Addr := 0
  SavingsAccount : Addr := 0
  Books : Addr := 0
  Ledger : Addr := 0
  OrderError : Addr := 0
  InvalidCalendar : Addr := 0
  InvalidOrder : Addr := 0
  InvalidPlan : Addr := 0
  DifferentCalendars : Addr := 0
  InvalidRange : Addr := 0
  InvalidCount : Addr := 0
  Endless : Addr := 0
  InvalidName : Addr := 0
  UnknownKind : Addr := 0
  InvalidAmount : Addr := 0
  Overdrawn : Addr := 0
  DuplicateName : Addr := 0
  UnknownAccount : Addr := 0
  TooManyAccounts : Addr := 0
  NotEmpty : Addr := 0
  WrongDay : Addr := 0
  SameAccount : Addr := 0
  UnknownOrder : Addr := 0
  TooManyOrders : Addr := 0
  InvalidOperation : Addr := 0
  InvalidText : Addr := 0
  T_balance_at : Addr := 0
  T_count_below : Addr := 0
  T_least_balance : Addr := 0
  T_law : Addr := 0
theorem never_fn {P : Program} {w : World} {K : Frag} {mg : Str → Option Value} {base : Heap} {f : Addr} {fd : FuncData} {ps : List Str} {k : Nat} {sp : DSp} (h : ∀ xs cs Q XP, ¬ sp xs cs Q XP) : FnOk P w K mg base CX0 k f fd ps (liftSp K sp) :=
  ⟨fun _ _ _ _ ⟨_, _, _, _, _, _, _, z, _⟩ => (h _ _ _ _ z).elim, fun _ _ _ _ _ _ _ _ _ _ _ _ _ ⟨_, _, _, _, _, _, _, z, _⟩ => (h _ _ _ _ z).elim⟩
end DL
set_option maxRecDepth 100000
set_option maxHeartbeats 4000000
namespace DL
open PySem L2 PySem.Spec PyProof.Rows
abbrev DWX := Value → List (Str × Vl) → DEnv → Cells → Prop
def liftW (K : Frag) (M0 : Hp) (W : DWX) : WX := fun cls d σ H => ∃ M ρ cs fs, Same M0 M ∧ Ok K M H cs ∧ Rho K M σ ρ ∧ XRep K M d fs ∧ W cls fs ρ cs
def lift0 (K : Frag) (M0 : Hp) (w : WE) : TE := fun σ H Q => ∃ M ρ cs P, Same M0 M ∧ Ok K M H cs ∧ Rho K M σ ρ ∧ w ρ cs P ∧ Kont K M P Q
def liftT0 (K : Frag) (M0 : Hp) (w : WT) : TT := fun σ H Q => ∃ M ρ cs P, Same M0 M ∧ Ok K M H cs ∧ Rho K M σ ρ ∧ w ρ cs P ∧ KontT K M P Q
def liftA0 (K : Frag) (M0 : Hp) (w : WA) : TA := fun σ H Q => ∃ M ρ cs P, Same M0 M ∧ Ok K M H cs ∧ Rho K M σ ρ ∧ w ρ cs P ∧ KontA K M P Q
def liftS0 (K : Frag) (M0 : Hp) (w : WS) : TS := fun E σ H => ∃ M ρ cs D, Same M0 M ∧ Ok K M H cs ∧ Rho K M σ ρ ∧ w D ρ cs ∧ EndsOk K M D E
def DE0 (X : Cx) (M0 : Hp) (e : Expr) (w : WE) : Prop := PE X e (lift0 X.K M0 w)
def DT0 (X : Cx) (M0 : Hp) (e : Expr) (w : WT) : Prop := PT X e (liftT0 X.K M0 w)
def DA0 (X : Cx) (M0 : Hp) (es : List Expr) (w : WA) : Prop := PA X es (liftA0 X.K M0 w)
def DS0 (X : Cx) (M0 : Hp) (st : Stmt) (w : WS) : Prop := PS X st (liftS0 X.K M0 w)
def DSs0 (X : Cx) (M0 : Hp) (st : List Stmt) (w : WS) : Prop := PSs X st (liftS0 X.K M0 w)
section
variable {X : Cx} {M0 : Hp} {e a b : Expr} {es : List Expr} {st : Stmt} {sts : List Stmt} {we wa wb : WE} {wt : WT} {wr : WA} {ws u v : WS} {pos : Pos}
theorem DE.d0 (h : DE X e we) : DE0 X M0 e we := pe_imp h fun _ _ _ ⟨M, ρ, cs, P, _, o, r, w, k⟩ => ⟨M, ρ, cs, P, o, r, w, k⟩
theorem DT.d0 (h : DT X e wt) : DT0 X M0 e wt := pt_imp h fun _ _ _ ⟨M, ρ, cs, P, _, o, r, w, k⟩ => ⟨M, ρ, cs, P, o, r, w, k⟩
theorem DA.d0 (h : DA X es wr) : DA0 X M0 es wr := pa_imp h fun _ _ _ ⟨M, ρ, cs, P, _, o, r, w, k⟩ => ⟨M, ρ, cs, P, o, r, w, k⟩
theorem DS.d0 (h : DS X st ws) : DS0 X M0 st ws := ps_imp h fun _ _ _ ⟨M, ρ, cs, P, _, o, r, w, k⟩ => ⟨M, ρ, cs, P, o, r, w, k⟩
theorem DSs.d0 (h : DSs X sts ws) : DSs0 X M0 sts ws := pss_imp h fun _ _ _ ⟨M, ρ, cs, P, _, o, r, w, k⟩ => ⟨M, ρ, cs, P, o, r, w, k⟩
end
structure DOkX (P : Program) (w : World) (K : Frag) (mg : Str → Option Value) (base : Heap) (x : Str) (ps : List Str) (k : Nat) (dsp : DSp) : Prop where
  ex : ∃ f fd, FnOk P w K mg base (L2.CX P w) k f fd ps (liftSp K dsp) ∧ mg x = some (.ref f) ∧ PySem.W.keepIn K (.ref f) = true ∧ Binds K fd ps []
/-- where an exception leaves a def, what stands may be seen otherwise -/
def GhC (K : Frag) (cs cs' : Cells) : Prop := ∀ M H, Ok K M H cs → ∃ M', Same M M' ∧ Ok K M' H cs'
theorem GhC.sub {K : Frag} {cs cs' : Cells} (h : SubC cs' cs) : GhC K cs cs' := fun M _ o => ⟨M, Same.refl _, o.sub h⟩
def GhX (K : Frag) (XP : DXP) : DXP := fun cls fs cs => ∃ cs', GhC K cs cs' ∧ XP cls fs cs'
theorem GhX.now {K : Frag} {XP : DXP} {cls : Value} {fs : List (Str × Vl)} {cs : Cells} (h : XP cls fs cs) : GhX K XP cls fs cs := ⟨cs, .sub fun _ _ e => e, h⟩
theorem GhX.drop {K : Frag} {XP : DXP} {cls : Value} {fs : List (Str × Vl)} {cs cs' : Cells} (hs : SubC cs' cs) (h : XP cls fs cs') : GhX K XP cls fs cs := ⟨cs', .sub hs, h⟩
theorem XRep.mono {K : Frag} {M M' : Hp} (s : Same M M') : ∀ {d : Option Addr} {fs : List (Str × Vl)}, XRep K M d fs → XRep K M' d fs
  | none, _, h => h
  | some _, _, ⟨gs, h, p⟩ => ⟨gs, s _ _ h, paired_mono (fun _ _ q => ⟨q.1, q.2.mono s⟩) p⟩
theorem fn_dataX {P : Program} {w : World} {K : Frag} {mg : Str → Option Value} {base : Heap} {x qual : Str} {st : Stmt} {f : Addr} {fd : FuncData} {N ps : List Str} {k : Nat} {dsp : DSp} {ws : DXP → WS} (F : Fun K x qual st f fd) (S : FnScope N ps (defScope st))
    (len : ∀ xs cs Q XP, dsp xs cs Q XP → xs.length = ps.length)
    (body : ∀ (cdv : Value) (A : Around) (outer : List Env) (s : Shared) (H : Hp) (E : XK), Room k (A.deeper (PyProof.Rows.envOfC qual (defScope st) s.heap.objs.size f cdv)) → ∀ (M0 : Hp) (W : DXP), Takes (cxOf (L2.CX P w) P w K mg base N qual (defScope st) f cdv A outer s H E) (liftW K M0 fun cls fs _ cs => W cls fs cs) → DSs0 (cxOf (L2.CX P w) P w K mg base N qual (defScope st) f cdv A outer s H E) M0 (defBody st) (ws W))
    (pure : ∀ xs cs Q XP, dsp xs cs Q XP → ws (GhX K XP) (retE K Q) (startD N.length xs) cs) : FnOk P w K mg base (L2.CX P w) (k + 1) f fd ps (liftSp K dsp) := by
  refine F.okX S (fun vs H Q E ⟨M, xs, cs, P', XP, o, r, d, _⟩ => (Paired.len r).trans (len xs cs P' XP d)) (fun cdv A outer s H vs Q E hr ⟨M, xs, cs, P', XP, o, r, d, kk, kx⟩ => ⟨_, body cdv A outer s H E hr M (GhX K XP) ?_, ?_⟩)
  · refine (takes_of (E := E) rfl rfl rfl rfl).imp fun cls d σ H ⟨M', ρ, cs, fs, sm, o, _, xr, cs2, gh, w⟩ => by
      obtain ⟨M2, s2, o2⟩ := gh M' H o
      exact kx cls d fs M2 H cs2 (sm.trans s2) o2 (xr.mono s2) w
  · exact ⟨M, startD N.length xs, cs, retE K P', Same.refl _, o, start_rho r, pure xs cs P' XP d, ⟨fun σ' ρ' M' H' cs' s o' _ p => kk.gh _ _ M' H' cs' s o' (rv_dat .non) p, kk.gh, fun _ _ _ _ _ _ _ _ p => p.elim, fun _ _ _ _ _ _ _ _ p => p.elim⟩⟩
/-- a call that may raise -/
def wCallX (dsp : DSp) (W : DWX) (wr : WA) : WE := fun ρ cs P => wr ρ cs fun xs cs1 => dsp xs cs1 P fun cls fs cs' => W cls fs ρ cs'
theorem de_callX {X : Cx} {M0 : Hp} {x : Str} {ps : List Str} {k : Nat} {dsp : DSp} {W : DWX} {p pos : Pos} {e : Expr} {es : List Expr} {wr : WA} (G : DOkX X.prog X.w X.K X.mg X.base x ps k dsp) (tk : Takes X (liftW X.K M0 W)) (hr : Room k X.A) (ha : DA0 X M0 (e :: es) wr) (hg : Gl X x := by rfl)
    (hdb : (x == ("__debug__" : Str)) = false := by decide) (he : starEach (e :: es) X.env = (false, eval e X.env) :: starEach es X.env := by rfl) (hpl : (backTo pos (starEach es X.env)).any (·.1) = false := by rfl) :
    DE0 X M0 (.Call (.Name x p) (e :: es) [] pos) (wCallX dsp W wr) := by
  obtain ⟨f, fd, F, hm, hk, hb⟩ := G.ex
  refine pe_imp (pe_callS (E := L2.WE (liftW X.K M0 W)) F hr hg hm hk hb (fun σ => passAt tk σ) ha hdb he hpl) fun σ H Q ⟨M, ρ, cs, P, sm, o, r0, p, kk⟩ => ?_
  refine ⟨M, ρ, cs, _, sm, o, r0, p, fun vs xs M1 H1 cs1 s1 o1 r1 p1 => ?_⟩
  exact ⟨M1, xs, cs1, P, _, o1, r1, p1, kk.mono s1, fun cls od fs M' H' cs' s2 o' xr w => ⟨M', ρ, cs', fs, sm.trans (s1.trans s2), o', r0.mono (s1.trans s2), xr, w⟩⟩
/-- raise C("..."), an own class without __init__ -/
def wRaise (cls : Value) (W : DWX) : WS := fun _ ρ cs => W cls [] ρ cs
theorem ds_raise {X : Cx} {M0 : Hp} {C : Addr} {bmB : List Value} {B newId initId : String} {W : DWX} {x m : Str} {j : Nat} {p p2 pos pos' : Pos} (F : ExcBaseFacts B newId initId bmB) (q : PySem.W.excIn X.K C bmB newId = true) (gC : X.mg x = some (.ref C)) (kC : PySem.W.keepIn X.K (.ref C) = true) (r : Raises X (.ref C)) (tk : Takes X (liftW X.K M0 W)) (hc : X.calm = true := by rfl) (hg : Gl X x := by rfl)
    (hdb : (x == ("__debug__" : Str)) = false := by decide) : DS0 X M0 (.Raise (some (.Call (.Name x p) [.Constant (.str m) j p2] [] pos)) none pos') (wRaise (.ref C) W) :=
  ps_imp (ps_raise hc tk (pmk_own F q gC kC r hg hdb)) fun E σ H ⟨M, ρ, cs, D, sm, o, r0, h, _⟩ => ⟨M, ρ, cs, [], sm, o, r0, rfl, h⟩
end DL
set_option maxRecDepth 100000
set_option maxHeartbeats 4000000
namespace DL
open PySem L2 PySem.Spec PyProof.Rows
section
variable {X : Cx} {M0 : Hp} {c e a b : Expr} {es : List Expr} {st : Stmt} {sts : List Stmt} {we wa wb : WE} {w : WT} {wr : WA} {ws wt : WS} {pos : Pos}
theorem dss_cons0 (h1 : DS0 X M0 st ws) (h2 : DSs0 X M0 sts wt) : DSs0 X M0 (st :: sts) (wSeq ws wt) :=
  pss_imp (pss_cons h1 h2) fun E σ H ⟨M, ρ, cs, D, sm, o, r, h, e⟩ => ⟨M, ρ, cs, _, sm, o, r, h, ⟨fun σ' ρ' M' H' cs' s o' r' p => ⟨M', ρ', cs', D, sm.trans s, o', r', p, e.mono s⟩, e.rt, e.bk, e.ct⟩⟩
theorem dss_one0 (h1 : DS0 X M0 st ws) : DSs0 X M0 [st] ws := pss_one h1
theorem ds_ret0 (h : DE0 X M0 e we) : DS0 X M0 (.Return (some e) pos) (wRet we) := ps_imp (ps_ret h) fun E σ H ⟨M, ρ, cs, D, sm, o, r, h, e⟩ => ⟨M, ρ, cs, _, sm, o, r, h, e.rt⟩
theorem ds_expr0 (h : DE0 X M0 e we) (hs : swapsWith e none pos.line X.env = pure false := by rfl) : DS0 X M0 (.Expr e pos) (wDrop we) :=
  ps_imp (ps_expr h hs) fun E σ H ⟨M, ρ, cs, D, sm, o, r, h, e⟩ => ⟨M, ρ, cs, _, sm, o, r, h, fun v x M' H' cs' s o' _ p => e.nx σ ρ M' H' cs' s o' (r.mono s) p⟩
theorem ds_if0 {sa sb : List Stmt} (hc : DT0 X M0 c w) (ha : DSs0 X M0 sa ws) (hb : DSs0 X M0 sb wt) : DS0 X M0 (.If c sa sb pos) (wIfS w ws wt) :=
  ps_imp (ps_if hc ha hb) fun E σ H ⟨M, ρ, cs, D, sm, o, r, h, e⟩ => ⟨M, ρ, cs, _, sm, o, r, h, fun b M' H' cs' s o' p => by
    cases b with
    | true => exact iteT ⟨M', ρ, cs', D, sm.trans s, o', r.mono s, by simpa using p, e.mono s⟩
    | false => exact iteF ⟨M', ρ, cs', D, sm.trans s, o', r.mono s, by simpa using p, e.mono s⟩⟩
theorem ds_set0 {i : Nat} {x : Str} {pos' : Pos} (hN : X.N.Nodup) (he : DE0 X M0 e we) (hi : X.N[i]? = some x := by rfl) (hx : Loc X.env.scope x := by first | exact Or.inl rfl | exact Or.inr rfl) (hs : swapsWith e (some (.Name x pos')) pos.line X.env = pure false := by rfl) (hf : X.fn x = true ∨ X.env.scope.names.lookup x = some .local := by first | exact .inl rfl | exact .inr rfl | assumption) :
    DS0 X M0 (.Assign [.Name x pos'] e pos) (wAsg we (gN i)) :=
  ps_imp (ps_set hN hi hx he hs hf) fun E σ H ⟨M, ρ, cs, D, sm, o, r, h, e⟩ => ⟨M, ρ, cs, _, sm, o, r, h, fun v x M' H' cs' s o' rv p => e.nx _ _ M' H' cs' s o' ((r.mono s).set rv) p⟩
end
/-- what the clauses wish of an exception -/
def wClauses (K : Frag) (Wout : DWX) (D : DEnds) : List (Value × WS) → DWX
  | [] => Wout
  | (c, ts) :: r => fun cls fs ρ cs => ∃ b, PySem.W.exmOne K cls c = some b ∧ (b = true → ts D ρ cs) ∧ (b = false → wClauses K Wout D r cls fs ρ cs)
def wTry (K : Frag) (Wout : DWX) (tb : DWX → WS) (l : List (Value × WS)) : WS := fun D ρ cs => tb (wClauses K Wout D l) D ρ cs
inductive DHds (X : Cx) (M0 : Hp) : List ExceptHandler → List (Value × WS) → Prop
  | nil : DHds X M0 [] []
  | cons {x : Str} {c : Value} {ts : WS} {b₀ : Stmt} {suite : List Stmt} {np pos' : Pos} {hds : List ExceptHandler} {l : List (Value × WS)} (hc : Names X x c)
      (hsu : ∀ (a : Addr) (oe : Obj) (pn : List (Addr × Obj)), DSs0 (X.suite a ((a, oe) :: pn)) M0 (b₀ :: suite) ts) (r : DHds X M0 hds l) :
      DHds X M0 (.ExceptHandler (some (.Name x np)) none (b₀ :: suite) pos' :: hds) ((c, ts) :: l)
theorem DHds.ok {X : Cx} {M0 : Hp} {hds : List ExceptHandler} {l : List (Value × WS)} (h : DHds X M0 hds l) : HdsOk X hds (l.map fun p => (p.1, fun _ _ _ => liftS0 X.K M0 p.2)) := by
  induction h with
  | nil => exact .nil
  | cons hc hsu r ih => exact .cons hc (fun a oe cls d pn _ _ => hsu a oe pn) ih
theorem clauses_ok {K : Frag} {M0 M1 : Hp} {Wout : DWX} {D : DEnds} {E : Ends} (sm : Same M0 M1) (eo : EndsOk K M1 D E) : ∀ {l : List (Value × WS)} {cls : Value} {d : Option Addr} {σ : L2.St} {H : Hp}, liftW K M1 (wClauses K Wout D l) cls d σ H → wMany K (liftW K M0 Wout) E (l.map fun p => (p.1, fun _ _ _ => liftS0 K M0 p.2)) cls d σ H
  | [], cls, d, σ, H, ⟨M, ρ, cs, fs, s1, o, r, xr, w⟩ => ⟨M, ρ, cs, fs, sm.trans s1, o, r, xr, w⟩
  | (c, ts) :: l, cls, d, σ, H, ⟨M, ρ, cs, fs, s1, o, r, xr, b, hb, w1, w2⟩ =>
    ⟨b, hb, fun h a _ => ⟨M, ρ, cs, D, sm.trans s1, o, r, w1 h, eo.mono s1⟩, fun h => clauses_ok sm eo ⟨M, ρ, cs, fs, s1, o, r, xr, w2 h⟩⟩
theorem ds_try {X : Cx} {M0 : Hp} {body : List Stmt} {h₀ : ExceptHandler} {hds : List ExceptHandler} {l : List (Value × WS)} {pos : Pos} {tb : DWX → WS} {Wout : DWX} (tk : Takes X (liftW X.K M0 Wout))
    (hb : ∀ (M1 : Hp) (W : DWX) (pn : List (Addr × Obj)) (xe : Value → Shared → Prop), Same M0 M1 → Takes (X.tr pn xe) (liftW X.K M1 W) → PassesOwn (model X.prog X.w) X.A X.env xe → DSs0 (X.tr pn xe) M1 body (tb W))
    (hh : DHds X M0 (h₀ :: hds) l) (hs : X.stack = X.env :: X.outer := by rfl) (hf : X.env.frame = some X.env.locals := by rfl) : DS0 X M0 (.Try body (h₀ :: hds) [] [] pos) (wTry X.K Wout tb l) := by
  refine ps_imp (ps_try_many (tb := fun W D σ H => ∃ (M1 : Hp) (W' : DWX), Same M0 M1 ∧ (∀ cls d σ H, liftW X.K M1 W' cls d σ H → W cls d σ H) ∧ liftS0 X.K M1 (tb W') D σ H) hs hf tk (fun W pn xe tk' po => ⟨fun pins s σ H D I ⟨M1, W', sm1, himp, h⟩ => (hb M1 W' pn xe sm1 (tk'.imp himp) po).run pins s σ H D I h⟩) hh.ok) fun E σ H ⟨M, ρ, cs, D, sm, o, r, h, e⟩ => ?_
  exact ⟨M, wClauses X.K Wout D l, sm, fun cls d σ H hw => clauses_ok sm e hw, M, ρ, cs, D, Same.refl _, o, r, h, e⟩
end DL
set_option maxRecDepth 100000
set_option maxHeartbeats 4000000
namespace DL
open PySem L2 PySem.Spec PyProof.Rows
/-- for, its body may raise -/
theorem ds_for0 {X : Cx} {M0 : Hp} {tg iter : Expr} {body : List Stmt} {pos : Pos} {js : List Nat} {wi : WI} {g : WG} {wb : WS} (hp : PassesOwn (model X.prog X.w) X.A X.env X.xe) (hi : DI X tg iter wi) (hg : DG X js tg g) (hb : DSs0 X M0 body wb) (hc : X.calm = true := by rfl)
    (hs : ∀ x, foldedSetIterable iter X.env x = pure x := by intro _; rfl) : DS0 X M0 (.For tg iter body [] pos) (wFor wi g wb) :=
  ps_imp (ps_for hp hc hi hg hb hs) fun E σ H ⟨M, ρ, cs, D, sm, o, r, h, e⟩ => by
    refine ⟨M, ρ, cs, _, o, r, h, fun J items G M1 H1 cs1 s1 o1 it ⟨Iv, i0, iG, turn, fin⟩ => ?_⟩
    refine ⟨fun i m σ' H' => m = items.length - i ∧ i ≤ items.length ∧ ∃ M' ρ' cs', Same M1 M' ∧ Ok X.K M' H' cs' ∧ Rho X.K M' σ' ρ' ∧ Iv i ρ' cs', ⟨items.length, by simp, Nat.zero_le _, M1, ρ, cs1, Same.refl _, o1, r.mono s1, i0⟩, ?_⟩
    rintro i m σ' H' ⟨rfl, hi, M', ρ', cs', s', o', r', inv⟩
    have g' := iG i ρ' cs' hi inv
    by_cases hlt : i < items.length
    · refine .inr ⟨it.go i M' H' cs' s' o' g' hlt, fun σ2 H2 => i + 1 ≤ items.length ∧ ∃ M2 ρ2 cs2, Same M1 M2 ∧ Ok X.K M2 H2 cs2 ∧ Rho X.K M2 σ2 ρ2 ∧ Iv (i + 1) ρ2 cs2, fun σ2 H2 q => ⟨_, by omega, rfl, q.1, q.2⟩, fun v H2 y => ?_⟩
      obtain ⟨M2, x, ex, s2, o2, rv⟩ := it.yld i M' H' cs' v H2 s' o' g' y hlt
      refine ⟨M2, ρ', cs', x, _, o2, r'.mono s2, rv, turn i x ρ' cs' ex inv, fun σ3 ρ3 M3 H3 cs3 s3 o3 r3 _ _ p3 => ?_⟩
      refine ⟨M3, ρ3, cs3, _, sm.trans (s1.trans (s'.trans (s2.trans s3))), o3, r3, p3, ⟨fun σ4 ρ4 M4 H4 cs4 s4 o4 r4 p4 => ?_, e.rt.mono (s1.trans (s'.trans (s2.trans s3))), ?_, fun σ4 ρ4 M4 H4 cs4 s4 o4 r4 p4 => ?_⟩⟩
      · exact ⟨hlt, M4, ρ4, cs4, s'.trans (s2.trans (s3.trans s4)), o4, r4, p4⟩
      · exact e.nx.mono (s1.trans (s'.trans (s2.trans s3)))
      · exact ⟨hlt, M4, ρ4, cs4, s'.trans (s2.trans (s3.trans s4)), o4, r4, p4⟩
    · have ei : i = items.length := by omega
      subst ei
      exact .inl ⟨it.stop M' H' cs' s' o' g', e.nx σ' ρ' M' H' cs' (s1.trans s') o' r' (fin ρ' cs' inv)⟩
end DL
set_option maxRecDepth 100000
set_option maxHeartbeats 4000000
namespace DL
open PySem L2 PySem.Spec PyProof.Rows
section
variable {X : Cx} {e : Expr} {es : List Expr} {st : Stmt} {sts : List Stmt} {we : WE} {wt : WT} {wr : WA} {ws : WS}
theorem DE.of0 (h : ∀ M0, DE0 X M0 e we) : DE X e we := ⟨fun pins s σ H Q I ⟨M, ρ, cs, P, o, r, p, k⟩ => (h M).run pins s σ H Q I ⟨M, ρ, cs, P, Same.refl _, o, r, p, k⟩⟩
theorem DT.of0 (h : ∀ M0, DT0 X M0 e wt) : DT X e wt := ⟨fun pins s σ H Q I ⟨M, ρ, cs, P, o, r, p, k⟩ => (h M).run pins s σ H Q I ⟨M, ρ, cs, P, Same.refl _, o, r, p, k⟩⟩
theorem DA.of0 (h : ∀ M0, DA0 X M0 es wr) : DA X es wr := ⟨fun pos pins s σ H Q I ⟨M, ρ, cs, P, o, r, p, k⟩ => (h M).run pos pins s σ H Q I ⟨M, ρ, cs, P, Same.refl _, o, r, p, k⟩⟩
theorem DS.of0 (h : ∀ M0, DS0 X M0 st ws) : DS X st ws := ⟨fun pins s σ H D I ⟨M, ρ, cs, P, o, r, p, k⟩ => (h M).run pins s σ H D I ⟨M, ρ, cs, P, Same.refl _, o, r, p, k⟩⟩
theorem DSs.of0 (h : ∀ M0, DSs0 X M0 sts ws) : DSs X sts ws := ⟨fun pins s σ H D I ⟨M, ρ, cs, P, o, r, p, k⟩ => (h M).run pins s σ H D I ⟨M, ρ, cs, P, Same.refl _, o, r, p, k⟩⟩
end
def wAlt (w u : WE) : WE := fun ρ cs P => w ρ cs P ∨ u ρ cs P
def wAltS (w u : WS) : WS := fun D ρ cs => w D ρ cs ∨ u D ρ cs
section
variable {X : Cx} {M0 : Hp} {e : Expr} {st : Stmt} {w u : WE} {ws us : WS}
theorem de_alt (h : DE X e w) (h' : DE X e u) : DE X e (wAlt w u) := ⟨fun pins s σ H Q I ⟨M, ρ, cs, P, o, r, p, k⟩ => p.elim (fun p => h.run pins s σ H Q I ⟨M, ρ, cs, P, o, r, p, k⟩) (fun p => h'.run pins s σ H Q I ⟨M, ρ, cs, P, o, r, p, k⟩)⟩
theorem ds_alt (h : DS X st ws) (h' : DS X st us) : DS X st (wAltS ws us) := ⟨fun pins s σ H D I ⟨M, ρ, cs, P, o, r, p, k⟩ => p.elim (fun p => h.run pins s σ H D I ⟨M, ρ, cs, P, o, r, p, k⟩) (fun p => h'.run pins s σ H D I ⟨M, ρ, cs, P, o, r, p, k⟩)⟩
end
def datF (fs : List (Str × Dat)) : List (Str × Vl) := fs.map fun p => (p.1, .dat p.2)
def coIns : Option CO → Option (Addr × List (Str × Vl))
  | some (.ins C fs) => some (C, fs)
  | _ => none
def insD (cs : Cells) : Vl → Option (Addr × List (Str × Vl))
  | .dat (.obj C fs) => some (C, datF fs)
  | .raw (.ref a) => coIns (cs a)
  | _ => none
theorem insD_obj {cs : Cells} {C : Addr} {fs : List (Str × Dat)} : insD cs (.dat (.obj C fs)) = some (C, datF fs) := rfl
theorem insD_cell {cs : Cells} {a : Addr} : insD cs (.raw (.ref a)) = coIns (cs a) := rfl
theorem coIns_ins {C : Addr} {fs : List (Str × Vl)} : coIns (some (.ins C fs)) = some (C, fs) := rfl
theorem drF_paired {K : Frag} {M : Hp} : ∀ {fs : List (Str × V)} {ds : List (Str × Dat)}, DrF K M fs ds → Paired (FR K M) fs (datF ds)
  | _, _, .nil => .nil
  | _, _, .cons h k => .cons ⟨rfl, h⟩ (drF_paired k)
theorem insD_ok {K : Frag} {M H : Hp} {cs : Cells} {v : V} {x : Vl} {C : Addr} {gs : List (Str × Vl)} (o : Ok K M H cs) (r : RV K M v x) (h : insD cs x = some (C, gs)) : ∃ a dx fs, v = .ref a ∧ H a = some (.ins C dx fs) ∧ Paired (FR K M) fs gs := by
  match x, r, h with
  | .dat (.obj C' ds), r, h =>
    cases h
    cases (show Dr K M v (.obj C ds) from r) with
    | obj q k => exact ⟨_, _, _, rfl, o.ex _ _ q, drF_paired k⟩
  | .raw (.ref a), r, h =>
    cases (show v = .ref a from r)
    have h : coIns (cs a) = some (C, gs) := h
    cases q : cs a with
    | none => rw [q] at h; cases h
    | some c =>
      rw [q] at h
      cases c with
      | ins C' fs' =>
        cases h
        obtain ⟨dx, fs, hH, pr⟩ := cell_ins o q
        exact ⟨a, dx, fs, rfl, hH, pr⟩
      | _ => cases h
/-- o.f, a field -/
def wFldI (C : Addr) (f : Str) (wo : WE) : WE := fun ρ cs P => wo ρ cs fun x cs1 => ∃ gs v, insD cs1 x = some (C, gs) ∧ gs.lookup f = some v ∧ P v cs1
/-- o.f, a constant of the class -/
def wConI (C : Addr) (f : Str) (d : Dat) (wo : WE) : WE := fun ρ cs P => wo ρ cs fun x cs1 => ∃ gs, insD cs1 x = some (C, gs) ∧ gs.lookup f = none ∧ P (.dat d) cs1
/-- o.f, a property -/
def wPropI (C : Addr) (dsp : DSp) (wo : WE) : WE := fun ρ cs P => wo ρ cs fun x cs1 => ∃ gs, insD cs1 x = some (C, gs) ∧ dsp [x] cs1 P X0
/-- o.m(..) -/
def wMethI (C : Addr) (m : Str) (dsp : DSp) (wo : WE) (wr : WA) : WE := fun ρ cs P => wo ρ cs fun x cs1 => ∃ gs, insD cs1 x = some (C, gs) ∧ gs.lookup m = none ∧ wr ρ cs1 fun xs cs2 => dsp (x :: xs) cs2 P X0
def wMethX (C : Addr) (m : Str) (dsp : DSp) (W : DWX) (wo : WE) (wr : WA) : WE := fun ρ cs P => wo ρ cs fun x cs1 => ∃ gs, insD cs1 x = some (C, gs) ∧ gs.lookup m = none ∧ wr ρ cs1 fun xs cs2 => dsp (x :: xs) cs2 P fun cls fs cs' => W cls fs ρ cs'
structure DPok (P : Program) (w : World) (K : Frag) (mg : Str → Option Value) (base : Heap) (C : Addr) (f : Str) (k : Nat) (dsp : DSp) : Prop where
  ex : ∃ g fd p ps, FnOk P w K mg base CX0 k g fd ps (liftSp K dsp) ∧ Cls K C ∧ PropOf K C f p g ∧ Binds K fd ps []
structure DMokX (P : Program) (w : World) (K : Frag) (mg : Str → Option Value) (base : Heap) (C : Addr) (m : Str) (ps : List Str) (k : Nat) (dsp : DSp) : Prop where
  ex : ∃ f fd, FnOk P w K mg base (L2.CX P w) k f fd ps (liftSp K dsp) ∧ Cls K C ∧ Meth K C m f ∧ Binds K fd ps []
section
variable {X : Cx} {M0 : Hp} {a b c e o : Expr} {es : List Expr} {wa wb wc we wo wv : WE} {w u : WT} {wr : WA} {pos : Pos} {C : Addr} {f m : Str}
theorem de_fldI0 (hc : Cls X.K C) (hn : NoAttr X.K C f) (ho : DE0 X M0 o wo) (hb : attributeBase o f X.env (eval o X.env) = eval o X.env := by rfl) : DE0 X M0 (.Attribute o f pos) (wFldI C f wo) :=
  pe_imp (pe_fld ho hb) fun σ H Q ⟨M, ρ, cs, P, sm, o, r0, p, k⟩ => ⟨M, ρ, cs, _, sm, o, r0, p, fun v x M1 H1 cs1 s1 o1 r1 ⟨gs, y, hi, hl, p1⟩ => by
    obtain ⟨a, dx, fs, ev, hH, pr⟩ := insD_ok o1 r1 hi
    obtain ⟨z, hz, rz⟩ := (fr_lookup pr).1 y hl
    exact ⟨a, C, dx, fs, z, ev, hH, hc, hn, hz, k _ _ M1 H1 cs1 s1 o1 rz p1⟩⟩
theorem de_fldI (hc : Cls X.K C) (hn : NoAttr X.K C f) (ho : DE X o wo) (hb : attributeBase o f X.env (eval o X.env) = eval o X.env := by rfl) : DE X (.Attribute o f pos) (wFldI C f wo) := .of0 fun _ => de_fldI0 hc hn ho.d0 hb
theorem de_propI0 {k : Nat} {dsp : DSp} (G : DPok X.prog X.w X.K X.mg X.base C f k dsp) (hr : Room (k + 1) X.A) (ho : DE0 X M0 o wo) (hb : attributeBase o f X.env (eval o X.env) = eval o X.env := by rfl) : DE0 X M0 (.Attribute o f pos) (wPropI C dsp wo) := by
  obtain ⟨g, fd, p, ps, F, hc, hp, hbd⟩ := G.ex
  refine pe_imp (pe_prop ho hc hp F hr hbd .nil pass0 hb) fun σ H Q ⟨M, ρ, cs, P, sm, o, r0, p, kk⟩ => ⟨M, ρ, cs, _, sm, o, r0, p, fun v x M1 H1 cs1 s1 o1 r1 ⟨gs, hi, p1⟩ => ?_⟩
  obtain ⟨a, dx, fs, ev, hH, pr⟩ := insD_ok o1 r1 hi
  refine ⟨a, dx, fs, ev, hH, ?_⟩
  subst ev
  exact ⟨M1, [x], cs1, P, X0, o1, .cons r1 .nil, p1, kk.mono s1, fun _ _ _ _ _ _ _ _ _ z => z.elim⟩
theorem de_propI {k : Nat} {dsp : DSp} (G : DPok X.prog X.w X.K X.mg X.base C f k dsp) (hr : Room (k + 1) X.A) (ho : DE X o wo) (hb : attributeBase o f X.env (eval o X.env) = eval o X.env := by rfl) : DE X (.Attribute o f pos) (wPropI C dsp wo) := .of0 fun _ => de_propI0 G hr ho.d0 hb
theorem de_methI0 {pl : Sem Bool} {ps : List Str} {k : Nat} {dsp : DSp} {apos : Pos} (G : DMok X.prog X.w X.K X.mg X.base C m ps k dsp) (hr : Room k X.A) (ho : DE0 X M0 o wo) (ha : DA0 X M0 (e :: es) wr)
    (hst : starEach (e :: es) X.env = (false, eval e X.env) :: starEach es X.env := by rfl) (hpl : (backTo pos (starEach es X.env)).any (·.1) = false := by rfl)
    (ht : eval (.Call (.Attribute o m apos) (e :: es) [] pos) X.env = (eval o X.env >>= fun ov => standAt apos.atName >>= fun _ => holding [ov] (getMethod ov m pl) >>= fun q => callWith pos q.1 q.2 (backTo pos (starEach (e :: es) X.env)) (backToKw pos (keywordEach [] X.env))) := by rfl) : DE0 X M0 (.Call (.Attribute o m apos) (e :: es) [] pos) (wMethI C m dsp wo wr) := by
  obtain ⟨f, fd, F, hc, hm, hb⟩ := G.ex
  refine pe_imp (pe_meth ho hc hm F hr hb .nil pass0 ha hst hpl ht) fun σ H Q ⟨M, ρ, cs, P, sm, o, r0, p, kk⟩ => ?_
  refine ⟨M, ρ, cs, _, sm, o, r0, p, fun v x M1 H1 cs1 s1 o1 r1 ⟨gs, hi, hl, p1⟩ => ?_⟩
  obtain ⟨a, dx, fs, ev, hH, pr⟩ := insD_ok o1 r1 hi
  refine ⟨a, dx, fs, ev, hH, (fr_lookup pr).2 hl, M1, ρ, cs1, _, sm.trans s1, o1, r0.mono s1, p1, fun vs xs M2 H2 cs2 s2 o2 r2 p2 => ?_⟩
  show liftSp X.K dsp (v :: (vs ++ [])) H2 Q E0
  rw [List.append_nil]
  exact ⟨M2, _, cs2, P, X0, o2, .cons (r1.mono s2) r2, p2, kk.mono (s1.trans s2), fun _ _ _ _ _ _ _ _ _ z => z.elim⟩
theorem de_methI {pl : Sem Bool} {ps : List Str} {k : Nat} {dsp : DSp} {apos : Pos} (G : DMok X.prog X.w X.K X.mg X.base C m ps k dsp) (hr : Room k X.A) (ho : DE X o wo) (ha : DA X (e :: es) wr)
    (hst : starEach (e :: es) X.env = (false, eval e X.env) :: starEach es X.env := by rfl) (hpl : (backTo pos (starEach es X.env)).any (·.1) = false := by rfl)
    (ht : eval (.Call (.Attribute o m apos) (e :: es) [] pos) X.env = (eval o X.env >>= fun ov => standAt apos.atName >>= fun _ => holding [ov] (getMethod ov m pl) >>= fun q => callWith pos q.1 q.2 (backTo pos (starEach (e :: es) X.env)) (backToKw pos (keywordEach [] X.env))) := by rfl) : DE X (.Call (.Attribute o m apos) (e :: es) [] pos) (wMethI C m dsp wo wr) := .of0 fun _ => de_methI0 (pl := pl) G hr ho.d0 ha.d0 hst hpl ht
theorem de_methI00 {pl : Sem Bool} {ps : List Str} {k : Nat} {dsp : DSp} {apos : Pos} (G : DMok X.prog X.w X.K X.mg X.base C m ps k dsp) (hr : Room k X.A) (ho : DE0 X M0 o wo)
    (ht : eval (.Call (.Attribute o m apos) [] [] pos) X.env = (eval o X.env >>= fun ov => standAt apos.atName >>= fun _ => holding [ov] (getMethod ov m pl) >>= fun q => callWith pos q.1 q.2 (backTo pos (starEach [] X.env)) (backToKw pos (keywordEach [] X.env))) := by rfl) : DE0 X M0 (.Call (.Attribute o m apos) [] [] pos) (wMethI C m dsp wo wNil) := by
  obtain ⟨f, fd, F, hc, hm, hb⟩ := G.ex
  refine pe_imp (pe_meth0 ho hc hm F hr hb .nil pass0 ht) fun σ H Q ⟨M, ρ, cs, P, sm, o, r0, p, kk⟩ => ?_
  refine ⟨M, ρ, cs, _, sm, o, r0, p, fun v x M1 H1 cs1 s1 o1 r1 ⟨gs, hi, hl, p1⟩ => ?_⟩
  obtain ⟨a, dx, fs, ev, hH, pr⟩ := insD_ok o1 r1 hi
  refine ⟨a, dx, fs, ev, hH, (fr_lookup pr).2 hl, ?_⟩
  show liftSp X.K dsp (v :: ([] ++ [])) H1 Q E0
  exact ⟨M1, _, cs1, P, X0, o1, .cons r1 .nil, p1, kk.mono s1, fun _ _ _ _ _ _ _ _ _ z => z.elim⟩
theorem de_methIn {pl : Sem Bool} {ps : List Str} {k : Nat} {dsp : DSp} {apos : Pos} (G : DMok X.prog X.w X.K X.mg X.base C m ps k dsp) (hr : Room k X.A) (ho : DE X o wo)
    (ht : eval (.Call (.Attribute o m apos) [] [] pos) X.env = (eval o X.env >>= fun ov => standAt apos.atName >>= fun _ => holding [ov] (getMethod ov m pl) >>= fun q => callWith pos q.1 q.2 (backTo pos (starEach [] X.env)) (backToKw pos (keywordEach [] X.env))) := by rfl) : DE X (.Call (.Attribute o m apos) [] [] pos) (wMethI C m dsp wo wNil) := .of0 fun _ => de_methI00 (pl := pl) G hr ho.d0 ht
end
end DL
set_option maxRecDepth 100000
set_option maxHeartbeats 4000000
namespace XKw
open PySem PySem.W PySem.Calls PyProof.Rows PySem.HandSPX
section
variable {M : Model} {A : Around} {E : Value → Shared → Prop} {h : Heap} {g : Array GenState} {d : Drawn} {t : Nat} {os : OsState} {kw : List (Str × Value)}
variable {nm q : Str} {C N : Addr} {bs bm bmB : List Value} {hdct : Bool} {sn : List Str} {sub : List Value} {ab : Bool} {col : Option Bool} {dd : Option Addr} {k0 k1 k2 k3 k5 : Option Value} {B newId initId : String}
theorem ck_new (F : ExcBaseFacts B newId initId bmB) (hT : ∀ X : String, bm.contains (.type X) = bmB.contains (.type X)) {Q : Unit → Shared → Prop}
    (hC : h.get? C = some (excClassObj nm q C N bs bm hdct sn sub ab col dd k0 k1 k2 k3 k5 newId))
    (hq : Q () ⟨h, g, d, t, os⟩) : wpAny M A (checkBuiltinCall newId ⟨[.ref C], kw⟩) Q E ⟨h, g, d, t, os⟩ := by
  have hcont : (Value.ref C :: bm).contains (.type B) = true := by
    rw [List.contains_cons, hT, F.hasB, Bool.or_true]
  have hstar := F.noStar
  simp only [checkBuiltinCall, F.newKind, F.newSplit, F.newRow]
  repeat (first
    | refine wpAny_loadPart_at hC ?_
    | (refine wpAny_isSubtype_exc hC ?_
       rw [hcont])
    | refine wpAny_staticBase_exc hC ?_
    | refine wpAny_madeBy_exc hC ?_
    | simp only [bne_self_eq_false, Bool.false_eq_true, if_false]
    | wp_step)
  exact hq
end
section
variable {prog : Program} {w : World} {A : Around} {E : Value → Shared → Prop} {R : Result → Shared → Prop} {h : Heap} {g : Array GenState} {d : Drawn} {t : Nat} {os : OsState} {kw : List (Str × Value)}
variable {nm q : Str} {C N : Addr} {bs bm bmB : List Value} {hdct : Bool} {sn : List Str} {sub : List Value} {ab : Bool} {col : Option Bool} {dd : Option Addr} {k0 k1 k2 k3 k5 : Option Value} {B newId initId : String}
theorem nw (F : ExcBaseFacts B newId initId bmB) (hT : ∀ X : String, bm.contains (.type X) = bmB.contains (.type X))
    (hC : h.get? C = some (excClassObj nm q C N bs bm hdct sn sub ab col dd k0 k1 k2 k3 k5 newId))
    (hq : R (.ok (.ret (.ref (h.objs.size + 1)))) ⟨(h.push (W.kdv_tup [])).push (excO C h.objs.size), g, d, t, os⟩) :
    codeAny (model prog w) A (.builtin newId ⟨[.ref C], kw⟩) R ⟨h, g, d, t, os⟩ := by
  have hends := F.ends
  have hcB : (Value.ref C :: bm).contains (.type B) = true := by
    rw [List.contains_cons, hT, F.hasB, Bool.or_true]
  have hcA : (Value.ref C :: bm).contains (.type "AttributeError") = false := by
    rw [List.contains_cons, hT, F.noAttr]
    rfl
  have hcN : (Value.ref C :: bm).contains (.type "NameError") = false := by
    rw [List.contains_cons, hT, F.noName]
    rfl
  refine codeAny_builtinAt F.entry ?_
  unfold Builtin.«BaseException.__new__»
  refine PySem.wpAt_bind ?_
  show PySem.wpAt _ _ _ (stack >>= _) _ _ _
  refine PySem.wpAt_bind (PySem.wpAt_stack fun p below => PySem.wpAt_of_wpAny ?_)
  wp_walk
  refine PySem.wpAt_of_wpAny ?_
  rw [F.owner]
  repeat (first
    | with_reducible refine wpAny_madeHere_exc F.canon hC ?_
    | with_reducible refine wpAny_loadPart_at hC ?_
    | (with_reducible refine wpAny_isSubtype_exc hC ?_
       first | rw [hcB] | rw [hcA] | rw [hcN])
    | wp_step)
  show R _ _
  rw [Heap.size_push]
  exact hq
theorem tcall (F : ExcBaseFacts B newId initId bmB) (hT : ∀ X : String, bm.contains (.type X) = bmB.contains (.type X)) {fI : Addr} {Q : Fin → Shared → Prop}
    (hC : h.get? C = some (excClassObj nm q C N bs bm hdct sn sub ab col dd k0 k1 k2 k3 k5 newId))
    (hi : W.Looks (model prog w) h (typeLookup (.ref C) "__init__") (some (.ref fI))) (hb : ∀ self, W.Looks (model prog w) h (bindSpecial (.ref fI) self) (.ref fI, [self]))
    (hq : codeAny (model prog w) A (.call (.ref fI) ⟨[.ref (h.objs.size + 1)], kw⟩)
      (fun r s' => match r with
        | .ok (.ret v) => v = .none ∧ Q (.done (.ret (.ref (h.objs.size + 1)))) s'
        | .ok _ => False
        | .error e => E e s')
      ⟨(h.push (W.kdv_tup [])).push (excO C h.objs.size), g, d, t, os⟩) :
    wpAny (model prog w) A (Builtin.«type.__call__» ⟨[.ref C], kw⟩) Q E ⟨h, g, d, t, os⟩ := by
  repeat (first
    | with_reducible refine wpAny_loadPart_at hC ?_
    | with_reducible refine wpAny_madeBy_exc hC ?_
    | wp_step)
  refine codeAny_call_builtin_code (Code.quiet_builtin _ F.quiet) (ck_new F hT hC ?_)
  refine nw F hT hC ?_
  show wpAny _ _ _ _ _ _
  have k : ∀ b o, h.get? b = some o → ((h.push (W.kdv_tup [])).push (excO C h.objs.size)).get? b = some o := fun b o e =>
    Heap.get?_push_of_some _ (Heap.get?_push_of_some _ e)
  have hC₁ := k _ _ hC
  have hget : ((h.push (W.kdv_tup [])).push (excO C h.objs.size)).get? (h.objs.size + 1) = some (excO C h.objs.size) := by heap_get
  have hcC : (Value.ref C :: bm).contains (.ref C) = true := by simp
  have i1 := hi.keeps k
  have b1 := (hb (.ref (h.objs.size + 1))).keeps k
  unfold isInstance
  repeat (first
    | with_reducible refine wpAny_loadPart_at hget ?_
    | (with_reducible refine wpAny_isSubtype_exc hC₁ ?_
       rw [hcC])
    | wp_step)
  show wpAny _ _ (typeLookup (.ref C) _) _ _ _
  refine i1.at ?_
  refine wpAny_holding (wpAny_bind (b1.at ?_))
  refine wpAny_bind (wpAny_call (codeAny_mono hq fun r s' z => ?_))
  rcases r with e | (v | _ | _ | _)
  all_goals first | exact z | exact (show False from z).elim | skip
  obtain ⟨rfl, z⟩ := z
  first
    | exact wpAny_pure (wpAny_pure z)
    | (wp_walk; exact z)
theorem call (F : ExcBaseFacts B newId initId bmB) (hT : ∀ X : String, bm.contains (.type X) = bmB.contains (.type X)) {fI : Addr}
    (hC : h.get? C = some (excClassObj nm q C N bs bm hdct sn sub ab col dd k0 k1 k2 k3 k5 newId))
    (hi : W.Looks (model prog w) h (typeLookup (.ref C) "__init__") (some (.ref fI))) (hb : ∀ self, W.Looks (model prog w) h (bindSpecial (.ref fI) self) (.ref fI, [self]))
    (hq : codeAny (model prog w) (A.under (.builtin "type.__call__" ⟨[.ref C], kw⟩)) (.call (.ref fI) ⟨[.ref (h.objs.size + 1)], kw⟩) (W.InitBack (h.objs.size + 1) R)
      ⟨(h.push (W.kdv_tup [])).push (excO C h.objs.size), g, d, t, os⟩) :
    codeAny (model prog w) A (.call (.ref C) ⟨[], kw⟩) R ⟨h, g, d, t, os⟩ := by
  have f1 := tc_lookup
  have f2 := tc_bind (.ref C)
  have hTy : (⟨h, g, d, t, os⟩ : Shared).TypeIs (.ref C) "type" := ⟨_, hC, rfl⟩
  refine codeAny_of_tree ?_
  show wpAny _ _ (callAny (.ref C) _) _ _ _
  repeat (any_goals (first
    | assumption
    | with_reducible refine wpAny_loadPart_at hC ?_
    | wp_step))
  refine ⟨rfl, ?_⟩
  refine codeAny_call_builtin_at (Code.quiet_builtin _ (by decide +kernel)) entry_typeCall (wpAny_check_type_call_sub hC (tcall F hT hC hi hb ?_))
  refine codeAny_mono hq fun r s' z => ?_
  rcases r with e | (v | _ | _ | _) <;> exact z
end
end XKw
set_option maxRecDepth 100000
set_option maxHeartbeats 4000000
namespace XKw
open PySem PySem.Spec PyProof.Rows L2 DL
/-- Base.__init__(self, ..), Base an own class over ValueError without __init__ -/
theorem pe_oeinit {X : Cx} {B : Str} {CB : Addr} {mc : Value} {e : Expr} {es : List Expr} {ta : TA} {p1 p2 pos : Pos} {pl : Sem Bool} (hm : X.mg B = some (.ref CB)) (r : ClX.CRead X.K CB mc) (vV : PySem.W.findCls X.K (.ref CB) mc "__init__" = some (.val (.builtin "ValueError.__init__"))) (ha : PA X (e :: es) ta) (hg : Gl X B)
    (hdb : (B == ("__debug__" : Str)) = false := by decide)
    (hc : eval (.Call (.Attribute (.Name B p1) "__init__" p2) (e :: es) [] pos) X.env = (eval (.Name B p1) X.env >>= fun ov => standAt p2.atName >>= fun _ => holding [ov] (getMethod ov "__init__" pl) >>= fun q => callWith pos q.1 q.2 (backTo pos (starEach (e :: es) X.env)) (backToKw pos (keywordEach [] X.env))) := by rfl)
    (he : starEach (e :: es) X.env = (false, eval e X.env) :: starEach es X.env := by rfl) (hpl : (backTo pos (starEach es X.env)).any (·.1) = false := by rfl) :
    PE X (.Call (.Attribute (.Name B p1) "__init__" p2) (e :: es) [] pos) (tVeI X.K ta) := by
  refine ⟨fun pins s σ H Q I h => ?_⟩
  refine PySem.W.methodCall_KW (pl := pl) (ld_glob I hg hm ?_ hdb) hc
  refine PySem.W.method_cls I.kIn r.ga (PySem.W.cls_value I.kIn r.rd vV (by decide +kernel) ?_)
  show wpAny _ _ (callWith pos (Value.builtin "ValueError.__init__") [] (backTo pos (starEach (e :: es) X.env)) []) _ _ _
  refine PyProof.Rows.callWith_method1 (thn (ha.run pos pins _ σ H _ (I.tok _) h) fun us s1 ⟨vs, H1, I1, r1, a, C, ws, ev, hl, T, ea, q⟩ => ?_) he hpl
  subst ev
  cases r1 with
  | @cons _ u0 _ ur ra rw' =>
    have e0 : u0 = Value.ref a := ra
    subst e0
    have hlen : ur.length ≤ sizeLine := by
      rw [← Paired.length rw', sizeLine_eq]
      omega
    exact oinit_ok T I1 ea hlen fun s' J => ⟨.non, H1, J, rfl, q⟩
/-- what an __init__(self, *, f) and an __init__(self, *, f, g) promise -/
def sp1 (K : Frag) (f : Str) : Sp := fun vs H Q _ => ∃ (a C : Addr) (y : V), vs = [.ref a, y] ∧ OexC K C ∧ PySem.W.findIn K (.ref C) f = some none ∧ H a = some (exo a C none) ∧
  ∀ dx, H dx = none → dx ≠ a → Q .non (upd (upd H dx (exd dx [(f, y)])) a (exo a C (some dx)))
def sp2 (K : Frag) (f g : Str) : Sp := fun vs H Q _ => ∃ (a C : Addr) (y z : V), vs = [.ref a, y, z] ∧ OexC K C ∧ PySem.W.findIn K (.ref C) f = some none ∧ PySem.W.findIn K (.ref C) g = some none ∧ H a = some (exo a C none) ∧
  ∀ dx, H dx = none → dx ≠ a → Q .non (upd (upd (upd H dx (exd dx [(f, y)])) a (exo a C (some dx))) dx (exd dx [(g, z), (f, y)]))
/-- C(k = e, ..) -/
def tMkK (C : Addr) (n : Nat) (sp : Sp) (gV : List V → List V → List V) (tk : TA) : L2.St → Hp → XK → Prop := fun σ H Q => tk σ H fun zs H1 => zs.length = n ∧ ∀ a, H1 a = none → sp (gV [.ref a] zs) (upd H1 a (exo a C none))
  (fun v H2 => v = .non ∧ ∃ (d : Addr) (fs : List (Str × V)), H2 a = some (exo a C (some d)) ∧ H2 d = some (exd d fs) ∧ H1 d = none ∧ Q (.ref C) (some d) (upd (del H2 a) d (.xd fs))) (fun _ _ _ => False)
theorem pmk_kw {X : Cx} {CX : CXT} {x : Str} {C fI : Addr} {k : Nat} {fd : FuncData} {ps ks : List Str} {sp : Sp} {g : List Value → List Value → List Value} {gV : List V → List V → List V} {kws : List Keyword} {tk : TA} {p pos : Pos} (T : OexC X.K C) (iC : PySem.W.findIn X.K (.ref C) "__init__" = some (some (.ref fI))) (tI : PySem.W.typeIn X.K (.ref fI) = some (.type "function"))
    (F1 : FnOk X.prog X.w X.K X.mg X.base CX k fI fd ps sp) (hr : Room (k + 1) X.A) (hb : KBn X.K fd ps 1 ks g gV) (hx : Passes CX X (fun _ _ _ => False)) (hg : Gl X x) (hm : X.mg x = some (.ref C)) (hkw : PK X kws tk)
    (hall : (backToKw pos (keywordEach kws X.env)).all (·.1.isSome) = true := by rfl) (hks : (backToKw pos (keywordEach kws X.env)).filterMap (·.1) = ks := by rfl) (hdb : (x == ("__debug__" : Str)) = false := by decide)
    (hpl : ((backTo pos (starEach [] X.env)).any (·.1) || (backToKw pos (keywordEach kws X.env)).any (·.1.isNone)) = false := by rfl) :
    PMk X (.Call (.Name x p) [] kws pos) (tMkK C ks.length sp gV tk) := by
  intro pins s σ H Q I h
  obtain ⟨nm, q, N, bs, bm, sn, sub, ab, col, dd, k0, k1, k2, k3, k5, hC, hbm⟩ := T.cls
  refine wpAny_Call_Name_kw (ld_glob I hg hm ?_ hdb)
  refine PySem.W.callWith_KW0 (h₀ := X.base) I.ok.mod.kin T.kC hall ?_ hpl
  refine thn (hkw.run pos pins s σ H _ I h) fun ws s1 ⟨zs, H1, I1, rz, l2, q1⟩ => ⟨I1.kIn, ?_⟩
  rw [hks]
  show wpAny _ _ (PySem.call (.ref C) [] (ks.zip ws)) _ _ _
  obtain ⟨hp, gg, dr, tt, os⟩ := s1
  have hsz : hp.objs.size ≤ hp.objs.size + 1 := Nat.le_succ _
  have hn : H1 (hp.objs.size + 1) = none := I1.hok.fresh hsz
  have hq := q1 (hp.objs.size + 1) hn
  have kk : ∀ b o, hp.get? b = some o → ((hp.push (PySem.W.kdv_tup [])).push (PySem.HandSPX.excO C hp.objs.size)).get? b = some o := fun b o e =>
    Heap.get?_push_of_some _ (Heap.get?_push_of_some _ e)
  have hget : ((hp.push (PySem.W.kdv_tup [])).push (PySem.HandSPX.excO C hp.objs.size)).get? (hp.objs.size + 1) = some (PySem.HandSPX.excO C hp.objs.size) := by heap_get
  have I2 : Inv X pins σ (upd H1 (hp.objs.size + 1) (exo (hp.objs.size + 1) C none)) ⟨(hp.push (PySem.W.kdv_tup [])).push (PySem.HandSPX.excO C hp.objs.size), gg, dr, tt, os⟩ :=
    I1.laid (t' := tt) (a := hp.objs.size + 1) (o := exo (hp.objs.size + 1) C none) kk hsz (exo_ok hget)
  have r1 : Vals [V.ref (hp.objs.size + 1)] [Value.ref (hp.objs.size + 1)] := .cons rfl .nil
  have r2 := hb.rel r1 rz
  refine wpAny_call (XKw.call F.excBase_ValueError (fun Y => PySem.HandSPX.refsVE_contains Y bm hbm) (I1.kIn _ _ hC) (PySem.W.looks_findIn I1.kIn iC) (fun self => PySem.W.bind_fn I1.kIn self tI)
    (codeAny_mono (F1.run _ X.stack _ _ ⟨[Value.ref (hp.objs.size + 1)], ks.zip ws⟩ (g [Value.ref (hp.objs.size + 1)] ws) _ _ (fun _ _ _ => False) (hr.make C [] (ks.zip ws)) (I2.env0.make C [] (ks.zip ws)) (hb.to _ [Value.ref (hp.objs.size + 1)] ws I2.kIn rfl (rz.length.symm.trans l2)) r2 hq) fun r s' hq' => ?_))
  cases r with
  | error er => exact hx pins σ _ _ er s' I2 hq'
  | ok fl =>
    cases fl with
    | ret u =>
      obtain ⟨v, H2, os2, bare2, un2, hok2, rv, ev, d, fs, ea, ed, hd1, q2⟩ := hq'
      subst ev
      obtain ⟨h2, g2, d2, t2, os'⟩ := s'
      exact ⟨rv, mk_end (raises_own T.exC T.tyC) I1 hsz kk un2 hok2 os2 bare2 ea ed hd1 q2⟩
    | next => exact False.elim hq'
    | brk => exact False.elim hq'
    | cont => exact False.elim hq'
theorem xd_ok {K : Frag} {M H1 H3 : Hp} {cs : Cells} {a d : Addr} {fs : List (Str × V)} (o : Ok K M H1 cs) (ha : H1 a = none) (hd : H1 d = none) (h3 : ∀ b, b ≠ a → b ≠ d → H3 b = H1 b) : Same M (upd M d (.xd fs)) ∧ Ok K (upd M d (.xd fs)) (upd (del H3 a) d (.xd fs)) cs := by
  have hs : Same M (upd M d (.xd fs)) := same_upd (o.free hd)
  refine ⟨hs, ⟨fun b ob e => ?_, fun b c e => ?_⟩⟩
  · by_cases hb : b = d
    · subst hb
      rw [upd_same] at e ⊢
      exact e
    · rw [upd_ne hb] at e ⊢
      have e1 := o.ex b ob e
      have hba : b ≠ a := ne_of_none e1 ha
      rw [del_ne hba, h3 b hba hb]
      exact e1
  · obtain ⟨m, ob, q, r⟩ := o.cell b c e
    have hba : b ≠ a := ne_of_none q ha
    have hbd : b ≠ d := ne_of_none q hd
    exact ⟨by rw [upd_ne hbd]; exact m, ob, by rw [upd_ne hbd, del_ne hba, h3 b hba hbd]; exact q, r.mono hs⟩
end XKw
namespace DL
open PySem PySem.Spec PyProof.Rows L2 XKw
/-- what stands of an exception class with one field, with two -/
structure Xc1 (P : Program) (w : World) (K : Frag) (mg : Str → Option Value) (base : Heap) (x : Str) (C : Addr) (f : Str) : Prop where
  T : OexC K C
  hm : mg x = some (.ref C)
  hf : PySem.W.findIn K (.ref C) f = some none
  ex : ∃ fI fd, PySem.W.findIn K (.ref C) "__init__" = some (some (.ref fI)) ∧ PySem.W.typeIn K (.ref fI) = some (.type "function") ∧ FnOk P w K mg base CX0 1 fI fd ["self", f] (sp1 K f) ∧ KBn K fd ["self", f] 1 [f] (fun us ws => us ++ ws) (fun us ws => us ++ ws)
structure Xc2 (P : Program) (w : World) (K : Frag) (mg : Str → Option Value) (base : Heap) (x : Str) (C : Addr) (f g : Str) : Prop where
  T : OexC K C
  hm : mg x = some (.ref C)
  hf : PySem.W.findIn K (.ref C) f = some none
  hg : PySem.W.findIn K (.ref C) g = some none
  ex : ∃ fI fd, PySem.W.findIn K (.ref C) "__init__" = some (some (.ref fI)) ∧ PySem.W.typeIn K (.ref fI) = some (.type "function") ∧ FnOk P w K mg base CX0 1 fI fd ["self", f, g] (sp2 K f g) ∧ KBn K fd ["self", f, g] 1 [f, g] (fun us ws => us ++ ws) (fun us ws => us ++ ws)
def wRaise1 (C : Addr) (f : Str) (we : WE) (W : DWX) : WS := fun _ ρ cs => we ρ cs fun x cs1 => W (.ref C) [(f, x)] ρ cs1
def wRaise2 (C : Addr) (f g : Str) (we wd : WE) (W : DWX) : WS := fun _ ρ cs => we ρ cs fun x cs1 => wd ρ cs1 fun y cs2 => W (.ref C) [(g, y), (f, x)] ρ cs2
section
variable {X : Cx} {M0 : Hp} {W : DWX} {x f g : Str} {C : Addr} {e e2 : Expr} {we wd : WE} {p pos pos' kp kp2 : Pos}
theorem ds_raise1 (G : Xc1 X.prog X.w X.K X.mg X.base x C f) (tk : Takes X (liftW X.K M0 W)) (hr : Room 2 X.A) (he : DE0 X M0 e we) (hc : X.calm = true := by rfl) (hg : Gl X x := by rfl) (hdb : (x == ("__debug__" : Str)) = false := by decide)
    (hall : (backToKw pos (keywordEach [⟨some f, e, kp⟩] X.env)).all (·.1.isSome) = true := by rfl) (hks : (backToKw pos (keywordEach [⟨some f, e, kp⟩] X.env)).filterMap (·.1) = [f] := by rfl)
    (hpl : ((backTo pos (starEach [] X.env)).any (·.1) || (backToKw pos (keywordEach [⟨some f, e, kp⟩] X.env)).any (·.1.isNone)) = false := by rfl) :
    DS0 X M0 (.Raise (some (.Call (.Name x p) [] [⟨some f, e, kp⟩] pos)) none pos') (wRaise1 C f we W) := by
  obtain ⟨fI, fd, iC, tI, F1, hb⟩ := G.ex
  refine ps_imp (ps_raise hc tk (pmk_kw (ks := [f]) G.T iC tI F1 hr hb pass0 hg G.hm (pk_cons he pk_nil) hall hks hdb hpl)) fun E σ H ⟨M, ρ, cs, D, sm, o, r0, h, _⟩ => ?_
  refine ⟨M, ρ, cs, _, sm, o, r0, h, fun v x1 M1 H1 cs1 s1 o1 r1 p1 => ⟨rfl, fun a ha => ?_⟩⟩
  refine ⟨a, C, v, rfl, G.T, G.hf, upd_same, fun dx h1 h2 => ⟨rfl, dx, [(f, v)], upd_same, ?_, ?_, ?_⟩⟩
  · rw [upd_ne h2]; exact upd_same
  · rw [upd_ne h2] at h1; exact h1
  · have hd : H1 dx = none := by rw [upd_ne h2] at h1; exact h1
    obtain ⟨q1, q2⟩ := xd_ok (fs := [(f, v)]) (H3 := upd (upd (upd H1 a (exo a C none)) dx (exd dx [(f, v)])) a (exo a C (some dx))) o1 ha hd (fun b hb hb2 => by rw [upd_ne hb, upd_ne hb2, upd_ne hb])
    exact ⟨_, ρ, cs1, [(f, x1)], sm.trans (s1.trans q1), q2, r0.mono (s1.trans q1), ⟨_, upd_same, .cons ⟨rfl, r1.mono q1⟩ .nil⟩, p1⟩
theorem ds_raise2 (G : Xc2 X.prog X.w X.K X.mg X.base x C f g) (tk : Takes X (liftW X.K M0 W)) (hr : Room 2 X.A) (he : DE0 X M0 e we) (he2 : DE0 X M0 e2 wd) (hc : X.calm = true := by rfl) (hgl : Gl X x := by rfl) (hdb : (x == ("__debug__" : Str)) = false := by decide)
    (hall : (backToKw pos (keywordEach [⟨some f, e, kp⟩, ⟨some g, e2, kp2⟩] X.env)).all (·.1.isSome) = true := by rfl) (hks : (backToKw pos (keywordEach [⟨some f, e, kp⟩, ⟨some g, e2, kp2⟩] X.env)).filterMap (·.1) = [f, g] := by rfl)
    (hpl : ((backTo pos (starEach [] X.env)).any (·.1) || (backToKw pos (keywordEach [⟨some f, e, kp⟩, ⟨some g, e2, kp2⟩] X.env)).any (·.1.isNone)) = false := by rfl) :
    DS0 X M0 (.Raise (some (.Call (.Name x p) [] [⟨some f, e, kp⟩, ⟨some g, e2, kp2⟩] pos)) none pos') (wRaise2 C f g we wd W) := by
  obtain ⟨fI, fd, iC, tI, F1, hb⟩ := G.ex
  refine ps_imp (ps_raise hc tk (pmk_kw (ks := [f, g]) G.T iC tI F1 hr hb pass0 hgl G.hm (pk_cons he (pk_cons he2 pk_nil)) hall hks hdb hpl)) fun E σ H ⟨M, ρ, cs, D, sm, o, r0, h, _⟩ => ?_
  refine ⟨M, ρ, cs, _, sm, o, r0, h, fun v x1 M1 H1 cs1 s1 o1 r1 p1 => ⟨M1, ρ, cs1, _, sm.trans s1, o1, r0.mono s1, p1, fun v2 x2 M2 H2 cs2 s2 o2 r2 p2 => ⟨rfl, fun a ha => ?_⟩⟩⟩
  refine ⟨a, C, v, v2, rfl, G.T, G.hf, G.hg, upd_same, fun dx h1 h2 => ⟨rfl, dx, [(g, v2), (f, v)], ?_, upd_same, ?_, ?_⟩⟩
  · rw [upd_ne (Ne.symm h2)]; exact upd_same
  · rw [upd_ne h2] at h1; exact h1
  · have hd : H2 dx = none := by rw [upd_ne h2] at h1; exact h1
    obtain ⟨q1, q2⟩ := xd_ok (fs := [(g, v2), (f, v)]) (H3 := upd (upd (upd (upd H2 a (exo a C none)) dx (exd dx [(f, v)])) a (exo a C (some dx))) dx (exd dx [(g, v2), (f, v)])) o2 ha hd (fun b hb hb2 => by rw [upd_ne hb2, upd_ne hb, upd_ne hb2, upd_ne hb])
    exact ⟨_, ρ, cs2, [(g, x2), (f, x1)], sm.trans (s1.trans (s2.trans q1)), q2, r0.mono (s1.trans (s2.trans q1)), ⟨_, upd_same, .cons ⟨rfl, r2.mono q1⟩ (.cons ⟨rfl, r1.mono (s2.trans q1)⟩ .nil)⟩, p2⟩
end
end DL
set_option maxRecDepth 100000
set_option maxHeartbeats 4000000
namespace DL
open PySem L2 PySem.Spec PyProof.Rows
def unE (i : Nat) (D : DEnds) : DEnds := { nx := fun ρ cs => D.nx (ρ.set i none) cs, rt := D.rt, bk := fun ρ cs => D.bk (ρ.set i none) cs, ct := fun ρ cs => D.ct (ρ.set i none) cs }
/-- except c as e (slot i): the suite is told of the exception's address, class and fields -/
def wAsD (K : Frag) (c : Value) (i : Nat) (wsu : Addr → Value → List (Str × Vl) → WS) (Wout : DWX) (D : DEnds) : DWX := fun cls fs ρ cs => ∃ b, PySem.W.exmOne K cls c = some b ∧
  (b = true → ∀ a, wsu a cls fs (unE i D) (ρ.set i (some (.raw (.ref a)))) cs) ∧ (b = false → Wout cls fs ρ cs)
def wTryAs (K : Frag) (c : Value) (i : Nat) (Wout : DWX) (tb : DWX → WS) (wsu : Addr → Value → List (Str × Vl) → WS) : WS := fun D ρ cs => tb (wAsD K c i wsu Wout D) D ρ cs
def wXf (K : Frag) (a : Addr) (cls : Value) (fs : List (Str × Vl)) (n : Str) (we : WE) : WE := fun ρ cs P => we ρ cs fun x cs1 => x = .raw (.ref a) ∧ ∃ C, cls = .ref C ∧ XfC K C ∧ PySem.W.findIn K (.ref C) n = some none ∧ ∃ dn v, fs ≠ [] ∧ fs.lookup n = some v ∧ dn = n ∧ P v cs1
/-- isinstance(e, c) -/
def wIsE (K : Frag) (a : Addr) (cls cv : Value) (we : WE) : WE := fun ρ cs P => we ρ cs fun x cs1 => x = .raw (.ref a) ∧ ∃ D b, cls = .ref D ∧ ExcC K D ∧ PySem.W.kitOne K (.ref D) cv = some b ∧ P (.dat (.bl b)) cs1
end DL
set_option maxRecDepth 100000
set_option maxHeartbeats 4000000
namespace LamD
open PySem PySem.Spec PyProof.Rows L2 DL
abbrev RL := Nat → (Addr → HO) → List (Addr × HO) → Prop
def wLamMk (R : RL) (P : Addr) (q : Str) (i : Nat) : WE := fun _ cs P' => cs P = some (.tl q) ∧ ∀ φ ex, R i φ ex → P' (.dat (.ho φ ex)) cs
def wAct (φ : Addr → HO) (ex : List (Addr × HO)) (j : Nat) (tl : DXP → Cells → (Vl → Cells → Prop) → Prop) (W : DWX) : WE := fun ρ cs P => ρ[j]? = some (some (.dat (.ho φ ex))) ∧ tl (fun cls fs cs' => W cls fs ρ cs') cs P
end LamD
set_option maxRecDepth 100000
set_option maxHeartbeats 4000000
namespace LamD
open PySem PySem.Spec PyProof.Rows L2 DL
abbrev TL := DXP → Cells → (Vl → Cells → Prop) → Prop
/-- what x promises of a lambda's reading -/
abbrev TTd := TL → Cells → (Vl → Cells → Prop) → Prop
def wOut (R : RL) (T : TTd) (wls : List (DXP → WE)) (we : WE) : WE := fun ρ cs P => we ρ cs fun x cs1 => ∃ i φ ex wl, x = .dat (.ho φ ex) ∧ R i φ ex ∧ wls[i]? = some wl ∧ T (fun W cs' P' => wl W ρ cs' P') cs1 P
/-- a lambda's body, by its reading -/
structure LamB (X : Cx) (k : Nat) (l : Arguments × Expr × Scope) (wl : DXP → WE) : Prop where
  sc : LamX.LamS X.env.scope l.2.2
  bind : ∀ (q : Str) (cl : List (Str × Addr)) (pm cv ctv : Value), bindArgs (PySem.W.kla_fn "<lambda>" q l.1 l.2.1 l.2.2 cl pm cv ctv) ⟨[], []⟩ = pure []
  body : ∀ (A : Around) (outer : List Env) (s : Shared) (H : Hp) (E : XK) (f c' : Addr), Room k (A.deeper (LamX.lamEnv X l.2.2 s.heap.objs.size f c')) → ∀ (M0 : Hp) (W : DXP), Takes (LamX.lamCx X A outer s H E l.2.2 f c') (liftW X.K M0 fun cls fs _ cs => W cls fs cs) → DE0 (LamX.lamCx X A outer s H E l.2.2 f c') M0 l.2.1 (wl W)
inductive LamsB (X : Cx) (k : Nat) : List (Arguments × Expr × Scope) → List (DXP → WE) → Prop
  | nil : LamsB X k [] []
  | cons {l : Arguments × Expr × Scope} {wl : DXP → WE} {ls : List (Arguments × Expr × Scope)} {wls : List (DXP → WE)} : LamB X k l wl → LamsB X k ls wls → LamsB X k (l :: ls) (wl :: wls)
theorem LamsB.at {X : Cx} {k : Nat} : ∀ {ls : List (Arguments × Expr × Scope)} {wls : List (DXP → WE)}, LamsB X k ls wls → ∀ {i : Nat} {l : Arguments × Expr × Scope} {wl : DXP → WE}, ls[i]? = some l → wls[i]? = some wl → LamB X k l wl
  | _, _, .cons h _, 0, _, _, e1, e2 => by cases e1; cases e2; exact h
  | _, _, .cons _ t, i + 1, _, _, e1, e2 => LamsB.at t (i := i) e1 e2
  | _, _, .nil, _, _, _, e1, _ => by cases e1
end LamD
set_option maxRecDepth 100000
set_option maxHeartbeats 4000000
namespace DL
open PySem PySem.Spec PyProof.Rows L2
abbrev xw (W : DXP) : DWX := fun cls fs _ cs => W cls fs cs
/-- keywords, by PK -/
def DK0 (X : Cx) (M0 : Hp) (kws : List Keyword) (w : WA) : Prop := PK X kws (liftA0 X.K M0 w)
section
variable {X : Cx} {M0 : Hp} {e : Expr} {kws : List Keyword} {we : WE} {wk : WA} {nm : Option Str} {kpos : Pos}
theorem dk_nil : DK0 X M0 [] wNil := ⟨fun pos pins s σ H Q I ⟨M, ρ, cs, P, sm, o, r, p, k⟩ => pk_nil.run pos pins s σ H Q I (k [] [] M H cs (Same.refl _) o .nil p)⟩
theorem dk_cons (he : DE0 X M0 e we) (hk : DK0 X M0 kws wk) : DK0 X M0 (⟨nm, e, kpos⟩ :: kws) (wCons we wk) := ⟨fun pos pins s σ H Q I ⟨M, ρ, cs, P, sm, o, r0, p, k⟩ => (pk_cons he hk).run pos pins s σ H Q I ⟨M, ρ, cs, _, sm, o, r0, p, fun v x M1 H1 cs1 s1 o1 r1 p1 =>
  ⟨M1, ρ, cs1, _, sm.trans s1, o1, r0.mono s1, p1, fun vs xs M2 H2 cs2 s2 o2 r2 p2 => k _ _ M2 H2 cs2 (s1.trans s2) o2 (.cons (r1.mono s2) r2) p2⟩⟩⟩
end
theorem run_at {X : Cx} {CX : CXT} {k : Nat} {f : Addr} {fd : FuncData} {ps : List Str} {sp : Sp} {E : XK} {pins : List (Addr × Obj)} {σ : L2.St} {H : Hp} {s : Shared} {Q : VK} {args : Args} {us : List Value} {vs : List V} (F : FnOk X.prog X.w X.K X.mg X.base CX k f fd ps sp) (hr : Room k X.A) (hb : BindsTo s fd args (ps.zip us)) (hx : PassesAt CX X σ E)
    (I : Inv X pins σ H s) (r : Vals vs us) (h : sp vs H Q E) : codeAny (model X.prog X.w) X.A (.call (.ref f) args) (fun rr s' => match rr with | .ok (.ret u) => EP X pins σ Q u s' | .ok _ => False | .error e => X.xe e s') s := by
  refine codeAny_mono (F.run X.A X.stack s H args us vs Q E hr I.env0 hb r h) fun rr s' hq => ?_
  cases rr with
  | error e => exact hx pins H s e s' I hq
  | ok fl =>
    cases fl with
    | ret u => exact I.after hq
    | next => exact False.elim hq
    | brk => exact False.elim hq
    | cont => exact False.elim hq
theorem wp_at {X : Cx} {CX : CXT} {k : Nat} {f : Addr} {fd : FuncData} {ps : List Str} {sp : Sp} {E : XK} {pins : List (Addr × Obj)} {σ : L2.St} {H : Hp} {s : Shared} {Q : VK} {us0 : List Value} {kw : List (Str × Value)} {us : List Value} {vs : List V} (F : FnOk X.prog X.w X.K X.mg X.base CX k f fd ps sp) (hr : Room k X.A) (hb : BindsTo s fd ⟨us0, kw⟩ (ps.zip us)) (hx : PassesAt CX X σ E)
    (I : Inv X pins σ H s) (r : Vals vs us) (h : sp vs H Q E) : wpAny (model X.prog X.w) X.A (call (.ref f) us0 kw) (EP X pins σ Q) X.xe s :=
  PySem.wpAny_call (codeAny_mono (run_at F hr hb hx I r h) fun rr s' hq => by
    cases rr with
    | error e => exact hq
    | ok fl => cases fl <;> first | exact hq | exact False.elim hq)
theorem pass_w {X : Cx} {M0 : Hp} {W : DWX} (tk : Takes X (liftW X.K M0 W)) (σ : L2.St) : PassesAt (L2.CX X.prog X.w) X σ (fun cls d H => liftW X.K M0 W cls d σ H) := fun _ _ _ e s' I c => tk e s' (XE.of_call I (fun _ _ _ h => h) c)
/-- o.m(e, ..), may raise -/
theorem de_methX {X : Cx} {M0 : Hp} {W : DWX} {C : Addr} {m : Str} {o e : Expr} {es : List Expr} {wo : WE} {wr : WA} {pos apos : Pos} {pl : Sem Bool} {ps : List Str} {k : Nat} {dsp : DSp} (G : DMokX X.prog X.w X.K X.mg X.base C m ps k dsp) (tk : Takes X (liftW X.K M0 W)) (hr : Room k X.A) (ho : DE0 X M0 o wo) (ha : DA0 X M0 (e :: es) wr)
    (hst : starEach (e :: es) X.env = (false, eval e X.env) :: starEach es X.env := by rfl) (hpl : (backTo pos (starEach es X.env)).any (·.1) = false := by rfl)
    (ht : eval (.Call (.Attribute o m apos) (e :: es) [] pos) X.env = (eval o X.env >>= fun ov => standAt apos.atName >>= fun _ => holding [ov] (getMethod ov m pl) >>= fun q => callWith pos q.1 q.2 (backTo pos (starEach (e :: es) X.env)) (backToKw pos (keywordEach [] X.env))) := by rfl) :
    DE0 X M0 (.Call (.Attribute o m apos) (e :: es) [] pos) (wMethX C m dsp W wo wr) := by
  obtain ⟨f, fd, F, hc, hm, hb⟩ := G.ex
  refine ⟨fun pins s σ H Q I ⟨M, ρ, cs, P, sm, ok, r0, p, kk⟩ => ?_⟩
  refine PySem.W.methodCall_KW (pl := pl) (thn (ho.run pins s σ H (fun v H1 => ∃ M1 x cs1 gs, Same M M1 ∧ Ok X.K M1 H1 cs1 ∧ RV X.K M1 v x ∧ insD cs1 x = some (C, gs) ∧ gs.lookup m = none ∧ wr ρ cs1 fun xs cs2 => dsp (x :: xs) cs2 P fun cls fs cs' => W cls fs ρ cs') I ⟨M, ρ, cs, _, sm, ok, r0, p, fun v x M1 H1 cs1 s1 o1 r1 ⟨gs, h1, h2, h3⟩ => ⟨M1, x, cs1, gs, s1, o1, r1, h1, h2, h3⟩⟩) fun u s1 ⟨v, H1, I1, ru, M1, x, cs1, gs, sm1, o1, r1, hi, hl, q⟩ => ?_) ht
  obtain ⟨a, dx, fs, ev, hH, pr⟩ := insD_ok o1 r1 hi
  subst ev
  have eu : u = Value.ref a := ru
  subst eu
  refine getmeth_ok I1 hH hc hm ((fr_lookup pr).2 hl) ?_
  refine PySem.W.callWith_K (first := [.ref a]) (h₀ := X.base) I.ok.mod.kin hm.kp (thn (ha.run pos pins s1 σ H1 (fun vs H2 => ∃ M2 xs cs2, Same M1 M2 ∧ Ok X.K M2 H2 cs2 ∧ Paired (RV X.K M2) vs xs ∧ dsp (x :: xs) cs2 P fun cls fs cs' => W cls fs ρ cs') I1 ⟨M1, ρ, cs1, _, sm.trans sm1, o1, r0.mono sm1, q, fun vs xs M2 H2 cs2 s2 o2 r2 p2 => ⟨M2, xs, cs2, s2, o2, r2, p2⟩⟩) fun us s2 ⟨vs, H2, I2, rv, M2, xs, cs2, sm2, o2, r2, q2⟩ => ⟨I2.kIn, ?_⟩) hst hpl
  have hsp : liftSp X.K dsp (.ref a :: vs) H2 Q (fun cls d H => liftW X.K M0 W cls d σ H) := ⟨M2, _, cs2, P, _, o2, .cons (r1.mono sm2) r2, q2, kk.mono (sm1.trans sm2), fun cls od fs' M' H' cs' s3 o' xr w => ⟨M', ρ, cs', fs', sm.trans (sm1.trans (sm2.trans s3)), o', r0.mono (sm1.trans (sm2.trans s3)), xr, w⟩⟩
  have hl2 : (.ref a :: us : List Value).length = ps.length := by
    have := F.len _ _ _ _ hsp
    rw [← this]
    show us.length + 1 = vs.length + 1
    rw [rv.length]
  have hbb := hb s2 (.ref a :: us) I2.kIn (by rw [List.append_nil]; exact hl2)
  rw [List.append_nil] at hbb
  exact wp_at (us0 := .ref a :: us) (kw := []) F hr hbb (pass_w tk σ) I2 (.cons (show RelV (.ref a) (.ref a) from rfl) rv) hsp
structure DCok (CX : CXT) (P : Program) (w : World) (K : Frag) (mg : Str → Option Value) (base : Heap) (x : Str) (C : Addr) (m : Str) (n : Nat) (ks : List Str) (gD : List Vl → List Vl → List Vl) (k : Nat) (dsp : DSp) : Prop where
  ex : ∃ p g fd mc ps gF gV, FnOk P w K mg base CX k g fd ps (liftSp K dsp) ∧ mg x = some (.ref C) ∧ ClX.CRead K C mc ∧ ClX.CMet K C mc m p g ∧ KBn K fd ps (n + 1) ks gF gV ∧
    ∀ M vs xs zs ys, Paired (RV K M) vs xs → Paired (RV K M) zs ys → vs.length = n + 1 → zs.length = ks.length → Paired (RV K M) (gV vs zs) (gD xs ys)
def wCm (C : Addr) (n m : Nat) (gD : List Vl → List Vl → List Vl) (dsp : DSp) (W : DWX) (wr wk : WA) : WE := fun ρ cs P => wr ρ cs fun xs cs1 => wk ρ cs1 fun ys cs2 => xs.length = n ∧ ys.length = m ∧ dsp (gD (.raw (.ref C) :: xs) ys) cs2 P fun cls fs cs' => W cls fs ρ cs'
theorem cw_cmk {X : Cx} {s : Shared} {q g C : Addr} {pos : Pos} {e : Expr} {es : List Expr} {kws : List Keyword} {Q : Value → Shared → Prop} {E : Value → Shared → Prop} {A : Around} (hf : PySem.W.fnIn X.K g = true) (hall : (backToKw pos (keywordEach kws X.env)).all (·.1.isSome) = true)
    (h : wpAny (model X.prog X.w) A (spliced (backTo pos (starEach (e :: es) X.env))) (fun vs s₁ => wpAny (model X.prog X.w) A (evalAll ((backToKw pos (keywordEach kws X.env)).map (·.2))) (fun ks s₂ => PySem.W.MethP X.K q g (.ref C) s₂.heap ∧ wpAny (model X.prog X.w) A (call (.ref q) vs (((backToKw pos (keywordEach kws X.env)).filterMap (·.1)).zip ks)) Q E s₂) E s₁) E s)
    (he : starEach (e :: es) X.env = (false, eval e X.env) :: starEach es X.env) (hpl : ((backTo pos (starEach (e :: es) X.env)).any (·.1) || (backToKw pos (keywordEach kws X.env)).any (·.1.isNone)) = false) :
    wpAny (model X.prog X.w) A (callWith pos (.ref q) [] (backTo pos (starEach (e :: es) X.env)) (backToKw pos (keywordEach kws X.env))) Q E s :=
  PySem.W.callWith_of hpl (PySem.W.keeps_M hf) (PyProof.Rows.evalArgs_kw2 hall h he)
theorem de_cm {X : Cx} {CX : CXT} {M0 : Hp} {W : DWX} {C : Addr} {x m : Str} {e : Expr} {es : List Expr} {kws : List Keyword} {wr wk : WA} {p pos apos : Pos} {pl : Sem Bool} {n k : Nat} {ks : List Str} {gD : List Vl → List Vl → List Vl} {dsp : DSp} (G : DCok CX X.prog X.w X.K X.mg X.base x C m n ks gD k dsp) (px : ∀ σ, PassesAt CX X σ (fun cls d H => liftW X.K M0 W cls d σ H)) (hr : Room k X.A) (ha : DA0 X M0 (e :: es) wr) (hk : DK0 X M0 kws wk) (hg : Gl X x := by rfl)
    (hall : (backToKw pos (keywordEach kws X.env)).all (·.1.isSome) = true := by rfl) (hks : (backToKw pos (keywordEach kws X.env)).filterMap (·.1) = ks := by rfl) (hdb : (x == ("__debug__" : Str)) = false := by decide)
    (hst : starEach (e :: es) X.env = (false, eval e X.env) :: starEach es X.env := by rfl) (hpl : ((backTo pos (starEach (e :: es) X.env)).any (·.1) || (backToKw pos (keywordEach kws X.env)).any (·.1.isNone)) = false := by rfl)
    (ht : eval (.Call (.Attribute (.Name x p) m apos) (e :: es) kws pos) X.env = (eval (.Name x p) X.env >>= fun ov => standAt apos.atName >>= fun _ => holding [ov] (getMethod ov m pl) >>= fun q => callWith pos q.1 q.2 (backTo pos (starEach (e :: es) X.env)) (backToKw pos (keywordEach kws X.env))) := by rfl) :
    DE0 X M0 (.Call (.Attribute (.Name x p) m apos) (e :: es) kws pos) (wCm C n ks.length gD dsp W wr wk) := by
  obtain ⟨pp, g, fd, mc, ps, gF, gV, F, hm, rd, cm, kb, hgd⟩ := G.ex
  refine ⟨fun pins s σ H Q I ⟨M, ρ, cs, P, sm, o, r0, p, kk⟩ => ?_⟩
  refine PySem.W.methodCall_KW (pl := pl) (ld_glob I hg hm ?_ hdb) ht
  refine ClX.getmethcm_ok I rd cm fun s1 I1 => ?_
  refine cw_cmk (q := s.heap.objs.size) (C := C) cm.fi hall (thn (ha.run pos _ s1 σ H (fun vs H1 => ∃ M1 xs cs1, Same M M1 ∧ Ok X.K M1 H1 cs1 ∧ Paired (RV X.K M1) vs xs ∧ wk ρ cs1 fun ys cs2 => xs.length = n ∧ ys.length = ks.length ∧ dsp (gD (.raw (.ref C) :: xs) ys) cs2 P fun cls fs cs' => W cls fs ρ cs') I1 ⟨M, ρ, cs, _, sm, o, r0, p, fun vs xs M1 H1 cs1 s1 o1 r1 p1 => ⟨M1, xs, cs1, s1, o1, r1, p1⟩⟩) fun us s2 ⟨vs, H2, I2, rv, M1, xs, cs1, sm1, o1, r1, q1⟩ => ?_) hst hpl
  refine thn (hk.run pos _ s2 σ H2 (fun zs H3 => ∃ M2 ys cs2, Same M1 M2 ∧ Ok X.K M2 H3 cs2 ∧ Paired (RV X.K M2) zs ys ∧ xs.length = n ∧ ys.length = ks.length ∧ dsp (gD (.raw (.ref C) :: xs) ys) cs2 P fun cls fs cs' => W cls fs ρ cs') I2 ⟨M1, ρ, cs1, _, sm.trans sm1, o1, r0.mono sm1, q1, fun zs ys M2 H3 cs2 s2 o2 r2 p2 => ⟨M2, ys, cs2, s2, o2, r2, p2⟩⟩) fun ws s3 ⟨zs, H3, I3, rz, M2, ys, cs2, sm2, o2, r2, hxl, hyl, q2⟩ => ⟨⟨ClX.pin_at I3, I3.kIn⟩, ?_⟩
  rw [hks]
  have l1 : vs.length = n := (Paired.len r1).trans hxl
  have l2 : zs.length = ks.length := (Paired.len r2).trans hyl
  have rvs : Vals (V.ref C :: vs) (Value.ref C :: us) := .cons rfl rv
  have hsp : liftSp X.K dsp (gV (.ref C :: vs) zs) H3 Q (fun cls d H => liftW X.K M0 W cls d σ H) := ⟨M2, _, cs2, P, _, o2, hgd M2 _ _ _ _ (.cons rv_raw (paired_mono (fun _ _ q => q.mono sm2) r1)) r2 (by show vs.length + 1 = n + 1; rw [l1]) l2, q2, kk.mono (sm1.trans sm2), fun cls od fs' M' H' cs' s3 o' xr w => ⟨M', ρ, cs', fs', sm.trans (sm1.trans (sm2.trans s3)), o', r0.mono (sm1.trans (sm2.trans s3)), xr, w⟩⟩
  have key : wpAny (model X.prog X.w) X.A (call (.ref s.heap.objs.size) us (ks.zip ws)) (EP X ((s.heap.objs.size, PySem.W.methodObj (.ref g) (.ref C)) :: pins) σ Q) X.xe s3 := by
    refine PySem.wpAny_call (PySem.W.method_call (ClX.pin_at I3) (codeAny_mono (run_at F hr (kb.to s3 (.ref C :: us) ws I3.kIn (by show us.length + 1 = n + 1; rw [← rv.length, l1]) (by rw [← rz.length, l2])) (px σ) I3 (kb.rel rvs rz) hsp) fun rr s' hq => ?_))
    cases rr with
    | error e => exact hq
    | ok fl => cases fl <;> first | exact hq | exact False.elim hq
  exact thn key fun _ _ y => ClX.unpinE y
structure DStok (P : Program) (w : World) (K : Frag) (mg : Str → Option Value) (base : Heap) (x : Str) (C : Addr) (m : Str) (ps : List Str) (k : Nat) (dsp : DSp) : Prop where
  ex : ∃ p g fd mc, FnOk P w K mg base CX0 k g fd ps (liftSp K dsp) ∧ mg x = some (.ref C) ∧ ClX.CRead K C mc ∧ PySem.W.findCls K (.ref C) mc m = some (.get (.builtin "staticmethod.__get__") (.ref p) .none (.ref C)) ∧ (∃ rest, PySem.W.recIn K p "staticmethod" = some (.ref g :: rest)) ∧ PySem.W.keepIn K (.ref g) = true ∧ Binds K fd ps []
theorem de_static {X : Cx} {C : Addr} {x m : Str} {e : Expr} {es : List Expr} {wr : WA} {p pos apos : Pos} {pl : Sem Bool} {k : Nat} {ps : List Str} {dsp : DSp} (G : DStok X.prog X.w X.K X.mg X.base x C m ps k dsp) (hr : Room k X.A) (ha : DA X (e :: es) wr) (hg : Gl X x := by rfl) (hdb : (x == ("__debug__" : Str)) = false := by decide)
    (hst : starEach (e :: es) X.env = (false, eval e X.env) :: starEach es X.env := by rfl) (hpl : (backTo pos (starEach es X.env)).any (·.1) = false := by rfl)
    (ht : eval (.Call (.Attribute (.Name x p) m apos) (e :: es) [] pos) X.env = (eval (.Name x p) X.env >>= fun ov => standAt apos.atName >>= fun _ => holding [ov] (getMethod ov m pl) >>= fun q => callWith pos q.1 q.2 (backTo pos (starEach (e :: es) X.env)) (backToKw pos (keywordEach [] X.env))) := by rfl) :
    DE X (.Call (.Attribute (.Name x p) m apos) (e :: es) [] pos) (wCall dsp wr) := by
  obtain ⟨pp, g, fd, mc, F, hm, rd, at_, ⟨rest, hrec⟩, hkp, hb⟩ := G.ex
  refine ⟨fun pins s σ H Q I ⟨M, ρ, cs, P, o, r0, p, kk⟩ => ?_⟩
  refine PySem.W.methodCall_KW (pl := pl) (ld_glob I hg hm ?_ hdb) ht
  refine PySem.W.method_cls I.kIn rd.ga (PySem.W.cls_bind I.kIn rd.rd at_ (PySem.wpAny_call (PySem.W.sm_get (s := { s with toks := s.toks + 1 }) I.kIn hrec (PySem.W.handed_on rfl ?_))))
  have I1 := I.tok (s.toks + 1)
  refine PySem.W.callWith_K (h₀ := X.base) I.ok.mod.kin hkp (thn (ha.run pos pins _ σ H (fun vs H2 => ∃ M2 xs cs2, Same M M2 ∧ Ok X.K M2 H2 cs2 ∧ Paired (RV X.K M2) vs xs ∧ dsp xs cs2 P X0) I1 ⟨M, ρ, cs, _, o, r0, p, fun vs xs M2 H2 cs2 s2 o2 r2 p2 => ⟨M2, xs, cs2, s2, o2, r2, p2⟩⟩) fun us s2 ⟨vs, H2, I2, rv, M2, xs, cs2, sm2, o2, r2, q2⟩ => ⟨I2.kIn, ?_⟩) hst hpl
  have hsp : liftSp X.K dsp (vs ++ []) H2 Q E0 := by rw [List.append_nil]; exact ⟨M2, _, cs2, P, X0, o2, r2, q2, kk.mono sm2, fun _ _ _ _ _ _ _ _ _ z => z.elim⟩
  exact run_fn (us := us) F hr hb .nil pass0 I2 rv hsp
end DL
set_option maxRecDepth 100000
set_option maxHeartbeats 4000000
namespace DL
open PySem PySem.Spec PyProof.Rows L2
section
variable {X : Cx} {M0 : Hp} {a b c e o : Expr} {es : List Expr} {wa wb wc we wo wv : WE} {w u : WT} {wr : WA} {pos : Pos}
theorem de_cval {x f : Str} {C : Addr} {mc uv : Value} {v : V} {d : Dat} {p : Pos} (hm : X.mg x = some (.ref C)) (r : ClX.CRead X.K C mc) (k : ClX.CVal X.K C mc f v uv) (hd : ∀ M, Dr X.K M v d) (hg : Gl X x := by rfl) (hdb : (x == ("__debug__" : Str)) = false := by decide) (hb : attributeBase (.Name x p) f X.env (eval (.Name x p) X.env) = eval (.Name x p) X.env := by rfl) :
    DE X (.Attribute (.Name x p) f pos) (wC d) :=
  pe_imp (ClX.pe_cval (pe_glob (v := .ref C) hg hm rfl hdb) hb) fun σ H Q ⟨M, ρ, cs, P, o, r0, p, kk⟩ => ⟨C, mc, v, uv, rfl, r, k, kk _ _ M H cs (Same.refl _) o (rv_dat (hd M)) p⟩
def wSt (C : Str → Str → Prop) (g : Str → Str → Dat) : W2 := fun x y cs P => ∃ i j, x = .dat (.str i) ∧ y = .dat (.str j) ∧ C i j ∧ P (.dat (g i j)) cs
abbrev wStIn : W2 := wSt (fun _ _ => True) fun i j => .bl (!(Builtin.Str.occurrences j i 0 j.length 1).isEmpty)
theorem r2_st0 {K : Frag} {f : Str → Str → V} {g : Str → Str → Dat} (h : ∀ M i j, Dr K M (f i j) (g i j)) : R2Ok K (fun x y H Q => ∃ i j, x = .str i ∧ y = .str j ∧ Q (f i j) H) (wSt (fun _ _ => True) g) := fun M H cs x y a b P Q o rx ry ⟨i, j, ea, eb, hc, p⟩ k => by
  subst ea eb
  exact ⟨i, j, inv_str rx, inv_str ry, k _ _ M H cs (Same.refl _) o (rv_dat (h M i j)) p⟩
theorem de_inS (ha : DE X a wa) (hb : DE X b wb) (hm : behindInMarks .In b = false := by rfl) : DE X (.Compare a [.In] [b] pos) (wOp wStIn wa wb) := de_cmp op_in_str (r2_st0 fun _ _ _ => .bl _) ha hb hm
def wLenS : WN := fun xs cs P => ∃ z : Str, xs = [.dat (.str z)] ∧ z.length ≤ 16777216 ∧ P (.dat (.int (z.length : Int))) cs
theorem rn_lenS {K : Frag} : RNOk K (fun xs H Q => ∃ z, xs = [.str z] ∧ z.length ≤ sizeLine ∧ Q (.int z.length) H) wLenS := fun M H cs xs as P Q o r ⟨z, e, hz, p⟩ k => by
  subst e
  cases r with
  | cons r1 rr =>
    cases rr
    rw [inv_str r1]
    exact ⟨z, rfl, size_line hz, k _ _ M H cs (Same.refl _) o (rv_dat (.int _)) p⟩
theorem de_lenS {p : Pos} (hm : X.mg "len" = none) (ha : DA X [e] wr) (hg : Gl X "len" := by rfl) (he : starEach [e] X.env = (false, eval e X.env) :: starEach [] X.env := by rfl) (hpl : (backTo pos (starEach [] X.env)).any (·.1) = false := by rfl) :
    DE X (.Call (.Name "len" p) [e] [] pos) (wFn wLenS wr) := de_callB call_len_str rn_lenS hm (by decide +kernel) ha hg (by decide) (by decide) he hpl
def charsD (z : Str) : List Vl := z.cps.toList.map fun c => .dat (.str ⟨#[c]⟩)
def wiStr (we : WE) : WI := fun ρ cs P => we ρ cs fun x cs1 => ∃ z : Str, x = .dat (.str z) ∧ P (charsD z) (fun _ => True) cs1
theorem it_str {K : Frag} {M0 : Hp} {z : Str} : ItOk K M0 (Its z) (charsD z) (fun _ => True) := by
  have hl : (charsD z).length = z.cps.size := by simp [charsD]
  refine ⟨fun i M' H' cs' _ _ _ h => ?_, fun M' H' cs' _ _ _ => ?_, fun i M' H' cs' v H2 _ o _ hy h => ?_⟩
  · show i < z.cps.size
    rw [← hl]; exact h
  · show z.cps.size ≤ (charsD z).length
    rw [hl]; exact Nat.le_refl _
  · obtain ⟨rfl, c, hc, rfl⟩ := hy
    refine ⟨M', .dat (.str ⟨#[c]⟩), ?_, Same.refl _, o, rv_dat (.str _)⟩
    simp only [charsD, List.getElem?_map, Array.getElem?_toList, hc, Option.map_some]
theorem di_str {tg : Expr} (h : DE X e we) : DI X tg e (wiStr we) := pi_imp (pi_str h) fun σ H R ⟨M, ρ, cs, P, o, r0, p, k⟩ => ⟨M, ρ, cs, _, o, r0, p, fun v x M1 H1 cs1 s1 o1 r1 ⟨z, ex, p1⟩ => by
  subst ex
  exact ⟨z, inv_str r1, k _ _ _ M1 H1 cs1 s1 o1 it_str p1⟩⟩
def wAll : WN := fun xs cs P => ∃ (x : Vl) (bs : List Bool), xs = [x] ∧ seqD cs x = some (true, bs.map fun b => Vl.dat (.bl b)) ∧ P (.dat (.bl (bs.all id))) cs
theorem paired_bls {K : Frag} {M : Hp} : ∀ {ns : List Bool} {vs : List V}, Paired (RV K M) vs (ns.map fun i => Vl.dat (.bl i)) → vs = ns.map V.bl
  | [], _, .nil => rfl
  | _ :: _, _, .cons h k => by rw [inv_bl h, paired_bls k]; rfl
theorem rn_all {K : Frag} : RNOk K (rAll K) wAll := fun M H cs xs as P Q o r ⟨x, bs, e, h, p⟩ k => by
  subst e
  cases r with
  | cons r1 rr =>
    cases rr
    obtain ⟨a, vs, ev, hs, pr⟩ := seqD_list o r1 h
    subst ev
    rw [paired_bls pr] at hs
    exact ⟨a, bs, rfl, hs, k _ _ M H cs (Same.refl _) o (rv_dat (.bl _)) p⟩
theorem de_all {p : Pos} (hc : X.calm = true) (hm : X.mg "all" = none) (ha : DA X [e] wr) (hg : Gl X "all" := by rfl) (he : starEach [e] X.env = (false, eval e X.env) :: starEach [] X.env := by rfl) (hpl : (backTo pos (starEach [] X.env)).any (·.1) = false := by rfl) :
    DE X (.Call (.Name "all" p) [e] [] pos) (wFn wAll wr) := de_callB (cr_all hc) rn_all hm (by decide +kernel) ha hg (by decide) (by decide) he hpl
def wCntF (wo we : WE) : WE := fun ρ cs P => wo ρ cs fun x cs1 => (∃ zs, seqD cs1 x = some (true, zs)) ∧ we ρ cs1 fun y cs2 => ∃ zs us u, seqD cs2 x = some (true, zs) ∧ flatD y = some u ∧ flatsD zs = some us ∧ P (.dat (.int (us.countP (fun z => eqV z u) : Nat))) cs2
def wIdxF (wo we : WE) : WE := fun ρ cs P => wo ρ cs fun x cs1 => (∃ zs, seqD cs1 x = some (true, zs)) ∧ we ρ cs1 fun y cs2 => ∃ zs us u j z, seqD cs2 x = some (true, zs) ∧ flatD y = some u ∧ flatsD zs = some us ∧ us[j]? = some z ∧ eqV z u = true ∧ (∀ (m : Nat) (z' : V), m < j → us[m]? = some z' → eqV z' u = false) ∧ P (.dat (.int (j : Nat))) cs2
def wSplit (wo we : WE) : WE := fun ρ cs P => wo ρ cs fun x cs1 => ∃ z, x = .dat (.str z) ∧ we ρ cs1 fun y cs2 => ∃ t : Str, y = .dat (.str t) ∧ (t.length == 0) = false ∧ z.length + 2 ≤ 16777216 ∧ newL ((Txt.split z t).map fun q => Vl.dat (.str q)) cs2 P
theorem paired_strs {K : Frag} {M : Hp} : ∀ (ns : List Str), Paired (RV K M) (ns.map V.str) (ns.map fun i => Vl.dat (.str i))
  | [] => .nil
  | _ :: r => .cons (rv_dat (.str _)) (paired_strs r)
end
theorem drF_of {K : Frag} {M : Hp} : ∀ {fs : List (Str × V)} {ds : List (Str × Dat)}, Paired (FR K M) fs (datF ds) → DrF K M fs ds
  | [], [], .nil => .nil
  | (n, v) :: fs, (n', d) :: ds, .cons ⟨e, r⟩ k => by
    have e : n = n' := e
    subst e
    exact .cons r (drF_of k)
theorem Gh.frzI {K : Frag} {a C : Addr} {cs : Cells} {ds : List (Str × Dat)} (h : cs a = some (.ins C (datF ds))) : Gh K (.cell a) cs (.dat (.obj C ds)) (cs.del a) := fun M H x o r => by
  cases (show x = .ref a from r)
  obtain ⟨hM, u, hu, cr⟩ := o.cell a _ h
  cases u with
  | ins C' dx fs =>
    obtain ⟨rfl, pr⟩ := cr
    have sm : Same M (upd M a (.ins C' dx fs)) := same_upd hM
    refine ⟨upd M a (.ins C' dx fs), sm, ⟨fun b ob e => ?_, fun b c e => ?_⟩, .obj upd_same (DrF.mono sm (drF_of pr))⟩
    · by_cases hb : b = a
      · subst hb; rw [upd_same] at e; rw [← e]; exact hu
      · rw [upd_ne hb] at e; exact o.ex b ob e
    · have hb : b ≠ a := fun z => by subst z; simp [Cells.del] at e
      have e' : cs b = some c := by simpa [Cells.del, hb] using e
      obtain ⟨m, ob, q, cr⟩ := o.cell b c e'
      exact ⟨by rw [upd_ne hb]; exact m, ob, q, cr.mono sm⟩
  | _ => exact (show False from cr).elim
end DL
set_option maxRecDepth 100000
set_option maxHeartbeats 4000000
namespace DL
open PySem PySem.Spec PyProof.Rows L2
/-- an exception class without __init__ -/
structure Xc0 (K : Frag) (mg : Str → Option Value) (x : Str) (C : Addr) : Prop where
  hm : mg x = some (.ref C)
  ei : ∃ bm, ExcBaseFacts "ValueError" "ValueError.__new__" "ValueError.__init__" bm ∧ PySem.W.excIn K C bm "ValueError.__new__" = true
  kp : PySem.W.keepIn K (.ref C) = true
  sb : PySem.W.subIn K (.ref C) (.type "BaseException") = some true
  ty : PySem.W.typeIn K (.ref C) = some (.type "type")
theorem ds_raise0 {X : Cx} {M0 : Hp} {C : Addr} {W : DWX} {x m : Str} {j : Nat} {p p2 pos pos' : Pos} (G : Xc0 X.K X.mg x C) (tk : Takes X (liftW X.K M0 W)) (hc : X.calm = true := by rfl) (hg : Gl X x := by rfl)
    (hdb : (x == ("__debug__" : Str)) = false := by decide) : DS0 X M0 (.Raise (some (.Call (.Name x p) [.Constant (.str m) j p2] [] pos)) none pos') (wRaise (.ref C) W) := by
  obtain ⟨bm, F, q⟩ := G.ei
  exact ds_raise F q G.hm G.kp (raises_own G.sb G.ty) tk hc hg hdb
/-- never raising: the promise where nothing is raised -/
def noX (dsp : DSp) : DSp := fun xs cs Q _ => dsp xs cs Q X0
theorem FnOk.ok0 {P : Program} {w : World} {K : Frag} {mg : Str → Option Value} {base : Heap} {k : Nat} {f : Addr} {fd : FuncData} {ps : List Str} {dsp : DSp} (F : FnOk P w K mg base (L2.CX P w) k f fd ps (liftSp K dsp)) : FnOk P w K mg base CX0 k f fd ps (liftSp K (noX dsp)) := by
  have imp : ∀ vs H Q E, liftSp K (noX dsp) vs H Q E → liftSp K dsp vs H Q (fun _ _ _ => False) := fun vs H Q E ⟨M, xs, cs, P', XP, o, r, d, kk, _⟩ => ⟨M, xs, cs, P', X0, o, r, d, kk, fun _ _ _ _ _ _ _ _ _ z => z.elim⟩
  refine ⟨fun vs H Q E h => F.len vs H Q _ (imp _ _ _ _ h), fun A outer s H args us vs Q E hr he hb hv h => codeAny_mono (F.run A outer s H args us vs Q _ hr he hb hv (imp _ _ _ _ h)) fun rr s' hq => ?_⟩
  cases rr with
  | error e =>
    obtain ⟨_, _, _, _, _, _, _, _, _, _, _, _, z⟩ := hq
    exact z.elim
  | ok fl => cases fl <;> exact hq
theorem DOkX.ok0 {P : Program} {w : World} {K : Frag} {mg : Str → Option Value} {base : Heap} {x : Str} {ps : List Str} {k : Nat} {dsp : DSp} (G : DOkX P w K mg base x ps k dsp) : DOk P w K mg base CX0 x ps k (noX dsp) := by
  obtain ⟨f, fd, F, h1, h2, h3⟩ := G.ex
  exact ⟨f, fd, FnOk.ok0 F, h1, h2, h3⟩
theorem DMokX.ok0 {P : Program} {w : World} {K : Frag} {mg : Str → Option Value} {base : Heap} {C : Addr} {m : Str} {ps : List Str} {k : Nat} {dsp : DSp} (G : DMokX P w K mg base C m ps k dsp) : DMok P w K mg base C m ps k (noX dsp) := by
  obtain ⟨f, fd, F, h1, h2, h3⟩ := G.ex
  exact ⟨f, fd, FnOk.ok0 F, h1, h2, h3⟩
theorem DCok.ok0 {P : Program} {w : World} {K : Frag} {mg : Str → Option Value} {base : Heap} {x : Str} {C : Addr} {m : Str} {n : Nat} {ks : List Str} {gD : List Vl → List Vl → List Vl} {k : Nat} {dsp : DSp} (G : DCok (L2.CX P w) P w K mg base x C m n ks gD k dsp) : DCok CX0 P w K mg base x C m n ks gD k (noX dsp) := by
  obtain ⟨p, g, fd, mc, ps, gF, gV, F, r⟩ := G.ex
  exact ⟨p, g, fd, mc, ps, gF, gV, FnOk.ok0 F, r⟩
/-- C.m(..) of a classmethod, nothing is raised -/
def wCm0 (C : Addr) (n m : Nat) (gD : List Vl → List Vl → List Vl) (dsp : DSp) (wr wk : WA) : WE := fun ρ cs P => wr ρ cs fun xs cs1 => wk ρ cs1 fun ys cs2 => xs.length = n ∧ ys.length = m ∧ dsp (gD (.raw (.ref C) :: xs) ys) cs2 P X0
section
variable {X : Cx} {e : Expr} {kws : List Keyword} {we : WE} {wk : WA} {nm : Option Str} {kpos : Pos}
def DK (X : Cx) (kws : List Keyword) (w : WA) : Prop := ∀ M0, DK0 X M0 kws w
theorem dkn : DK X [] wNil := fun _ => dk_nil
theorem dkc (he : DE X e we) (hk : DK X kws wk) : DK X (⟨nm, e, kpos⟩ :: kws) (wCons we wk) := fun M0 => dk_cons he.d0 (hk M0)
end
theorem de_cmX {X : Cx} {M0 : Hp} {W : DWX} {C : Addr} {x m : Str} {e : Expr} {es : List Expr} {kws : List Keyword} {wr wk : WA} {p pos apos : Pos} {pl : Sem Bool} {n k : Nat} {ks : List Str} {gD : List Vl → List Vl → List Vl} {dsp : DSp} (G : DCok (L2.CX X.prog X.w) X.prog X.w X.K X.mg X.base x C m n ks gD k dsp) (tk : Takes X (liftW X.K M0 W)) (hr : Room k X.A) (ha : DA0 X M0 (e :: es) wr) (hk : DK0 X M0 kws wk) (hg : Gl X x := by rfl)
    (hall : (backToKw pos (keywordEach kws X.env)).all (·.1.isSome) = true := by rfl) (hks : (backToKw pos (keywordEach kws X.env)).filterMap (·.1) = ks := by rfl) (hdb : (x == ("__debug__" : Str)) = false := by decide)
    (hst : starEach (e :: es) X.env = (false, eval e X.env) :: starEach es X.env := by rfl) (hpl : ((backTo pos (starEach (e :: es) X.env)).any (·.1) || (backToKw pos (keywordEach kws X.env)).any (·.1.isNone)) = false := by rfl)
    (ht : eval (.Call (.Attribute (.Name x p) m apos) (e :: es) kws pos) X.env = (eval (.Name x p) X.env >>= fun ov => standAt apos.atName >>= fun _ => holding [ov] (getMethod ov m pl) >>= fun q => callWith pos q.1 q.2 (backTo pos (starEach (e :: es) X.env)) (backToKw pos (keywordEach kws X.env))) := by rfl) :
    DE0 X M0 (.Call (.Attribute (.Name x p) m apos) (e :: es) kws pos) (wCm C n ks.length gD dsp W wr wk) := de_cm (pl := pl) G (fun σ => pass_w tk σ) hr ha hk hg hall hks hdb hst hpl ht
/-- what isinstance asks of a class -/
structure ClsI (K : Frag) (C : Addr) : Prop where
  cl : Cls K C
  ha : PySem.W.findIn K (.ref C) "__class__" = some (some (.builtin "object.__class__"))
  hn : PySem.W.specialIn K (.builtin "object.__class__") "__get__" = some (some (.builtin "getset_descriptor.__get__"))
  ht : PySem.W.takesIn K (.builtin "object.__class__") = some true
  hm : PySem.W.mroIn K C (.type "object") = some true
def wIsiO (K : Frag) (C : Addr) (we : WE) : WE := fun ρ cs P => we ρ cs fun x cs1 => ∃ D gs b, insD cs1 x = some (D, gs) ∧ ClsI K D ∧ PySem.W.kitOne K (.ref D) (.ref C) = some b ∧ P (.dat (.bl b)) cs1
end DL
set_option maxRecDepth 100000
set_option maxHeartbeats 4000000
namespace DL
open PySem PySem.Spec PyProof.Rows L2
section
variable {X : Cx} {M0 : Hp} {a b c e o : Expr} {es : List Expr} {wa wb wc we wo wv : WE} {w u : WT} {wr : WA} {pos : Pos}
theorem DW.d0' (h : DW X e w) : PW X e (liftT0 X.K M0 w) := pw_imp h fun _ _ _ ⟨M, ρ, cs, P, _, o, r, w, k⟩ => ⟨M, ρ, cs, P, o, r, w, k⟩
def DW0 (X : Cx) (M0 : Hp) (e : Expr) (w : WT) : Prop := PW X e (liftT0 X.K M0 w)
theorem DW.d0 (h : DW X e w) : DW0 X M0 e w := DW.d0' h
theorem DW0.dt (h : DW0 X M0 e w) : DT0 X M0 e w := PW.pt h
theorem de_cvalE {x f : Str} {C : Addr} {v : V} {d : Dat} {p : Pos} (h : X.mg x = some (.ref C) ∧ ∃ mc uv, ClX.CRead X.K C mc ∧ ClX.CVal X.K C mc f v uv) (hd : ∀ M, Dr X.K M v d) (hg : Gl X x := by rfl) (hdb : (x == ("__debug__" : Str)) = false := by decide) (hb : attributeBase (.Name x p) f X.env (eval (.Name x p) X.env) = eval (.Name x p) X.env := by rfl) :
    DE X (.Attribute (.Name x p) f pos) (wC d) := by
  obtain ⟨hm, mc, uv, r, k⟩ := h
  exact de_cval hm r k hd hg hdb hb
theorem de_gstrE {x z : Str} (h : ∃ t, X.mg x = some (.str z t)) (hg : Gl X x := by rfl) (hd : (x == ("__debug__" : Str)) = false := by decide) : DE X (.Name x pos) (wC (.str z)) := by
  obtain ⟨t, h⟩ := h
  exact de_c (pe_glob (v := .str z) hg h ⟨t, rfl⟩ hd) fun _ => .str z
end
end DL
set_option maxRecDepth 100000
set_option maxHeartbeats 4000000
namespace DL
open PySem PySem.Spec PyProof.Rows L2
end DL
set_option maxRecDepth 100000
set_option maxHeartbeats 4000000
namespace DL
open PySem L2
local macro_rules | `(tactic| walk_at "dl") => `(tactic| simp only [wFldI, wConI, wPropI, wMethI, wMethX, wAlt, wAltS, wCallX, wRaise, wRaise1, wRaise2, wCm, wCm0, noX, xw, insD_obj, insD_cell, coIns_ins, wSt, wLenS, wAll, wCntF, wIdxF, wSplit, wTryAs, wAsD, unE, wIsE, wXf, wIsiO, LamD.wOut, LamD.wLamMk, LamD.wAct, Dat.str.injEq, Dat.obj.injEq, wAbs, wCatS, wExt, wListOf, wiStr, wFld, wSetF, wMeth, wMake, wGMeth, wGCall, wDNewK, wDNewT, CO.ins.injEq, CO.dk.injEq, CO.dt.injEq, Cells.put_put, wRet, wRetN, wSeq, wAsg, wIfS, wDrop, wNext, wVar, wC, wOp, wUn, wFn, wNil, wCons, wTest, wNot, wAnd, wOr, wAndV, wOrV, wNotV, wIf, wChain, wTup, wLst, wCall, wNever, gN, gT, gNil, gCons, gIx, wI, wI0, wNeg, wMax2, wMin2, wLen, wIsN, wNotN, isNon_non, isNon_bl, isNon_int, isNon_str, isNon_lst, isNon_tup, isNon_cell, wIx, wTuple, wAug, wAugIx, wPar, wPar3, wSlL, wSlT, wPart, wNoPart, wCatT, wIsi, wIsi2, isiT, tyD_non, tyD_bl, tyD_int, tyD_str, tyD_lst, tyD_tup, tyD_cell, coTy_lst, seqD_lst, seqD_tp, seqD_cell, coSeq_lst, seen_dat, seen_cell, coDat_lst, startD, wYes, wApp, wEq_int, wEq_bl, allDat_nil, allDat_cons, allDat_map, Option.map_some, List.map_cons, List.map_nil, List.cons_append, List.nil_append, List.length_cons, List.length_nil, List.replicate, List.getElem?_cons_zero, List.getElem?_cons_succ, List.set_cons_zero, List.set_cons_succ, Option.some.injEq, exists_eq_left', exists_eq_left, exists_and_left, exists_eq', exists_eq, Vl.dat.injEq, Vl.raw.injEq, V.ref.injEq, CO.lst.injEq, Dat.int.injEq, Dat.bl.injEq, Dat.tup.injEq, Dat.lst.injEq, List.cons.injEq, and_true, true_and, retE, Nat.reduceAdd, Nat.reduceSub, and_assoc, Prod.mk.injEq, if_true, if_false, Bool.false_eq_true, decide_eq_true_eq, Bool.not_true, Bool.not_false, Bool.not_eq_true', decide_eq_false_iff_not, if_false_left, if_false_right, beq_iff_eq, Bool.or_eq_true, Bool.and_eq_true, Bool.or_self, Bool.or_true, Bool.true_or, Bool.or_false, Bool.false_or, decide_true, decide_false, reduceCtorEq, Cells.put_same, gt_iff_lt, ge_iff_le, beq_self_eq_true, bne_self_eq_false, Bool.decide_eq_true, not_true_eq_false, not_false_eq_true, Decidable.not_not, false_and, and_false, Bool.not_eq_false, at_0, at_1, at_2, at_3, at_4, at_5, ix_0, ix_1, ix_2, ix_3, Nat.reduceLT, Int.reduceLT, Int.reduceLE, Int.reduceNeg, Int.reduceAdd, Int.reduceSub, Int.reduceEq, Int.reducePow, Int.reduceToNat, Cells.put_put])
/-- a list comprehension whose parts do not touch the cells -/
theorem lc_pure {wi : WI} {g : WG} {wt : WT} {we : WE} {vs : List Nat} {ρ : DEnv} {cs : Cells} {P : Vl → Cells → Prop} (items : List Vl) (G : Cells → Prop) (t : Vl → Bool) (r : Vl → Dat)
    (hi : ∀ Pi : List Vl → (Cells → Prop) → Cells → Prop, Pi items G cs → wi ρ cs Pi) (hG : ∀ cs', SubC cs cs' → G cs') (hl : items.length ≤ 16777216)
    (hb : ∀ x ∈ items, ∀ cs' (B : Vl → Cells → Prop) (N : Cells → Prop), SubC cs cs' → (if t x = true then B (.dat (r x)) cs' else N cs') → g x (wipeD ρ vs) cs' fun ρ2 cs2 => wt ρ2 cs2 fun b cs3 => if b = true then we ρ2 cs3 B else N cs3)
    (p : P (.dat (.lst ((items.filter t).map r))) cs) : wLc wi g wt we vs ρ cs P := by
  unfold wLc
  refine hi _ fun D hD => ?_
  have hsub : ∀ c, SubC cs (cs.put D c) := fun c a x e => by
    have : a ≠ D := fun z => by rw [z, hD] at e; cases e
    rw [Cells.put_ne this]; exact e
  refine ⟨fun i cs' => cs' = cs.put D (.lst ((((items.take i).filter t).map r).map .dat)), by simp, fun i cs' _ e => by subst e; exact hG _ (hsub _), ?_, ?_⟩
  · rintro i x cs' hx rfl
    have hlt : i < items.length := by rcases Nat.lt_or_ge i items.length with h | h; exact h; rw [List.getElem?_eq_none h] at hx; cases hx
    have hx' : items[i] = x := by rw [List.getElem?_eq_getElem hlt] at hx; exact Option.some.inj hx
    have htk : items.take (i + 1) = items.take i ++ [x] := by rw [List.take_add_one, hx]; rfl
    refine hb x (hx' ▸ List.getElem_mem hlt) _ _ _ (hsub _) ?_
    by_cases ht : t x = true
    · rw [if_pos ht]
      refine ⟨_, Cells.put_same, ?_, ?_⟩
      · rw [List.length_map, List.length_map]
        have h1 := List.length_filter_le t (items.take i)
        have h2 : (items.take i).length ≤ i := List.length_take_le i items
        omega
      · show _ = cs.put D _
        rw [Cells.put_put, htk]
        simp [ht]
    · rw [if_neg ht]
      show _ = cs.put D _
      rw [htk]
      simp [ht]
  · rintro cs' rfl
    refine ⟨_, Cells.put_same, .inr ⟨_, allDat_map _, ?_⟩⟩
    rw [Cells.del_put hD, List.take_length]
    exact p
end DL
set_option maxRecDepth 100000
set_option maxHeartbeats 4000000
namespace DL
open PySem L2
local macro_rules | `(tactic| walk_at "dl") => `(tactic| simp only [wRet, wRetN, wSeq, wAsg, wIfS, wDrop, wNext, wVar, wC, wOp, wUn, wFn, wNil, wCons, wTest, wNot, wAnd, wOr, wAndV, wOrV, wNotV, wIf, wChain, wTup, wLst, wCall, wNever, gN, gT, gNil, gCons, gIx, wI, wI0, wNeg, wMax2, wMin2, wLen, wIsN, wNotN, isNon_non, isNon_bl, isNon_int, isNon_str, isNon_lst, isNon_tup, isNon_cell, wIx, wTuple, wAug, wAugIx, wPar, wIsi, wIsi2, isiT, tyD_non, tyD_bl, tyD_int, tyD_str, tyD_lst, tyD_tup, tyD_cell, coTy_lst, seqD_lst, seqD_tp, seqD_cell, coSeq_lst, seen_dat, seen_cell, coDat_lst, startD, wYes, wApp, wEq_int, wEq_bl, allDat_nil, allDat_cons, allDat_map, Option.map_some, List.map_cons, List.map_nil, List.cons_append, List.nil_append, List.length_cons, List.length_nil, List.replicate, List.getElem?_cons_zero, List.getElem?_cons_succ, List.set_cons_zero, List.set_cons_succ, Option.some.injEq, exists_eq_left', exists_eq_left, exists_and_left, exists_eq', exists_eq, Vl.dat.injEq, Vl.raw.injEq, V.ref.injEq, CO.lst.injEq, Dat.int.injEq, Dat.bl.injEq, Dat.tup.injEq, Dat.lst.injEq, List.cons.injEq, and_true, true_and, retE, Nat.reduceAdd, Nat.reduceSub, and_assoc, Prod.mk.injEq, if_true, if_false, Bool.false_eq_true, decide_eq_true_eq, Bool.not_true, Bool.not_false, Bool.not_eq_true', decide_eq_false_iff_not, if_false_left, if_false_right, beq_iff_eq, Bool.or_eq_true, Bool.and_eq_true, Bool.or_self, Bool.or_true, Bool.true_or, Bool.or_false, Bool.false_or, decide_true, decide_false, reduceCtorEq, Cells.put_same, gt_iff_lt, ge_iff_le, beq_self_eq_true, bne_self_eq_false, Bool.decide_eq_true, not_true_eq_false, not_false_eq_true, Decidable.not_not, false_and, and_false, Bool.not_eq_false, at_0, at_1, at_2, at_3, at_4, at_5, ix_0, ix_1, ix_2, ix_3, Nat.reduceLT, Int.reduceLT, Int.reduceLE, Int.reduceNeg, Int.reduceAdd, Int.reduceSub, Int.reduceEq, Int.reducePow, Int.reduceToNat, Cells.put_put])
def iD (ns : List Int) : List Dat := ns.map .int
def iV (ns : List Int) : List Vl := ns.map .int
def cal (ps : List Int) : Dat := .tup (iD ps)
abbrev Ord := Int × Int × Int
def ord (o : Ord) : Dat := .tup [.int o.1, .int o.2.1, .int o.2.2]
def ordsD (os : List Ord) : List Dat := os.map ord
def seqd (b : Bool) (ds : List Dat) : Dat := if b then .lst ds else .tup ds
theorem seqD_seqd {cs : Cells} {b : Bool} {ds : List Dat} : seqD cs (.dat (seqd b ds)) = some (b, ds.map .dat) := by cases b <;> rfl
def calFrom (b : Int) : List Int → Prop
  | [] => True
  | p :: r => b < p ∧ p ≤ 400 ∧ (b > 0 → p % b = 0) ∧ calFrom p r
def CalOk (ps : List Int) : Prop := 1 ≤ ps.length ∧ ps.length ≤ 5 ∧ calFrom 0 ps
def ordB (ps : List Int) (o : Ord) : Bool := decide (o.1 ∈ ps) && (decide (0 ≤ o.2.1) && decide (o.2.1 < o.1)) && !(o.2.2 == 0)
def firstBad (ps : List Int) (os : List Ord) : Dat := match os.findIdx? (fun o => !ordB ps o) with
  | none => .non
  | some i => .int (i : Int)
theorem iD_map (ns : List Int) : (iD ns).map Vl.dat = iV ns := by simp [iD, iV]
theorem inV_ints (p : Int) (ps : List Int) : inV (.int p) (ps.map V.int) = decide (p ∈ ps) := by
  unfold inV
  induction ps with
  | nil => simp
  | cons a r ih =>
    rw [List.map_cons, List.any_cons, ih]
    by_cases h : a = p
    · subst h; simp [eqV]
    · have h' : ¬ p = a := fun z => h z.symm
      simp [eqV, h, h']
theorem flatsD_ints (ps : List Int) : flatsD (iV ps) = some (ps.map V.int) := by
  induction ps with
  | nil => rfl
  | cons a r ih =>
    show (match flatD (Vl.int a), flatsD (iV r) with
      | some v, some vs => some (v :: vs)
      | _, _ => none) = _
    rw [ih]; rfl
theorem seqD_cal {cs : Cells} {ps : List Int} : seqD cs (.dat (cal ps)) = some (false, iV ps) := by
  show some (false, (iD ps).map Vl.dat) = _
  rw [iD_map]
theorem allDat_iV (ns : List Int) : allDat (iV ns) = some (iD ns) := by
  rw [← iD_map, allDat_map]
def sp_is_integer : DSp := fun xs cs Q _ => ∃ i : Int, xs = [.int i] ∧ Q (.bl true) cs
theorem len_is_integer : ∀ xs cs Q XP, sp_is_integer xs cs Q XP → xs.length = 1 := by rintro xs cs Q XP ⟨i, rfl, _⟩; rfl
def w_is_integer : WS := (wRet (wAndV (wIsi .int (wVar 0)) (wNotV (wIsi .bool (wVar 0)))))
theorem pure_is_integer (K : Frag) : ∀ xs cs Q XP, sp_is_integer xs cs Q XP → w_is_integer (retE K Q) (startD 1 xs) cs := by
  rintro xs cs Q XP ⟨i, rfl, q⟩
  unfold w_is_integer
  walk_at "dl"
  exact .now q
theorem calFrom_at : ∀ {ps : List Int} {b : Int} {i : Nat} {p : Int}, calFrom b ps → ps[i]? = some p → (i = 0 → b < p ∧ p ≤ 400 ∧ (b > 0 → p % b = 0)) ∧ (∀ q, 0 < i → ps[i - 1]? = some q → q < p ∧ p ≤ 400 ∧ (q > 0 → p % q = 0))
  | a :: r, b, 0, p, h, e => by
    cases e
    exact ⟨fun _ => ⟨h.1, h.2.1, h.2.2.1⟩, fun q z => absurd z (by omega)⟩
  | a :: r, b, i + 1, p, h, e => by
    have ih := calFrom_at (b := a) (i := i) h.2.2.2 e
    refine ⟨fun z => absurd z (by omega), fun q _ hq => ?_⟩
    cases i with
    | zero =>
      have : (a :: r)[0]? = some q := hq
      cases this
      exact ih.1 rfl
    | succ i => exact ih.2 q (by omega) hq
def prevOf (ps : List Int) (i : Nat) : Int := if i = 0 then 0 else (ps[i - 1]?).getD 0
theorem calFrom_prev {ps : List Int} {i : Nat} {p : Int} (h : calFrom 0 ps) (e : ps[i]? = some p) : prevOf ps i < p ∧ p ≤ 400 ∧ (prevOf ps i > 0 → p % prevOf ps i = 0) := by
  have k := calFrom_at h e
  unfold prevOf
  by_cases h0 : i = 0
  · subst h0; simpa using k.1 rfl
  · rw [if_neg h0]
    have hl := (List.getElem?_eq_some_iff.mp e).1
    obtain ⟨q, hq⟩ : ∃ q, ps[i - 1]? = some q := ⟨ps[i - 1]'(by omega), List.getElem?_eq_getElem (by omega)⟩
    rw [hq]
    exact k.2 q (by omega) hq
def sp_is_order : DSp := fun xs cs Q _ => ∃ (ps : List Int) (o : Ord), xs = [.dat (cal ps), .dat (ord o)] ∧ Q (.bl (ordB ps o)) cs
theorem len_is_order : ∀ xs cs Q XP, sp_is_order xs cs Q XP → xs.length = 2 := by rintro xs cs Q XP ⟨ps, o, rfl, _⟩; rfl
def w_is_order : WS := (wSeq (wAsg (wVar 1) (gT 3 (gCons (gN 2) (gCons (gN 3) (gCons (gN 4) gNil)))))
    (wSeq (wIfS (wOr (wTest (wOp (wIn true) (wVar 2) (wVar 0))) (wOr (wNot (wTest (wCall sp_is_integer (wCons (wVar 3) wNil)))) (wNot (wTest (wChain wLe wLt (wC (.int 0)) (wVar 3) (wVar 2)))))) (wRet (wC (.bl false))) wNext)
    (wRet (wAndV (wCall sp_is_integer (wCons (wVar 4) wNil)) (wOp (wEqD true) (wVar 4) (wC (.int 0)))))))
theorem wIn_ints {neg : Bool} {p : Int} {x : Vl} {b : Bool} {ps : List Int} {cs : Cells} {P : Vl → Cells → Prop} (hx : seqD cs x = some (b, iV ps)) (h : P (.dat (.bl (if neg then !decide (p ∈ ps) else decide (p ∈ ps)))) cs) : wIn neg (.int p) x cs P :=
  ⟨b, _, .int p, _, hx, rfl, flatsD_ints ps, by rw [inV_ints]; exact h⟩
theorem pure_is_order (K : Frag) : ∀ xs cs Q XP, sp_is_order xs cs Q XP → w_is_order (retE K Q) (startD 5 xs) cs := by
  rintro xs cs Q XP ⟨ps, ⟨p, d, a⟩, rfl, q⟩
  unfold w_is_order
  simp only [ord, sp_is_integer]
  walk_at "dl"
  refine wIn_ints seqD_cal ?_
  unfold ordB at q
  simp only [sp_is_integer]
  walk_at "dl"
  by_cases h1 : p ∈ ps
  · rw [if_neg (by simpa using h1)]
    by_cases h2 : 0 ≤ d
    · rw [if_pos h2]
      by_cases h3 : d < p
      · rw [if_neg (by simpa using h3)]
        refine .now ?_
        simpa [h1, h2, h3] using q
      · rw [if_pos h3]
        refine .now ?_
        simpa [h1, h2, h3] using q
    · rw [if_neg h2]
      refine .now ?_
      simpa [h1, h2] using q
  · rw [if_pos (by simpa using h1)]
    refine .now ?_
    simpa [h1] using q
def sp_first_invalid_order : DSp := fun xs cs Q _ => ∃ (ps : List Int) (os : List Ord) (b : Bool), xs = [.dat (cal ps), .dat (seqd b (ordsD os))] ∧ Q (.dat (firstBad ps os)) cs
theorem len_first_invalid_order : ∀ xs cs Q XP, sp_first_invalid_order xs cs Q XP → xs.length = 2 := by rintro xs cs Q XP ⟨ps, o, b, rfl, _⟩; rfl
def w_first_invalid_order : WS := (wSeq (wFor (wiEnum (wCons (wVar 1) wNil)) (gT 2 (gCons (gN 2) (gCons (gN 3) gNil))) (wIfS (wNot (wTest (wCall sp_is_order (wCons (wVar 0) (wCons (wVar 3) wNil))))) (wRet (wVar 2)) wNext))
    (wRet (wC .non)))
theorem pure_first_invalid_order (K : Frag) : ∀ xs cs Q XP, sp_first_invalid_order xs cs Q XP → w_first_invalid_order (retE K Q) (startD 4 xs) cs := by
  rintro xs cs Q XP ⟨ps, os, b, rfl, q⟩
  unfold w_first_invalid_order
  walk_at "dl"
  simp only [wFor, wiEnum]
  walk_at "dl"
  refine ⟨_, _, seqD_seqd, _, allDat_map _, fun i ρ cs' => cs' = cs ∧ (∀ o ∈ os.take i, ordB ps o = true) ∧ ∃ a b', ρ = [some (.dat (cal ps)), some (.dat (seqd b (ordsD os))), a, b'], ⟨rfl, by simp, _, _, rfl⟩, fun _ _ _ _ _ => seqD_seqd, ?_, ?_⟩
  · rintro i x ρ cs' hx ⟨rfl, hall, a, b', rfl⟩
    obtain ⟨d, hd, rfl⟩ := enumF_at hx
    unfold ordsD at hd
    rw [List.getElem?_map] at hd
    obtain ⟨o, ho, rfl⟩ := Option.map_eq_some_iff.mp hd
    walk_at "dl"
    refine ⟨ps, o, rfl, ?_⟩
    walk_at "dl"
    have hlt := (List.getElem?_eq_some_iff.mp ho).1
    have ht : os.take (i + 1) = os.take i ++ [o] := by rw [List.take_succ, ho]; rfl
    cases hb : ordB ps o with
    | false =>
      simp only [if_true]
      refine .now ?_
      have : firstBad ps os = .int (i : Int) := by
        unfold firstBad
        have : os.findIdx? (fun o => !ordB ps o) = some i := by
          rw [List.findIdx?_eq_some_iff_getElem]
          refine ⟨hlt, ?_, fun j hj => ?_⟩
          · rw [(List.getElem?_eq_some_iff.mp ho).2, hb]; rfl
          · have : ordB ps os[j] = true := hall _ (by rw [List.mem_take_iff_getElem]; exact ⟨j, by omega, rfl⟩)
            simp [this]
        rw [this]
      rw [this] at q
      exact q
    | true =>
      simp only [Bool.true_eq_false, if_false]
      intro o' ho'
      rw [ht] at ho'
      rcases List.mem_append.mp ho' with z | z
      · exact hall o' z
      · simp at z; rw [z]; exact hb
  · rintro ρ cs' ⟨rfl, hall, _⟩
    rw [enumF_len] at hall
    refine .now ?_
    have : firstBad ps os = .non := by
      unfold firstBad
      have : os.findIdx? (fun o => !ordB ps o) = none := by
        rw [List.findIdx?_eq_none_iff]
        intro o ho
        have := hall o (by rw [List.take_of_length_le (by simp [ordsD])]; exact ho)
        simp [this]
      rw [this]
    rw [this] at q
    exact q
def daysDue (p d f l : Int) : Int := max 0 ((l - d) / p - (f - 1 - d) / p)
def sp_days_due : DSp := fun xs cs Q _ => ∃ p d f l : Int, xs = [.int p, .int d, .int f, .int l] ∧ 0 < p ∧ p ≤ 400 ∧ Q (.int (daysDue p d f l)) cs
theorem len_days_due : ∀ xs cs Q XP, sp_days_due xs cs Q XP → xs.length = 4 := by rintro xs cs Q XP ⟨p, d, f, l, rfl, _⟩; rfl
def w_days_due : WS := (wRet (wFn wMax2 (wCons (wC (.int 0)) (wCons (wOp wSub (wOp wDiv (wOp wSub (wVar 3) (wVar 1)) (wVar 0)) (wOp wDiv (wOp wSub (wOp wSub (wVar 2) (wC (.int 1))) (wVar 1)) (wVar 0))) wNil))))
theorem pure_days_due (K : Frag) : ∀ xs cs Q XP, sp_days_due xs cs Q XP → w_days_due (retE K Q) (startD 4 xs) cs := by
  rintro xs cs Q XP ⟨p, d, f, l, rfl, hp, hp2, q⟩
  unfold w_days_due
  walk_at "dl"
  refine ⟨divOk hp (by omega), divOk hp (by omega), .now ?_⟩
  have : daysDue p d f l = (if 0 < (l - d) / p - (f - 1 - d) / p then (l - d) / p - (f - 1 - d) / p else 0) := by
    unfold daysDue
    split <;> omega
  rw [this] at q
  exact q
end DL
set_option maxRecDepth 100000
set_option maxHeartbeats 4000000
namespace DL
open PySem L2
local macro_rules | `(tactic| walk_at "dl") => `(tactic| simp only [wFldI, wConI, wPropI, wMethI, wMethX, wAlt, wAltS, wCallX, wRaise, wRaise1, wRaise2, wCm, wCm0, noX, xw, insD_obj, insD_cell, coIns_ins, wSt, wLenS, wAll, wCntF, wIdxF, wSplit, wTryAs, wAsD, unE, wIsE, wXf, wIsiO, LamD.wOut, LamD.wLamMk, LamD.wAct, Dat.str.injEq, Dat.obj.injEq, wAbs, wCatS, wExt, wListOf, wiStr, wFld, wSetF, wMeth, wMake, wGMeth, wGCall, wDNewK, wDNewT, CO.ins.injEq, CO.dk.injEq, CO.dt.injEq, Cells.put_put, wRet, wRetN, wSeq, wAsg, wIfS, wDrop, wNext, wVar, wC, wOp, wUn, wFn, wNil, wCons, wTest, wNot, wAnd, wOr, wAndV, wOrV, wNotV, wIf, wChain, wTup, wLst, wCall, wNever, gN, gT, gNil, gCons, gIx, wI, wI0, wNeg, wMax2, wMin2, wLen, wIsN, wNotN, isNon_non, isNon_bl, isNon_int, isNon_str, isNon_lst, isNon_tup, isNon_cell, wIx, wTuple, wAug, wAugIx, wPar, wPar3, wSlL, wSlT, wPart, wNoPart, wCatT, wIsi, wIsi2, isiT, tyD_non, tyD_bl, tyD_int, tyD_str, tyD_lst, tyD_tup, tyD_cell, coTy_lst, seqD_lst, seqD_tp, seqD_cell, coSeq_lst, seen_dat, seen_cell, coDat_lst, startD, wYes, wApp, wEq_int, wEq_bl, allDat_nil, allDat_cons, allDat_map, Option.map_some, List.map_cons, List.map_nil, List.cons_append, List.nil_append, List.length_cons, List.length_nil, List.replicate, List.getElem?_cons_zero, List.getElem?_cons_succ, List.set_cons_zero, List.set_cons_succ, Option.some.injEq, exists_eq_left', exists_eq_left, exists_and_left, exists_eq', exists_eq, Vl.dat.injEq, Vl.raw.injEq, V.ref.injEq, CO.lst.injEq, Dat.int.injEq, Dat.bl.injEq, Dat.tup.injEq, Dat.lst.injEq, List.cons.injEq, and_true, true_and, retE, Nat.reduceAdd, Nat.reduceSub, and_assoc, Prod.mk.injEq, if_true, if_false, Bool.false_eq_true, decide_eq_true_eq, Bool.not_true, Bool.not_false, Bool.not_eq_true', decide_eq_false_iff_not, if_false_left, if_false_right, beq_iff_eq, Bool.or_eq_true, Bool.and_eq_true, Bool.or_self, Bool.or_true, Bool.true_or, Bool.or_false, Bool.false_or, decide_true, decide_false, reduceCtorEq, Cells.put_same, gt_iff_lt, ge_iff_le, beq_self_eq_true, bne_self_eq_false, Bool.decide_eq_true, not_true_eq_false, not_false_eq_true, Decidable.not_not, false_and, and_false, Bool.not_eq_false, at_0, at_1, at_2, at_3, at_4, at_5, ix_0, ix_1, ix_2, ix_3, Nat.reduceLT, Int.reduceLT, Int.reduceLE, Int.reduceNeg, Int.reduceAdd, Int.reduceSub, Int.reduceEq, Int.reducePow, Int.reduceToNat, Cells.put_put])
inductive Kd where
  | op | li | sa
  deriving DecidableEq
def Kd.cls (C : CE) : Kd → Addr
  | .op => C.Account
  | .li => C.LimitedAccount
  | .sa => C.SavingsAccount
def Kd.str : Kd → Str
  | .op => "open"
  | .li => "limited"
  | .sa => "savings"
def acctF (n : Str) (l b c : Int) : List (Str × Dat) := [("title", .str n), ("credit", .int l), ("amount", .int b), ("cycle", .int c)]
def acctD (C : CE) (k : Kd) (n : Str) (l b c : Int) : Dat := .obj (k.cls C) (acctF n l b c)
def isAcct (C : CE) (cs : Cells) (x : Vl) (k : Kd) (n : Str) (l b c : Int) : Prop := insD cs x = some (k.cls C, datF (acctF n l b c))
theorem isAcct_dat {C : CE} {cs : Cells} {k : Kd} {n : Str} {l b c : Int} : isAcct C cs (.dat (acctD C k n l b c)) k n l b c := rfl
theorem af_c {n : Str} {l b c : Int} : (datF (acctF n l b c)).lookup ("credit" : Str) = some (.int l) := rfl
theorem af_a {n : Str} {l b c : Int} : (datF (acctF n l b c)).lookup ("amount" : Str) = some (.int b) := rfl
def sp_is_amount (_ : CE) : DSp := fun xs cs Q _ => ∃ v lo hi : Int, xs = [.int v, .int lo, .int hi] ∧ Q (.bl (decide (lo ≤ v) && decide (v ≤ hi))) cs
theorem len_is_amount {C : CE} : ∀ xs cs Q XP, sp_is_amount C xs cs Q XP → xs.length = 3 := by rintro xs cs Q XP ⟨v, lo, hi, rfl, _⟩; rfl
def sp_Account___init__ (C : CE) : DSp := fun xs cs Q _ => ∃ (a : Addr) (k : Kd) (n : Str) (l b c : Int), xs = [.cell a, .dat (.str n), .int l, .int b, .int c] ∧ cs a = some (.ins (k.cls C) []) ∧ Q .non (cs.put a (.ins (k.cls C) (datF (acctF n l b c))))
theorem len_Account___init__ {C : CE} : ∀ xs cs Q XP, sp_Account___init__ C xs cs Q XP → xs.length = 5 := by rintro xs cs Q XP ⟨a, k, n, l, b, c, rfl, _⟩; rfl
def nameB (z : Str) : Bool := (decide (1 ≤ (z.length : Int)) && decide ((z.length : Int) ≤ 8)) && z.cps.toList.all fun c => !(Builtin.Str.occurrences "abcdefghijklmnopqrstuvwxyz" ⟨#[c]⟩ 0 ("abcdefghijklmnopqrstuvwxyz" : Str).length 1).isEmpty
def sp_Account_is_name (_ : CE) : DSp := fun xs cs Q _ => ∃ z : Str, xs = [.dat (.str z)] ∧ z.length ≤ 16777216 ∧ Q (.bl (nameB z)) cs
theorem len_Account_is_name {C : CE} : ∀ xs cs Q XP, sp_Account_is_name C xs cs Q XP → xs.length = 1 := by rintro xs cs Q XP ⟨z, rfl, _⟩; rfl
def sp_Account_allows (C : CE) : DSp := fun xs cs Q _ => ∃ (x : Vl) (v : Int), xs = [x, .int v] ∧ Q (.bl true) cs
theorem len_Account_allows {C : CE} : ∀ xs cs Q XP, sp_Account_allows C xs cs Q XP → xs.length = 2 := by rintro xs cs Q XP ⟨z, v, rfl, _⟩; rfl
def sp_LimitedAccount_allows (C : CE) : DSp := fun xs cs Q _ => ∃ (x : Vl) (v : Int) (k : Kd) (n : Str) (l b c : Int), xs = [x, .int v] ∧ isAcct C cs x k n l b c ∧ k ≠ .op ∧ Q (.bl (decide (0 - l ≤ v))) cs
theorem len_LimitedAccount_allows {C : CE} : ∀ xs cs Q XP, sp_LimitedAccount_allows C xs cs Q XP → xs.length = 2 := by rintro xs cs Q XP ⟨z, v, k, n, l, b, c, rfl, _⟩; rfl
/-- what Account.made answers: an account, or what it raises -/
def madeR (C : CE) (kd n : Str) (l b c : Int) : Except (Addr × List (Str × Vl)) Dat :=
  if (kd = "open" ∨ kd = "limited" ∨ kd = "savings") then
    if nameB n = true then
      if 0 ≤ l ∧ l ≤ (if kd = "limited" then 1000000000000000000 else 0) then
        if kd ≠ "open" ∧ b < 0 - l then .error (C.Overdrawn, [("day", .non), ("name", .dat (.str n))])
        else .ok (acctD C (if kd = "limited" then .li else if kd = "savings" then .sa else .op) n l b c)
      else .error (C.InvalidAmount, [])
    else .error (C.InvalidName, [("name", .dat (.str n))])
  else .error (C.UnknownKind, [])
def endR (r : Except (Addr × List (Str × Vl)) Dat) (cs : Cells) (Q : Vl → Cells → Prop) (XP : DXP) : Prop := match r with
  | .ok d => Q (.dat d) cs
  | .error (D, fs) => XP (.ref D) fs cs
def sp_Account_made (C : CE) : DSp := fun xs cs Q XP => ∃ (x : Vl) (kd n : Str) (l b c : Int), xs = [x, .dat (.str kd), .dat (.str n), .int l, .int b, .int c] ∧ PyData.strOk kd = true ∧ n.length ≤ 16777216 ∧ endR (madeR C kd n l b c) cs Q XP
theorem len_Account_made {C : CE} : ∀ xs cs Q XP, sp_Account_made C xs cs Q XP → xs.length = 6 := by rintro xs cs Q XP ⟨x, kd, n, l, b, c, rfl, _⟩; rfl
def spAcc (C : CE) (ok : Kd → Prop) (r : Kd → Str → Int → Int → Int → Dat) : DSp := fun xs cs Q _ => ∃ (x : Vl) (k : Kd) (n : Str) (l b c : Int), xs = [x] ∧ isAcct C cs x k n l b c ∧ ok k ∧ Q (.dat (r k n l b c)) cs
theorem len_acc {C : CE} {ok : Kd → Prop} {r : Kd → Str → Int → Int → Int → Dat} : ∀ xs cs Q XP, spAcc C ok r xs cs Q XP → xs.length = 1 := by rintro xs cs Q XP ⟨x, k, n, l, b, c, rfl, _⟩; rfl
def sp_Account_floor (C : CE) : DSp := spAcc C (· = .op) fun _ _ _ _ _ => .non
def sp_LimitedAccount_floor (C : CE) : DSp := spAcc C (· ≠ .op) fun _ _ l _ _ => .int (0 - l)
def sp_Account_balance (C : CE) : DSp := spAcc C (fun _ => True) fun _ _ _ b _ => .int b
theorem len_Account_floor {C : CE} : ∀ xs cs Q XP, sp_Account_floor C xs cs Q XP → xs.length = 1 := len_acc
theorem len_LimitedAccount_floor {C : CE} : ∀ xs cs Q XP, sp_LimitedAccount_floor C xs cs Q XP → xs.length = 1 := len_acc
theorem len_Account_balance {C : CE} : ∀ xs cs Q XP, sp_Account_balance C xs cs Q XP → xs.length = 1 := len_acc
/-- is_amount: slots 0 amount, 1 low, 2 high -/
def w_is_amount (K : Frag) (C : CE) : WS := (wRet (wAndV (wCall sp_is_integer (wCons (wVar 0) wNil)) (wChain wLe wLe (wVar 1) (wVar 0) (wVar 2))))
/-- Account.__init__: slots 0 self, 1 name, 2 limit, 3 amount, 4 cycle -/
def w_Account___init__ (K : Frag) (C : CE) : WS := (wSeq (wAltS (wSetF C.Account "title" (wVar 0) (wVar 1)) (wAltS (wSetF C.LimitedAccount "title" (wVar 0) (wVar 1)) (wSetF C.SavingsAccount "title" (wVar 0) (wVar 1))))
    (wSeq (wAltS (wSetF C.Account "credit" (wVar 0) (wVar 2)) (wAltS (wSetF C.LimitedAccount "credit" (wVar 0) (wVar 2)) (wSetF C.SavingsAccount "credit" (wVar 0) (wVar 2))))
    (wSeq (wAltS (wSetF C.Account "amount" (wVar 0) (wVar 3)) (wAltS (wSetF C.LimitedAccount "amount" (wVar 0) (wVar 3)) (wSetF C.SavingsAccount "amount" (wVar 0) (wVar 3))))
    (wAltS (wSetF C.Account "cycle" (wVar 0) (wVar 4)) (wAltS (wSetF C.LimitedAccount "cycle" (wVar 0) (wVar 4)) (wSetF C.SavingsAccount "cycle" (wVar 0) (wVar 4)))))))
/-- Account.is_name: slots 0 name, 1 letter -/
def w_Account_is_name (K : Frag) (C : CE) : WS := (wRet (wAndV (wChain wLe wLe (wC (.int 1)) (wFn wLenS (wCons (wVar 0) wNil)) (wC (.int 8))) (wFn wAll (wCons (wLc (wiStr (wVar 0)) (gN 1) wYes (wOp wStIn (wVar 1) (wC (.str "abcdefghijklmnopqrstuvwxyz"))) [1]) wNil))))
/-- Account.allows: slots 0 self, 1 amount -/
def w_Account_allows (K : Frag) (C : CE) : WS := (wRet (wC (.bl true)))
/-- LimitedAccount.allows: slots 0 self, 1 amount -/
def w_LimitedAccount_allows (K : Frag) (C : CE) : WS := (wRet (wOp wGe (wVar 1) (wOp wSub (wC (.int 0)) (wAlt (wFldI C.LimitedAccount "credit" (wVar 0)) (wFldI C.SavingsAccount "credit" (wVar 0))))))
/-- Account.made: slots 0 cls, 1 kind, 2 name, 3 limit, 4 balance, 5 cycle, 6 account -/
def w_Account_made (K : Frag) (C : CE) (W0 : DXP) : WS := (wSeq (wIfS (wTest (wOp (wIn true) (wVar 1) (wTup (wCons (wC (.str "open")) (wCons (wC (.str "limited")) (wCons (wC (.str "savings")) wNil)))))) (wRaise (.ref C.UnknownKind) (xw W0)) wNext)
    (wSeq (wIfS (wNot (wTest (wCall (sp_Account_is_name C) (wCons (wVar 2) wNil)))) (wRaise1 C.InvalidName "name" (wVar 2) (xw W0)) wNext)
    (wSeq (wIfS (wNot (wTest (wCall (sp_is_amount C) (wCons (wVar 3) (wCons (wC (.int 0)) (wCons (wIf (wTest (wOp (wEqD false) (wVar 1) (wC (.str "limited")))) (wC (.int 1000000000000000000)) (wC (.int 0))) wNil)))))) (wRaise (.ref C.InvalidAmount) (xw W0)) wNext)
    (wSeq (wIfS (wTest (wOp (wEqD false) (wVar 1) (wC (.str "limited")))) (wAsg (wMake C.LimitedAccount (sp_Account___init__ C) (wCons (wVar 2) (wCons (wVar 3) (wCons (wVar 4) (wCons (wVar 5) wNil))))) (gN 6)) (wIfS (wTest (wOp (wEqD false) (wVar 1) (wC (.str "savings")))) (wAsg (wMake C.SavingsAccount (sp_Account___init__ C) (wCons (wVar 2) (wCons (wVar 3) (wCons (wVar 4) (wCons (wVar 5) wNil))))) (gN 6)) (wAsg (wMake C.Account (sp_Account___init__ C) (wCons (wVar 2) (wCons (wVar 3) (wCons (wVar 4) (wCons (wVar 5) wNil))))) (gN 6))))
    (wSeq (wIfS (wNot (wTest (wAlt (wMethI C.Account "allows" (sp_Account_allows C) (wVar 6) (wCons (wVar 4) wNil)) (wAlt (wMethI C.LimitedAccount "allows" (sp_LimitedAccount_allows C) (wVar 6) (wCons (wVar 4) wNil)) (wMethI C.SavingsAccount "allows" (sp_LimitedAccount_allows C) (wVar 6) (wCons (wVar 4) wNil)))))) (wRaise2 C.Overdrawn "name" "day" (wVar 2) (wC .non) (xw W0)) wNext)
    (wRet (wVar 6)))))))
/-- Account.floor: slots 0 self -/
def w_Account_floor (K : Frag) (C : CE) : WS := (wRet (wC .non))
/-- LimitedAccount.floor: slots 0 self -/
def w_LimitedAccount_floor (K : Frag) (C : CE) : WS := (wRet (wOp wSub (wC (.int 0)) (wAlt (wFldI C.LimitedAccount "credit" (wVar 0)) (wFldI C.SavingsAccount "credit" (wVar 0)))))
/-- Account.balance: slots 0 self -/
def w_Account_balance (K : Frag) (C : CE) : WS := (wRet (wAlt (wFldI C.Account "amount" (wVar 0)) (wAlt (wFldI C.LimitedAccount "amount" (wVar 0)) (wFldI C.SavingsAccount "amount" (wVar 0)))))
theorem pure_is_amount (K : Frag) (C : CE) : ∀ xs cs Q XP, sp_is_amount C xs cs Q XP → w_is_amount K C (retE K Q) (startD 3 xs) cs := by
  rintro xs cs Q XP ⟨v, lo, hi, rfl, q⟩
  unfold w_is_amount
  walk_at "dl"
  refine ⟨_, rfl, ?_⟩
  refine ⟨true, rfl, ?_⟩
  by_cases h : lo ≤ v
  · simp only [h, if_true, decide_true, Bool.true_and] at q ⊢
    exact .now q
  · simp only [h, if_false, decide_false, Bool.false_and] at q ⊢
    exact .now q
theorem altSk {C : CE} (k : Kd) {w : Addr → WS} {D : DEnds} {ρ : DEnv} {cs : Cells} (h : w (k.cls C) D ρ cs) : wAltS (w C.Account) (wAltS (w C.LimitedAccount) (w C.SavingsAccount)) D ρ cs := by
  cases k
  · exact .inl h
  · exact .inr (.inl h)
  · exact .inr (.inr h)
theorem altk {C : CE} (k : Kd) {w : Addr → WE} {ρ : DEnv} {cs : Cells} {P : Vl → Cells → Prop} (h : w (k.cls C) ρ cs P) : wAlt (w C.Account) (wAlt (w C.LimitedAccount) (w C.SavingsAccount)) ρ cs P := by
  cases k
  · exact .inl h
  · exact .inr (.inl h)
  · exact .inr (.inr h)
theorem altk2 {C : CE} (k : Kd) (hk : k ≠ .op) {w : Addr → WE} {ρ : DEnv} {cs : Cells} {P : Vl → Cells → Prop} (h : w (k.cls C) ρ cs P) : wAlt (w C.LimitedAccount) (w C.SavingsAccount) ρ cs P := by
  cases k
  · exact absurd rfl hk
  · exact .inl h
  · exact .inr h
theorem putV_le {f : Str} {y : Vl} : ∀ {fs : List (Str × Vl)}, (putV f y fs).length ≤ fs.length + 1 := by
  intro fs
  induction fs with
  | nil => simp [putV]
  | cons q r ih => obtain ⟨m, z⟩ := q; unfold putV; split <;> simp <;> omega
theorem pure_Account___init__ (K : Frag) (C : CE) : ∀ xs cs Q XP, sp_Account___init__ C xs cs Q XP → w_Account___init__ K C (retE K Q) (startD 5 xs) cs := by
  rintro xs cs Q XP ⟨a, k, n, l, b, c, rfl, ha, q⟩
  unfold w_Account___init__
  refine altSk (w := fun D => wSetF D "title" (wVar 0) (wVar 1)) k ⟨_, rfl, _, rfl, a, _, rfl, ha, (by simp), ?_⟩
  refine altSk (w := fun D => wSetF D "credit" (wVar 0) (wVar 2)) k ⟨_, rfl, _, rfl, a, _, rfl, Cells.put_same, (by first | exact Nat.lt_of_le_of_lt putV_le (by simp) | exact Nat.lt_of_le_of_lt putV_le (Nat.succ_lt_succ (Nat.lt_of_le_of_lt putV_le (by simp))) | exact Nat.lt_of_le_of_lt putV_le (Nat.succ_lt_succ (Nat.lt_of_le_of_lt putV_le (Nat.succ_lt_succ (Nat.lt_of_le_of_lt putV_le (by simp)))))), ?_⟩
  refine altSk (w := fun D => wSetF D "amount" (wVar 0) (wVar 3)) k ⟨_, rfl, _, rfl, a, _, rfl, Cells.put_same, (by first | exact Nat.lt_of_le_of_lt putV_le (by simp) | exact Nat.lt_of_le_of_lt putV_le (Nat.succ_lt_succ (Nat.lt_of_le_of_lt putV_le (by simp))) | exact Nat.lt_of_le_of_lt putV_le (Nat.succ_lt_succ (Nat.lt_of_le_of_lt putV_le (Nat.succ_lt_succ (Nat.lt_of_le_of_lt putV_le (by simp)))))), ?_⟩
  refine altSk (w := fun D => wSetF D "cycle" (wVar 0) (wVar 4)) k ⟨_, rfl, _, rfl, a, _, rfl, Cells.put_same, (by first | exact Nat.lt_of_le_of_lt putV_le (by simp) | exact Nat.lt_of_le_of_lt putV_le (Nat.succ_lt_succ (Nat.lt_of_le_of_lt putV_le (by simp))) | exact Nat.lt_of_le_of_lt putV_le (Nat.succ_lt_succ (Nat.lt_of_le_of_lt putV_le (Nat.succ_lt_succ (Nat.lt_of_le_of_lt putV_le (by simp)))))), ?_⟩
  simp only [Cells.put_put]
  exact .now q
theorem pure_Account_is_name (K : Frag) (C : CE) : ∀ xs cs Q XP, sp_Account_is_name C xs cs Q XP → w_Account_is_name K C (retE K Q) (startD 2 xs) cs := by
  rintro xs cs Q XP ⟨z, rfl, hz, q⟩
  unfold w_Account_is_name
  walk_at "dl"
  refine ⟨hz, ?_⟩
  have hc : ∀ P : Vl → Cells → Prop, P (.dat (.lst ((z.cps.toList.map fun c => !(Builtin.Str.occurrences "abcdefghijklmnopqrstuvwxyz" ⟨#[c]⟩ 0 ("abcdefghijklmnopqrstuvwxyz" : Str).length 1).isEmpty).map .bl))) cs → wLc (wiStr (wVar 0)) (gN 1) wYes (wOp wStIn (wVar 1) (wC (.str "abcdefghijklmnopqrstuvwxyz"))) [1] [some (.dat (.str z)), none] cs P := by
    intro P p
    refine lc_pure (charsD z) (fun _ => True) (fun _ => true) (fun x => match x with | .dat (.str q) => .bl (!(Builtin.Str.occurrences "abcdefghijklmnopqrstuvwxyz" q 0 ("abcdefghijklmnopqrstuvwxyz" : Str).length 1).isEmpty) | _ => .non) (fun Pi h => ⟨_, rfl, z, rfl, h⟩) (fun _ _ => trivial) (by simpa [charsD, Str.length] using hz) ?_ ?_
    · intro x hx cs' B N hs hb
      obtain ⟨ch, -, rfl⟩ := List.mem_map.mp hx
      simp only [wipeD, wStIn]
      walk_at "dl"
      rw [if_pos rfl] at hb
      exact hb
    · have e : ((charsD z).filter fun _ => true) = charsD z := List.filter_eq_self.mpr fun _ _ => rfl
      rw [e, charsD, List.map_map]
      rw [List.map_map] at p
      exact p
  unfold nameB at q
  by_cases h1 : 1 ≤ (z.length : Int)
  · by_cases h8 : (z.length : Int) ≤ 8
    · rw [if_pos h1, if_pos h8]
      rw [decide_eq_true h1, decide_eq_true h8] at q
      refine hc _ ?_
      refine ⟨_, by rw [seqD_lst, List.map_map]; rfl, .now ?_⟩
      rw [List.all_map]
      exact q
    · rw [if_pos h1, if_neg h8]
      rw [decide_eq_true h1, decide_eq_false h8] at q
      exact .now q
  · rw [if_neg h1]
    rw [decide_eq_false h1] at q
    exact .now q
theorem pure_Account_allows (K : Frag) (C : CE) : ∀ xs cs Q XP, sp_Account_allows C xs cs Q XP → w_Account_allows K C (retE K Q) (startD 2 xs) cs := by
  rintro xs cs Q XP ⟨x, v, rfl, q⟩
  exact .now q
theorem pure_LimitedAccount_allows (K : Frag) (C : CE) : ∀ xs cs Q XP, sp_LimitedAccount_allows C xs cs Q XP → w_LimitedAccount_allows K C (retE K Q) (startD 2 xs) cs := by
  rintro xs cs Q XP ⟨x, v, k, n, l, b, c, rfl, hx, hk, q⟩
  unfold w_LimitedAccount_allows
  refine ⟨_, rfl, altk2 (w := fun D => wFldI D "credit" (wVar 0)) k hk ⟨_, rfl, _, _, hx, af_c, ?_⟩⟩
  walk_at "dl"
  exact .now q
theorem pure_Account_balance (K : Frag) (C : CE) : ∀ xs cs Q XP, sp_Account_balance C xs cs Q XP → w_Account_balance K C (retE K Q) (startD 1 xs) cs := by
  rintro xs cs Q XP ⟨x, k, n, l, b, c, rfl, hx, hk, q⟩
  exact altk (w := fun D => wFldI D "amount" (wVar 0)) k ⟨_, rfl, _, _, hx, af_a, .now q⟩
theorem pure_Account_floor (K : Frag) (C : CE) : ∀ xs cs Q XP, sp_Account_floor C xs cs Q XP → w_Account_floor K C (retE K Q) (startD 1 xs) cs := by
  rintro xs cs Q XP ⟨x, k, n, l, b, c, rfl, hx, hk, q⟩
  exact .now q
theorem pure_LimitedAccount_floor (K : Frag) (C : CE) : ∀ xs cs Q XP, sp_LimitedAccount_floor C xs cs Q XP → w_LimitedAccount_floor K C (retE K Q) (startD 1 xs) cs := by
  rintro xs cs Q XP ⟨x, k, n, l, b, c, rfl, hx, hk, q⟩
  unfold w_LimitedAccount_floor
  refine altk2 (w := fun D => wFldI D "credit" (wVar 0)) k hk ⟨_, rfl, _, _, hx, af_c, ?_⟩
  walk_at "dl"
  exact .now q
theorem wEq_str {neg : Bool} {a b : Str} {cs : Cells} {P : Vl → Cells → Prop} (ha : PyData.strOk a = true) (hb : PyData.strOk b = true) (p : P (.dat (.bl (if neg then !decide (a = b) else decide (a = b)))) cs) : wEqD neg (.dat (.str a)) (.dat (.str b)) cs P := by
  refine wEq_of 0 (by omega) rfl rfl ha hb (fun h => ?_) (fun h => ?_)
  · cases h; cases neg <;> simpa using p
  · have h' : a ≠ b := fun z => h (by rw [z])
    cases neg <;> simpa [h'] using p
theorem s_lo : ¬ (("limited" : Str) = "open") := by decide
theorem s_so : ¬ (("savings" : Str) = "open") := by decide
theorem s_sl : ¬ (("savings" : Str) = "limited") := by decide
theorem s_ol : ¬ (("open" : Str) = "limited") := by decide
theorem s_os : ¬ (("open" : Str) = "savings") := by decide
theorem s_ls : ¬ (("limited" : Str) = "savings") := by decide
def Kd.lim : Kd → Int
  | .li => 1000000000000000000
  | _ => 0
theorem madeR_str {C : CE} {k : Kd} {n : Str} {l b c : Int} : madeR C k.str n l b c = if nameB n = true then (if 0 ≤ l ∧ l ≤ k.lim then (if k ≠ .op ∧ b < 0 - l then .error (C.Overdrawn, [("day", .non), ("name", .dat (.str n))]) else .ok (acctD C k n l b c)) else .error (C.InvalidAmount, [])) else .error (C.InvalidName, [("name", .dat (.str n))]) := by
  cases k <;> simp only [madeR, Kd.str, Kd.lim, s_lo, s_so, s_sl, s_ol, s_os, s_ls, if_true, if_false, or_true, true_or, or_false, false_or, ne_eq, not_true_eq_false, not_false_eq_true, false_and, true_and, reduceCtorEq]
theorem kd_of {kd : Str} (h : kd = "open" ∨ kd = "limited" ∨ kd = "savings") : ∃ k : Kd, kd = k.str := by
  rcases h with rfl | rfl | rfl
  · exact ⟨.op, rfl⟩
  · exact ⟨.li, rfl⟩
  · exact ⟨.sa, rfl⟩
theorem madeFin {C : CE} {K : Frag} {Q : Vl → Cells → Prop} {XP : DXP} {cs : Cells} {a : Addr} {k : Kd} {n : Str} {l b c : Int} (ha : cs a = none) (q : endR (if k ≠ .op ∧ b < 0 - l then .error (C.Overdrawn, [("day", .non), ("name", .dat (.str n))]) else .ok (acctD C k n l b c)) cs Q XP)
    {B : Bool} (hB : B = (match k with | .op => true | _ => decide (0 - l ≤ b))) : if B = false then GhX K XP (.ref C.Overdrawn) [("day", .non), ("name", .dat (.str n))] (cs.put a (.ins (k.cls C) (datF (acctF n l b c)))) else GhK K Q (.cell a) (cs.put a (.ins (k.cls C) (datF (acctF n l b c)))) := by
  have hsub : SubC cs (cs.put a (.ins (k.cls C) (datF (acctF n l b c)))) := fun d x e => by
    have : d ≠ a := fun z => by rw [z, ha] at e; cases e
    rw [Cells.put_ne this]; exact e
  have hiff : (k ≠ .op ∧ b < 0 - l) ↔ B = false := by
    subst hB
    cases k
    · simp
    all_goals simp
  by_cases h : B = false
  · rw [if_pos h]
    rw [if_pos (hiff.mpr h)] at q
    exact .drop hsub q
  · rw [if_neg h]
    rw [if_neg (fun z => h (hiff.mp z))] at q
    refine ⟨_, _, Gh.frzI Cells.put_same, ?_⟩
    rw [Cells.del_put ha]
    exact q
theorem pure_Account_made (K : Frag) (C : CE) : ∀ xs cs Q XP, sp_Account_made C xs cs Q XP → w_Account_made K C (GhX K XP) (retE K Q) (startD 7 xs) cs := by
  rintro xs cs Q XP ⟨x, kd, n, l, b, c, rfl, hs, hn, q⟩
  unfold w_Account_made
  walk_at "dl"
  refine ⟨by omega, _, _, _, _, rfl, rfl, rfl, _, rfl, ?_⟩
  have hin : inV (.str kd) [.str "open", .str "limited", .str "savings"] = decide (kd = "open" ∨ kd = "limited" ∨ kd = "savings") := by
    unfold inV
    simp only [List.any_cons, List.any_nil, eqV, Bool.or_false]
    rw [Bool.eq_iff_iff]
    simp only [Bool.or_eq_true, beq_iff_eq, decide_eq_true_eq]
    exact ⟨fun h => h.imp Eq.symm (fun h => h.imp Eq.symm Eq.symm), fun h => h.imp Eq.symm (fun h => h.imp Eq.symm Eq.symm)⟩
  by_cases hk : kd = "open" ∨ kd = "limited" ∨ kd = "savings"
  · simp only [hin, decide_eq_true hk, Bool.not_true, Bool.false_eq_true, if_false, if_true]
    obtain ⟨k, rfl⟩ := kd_of hk
    rw [madeR_str] at q
    refine ⟨n, rfl, hn, nameB n, rfl, ?_⟩
    by_cases hnm : nameB n = true
    · rw [if_pos hnm] at q
      simp only [hnm, Bool.true_eq_false, if_false]
      have hlim : ∀ P : Prop, (0 ≤ l ∧ l ≤ k.lim → endR (if k ≠ .op ∧ b < 0 - l then .error (C.Overdrawn, [("day", .non), ("name", .dat (.str n))]) else .ok (acctD C k n l b c)) cs Q XP → P) → if (decide (0 ≤ l) && decide (l ≤ k.lim)) = false then GhX K XP (.ref C.InvalidAmount) [] cs else P := by
        intro P h
        by_cases hl : 0 ≤ l ∧ l ≤ k.lim
        · rw [if_pos hl] at q
          rw [if_neg (by simp [hl])]
          exact h hl q
        · rw [if_neg hl] at q
          rw [if_pos (by simpa using hl)]
          exact .now q
      cases k
      · refine wEq_str hs (by decide +kernel) ⟨_, rfl, ?_⟩
        rw [if_neg (by decide)]
        refine ⟨l, 0, 0, rfl, _, rfl, hlim _ fun hl q => ?_⟩
        refine wEq_str hs (by decide +kernel) ⟨_, rfl, ?_⟩
        rw [if_neg (by decide)]
        refine wEq_str hs (by decide +kernel) ⟨_, rfl, ?_⟩
        rw [if_neg (by decide)]
        intro a ha
        refine ⟨a, .op, n, l, b, c, rfl, Cells.put_same, rfl, ?_⟩
        rw [Cells.put_put]
        refine .inl ⟨_, by rw [Cells.put_same]; rfl, rfl, _, _, rfl, _, rfl, madeFin ha q rfl⟩
      · refine wEq_str hs (by decide +kernel) ⟨_, rfl, ?_⟩
        rw [if_pos (by decide)]
        refine ⟨l, 0, _, rfl, _, rfl, hlim _ fun hl q => ?_⟩
        refine wEq_str hs (by decide +kernel) ⟨_, rfl, ?_⟩
        rw [if_pos (by decide)]
        intro a ha
        refine ⟨a, .li, n, l, b, c, rfl, Cells.put_same, rfl, ?_⟩
        rw [Cells.put_put]
        refine .inr (.inl ⟨_, by rw [Cells.put_same]; rfl, rfl, _, _, .li, n, l, b, c, rfl, by unfold isAcct; rw [insD_cell, Cells.put_same]; rfl, by simp, _, rfl, madeFin ha q rfl⟩)
      · refine wEq_str hs (by decide +kernel) ⟨_, rfl, ?_⟩
        rw [if_neg (by decide)]
        refine ⟨l, 0, 0, rfl, _, rfl, hlim _ fun hl q => ?_⟩
        refine wEq_str hs (by decide +kernel) ⟨_, rfl, ?_⟩
        rw [if_neg (by decide)]
        refine wEq_str hs (by decide +kernel) ⟨_, rfl, ?_⟩
        rw [if_pos (by decide)]
        intro a ha
        refine ⟨a, .sa, n, l, b, c, rfl, Cells.put_same, rfl, ?_⟩
        rw [Cells.put_put]
        refine .inr (.inr ⟨_, by rw [Cells.put_same]; rfl, rfl, _, _, .sa, n, l, b, c, rfl, by unfold isAcct; rw [insD_cell, Cells.put_same]; rfl, by simp, _, rfl, madeFin ha q rfl⟩)
    · rw [if_neg hnm] at q
      rw [if_pos (by simpa using hnm)]
      exact .now q
  · simp only [hin, decide_eq_false hk, Bool.not_false, if_true]
    unfold madeR at q
    rw [if_neg hk] at q
    exact .now q
def gd_Account_made_2_limit_balance_cycle : List Vl → List Vl → List Vl := fun xs ys => xs ++ ys
end DL
set_option maxRecDepth 100000
set_option maxHeartbeats 4000000
namespace DL
open PySem L2
local macro_rules | `(tactic| walk_at "dl") => `(tactic| simp only [wRet, wRetN, wSeq, wAsg, wIfS, wDrop, wNext, wVar, wC, wOp, wUn, wFn, wNil, wCons, wTest, wNot, wAnd, wOr, wAndV, wOrV, wNotV, wIf, wChain, wTup, wLst, wCall, wNever, gN, gT, gNil, gCons, gIx, wI, wI0, wNeg, wMax2, wMin2, wLen, wIsN, wNotN, isNon_non, isNon_bl, isNon_int, isNon_str, isNon_lst, isNon_tup, isNon_cell, wIx, wTuple, wAug, wAugIx, wPar, wIsi, wIsi2, isiT, tyD_non, tyD_bl, tyD_int, tyD_str, tyD_lst, tyD_tup, tyD_cell, coTy_lst, seqD_lst, seqD_tp, seqD_cell, coSeq_lst, seen_dat, seen_cell, coDat_lst, startD, wYes, wApp, wEq_int, wEq_bl, allDat_nil, allDat_cons, allDat_map, Option.map_some, List.map_cons, List.map_nil, List.cons_append, List.nil_append, List.length_cons, List.length_nil, List.replicate, List.getElem?_cons_zero, List.getElem?_cons_succ, List.set_cons_zero, List.set_cons_succ, Option.some.injEq, exists_eq_left', exists_eq_left, exists_and_left, exists_eq', exists_eq, Vl.dat.injEq, Vl.raw.injEq, V.ref.injEq, CO.lst.injEq, Dat.int.injEq, Dat.bl.injEq, Dat.tup.injEq, Dat.lst.injEq, List.cons.injEq, and_true, true_and, retE, Nat.reduceAdd, Nat.reduceSub, and_assoc, Prod.mk.injEq, if_true, if_false, Bool.false_eq_true, decide_eq_true_eq, Bool.not_true, Bool.not_false, Bool.not_eq_true', decide_eq_false_iff_not, if_false_left, if_false_right, beq_iff_eq, Bool.or_eq_true, Bool.and_eq_true, Bool.or_self, Bool.or_true, Bool.true_or, Bool.or_false, Bool.false_or, decide_true, decide_false, reduceCtorEq, Cells.put_same, gt_iff_lt, ge_iff_le, beq_self_eq_true, bne_self_eq_false, Bool.decide_eq_true, not_true_eq_false, not_false_eq_true, Decidable.not_not, false_and, and_false, Bool.not_eq_false, at_0, at_1, at_2, at_3, at_4, at_5, ix_0, ix_1, ix_2, ix_3, Nat.reduceLT, Int.reduceLT, Int.reduceLE, Int.reduceNeg, Int.reduceAdd, Int.reduceSub, Int.reduceEq, Int.reducePow, Int.reduceToNat, Cells.put_put])
theorem iV_len {ns : List Int} : (iV ns).length = ns.length := by simp [iV]
theorem iV_get {ns : List Int} {k : Nat} {n : Int} (h : ns[k]? = some n) : (iV ns)[k]? = some (.int n) := by
  unfold iV; rw [List.getElem?_map, h]; rfl
def cyc (ps : List Int) : Int := (ps.getLast?).getD 0
theorem calFrom_all : ∀ {ps : List Int} {b : Int}, 0 ≤ b → calFrom b ps → ∀ p ∈ ps, b < p ∧ p ≤ 400
  | a :: r, b, hb, h, p, hp => by
    rcases List.mem_cons.mp hp with z | z
    · subst z; exact ⟨h.1, h.2.1⟩
    · have := calFrom_all (b := a) (by have := h.1; omega) h.2.2.2 p z
      have h1 := h.1
      exact ⟨by omega, this.2⟩
/-- every period divides the last one -/
theorem calFrom_dvd : ∀ {ps : List Int} {b : Int} {c : Int}, 0 ≤ b → calFrom b ps → ps.getLast? = some c → (0 < b → b ∣ c) ∧ ∀ p ∈ ps, p ∣ c
  | [a], b, c, hb, h, e => by
    cases e
    exact ⟨fun z => Int.dvd_of_emod_eq_zero (h.2.2.1 z), fun p hp => by simp at hp; subst hp; exact Int.dvd_refl _⟩
  | a :: a2 :: r, b, c, hb, h, e => by
    have h1 := h.1
    have ih := calFrom_dvd (ps := a2 :: r) (b := a) (c := c) (by omega) h.2.2.2 (by rw [List.getLast?_cons_cons] at e; exact e)
    have ha : a ∣ c := ih.1 (by omega)
    refine ⟨fun z => Int.dvd_trans (Int.dvd_of_emod_eq_zero (h.2.2.1 z)) ha, fun p hp => ?_⟩
    rcases List.mem_cons.mp hp with z | z
    · subst z; exact ha
    · exact ih.2 p z
structure CycOk (ps : List Int) (c : Int) : Prop where
  last : ps.getLast? = some c
  pos : 0 < c
  le : c ≤ 400
  per : ∀ p ∈ ps, 0 < p ∧ p ≤ c ∧ p ∣ c
theorem cal_cyc {ps : List Int} (h : CalOk ps) : CycOk ps (cyc ps) := by
  obtain ⟨h1, h5, hc⟩ := h
  have hne : ps ≠ [] := by intro z; subst z; simp at h1
  obtain ⟨c, hl⟩ : ∃ c, ps.getLast? = some c := ⟨_, List.getLast?_eq_some_getLast hne⟩
  have hcy : cyc ps = c := by unfold cyc; rw [hl]; rfl
  rw [hcy]
  have hm : c ∈ ps := List.mem_of_getLast? hl
  have ha := calFrom_all (Int.le_refl 0) hc
  have hd := (calFrom_dvd (Int.le_refl 0) hc hl).2
  exact ⟨hl, (ha c hm).1, (ha c hm).2, fun p hp => ⟨(ha p hp).1, Int.le_of_dvd (ha c hm).1 (hd p hp), hd p hp⟩⟩
theorem ordB_iff {ps : List Int} {o : Ord} : ordB ps o = true ↔ o.1 ∈ ps ∧ 0 ≤ o.2.1 ∧ o.2.1 < o.1 ∧ o.2.2 ≠ 0 := by
  unfold ordB
  simp [and_assoc]
end DL
set_option maxRecDepth 100000
set_option maxHeartbeats 4000000
namespace DL
open PySem L2
local macro_rules | `(tactic| walk_at "dl") => `(tactic| simp only [wRet, wRetN, wSeq, wAsg, wIfS, wDrop, wNext, wVar, wC, wOp, wUn, wFn, wNil, wCons, wTest, wNot, wAnd, wOr, wAndV, wOrV, wNotV, wIf, wChain, wTup, wLst, wCall, wNever, gN, gT, gNil, gCons, gIx, wI, wI0, wNeg, wMax2, wMin2, wLen, wIsN, wNotN, isNon_non, isNon_bl, isNon_int, isNon_str, isNon_lst, isNon_tup, isNon_cell, wIx, wTuple, wAug, wAugIx, wPar, wIsi, wIsi2, isiT, tyD_non, tyD_bl, tyD_int, tyD_str, tyD_lst, tyD_tup, tyD_cell, coTy_lst, seqD_lst, seqD_tp, seqD_cell, coSeq_lst, seen_dat, seen_cell, coDat_lst, startD, wYes, wApp, wEq_int, wEq_bl, allDat_nil, allDat_cons, allDat_map, Option.map_some, List.map_cons, List.map_nil, List.cons_append, List.nil_append, List.length_cons, List.length_nil, List.replicate, List.getElem?_cons_zero, List.getElem?_cons_succ, List.set_cons_zero, List.set_cons_succ, Option.some.injEq, exists_eq_left', exists_eq_left, exists_and_left, exists_eq', exists_eq, Vl.dat.injEq, Vl.raw.injEq, V.ref.injEq, CO.lst.injEq, Dat.int.injEq, Dat.bl.injEq, Dat.tup.injEq, Dat.lst.injEq, List.cons.injEq, and_true, true_and, retE, Nat.reduceAdd, Nat.reduceSub, and_assoc, Prod.mk.injEq, if_true, if_false, Bool.false_eq_true, decide_eq_true_eq, Bool.not_true, Bool.not_false, Bool.not_eq_true', decide_eq_false_iff_not, if_false_left, if_false_right, beq_iff_eq, Bool.or_eq_true, Bool.and_eq_true, Bool.or_self, Bool.or_true, Bool.true_or, Bool.or_false, Bool.false_or, decide_true, decide_false, reduceCtorEq, Cells.put_same, gt_iff_lt, ge_iff_le, beq_self_eq_true, bne_self_eq_false, Bool.decide_eq_true, not_true_eq_false, not_false_eq_true, Decidable.not_not, false_and, and_false, Bool.not_eq_false, at_0, at_1, at_2, at_3, at_4, at_5, ix_0, ix_1, ix_2, ix_3, Nat.reduceLT, Int.reduceLT, Int.reduceLE, Int.reduceNeg, Int.reduceAdd, Int.reduceSub, Int.reduceEq, Int.reducePow, Int.reduceToNat, Cells.put_put])
theorem pow10 (n : Nat) (h : (n : Int) ≤ 1000000) : CPow 10 (n : Int) := ⟨by omega, h, by decide⟩
theorem calFrom_snoc : ∀ {ps : List Int} {b c p : Int}, calFrom b ps → (ps.getLast?).getD b = c → c < p → p ≤ 400 → (c > 0 → p % c = 0) → calFrom b (ps ++ [p])
  | [], b, c, p, _, e, h1, h2, h3 => by
    simp at e; subst e; exact ⟨h1, h2, h3, trivial⟩
  | [a], b, c, p, h, e, h1, h2, h3 => by
    simp at e; subst e; exact ⟨h.1, h.2.1, h.2.2.1, h1, h2, h3, trivial⟩
  | a :: a2 :: r, b, c, p, h, e, h1, h2, h3 => by
    refine ⟨h.1, h.2.1, h.2.2.1, calFrom_snoc (ps := a2 :: r) h.2.2.2 ?_ h1 h2 h3⟩
    rw [List.getLast?_cons_cons] at e
    cases q : (a2 :: r).getLast? with
    | none => simp at q
    | some z => rw [q] at e; exact e
theorem iV_app (xs ys : List Int) : iV xs ++ iV ys = iV (xs ++ ys) := by simp [iV]
theorem seen_lstI {cs : Cells} {x : Vl} {ds : List Dat} (h : seen cs x = some (.lst ds)) : seqD cs x = some (true, ds.map .dat) ∧ tyD cs x = some .list := by
  match x, h with
  | .dat d, h => cases h; exact ⟨rfl, rfl⟩
  | .raw (.ref a), h =>
    have h : coDat (cs a) = some (.lst ds) := h
    cases e : cs a with
    | none => rw [e] at h; cases h
    | some c =>
      rw [e] at h
      cases c with
      | lst xs =>
        obtain ⟨es, e1, e2⟩ := Option.map_eq_some_iff.mp (show (allDat xs).map Dat.lst = some (.lst ds) from h)
        cases e2
        rw [seqD_cell, tyD_cell, e, coSeq_lst, coTy_lst, allDat_eq e1]
        exact ⟨rfl, rfl⟩
      | _ => cases h
theorem seen_else {cs : Cells} {x : Vl} {d : Dat} (h : seen cs x = some d) (hd : ∀ ds, d ≠ .lst ds) : x = .dat d := by
  match x, h with
  | .dat d', h => cases h; rfl
  | .raw (.ref a), h =>
    have h : coDat (cs a) = some d := h
    cases e : cs a with
    | none => rw [e] at h; cases h
    | some c =>
      rw [e] at h
      cases c with
      | lst xs =>
        obtain ⟨es, e1, e2⟩ := Option.map_eq_some_iff.mp (show (allDat xs).map Dat.lst = some d from h)
        exact absurd e2.symm (hd _)
      | _ => cases h
theorem seqD_put {cs : Cells} {x : Vl} {D : Addr} {c : CO} {r : Bool × List Vl} (hD : cs D = none) (h : seqD cs x = some r) : seqD (cs.put D c) x = some r := by
  match x, h with
  | .dat d, h => cases d <;> exact h
  | .raw (.ref a), h =>
    have h : coSeq (cs a) = some r := h
    show coSeq (cs.put D c a) = some r
    rw [Cells.put_ne (by intro z; rw [z, hD] at h; cases h)]
    exact h
theorem lst_nil_lv : (Dat.lst []).lv 1 := ⟨by decide, fun x h => by simp at h⟩
end DL
set_option maxRecDepth 100000
set_option maxHeartbeats 4000000
namespace DL
open PySem L2
local macro_rules | `(tactic| walk_at "dl") => `(tactic| simp only [wFldI, wConI, wPropI, wMethI, wMethX, wAlt, wAltS, wCallX, wRaise, wRaise1, wRaise2, wCm, wCm0, noX, xw, insD_obj, insD_cell, coIns_ins, wSt, wLenS, wAll, wCntF, wIdxF, wSplit, wTryAs, wAsD, unE, wIsE, wXf, wIsiO, LamD.wOut, LamD.wLamMk, LamD.wAct, Dat.str.injEq, Dat.obj.injEq, wAbs, wCatS, wExt, wListOf, wiStr, wFld, wSetF, wMeth, wMake, wGMeth, wGCall, wDNewK, wDNewT, CO.ins.injEq, CO.dk.injEq, CO.dt.injEq, Cells.put_put, wRet, wRetN, wSeq, wAsg, wIfS, wDrop, wNext, wVar, wC, wOp, wUn, wFn, wNil, wCons, wTest, wNot, wAnd, wOr, wAndV, wOrV, wNotV, wIf, wChain, wTup, wLst, wCall, wNever, gN, gT, gNil, gCons, gIx, wI, wI0, wNeg, wMax2, wMin2, wLen, wIsN, wNotN, isNon_non, isNon_bl, isNon_int, isNon_str, isNon_lst, isNon_tup, isNon_cell, wIx, wTuple, wAug, wAugIx, wPar, wPar3, wSlL, wSlT, wPart, wNoPart, wCatT, wIsi, wIsi2, isiT, tyD_non, tyD_bl, tyD_int, tyD_str, tyD_lst, tyD_tup, tyD_cell, coTy_lst, seqD_lst, seqD_tp, seqD_cell, coSeq_lst, seen_dat, seen_cell, coDat_lst, startD, wYes, wApp, wEq_int, wEq_bl, allDat_nil, allDat_cons, allDat_map, Option.map_some, List.map_cons, List.map_nil, List.cons_append, List.nil_append, List.length_cons, List.length_nil, List.replicate, List.getElem?_cons_zero, List.getElem?_cons_succ, List.set_cons_zero, List.set_cons_succ, Option.some.injEq, exists_eq_left', exists_eq_left, exists_and_left, exists_eq', exists_eq, Vl.dat.injEq, Vl.raw.injEq, V.ref.injEq, CO.lst.injEq, Dat.int.injEq, Dat.bl.injEq, Dat.tup.injEq, Dat.lst.injEq, List.cons.injEq, and_true, true_and, retE, Nat.reduceAdd, Nat.reduceSub, and_assoc, Prod.mk.injEq, if_true, if_false, Bool.false_eq_true, decide_eq_true_eq, Bool.not_true, Bool.not_false, Bool.not_eq_true', decide_eq_false_iff_not, if_false_left, if_false_right, beq_iff_eq, Bool.or_eq_true, Bool.and_eq_true, Bool.or_self, Bool.or_true, Bool.true_or, Bool.or_false, Bool.false_or, decide_true, decide_false, reduceCtorEq, Cells.put_same, gt_iff_lt, ge_iff_le, beq_self_eq_true, bne_self_eq_false, Bool.decide_eq_true, not_true_eq_false, not_false_eq_true, Decidable.not_not, false_and, and_false, Bool.not_eq_false, at_0, at_1, at_2, at_3, at_4, at_5, ix_0, ix_1, ix_2, ix_3, Nat.reduceLT, Int.reduceLT, Int.reduceLE, Int.reduceNeg, Int.reduceAdd, Int.reduceSub, Int.reduceEq, Int.reducePow, Int.reduceToNat, Cells.put_put])
def kws : List Str := ["duplicate", "endless", "amount", "count", "name", "operation", "order", "text", "notempty", "overdrawn", "same", "accounts", "orders", "account", "kind", "number", "day"]
def HOk (q : Addr) (c1 c2 : CO) : Prop := ∃ (m i : Int) (ns : List Int), c1 = .lst [.int m, .cell q, .int i] ∧ c2 = .lst (iV ns) ∧ 0 ≤ m ∧ 0 ≤ i ∧ ns.length ≤ 63
def sp_law_mix (_ : CE) : DSp := fun xs cs Q _ => ∃ (ns : List Int) (seed : Int), xs = [.dat (.lst (iD ns)), .int seed] ∧ ns.length ≤ 63 ∧ 0 ≤ seed ∧ ∀ p q c1 c2, p ≠ q → cs p = none → cs q = none → HOk q c1 c2 → Q (.cell p) ((cs.put q c2).put p c1)
theorem len_law_mix {C : CE} : ∀ xs cs Q XP, sp_law_mix C xs cs Q XP → xs.length = 2 := by rintro xs cs Q XP ⟨ns, m, rfl, _⟩; rfl
def sp_law_next (_ : CE) : DSp := fun xs cs Q _ => ∃ (a q : Addr) (n : Int) (c1 c2 : CO), xs = [.cell a, .int n] ∧ a ≠ q ∧ cs a = some c1 ∧ cs q = some c2 ∧ HOk q c1 c2 ∧ 0 < n ∧ n ≤ 1000000000000000000000000000000 ∧ ∀ r c1' c2', 0 ≤ r → r < n → HOk q c1' c2' → Q (.int r) ((cs.put a c1').put q c2')
theorem len_law_next {C : CE} : ∀ xs cs Q XP, sp_law_next C xs cs Q XP → xs.length = 2 := by rintro xs cs Q XP ⟨a, q, n, c1, c2, rfl, _⟩; rfl
def sp_law_alike (C : CE) : Nat → DSp
  | 0 => fun _ _ _ _ => False
  | n + 1 => fun xs cs Q _ => ∃ (x y : Vl) (d : Dat), xs = [x, y] ∧ seen cs x = some d ∧ seen cs y = some d ∧ (d.lv n ∨ ∃ b, d = .bl b) ∧ n ≤ 10 ∧ Q (.bl true) cs
theorem len_law_alike {C : CE} {n : Nat} : ∀ xs cs Q XP, sp_law_alike C (n + 1) xs cs Q XP → xs.length = 2 := by rintro xs cs Q XP ⟨x, y, d, rfl, _⟩; rfl
theorem never_law_alike {C : CE} : ∀ xs cs Q XP, ¬ sp_law_alike C 0 xs cs Q XP := fun _ _ _ _ h => h
/-- _law_mix: slots 0 _law_script, 1 _law_seed, 2 _law_mixed, 3 _law_cell -/
def w_law_mix (K : Frag) (C : CE) : WS := (wSeq (wAsg (wVar 1) (gN 2))
    (wSeq (wFor (wiSeq (wVar 0)) (gN 3) (wAsg (wOp wMod (wOp wAdd (wOp wAdd (wOp wMul (wVar 2) (wC (.int 48271))) (wOp wMod (wVar 3) (wC (.int 2147483629)))) (wC (.int 1))) (wC (.int 2147483647))) (gN 2)))
    (wRet (wLst (wCons (wVar 2) (wCons (wFn wListOf (wCons (wVar 0) wNil)) (wCons (wC (.int 0)) wNil)))))))
/-- _law_next: slots 0 _law_h, 1 _law_bound, 2 _law_cell -/
def w_law_next (K : Frag) (C : CE) : WS := (wSeq (wAsg (wOp wIx (wOp wCatS (wOp wIx (wVar 0) (wC (.int 1))) (wLst (wCons (wC (.int 0)) wNil))) (wOp wMod (wOp wIx (wVar 0) (wC (.int 2))) (wFn wMax2 (wCons (wC (.int 1)) (wCons (wFn wLen (wCons (wOp wIx (wVar 0) (wC (.int 1))) wNil)) wNil))))) (gN 2))
    (wSeq (wIfS (wTest (wOp wGe (wVar 2) (wOp wPow (wC (.int 10)) (wC (.int 18))))) (wSeq (wAsg (wOp wDiv (wVar 2) (wVar 1)) (gIx (wOp wIx (wVar 0) (wC (.int 1))) (wOp wMod (wOp wIx (wVar 0) (wC (.int 2))) (wFn wLen (wCons (wOp wIx (wVar 0) (wC (.int 1))) wNil)))))
    (wRet (wOp wMod (wVar 2) (wVar 1)))) wNext)
    (wSeq (wAsg (wOp wMod (wOp wAdd (wOp wAdd (wOp wMul (wOp wIx (wVar 0) (wC (.int 0))) (wC (.int 48271))) (wOp wMul (wVar 2) (wC (.int 69621)))) (wC (.int 11))) (wC (.int 2147483647))) (gIx (wVar 0) (wC (.int 0))))
    (wSeq (wAsg (wOp wAdd (wOp wIx (wVar 0) (wC (.int 2))) (wC (.int 1))) (gIx (wVar 0) (wC (.int 2))))
    (wRet (wOp wMod (wOp wDiv (wOp wIx (wVar 0) (wC (.int 0))) (wC (.int 7))) (wVar 1)))))))
/-- _law_alike: slots 0 _law_found, 1 _law_due, 2 _law_k -/
def w_law_alike (K : Frag) (C : CE) (n : Nat) : WS := (wSeq (wIfS (wTest (wIsi .dict (wVar 1))) wNever wNext)
    (wSeq (wIfS (wTest (wIsi2 .tuple .list (wVar 1))) (wSeq (wIfS (wOr (wNot (wTest (wIsi2 .tuple .list (wVar 0)))) (wTest (wOp (wEqD true) (wIsi .list (wVar 0)) (wIsi .list (wVar 1))))) (wRet (wC (.bl false))) wNext)
    (wSeq (wIfS (wTest (wOp (wEqD true) (wFn wLen (wCons (wVar 0) wNil)) (wFn wLen (wCons (wVar 1) wNil)))) (wRet (wC (.bl false))) wNext)
    (wRet (wOp (wEqD false) (wLc (wiRng1 (wCons (wFn wLen (wCons (wVar 1) wNil)) wNil)) (gN 2) (wNot (wTest (wCall (sp_law_alike C n) (wCons (wOp wIx (wVar 0) (wVar 2)) (wCons (wOp wIx (wVar 1) (wVar 2)) wNil))))) (wVar 2) [2]) (wLst wNil))))) wNext)
    (wSeq (wIfS (wOr (wTest (wOp wIsN (wVar 1) (wC .non))) (wTest (wIsi .str (wVar 1)))) (wRet (wAndV (wOp (wEqD false) (wVar 0) (wVar 1)) (wOp (wEqD false) (wIsi .str (wVar 0)) (wIsi .str (wVar 1))))) wNext)
    (wRet (wAndV (wIsi .int (wVar 0)) (wAndV (wOp (wEqD false) (wIsi .bool (wVar 0)) (wIsi .bool (wVar 1))) (wOp (wEqD false) (wVar 0) (wVar 1))))))))
theorem iV_at {ns : List Int} {i : Int} (h0 : 0 ≤ i) (h1 : i < ns.length) : ∃ z, ns[i.toNat]? = some z ∧ atI (iV ns) i = some (.int z) := by
  obtain ⟨z, hz⟩ : ∃ z, ns[i.toNat]? = some z := ⟨_, List.getElem?_eq_getElem (by omega)⟩
  exact ⟨z, hz, atI_int h0 (iV_get hz)⟩
theorem pure_law_mix (K : Frag) (C : CE) : ∀ xs cs Q XP, sp_law_mix C xs cs Q XP → w_law_mix K C (retE K Q) (startD 4 xs) cs := by
  rintro xs cs Q XP ⟨ns, seed, rfl, hl, hs, q⟩
  unfold w_law_mix
  walk_at "dl"
  simp only [wFor, wiSeq]
  walk_at "dl"
  refine ⟨fun i ρ cs' => cs' = cs ∧ ∃ (m : Int) (a : Option Vl), ρ = [some (.dat (.lst (iD ns))), some (.int seed), some (.int m), a] ∧ 0 ≤ m, ⟨rfl, _, _, rfl, hs⟩, fun _ _ _ _ _ => trivial, ?_, ?_⟩
  · rintro i x ρ cs' hx ⟨rfl, m, a, rfl, hm⟩
    rw [iD_map] at hx
    unfold iV at hx
    rw [List.getElem?_map] at hx
    obtain ⟨n, hn, rfl⟩ := Option.map_eq_some_iff.mp hx
    walk_at "dl"
    exact ⟨mulR (by decide) (by decide), Int.emod_nonneg _ (by decide)⟩
  · rintro ρ cs' ⟨rfl, m, a, rfl, hm⟩
    walk_at "dl"
    refine .inl fun q' hq' => ⟨by decide, .inl fun p hp => .now (q p q' _ _ ?_ ?_ hq' ⟨m, 0, ns, rfl, by rw [iD_map], hm, by decide, hl⟩)⟩
    · intro z; rw [z, Cells.put_same] at hp; cases hp
    · have : p ≠ q' := by intro z; rw [z, Cells.put_same] at hp; cases hp
      rwa [Cells.put_ne this] at hp
theorem pure_law_next (K : Frag) (C : CE) : ∀ xs cs Q XP, sp_law_next C xs cs Q XP → w_law_next K C (retE K Q) (startD 3 xs) cs := by
  rintro xs cs Q XP ⟨a, q', n, c1, c2, rfl, haq, ha, hq, ⟨m, i, ns, rfl, rfl, hm, hi, hl⟩, hn, hn2, q⟩
  unfold w_law_next
  walk_at "dl"
  simp only [ha, hq]
  walk_at "dl"
  have hl1 : ((iV ns).length : Int) = ns.length := by rw [iV_len]
  have hM : 0 < (if 1 < ((iV ns).length : Int) then ((iV ns).length : Int) else 1) := by split <;> omega
  have hM0 := Int.emod_nonneg i (Int.ne_of_gt hM)
  have hM1 := Int.emod_lt_of_pos i hM
  have hML : (if 1 < ((iV ns).length : Int) then ((iV ns).length : Int) else 1) ≤ (ns ++ [0]).length := by simp [iV_len]; split <;> omega
  obtain ⟨z, hz, hz2⟩ := iV_at (ns := ns ++ [0]) hM0 (by omega)
  refine ⟨by decide, .inr ⟨_, rfl, iV ns, by rw [hq]; rfl, _, rfl, by rw [iV_len]; simp; omega, .inr ⟨iD (ns ++ [0]), by show allDat (iV ns ++ [Vl.dat (.int 0)]) = _; rw [show iV ns ++ [Vl.dat (.int 0)] = (iD (ns ++ [0])).map .dat by rw [iD_map]; simp [iV]]; exact allDat_map _, true, _, by rw [ha]; rfl, .int i, rfl, true, _, by rw [ha]; rfl, .cell q', rfl, true, iV ns, by rw [seqD_cell, hq]; rfl, i, rfl, hM, true, _, rfl, .int z, by rw [iD_map]; exact hz2, pow10 18 (by decide), z, rfl, ?_⟩⟩⟩
  have m1 : ∀ x : Int, 0 ≤ x % n := fun x => Int.emod_nonneg _ (by omega)
  have m2 : ∀ x : Int, x % n < n := fun x => Int.emod_lt_of_pos _ hn
  split
  · rename_i hbig
    have hL : 0 < ns.length := by
      rcases Nat.eq_zero_or_pos ns.length with h | h
      · have : ns = [] := List.eq_nil_of_length_eq_zero h
        subst this
        simp [iV] at hz
        omega
      · exact h
    have hL' : (0 : Int) < (iV ns).length := by rw [hl1]; omega
    have e0 := Int.emod_nonneg i (Int.ne_of_gt hL')
    have e1 := Int.emod_lt_of_pos i hL'
    refine ⟨z, rfl, divOk hn hn2, true, _, by rw [ha]; rfl, .cell q', rfl, true, _, by rw [ha]; rfl, .int i, rfl, true, _, by rw [ha]; rfl, .cell q', rfl, true, iV ns, by rw [seqD_cell, hq]; rfl, i, rfl, hL', q', rfl, iV ns, hq, _, ixN_int e0 e1, z, rfl, hn, .now ?_⟩
    have := q (z % n) (.lst [.int m, .cell q', .int i]) (.lst (iV (ns.set (i % ((iV ns).length : Int)).toNat (z / n)))) (m1 _) (m2 _) ⟨m, i, _, rfl, rfl, hm, hi, by simpa using hl⟩
    rw [Cells.put_self ha] at this
    rw [show iV (ns.set (i % ((iV ns).length : Int)).toNat (z / n)) = (iV ns).set (i % ((iV ns).length : Int)).toNat (.int (z / n)) by simp [iV]] at this
    exact this
  · refine ⟨true, _, by rw [ha]; rfl, .int m, rfl, m, rfl, mulR (by decide) (by decide), z, rfl, mulR (by decide) (by decide), _, ha, 0, rfl, .int i, rfl, i, rfl, 2, rfl, .int ((m * 48271 + z * 69621 + 11) % 2147483647), rfl, _, rfl, divOk (by decide) (by decide), hn, .now ?_⟩
    have := q ((m * 48271 + z * 69621 + 11) % 2147483647 / 7 % n) (.lst [.int ((m * 48271 + z * 69621 + 11) % 2147483647), .cell q', .int (i + 1)]) (.lst (iV ns)) (m1 _) (m2 _) ⟨_, _, ns, rfl, rfl, Int.emod_nonneg _ (by decide), by omega, hl⟩
    rw [Cells.put_self (by rw [Cells.put_ne haq.symm]; exact hq)] at this
    exact this
theorem alike_seq {K : Frag} {C : CE} {n : Nat} {x y : Vl} {b : Bool} {ds : List Dat} {cs : Cells} {P : Vl → Cells → Prop} (hx : seqD cs x = some (b, ds.map .dat)) (hy : seqD cs y = some (b, ds.map .dat)) (hz : ds.length ≤ 16777216) (hlv : ∀ d ∈ ds, d.lv (n - 1) ∨ ∃ b, d = .bl b) (h1 : ds ≠ [] → 1 ≤ n) (hn : n ≤ 10) (q : P (.bl true) cs) :
    wOp (wEqD false) (wLc (wiRng1 (wCons (wFn wLen (wCons (wVar 1) wNil)) wNil)) (gN 2) (wNot (wTest (wCall (sp_law_alike C n) (wCons (wOp wIx (wVar 0) (wVar 2)) (wCons (wOp wIx (wVar 1) (wVar 2)) wNil))))) (wVar 2) [2]) (wLst wNil) [some x, some y, none] cs P := by
  walk_at "dl"
  simp only [wLc, wiRng1]
  walk_at "dl"
  refine ⟨_, _, hy, by omega, by rw [List.length_map]; omega, fun D hD => ?_⟩
  refine ⟨fun i cs' => cs' = cs.put D (.lst []), rfl, fun _ _ _ _ => trivial, ?_, ?_⟩
  · rintro i v cs' hv rfl
    obtain ⟨hi, rfl⟩ := rangeD_at hv
    rw [Int.toNat_natCast, List.length_map] at hi
    have hne : ds ≠ [] := by intro z; subst z; simp at hi
    obtain ⟨d, hd⟩ : ∃ d, ds[i]? = some d := ⟨_, List.getElem?_eq_getElem hi⟩
    have hdm : (ds.map Vl.dat)[i]? = some (.dat d) := by rw [List.getElem?_map, hd]; rfl
    simp only [wipeD]
    walk_at "dl"
    simp only [Int.mul_one, Int.zero_add]
    refine ⟨_, _, seqD_put hD hx, _, atI_nat hdm, _, _, seqD_put hD hy, _, atI_nat hdm, ?_⟩
    have := h1 hne
    obtain ⟨m, rfl⟩ : ∃ m, n = m + 1 := ⟨n - 1, by omega⟩
    refine ⟨_, _, d, rfl, rfl, rfl, hlv d (List.mem_of_getElem? hd), by omega, ?_⟩
    walk_at "dl"
  · rintro cs' rfl
    refine ⟨_, Cells.put_same, .inr ⟨[], rfl, ?_⟩⟩
    rw [Cells.del_put hD]
    walk_at "dl"
    refine ⟨by decide, .inr ⟨[], rfl, ?_⟩⟩
    exact wEq_of 1 (by decide) rfl rfl lst_nil_lv lst_nil_lv (fun _ => q) (fun z => absurd rfl z)
theorem pure_law_alike (K : Frag) (C : CE) (n : Nat) : ∀ xs cs Q XP, sp_law_alike C (n + 1) xs cs Q XP → w_law_alike K C n (retE K Q) (startD 3 xs) cs := by
  rintro xs cs Q XP ⟨x, y, d, rfl, hx, hy, hlv, hn, q⟩
  unfold w_law_alike
  have fin := @alike_seq K C n x y
  generalize hw : wOp (wEqD false) (wLc (wiRng1 (wCons (wFn wLen (wCons (wVar 1) wNil)) wNil)) (gN 2) (wNot (wTest (wCall (sp_law_alike C n) (wCons (wOp wIx (wVar 0) (wVar 2)) (wCons (wOp wIx (wVar 1) (wVar 2)) wNil))))) (wVar 2) [2]) (wLst wNil) = W at fin
  cases d with
  | lst ds =>
    obtain ⟨x1, x2⟩ := seen_lstI hx
    obtain ⟨y1, y2⟩ := seen_lstI hy
    cases n with
    | zero => exact (hlv.elim (fun h => (show False from h).elim) (fun ⟨b, h⟩ => by cases h))
    | succ n =>
      obtain ⟨hz, hl⟩ : ds.length ≤ 16777216 ∧ ∀ x ∈ ds, Dat.lv n x := hlv.elim id (fun ⟨b, h⟩ => by cases h)
      walk_at "dl"
      refine ⟨_, y2, ?_⟩
      walk_at "dl"
      refine ⟨_, y2, ?_⟩
      walk_at "dl"
      refine ⟨_, x2, ?_⟩
      walk_at "dl"
      refine ⟨_, x2, _, y2, ?_⟩
      walk_at "dl"
      refine ⟨_, _, x1, _, _, y1, ?_⟩
      walk_at "dl"
      exact fin x1 y1 hz (fun d h => .inl (hl d h)) (fun _ => by omega) (by omega) (.now q)
  | tup ds =>
    have ex := seen_else hx (fun _ z => by cases z)
    have ey := seen_else hy (fun _ z => by cases z)
    subst ex ey
    cases n with
    | zero => exact (hlv.elim (fun h => (show False from h).elim) (fun ⟨b, h⟩ => by cases h))
    | succ n =>
      obtain ⟨hz, hl⟩ : ds.length ≤ 16777216 ∧ ∀ x ∈ ds, Dat.lv n x := hlv.elim id (fun ⟨b, h⟩ => by cases h)
      walk_at "dl"
      exact fin rfl rfl hz (fun d h => .inl (hl d h)) (fun _ => by omega) (by omega) (.now q)
  | non =>
    have ex := seen_else hx (fun _ z => by cases z)
    have ey := seen_else hy (fun _ z => by cases z)
    subst ex ey
    walk_at "dl"
    rw [if_neg (by simp)]
    exact wEq_of 1 (by decide) rfl rfl trivial trivial (fun _ => ⟨true, rfl, .now q⟩) (fun z => absurd rfl z)
  | int i =>
    have ex := seen_else hx (fun _ z => by cases z)
    have ey := seen_else hy (fun _ z => by cases z)
    subst ex ey
    walk_at "dl"
    exact .now q
  | bl b =>
    have ex := seen_else hx (fun _ z => by cases z)
    have ey := seen_else hy (fun _ z => by cases z)
    subst ex ey
    walk_at "dl"
    exact .now q
  | str z =>
    have ex := seen_else hx (fun _ z => by cases z)
    have ey := seen_else hy (fun _ z => by cases z)
    subst ex ey
    walk_at "dl"
    have h1 : (Dat.str z).lv 1 := by
      rcases hlv with h | ⟨b, h⟩
      · cases n <;> exact h
      · cases h
    rw [if_neg (by simp)]
    exact wEq_of 1 (by decide) rfl rfl h1 h1 (fun _ => ⟨true, rfl, .now q⟩) (fun z => absurd rfl z)
  | obj C fs => exact (hlv.elim (fun h => by cases n <;> exact (show False from h).elim) (fun ⟨b, h⟩ => by cases h))
  | dct kvs => exact (hlv.elim (fun h => by cases n <;> exact (show False from h).elim) (fun ⟨b, h⟩ => by cases h))
  | ho φ ex => exact (hlv.elim (fun h => by cases n <;> exact (show False from h).elim) (fun ⟨b, h⟩ => by cases h))
theorem sub_put {cs cs' : Cells} {b : Addr} {c : CO} (h : SubC cs cs') (hb : cs' b = none) : SubC cs (cs'.put b c) := fun a x e => by
  have e2 := h a x e
  have : a ≠ b := fun z => by rw [z, hb] at e2; cases e2
  rw [Cells.put_ne this]; exact e2
theorem sub_put' {cs cs' : Cells} {b : Addr} {c : CO} (h : SubC cs cs') (hb : cs b = none) : SubC cs (cs'.put b c) := fun a x e => by
  have : a ≠ b := fun z => by rw [z, hb] at e; cases e
  rw [Cells.put_ne this]; exact h a x e
end DL
set_option maxRecDepth 100000
set_option maxHeartbeats 4000000
set_option maxRecDepth 100000
set_option maxHeartbeats 4000000
namespace DL
open PySem L2
local macro_rules | `(tactic| walk_at "dl") => `(tactic| simp only [wFldI, wConI, wPropI, wMethI, wMethX, wAlt, wAltS, wCallX, wRaise, wRaise1, wRaise2, wCm, wCm0, noX, xw, insD_obj, insD_cell, coIns_ins, wSt, wLenS, wAll, wCntF, wIdxF, wSplit, wTryAs, wAsD, unE, wIsE, wXf, wIsiO, LamD.wOut, LamD.wLamMk, LamD.wAct, Dat.str.injEq, Dat.obj.injEq, wAbs, wCatS, wExt, wListOf, wiStr, wFld, wSetF, wMeth, wMake, wGMeth, wGCall, wDNewK, wDNewT, CO.ins.injEq, CO.dk.injEq, CO.dt.injEq, Cells.put_put, wRet, wRetN, wSeq, wAsg, wIfS, wDrop, wNext, wVar, wC, wOp, wUn, wFn, wNil, wCons, wTest, wNot, wAnd, wOr, wAndV, wOrV, wNotV, wIf, wChain, wTup, wLst, wCall, wNever, gN, gT, gNil, gCons, gIx, wI, wI0, wNeg, wMax2, wMin2, wLen, wIsN, wNotN, isNon_non, isNon_bl, isNon_int, isNon_str, isNon_lst, isNon_tup, isNon_cell, wIx, wTuple, wAug, wAugIx, wPar, wPar3, wSlL, wSlT, wPart, wNoPart, wCatT, wIsi, wIsi2, isiT, tyD_non, tyD_bl, tyD_int, tyD_str, tyD_lst, tyD_tup, tyD_cell, coTy_lst, seqD_lst, seqD_tp, seqD_cell, coSeq_lst, seen_dat, seen_cell, coDat_lst, startD, wYes, wApp, wEq_int, wEq_bl, allDat_nil, allDat_cons, allDat_map, Option.map_some, List.map_cons, List.map_nil, List.cons_append, List.nil_append, List.length_cons, List.length_nil, List.replicate, List.getElem?_cons_zero, List.getElem?_cons_succ, List.set_cons_zero, List.set_cons_succ, Option.some.injEq, exists_eq_left', exists_eq_left, exists_and_left, exists_eq', exists_eq, Vl.dat.injEq, Vl.raw.injEq, V.ref.injEq, CO.lst.injEq, Dat.int.injEq, Dat.bl.injEq, Dat.tup.injEq, Dat.lst.injEq, List.cons.injEq, and_true, true_and, retE, Nat.reduceAdd, Nat.reduceSub, and_assoc, Prod.mk.injEq, if_true, if_false, Bool.false_eq_true, decide_eq_true_eq, Bool.not_true, Bool.not_false, Bool.not_eq_true', decide_eq_false_iff_not, if_false_left, if_false_right, beq_iff_eq, Bool.or_eq_true, Bool.and_eq_true, Bool.or_self, Bool.or_true, Bool.true_or, Bool.or_false, Bool.false_or, decide_true, decide_false, reduceCtorEq, Cells.put_same, gt_iff_lt, ge_iff_le, beq_self_eq_true, bne_self_eq_false, Bool.decide_eq_true, not_true_eq_false, not_false_eq_true, Decidable.not_not, false_and, and_false, Bool.not_eq_false, at_0, at_1, at_2, at_3, at_4, at_5, ix_0, ix_1, ix_2, ix_3, Nat.reduceLT, Int.reduceLT, Int.reduceLE, Int.reduceNeg, Int.reduceAdd, Int.reduceSub, Int.reduceEq, Int.reducePow, Int.reduceToNat, Cells.put_put])
end DL
set_option maxRecDepth 100000
set_option maxHeartbeats 4000000
namespace DL
open PySem L2 PySem.Spec PyProof.Rows
open PySem.W (sortingHeap sortingHeap_old)
def rSortDI : List V → Hp → VK → Prop := fun xs H Q => ∃ (a : Addr) (kvs : List (Key × V)) (ks : List Int), xs = [.ref a] ∧ Rd H a (.dK kvs) ∧ kvs.map (·.1) = ks.map Sum.inl ∧ ∀ (ys : List Int) (p : Addr), ys.Perm ks → ys.Pairwise (· ≤ ·) → H p = none → Q (.ref p) (upd H p (.lst (ys.map V.int)))
section
variable {X : Cx}
theorem cr_sortDI (hcalm : X.calm = true) : CallR X (.builtin "sorted") rSortDI := by
  intro pins s σ H xs us Q I r q
  obtain ⟨a, kvs, ks, ex, hd, hks, q⟩ := q
  subst ex
  obtain ⟨u, eu, rx⟩ := vals1 r
  subst eu
  cases rx
  obtain ⟨z, lo, vs, rel, dd⟩ := dk_rd I.hok hd
  obtain ⟨ep, hat⟩ := dd.dictAt
  have hkeys : vs.map (·.1) = ks.map Sum.inl := rel.keys.symm.trans hks
  have hl : vs.length = ks.length := by
    have e := congrArg List.length hkeys
    rw [List.length_map, List.length_map] at e
    exact e
  have hlk : kvs.length = ks.length := by
    have e := congrArg List.length hks
    rw [List.length_map, List.length_map] at e
    exact e
  have h16 : vs.length ≤ sizeLine := by rw [hl, ← hlk]; exact z
  refine Calls.call_function_entry PyProof.Rows.kind_sorted PyProof.Rows.plain_sorted PyProof.Rows.entry_sorted (PyProof.Rows.args_sorted1 _) ?_
  unfold Builtin.«sorted»
  refine wpAny_bind (m := checkCount "sorted" 1 1 _) (wpAny_pure ?_)
  refine wpAny_bind (PySem.W.kdu_collect (A := X.A.in1) (PySem.W.kdl_dict (knd := mixKind X.prog X.w) (kvs := vs) (ep := ep) lo) (I.ok.hd hcalm) hat h16 fun h' tk acc hk hacc => ?_)
  have hal : acc.toList.length = ks.length := by rw [Array.length_toList, hacc.1, hl]
  have hS : IntsAre acc.toList ks := ints_each hal fun j v e => by
    obtain ⟨k, x, e1, e2⟩ := hacc.2 j v (by rw [← Array.getElem?_toList]; exact e)
    have e3 : (vs.map (·.1))[j]? = some k := by rw [List.getElem?_map, e1]; rfl
    rw [hkeys, List.getElem?_map] at e3
    cases e4 : ks[j]? with
    | none => rw [e4] at e3; cases e3
    | some y =>
      rw [e4] at e3
      have e5 : Sum.inl y = k := Option.some.inj e3
      subst e5
      rcases keyIs_shape (show keyIs (Sum.inl y) v = true from e2) with ⟨i, t, ek, ev⟩ | ⟨z, t, ek, ev⟩
      · cases ek
        exact ⟨y, t, rfl, ev⟩
      · cases ek
  have hsz : acc.toList.length ≤ sizeLine := by rw [hal, ← hlk]; exact z
  have I1 : Inv X pins σ H { s with heap := h', toks := tk } := I.kept hk
  refine wpAny_bind (wpAny_newList ?_ hsz)
  have hoL : (h'.push (seqObj "list" acc.toList.toArray 0)).get? h'.objs.size = some (seqObj "list" acc.toList.toArray 0) := Heap.get?_push_size _ rfl
  show wpAny _ _ _ _ _ { s with heap := h'.push (seqObj "list" acc.toList.toArray 0), toks := tk }
  refine wpAny_bind (wpAny_holding (wpAny_call_entry PyProof.Rows.slot_list_sort ⟨_, hoL, rfl⟩ PyProof.Rows.entry_list_sort
    (SrtO.list_sort_ord (s := { s with heap := h'.push (seqObj "list" acc.toList.toArray 0), toks := tk }) SrtO.swo_int hoL hsz (fun h2 => SrtO.ints_sortable hS h2) fun out h1 h2 => ⟨_, rfl, ?_⟩) (PyProof.Rows.args_list_sort _)))
  obtain ⟨k1, k2, k3⟩ := SrtO.ints_out hS h1 h2
  obtain ⟨e', he'⟩ := PyProof.Rows.sortedHeap_at (vs := acc.toList) (out := out.toArray) hoL
  have hlen : ((out.map SrtO.iv).map V.int).length ≤ sizeLine := by
    rw [List.length_map, k2.length_eq, ← hlk]
    exact z
  refine wpAny_pure ⟨_, rfl, .ref h'.objs.size, upd H h'.objs.size (.lst ((out.map SrtO.iv).map V.int)), I1.laid (t' := tk) (fun b u e => ?_) (Nat.le_refl _)
    (show ObjOk X.prog X.w _ _ _ (.lst ((out.map SrtO.iv).map V.int)) from ⟨hlen, out, e', vals_of_ints k1, he'⟩), rfl, q _ _ k2 k3 (I1.hok.fresh (Nat.le_refl _))⟩
  have hb : b < h'.objs.size := Heap.lt_size e
  rw [PyProof.Rows.sortedHeap_old (Nat.ne_of_lt hb) (by rw [size_push']; exact Nat.lt_succ_of_lt hb)]
  exact Heap.get?_push_of_some _ e
end
theorem kr_keys {α : Type} {K : Frag} {M : Hp} : ∀ {xs : List (α × V)} {ys : List (α × Vl)}, Paired (fun (p : α × V) (q : α × Vl) => p.1 = q.1 ∧ RV K M p.2 q.2) xs ys → xs.map (·.1) = ys.map (·.1)
  | _, _, .nil => rfl
  | _, _, .cons h k => by rw [List.map_cons, List.map_cons, h.1, kr_keys k]
section
variable {X : Cx} {e : Expr} {wr : WA} {pos p : Pos}
theorem rn_sum {K : Frag} : RNOk K (rSum K) wSum := fun M H cs xs as P Q o r ⟨x, ns, e, h, p⟩ k => by
  subst e
  cases r with
  | cons r1 rr =>
    cases rr
    obtain ⟨ad, vs, ev, q, pr⟩ := seqD_list o r1 h
    rw [paired_ints pr] at q
    exact ⟨ad, ns, by rw [ev], q, k _ _ M H cs (Same.refl _) o (rv_dat (.int _)) p⟩
theorem de_sum (hc : X.calm = true) (hm : X.mg "sum" = none) (ha : DA X [e] wr) (hg : Gl X "sum" := by rfl) (he : starEach [e] X.env = (false, eval e X.env) :: starEach [] X.env := by rfl) (hpl : (backTo pos (starEach [] X.env)).any (·.1) = false := by rfl) :
    DE X (.Call (.Name "sum" p) [e] [] pos) (wFn wSum wr) := de_callB (cr_sum hc) rn_sum hm (by decide +kernel) ha hg (by decide) (by decide) he hpl
end
end DL
set_option maxRecDepth 100000
set_option maxHeartbeats 4000000
namespace DL
open PySem L2 PySem.Spec PyProof.Rows
def datK (kvs : List (Key × Dat)) : List (Key × Vl) := kvs.map fun p => (p.1, .dat p.2)
def coDk : Option CO → Option (List (Key × Vl))
  | some (.dk kvs) => some kvs
  | _ => none
def dctD (cs : Cells) : Vl → Option (List (Key × Vl))
  | .dat (.dct kvs) => some (datK kvs)
  | .raw (.ref a) => coDk (cs a)
  | _ => none
theorem dctD_cell {cs : Cells} {a : Addr} : dctD cs (.raw (.ref a)) = coDk (cs a) := rfl
theorem drD_of {K : Frag} {M : Hp} : ∀ {fs : List (Key × V)} {ds : List (Key × Dat)}, DrD K M fs ds → Paired (KR K M) fs (datK ds)
  | _, _, .nil => .nil
  | _, _, .cons r k => .cons ⟨rfl, r⟩ (drD_of k)
theorem dctD_ok {K : Frag} {M H : Hp} {cs : Cells} {v : V} {x : Vl} {ys : List (Key × Vl)} (o : Ok K M H cs) (r : RV K M v x) (h : dctD cs x = some ys) : ∃ a xs, v = .ref a ∧ H a = some (.dK xs) ∧ Paired (KR K M) xs ys := by
  match x, r, h with
  | .dat (.dct ds), r, h =>
    cases h
    cases (show Dr K M v (.dct ds) from r) with
    | dct q k => exact ⟨_, _, rfl, o.ex _ _ q, drD_of k⟩
  | .raw (.ref a), r, h =>
    have h : coDk (cs a) = some ys := h
    cases e : cs a with
    | none => rw [e] at h; cases h
    | some c =>
      rw [e] at h
      cases c with
      | dk kvs =>
        cases h
        obtain ⟨xs, hH, pr⟩ := cell_dk o e
        exact ⟨a, xs, r, hH, pr⟩
      | _ => cases h
/-- d[y], y in d -/
def wDGetV : W2 := fun x y cs P => ∃ kvs k v, dctD cs x = some kvs ∧ y = .dat (keyD k) ∧ valD kvs k = some v ∧ P v cs
def wDInV (neg : Bool) : W2 := fun y x cs P => ∃ kvs k, dctD cs x = some kvs ∧ y = .dat (keyD k) ∧ P (.dat (.bl (if neg then !(valD kvs k).isSome else (valD kvs k).isSome))) cs
def wDLen : WN := fun xs cs P => ∃ x kvs, xs = [x] ∧ dctD cs x = some kvs ∧ P (.dat (.int (kvs.length : Int))) cs
def wDCopy : WN := fun xs cs P => ∃ x kvs, xs = [x] ∧ dctD cs x = some kvs ∧ ∀ p, cs p = none → P (.cell p) (cs.put p (.dk kvs))
def dropD (kvs : List (Key × Vl)) (k : Key) : List (Key × Vl) := kvs.filter fun kv => decide (kv.1 ≠ k)
def wDDel (wo wi : WE) : WS := fun D ρ cs => wo ρ cs fun x cs1 => wi ρ cs1 fun y cs2 => ∃ a kvs k, x = .cell a ∧ cs2 a = some (.dk kvs) ∧ y = .dat (keyD k) ∧ (valD kvs k).isSome = true ∧ D.nx ρ (cs2.put a (.dk (dropD kvs k)))
theorem kr_isSome {K : Frag} {M : Hp} {k : Key} {xs : List (Key × V)} {ys : List (Key × Vl)} (h : Paired (KR K M) xs ys) : (valV xs k).isSome = (valD ys k).isSome := by
  obtain ⟨h1, h2⟩ := kr_val (k := k) h
  cases e : valD ys k with
  | none => rw [h2 e]; rfl
  | some y => obtain ⟨v, q, _⟩ := h1 y e; rw [q]; rfl
section
variable {X : Cx} {a b c e f o i : Expr} {es : List Expr} {wa wb wc we wo wi wv wd : WE} {wr : WA} {pos tpos : Pos}
theorem de_dgetV (hu : X.A.units + 64 < cLine) (ho : DE X o wo) (hi : DE X i wi) (hs : NoSl i := by exact fun _ _ => rfl) : DE X (.Subscript o i pos) (wOp wDGetV wo wi) :=
  pe_imp (pe_dget (by omega) ho hi hs) fun σ H Q ⟨M, ρ, cs, P, ok, r, p, k⟩ => ⟨M, ρ, cs, _, ok, r, p, fun v1 x M1 H1 cs1 s1 o1 r1 p1 => ⟨M1, ρ, cs1, _, o1, r.mono s1, p1, fun v2 y M2 H2 cs2 s2 o2 r2 ⟨kvs, ky, v, hd, ey, hv, p2⟩ => by
    subst ey
    obtain ⟨a, xs, ea, hH, pr⟩ := dctD_ok o2 (r1.mono s2) hd
    obtain ⟨z, ez, rz⟩ := (kr_val pr).1 v hv
    exact ⟨a, z, ea, .inl ⟨xs, ky, .inl hH, rv_key r2, ez.symm⟩, k _ _ M2 H2 cs2 (s1.trans s2) o2 rz p2⟩⟩⟩
def rDIn (neg : Bool) : R2 := fun y x H Q => ∃ a o, x = .ref a ∧ DGet H a y o ∧ Q (.bl (if neg then !o.isSome else o.isSome)) H
theorem op_din (hu : X.A.units + 64 < cLine) : OpR X (compareOp .In) (rDIn false) := by
  intro pins s σ H y x v u Q I ry rx h
  obtain ⟨a, o, ex, g, q⟩ := h
  subst ex
  obtain rfl : u = Value.ref a := rx
  exact d_in (by omega) I g ry fun s3 I3 => ⟨.bl o.isSome, H, I3, rfl, q⟩
theorem op_dnin (hu : X.A.units + 64 < cLine) : OpR X (compareOp .NotIn) (rDIn true) := by
  intro pins s σ H y x v u Q I ry rx h
  obtain ⟨a, o, ex, g, q⟩ := h
  subst ex
  obtain rfl : u = Value.ref a := rx
  exact d_notIn (by omega) I g ry fun s3 I3 => ⟨.bl (!o.isSome), H, I3, rfl, q⟩
theorem r2_din {K : Frag} {neg : Bool} : R2Ok K (rDIn neg) (wDInV neg) := fun M H cs x y a b P Q o rx ry ⟨kvs, k, hd, ey, p⟩ kk => by
  subst ey
  obtain ⟨ad, xs, ea, hH, pr⟩ := dctD_ok o ry hd
  subst ea
  refine ⟨ad, _, rfl, .inl ⟨xs, k, .inl hH, rv_key rx, rfl⟩, ?_⟩
  rw [kr_isSome pr]
  exact kk _ _ M H cs (Same.refl _) o (rv_dat (.bl _)) p
theorem dt_inV (hu : X.A.units + 64 < cLine) (ha : DE X a wa) (hb : DE X b wb) (hm : behindInMarks .In b = false := by rfl) : DT X (.Compare a [.In] [b] pos) (wTest (wOp (wDInV false) wa wb)) := dt_cmp (op_din hu) r2_din ha hb hm
theorem dt_ninV (hu : X.A.units + 64 < cLine) (ha : DE X a wa) (hb : DE X b wb) (hm : behindInMarks .NotIn b = false := by rfl) : DT X (.Compare a [.NotIn] [b] pos) (wTest (wOp (wDInV true) wa wb)) := dt_cmp (op_dnin hu) r2_din ha hb hm
theorem rn_dlen {K : Frag} : RNOk K (fun xs H Q => ∃ a kvs, xs = [V.ref a] ∧ H a = some (.dK kvs) ∧ Q (.int kvs.length) H) wDLen := fun M H cs xs as P Q o r ⟨x, kvs, e, hd, p⟩ k => by
  subst e
  cases r with
  | cons r1 rr =>
    cases rr
    obtain ⟨ad, ys, ea, hH, pr⟩ := dctD_ok o r1 hd
    subst ea
    refine ⟨ad, ys, rfl, hH, ?_⟩
    rw [Paired.len pr]
    exact k _ _ M H cs (Same.refl _) o (rv_dat (.int _)) p
theorem rn_dcopy {K : Frag} : RNOk K (fun xs H Q => ∃ (a : Addr) (kvs : List (Key × V)), xs = [.ref a] ∧ Rd H a (.dK kvs) ∧ ∀ p, H p = none → Q (.ref p) (upd H p (.dK kvs))) wDCopy := fun M H cs xs as P Q o r ⟨x, kvs, e, hd, p⟩ k => by
  subst e
  cases r with
  | cons r1 rr =>
    cases rr
    obtain ⟨ad, ys, ea, hH, pr⟩ := dctD_ok o r1 hd
    subst ea
    exact ⟨ad, ys, rfl, .inl hH, fun q hq => k _ _ M _ _ (Same.refl _) (o.newC hq (u := .dK ys) (c := .dk kvs) pr) rv_raw (p q (o.freeC hq))⟩
theorem de_lenV {p : Pos} (hm : X.mg "len" = none) (ha : DA X [e] wr) (hg : Gl X "len" := by rfl) (he : starEach [e] X.env = (false, eval e X.env) :: starEach [] X.env := by rfl) (hpl : (backTo pos (starEach [] X.env)).any (·.1) = false := by rfl) : DE X (.Call (.Name "len" p) [e] [] pos) (wFn wDLen wr) := de_callB call_lenD rn_dlen hm (by decide +kernel) ha hg (by decide) (by decide) he hpl
theorem de_copyV {p : Pos} (hm : X.mg "dict" = none) (ha : DA X [e] wr) (hg : Gl X "dict" := by rfl) (he : starEach [e] X.env = (false, eval e X.env) :: starEach [] X.env := by rfl) (hpl : (backTo pos (starEach [] X.env)).any (·.1) = false := by rfl) : DE X (.Call (.Name "dict" p) [e] [] pos) (wFn wDCopy wr) := de_callTy call_dictD rn_dcopy hm (by decide +kernel) ha hg (by decide) (by decide) he hpl
end
end DL
set_option maxRecDepth 100000
set_option maxHeartbeats 4000000
namespace DL
open PySem L2 PySem.Spec PyProof.Rows
theorem GhC.trans {K : Frag} {cs cs1 cs2 : Cells} (h : GhC K cs cs1) (h' : GhC K cs1 cs2) : GhC K cs cs2 := fun M H o => by
  obtain ⟨M1, s1, o1⟩ := h M H o
  obtain ⟨M2, s2, o2⟩ := h' M1 H o1
  exact ⟨M2, s1.trans s2, o2⟩
theorem GhC.gh {K : Frag} {cs cs' : Cells} {v : Vl} (h : GhC K cs cs') : Gh K v cs v cs' := fun M H x o r => by
  obtain ⟨M1, s1, o1⟩ := h M H o
  exact ⟨M1, s1, o1, r.mono s1⟩
theorem GhC.ghk {K : Frag} {cs cs' : Cells} {v : Vl} {P : Vl → Cells → Prop} (h : GhC K cs cs') (p : P v cs') : GhK K P v cs := ⟨v, cs', h.gh, p⟩
/-- the object at p may be seen as data -/
def Frz (K : Frag) (cs : Cells) (p : Addr) (d : Dat) : Prop := ∀ M H, Ok K M H cs → ∃ M', Same M M' ∧ Ok K M' H (cs.del p) ∧ Dr K M' (.ref p) d
theorem frz_ok {K : Frag} {M H : Hp} {cs : Cells} {p : Addr} {c : CO} {u : HO} (o : Ok K M H cs) (hM : M p = none) (hu : H p = some u) : Same M (upd M p u) ∧ Ok K (upd M p u) H (cs.del p) := by
  have sm : Same M (upd M p u) := same_upd hM
  refine ⟨sm, ⟨fun b ob e => ?_, fun b c e => ?_⟩⟩
  · by_cases hb : b = p
    · subst hb; rw [upd_same] at e; rw [← e]; exact hu
    · rw [upd_ne hb] at e; exact o.ex b ob e
  · have hb : b ≠ p := fun z => by subst z; simp [Cells.del] at e
    have e' : cs b = some c := by simpa [Cells.del, hb] using e
    obtain ⟨m, ob, q, cr⟩ := o.cell b c e'
    exact ⟨by rw [upd_ne hb]; exact m, ob, q, cr.mono sm⟩
theorem drD_back {K : Frag} {M : Hp} : ∀ {fs : List (Key × V)} {ds : List (Key × Dat)}, Paired (KR K M) fs (datK ds) → DrD K M fs ds
  | [], [], .nil => .nil
  | (n, v) :: fs, (n', d) :: ds, .cons ⟨e, r⟩ k => by
    have e : n = n' := e
    subst e
    exact .cons r (drD_back k)
theorem Frz.dct {K : Frag} {cs : Cells} {p : Addr} {kvs : List (Key × Dat)} (h : cs p = some (.dk (datK kvs))) : Frz K cs p (.dct kvs) := fun M H o => by
  obtain ⟨hM, u, hu, cr⟩ := o.cell p _ h
  cases u <;> try exact (show False from cr).elim
  obtain ⟨sm, o'⟩ := frz_ok (c := .tg) o hM hu
  exact ⟨_, sm, o', .dct upd_same (DrD.mono sm (drD_back cr))⟩
theorem Frz.obj {K : Frag} {cs : Cells} {p C : Addr} {ds : List (Str × Dat)} (h : cs p = some (.ins C (datF ds))) : Frz K cs p (.obj C ds) := fun M H o => by
  obtain ⟨hM, u, hu, cr⟩ := o.cell p _ h
  cases u <;> try exact (show False from cr).elim
  obtain ⟨rfl, pr⟩ := cr
  obtain ⟨sm, o'⟩ := frz_ok (c := .tg) o hM hu
  exact ⟨_, sm, o', .obj upd_same (DrF.mono sm (drF_of pr))⟩
theorem Frz.lst {K : Frag} {cs : Cells} {p : Addr} {ds : List Dat} (h : cs p = some (.lst (ds.map .dat))) : Frz K cs p (.lst ds) := fun M H o => o.frz h
def repF (f : Str) (d : Dat) (fs : List (Str × Vl)) : List (Str × Vl) := fs.map fun q => if q.1 = f then (q.1, .dat d) else q
theorem fr_rep {K : Frag} {M M' : Hp} {f : Str} {p : Addr} {d : Dat} (s : Same M M') (hd : Dr K M' (.ref p) d) : ∀ {xs : List (Str × V)} {fs : List (Str × Vl)}, (∀ q ∈ fs, q.1 = f → q.2 = .cell p) → Paired (FR K M) xs fs → Paired (FR K M') xs (repF f d fs)
  | _, _, _, .nil => .nil
  | (n, v) :: xs, (n', y) :: fs, hp, .cons ⟨e, r⟩ t => by
    have e : n = n' := e
    subst e
    refine .cons ?_ (fr_rep s hd (fun q hq => hp q (List.mem_cons_of_mem _ hq)) t)
    by_cases h : n = f
    · have hy : y = .cell p := hp (n, y) List.mem_cons_self h
      subst hy
      have hv : v = .ref p := r
      subst hv
      simp only [h, if_true]
      exact ⟨rfl, hd⟩
    · simp only [h, if_false]
      exact ⟨rfl, RV.mono s r⟩
theorem GhC.fld {K : Frag} {cs : Cells} {L C p : Addr} {f : Str} {d : Dat} {fs : List (Str × Vl)} (hz : Frz K cs p d) (hL : cs L = some (.ins C fs)) (hne : L ≠ p) (hp : ∀ q ∈ fs, q.1 = f → q.2 = .cell p) : GhC K cs ((cs.del p).put L (.ins C (repF f d fs))) := fun M H o => by
  obtain ⟨M', sm, o', hd⟩ := hz M H o
  refine ⟨M', sm, ⟨o'.ex, fun b c e => ?_⟩⟩
  by_cases hb : b = L
  · subst hb
    rw [Cells.put_same] at e
    cases e
    obtain ⟨hM, u, hu, cr⟩ := o.cell b _ hL
    obtain ⟨hM', u', hu', cr'⟩ := o'.cell b (.ins C fs) (by simp [Cells.del, hne, hL])
    rw [hu] at hu'
    cases hu'
    cases u <;> try exact (show False from cr).elim
    obtain ⟨rfl, pr⟩ := cr
    exact ⟨hM', _, hu, rfl, fr_rep sm hd hp pr⟩
  · rw [Cells.put_ne hb] at e
    exact o'.cell b c e
end DL
set_option maxRecDepth 100000
set_option maxHeartbeats 4000000
namespace StarD
open PySem PySem.Spec PySem.Calls PyProof.Rows L2 DL
theorem unpack_star {prog : Program} {w : World} {A : Around} {E : Value → Shared → Prop} {s : Shared} {l : Addr} {items : Array Value} {n i : Nat} {Q : List Value → Shared → Prop} (hl : IsTup s.heap l items) (hh : A.handled = none) (hi : i < n) (hn : n ≤ items.size + 1) (hz : items.size ≤ 16384)
    (h : ∀ (h' : Heap) (tk : Nat), (∀ b o, s.heap.get? b = some o → h'.get? b = some o) → Q (items.toList.take i ++ [.ref h'.objs.size] ++ (items.toList.drop i).drop (items.size + 1 - n)) { s with heap := h'.push { cls := .type "list", data := .seq ((items.toList.drop i).take (items.size + 1 - n)).toArray }, toks := tk }) : wpAny (model prog w) A (unpackItems (.ref l) n (some i)) Q E s := by
  have hlt : l ≠ s.heap.objs.size := by obtain ⟨o, ho, _⟩ := hl; exact Nat.ne_of_lt (Heap.lt_size ho)
  have hll : l < s.heap.objs.size := by obtain ⟨o, ho, _⟩ := hl; exact Heap.lt_size ho
  unfold unpackItems
  refine wpAny_bind ?_
  unfold notIterableAtAll
  refine wpAny_bind (wpAny_specialOf hl.typeIs slot_tuple_iter.lookup ?_)
  refine wpAny_pure ?_
  simp only [Bool.false_eq_true, if_false]
  refine wpAny_bind (wpAny_holding (iter_tuple hl ?_))
  refine wpAny_bind (wpAny_holding (draw_tuple hlt i 0 _ _ ⟨_, Heap.get?_push_size _ rfl, rfl, rfl⟩ (hl.push _) (by omega) fun h₁ hit₁ hs₁ => ?_))
  have hl₁ : IsTup h₁ l items := (hl.push _).extBut hs₁.extBut hlt
  rw [Nat.zero_add] at hit₁
  have hit₁' := hit₁
  obtain ⟨oi, hoi, _⟩ := hit₁'
  have hl₁' := hl₁
  obtain ⟨ol, hol, _⟩ := hl₁'
  rw [List.drop_zero]
  have hfl : (items.toList.take i).length = i := by rw [List.length_take, Array.length_toList]; omega
  rw [if_neg (show ¬ ((items.toList.take i).length < i) by rw [hfl]; omega)]
  refine wpAny_bind (wpAny_holding (PySem.W.kun_collect (s := { s with heap := h₁ }) (T := "tuple_iterator") (.inr (.inr (.inr rfl))) (Walks.tuple (A := A.in1) hh s.heap.objs.size l hlt items) (fun j u st => st.1.typeIs) (k := i) (by omega) ⟨hit₁, hl₁⟩ (Heap.lt_size hoi) (Heap.lt_size hol) (fun h₂ tk hk => ?_) (by rw [sizeLine_eq]; omega)))
  have hrl : (items.toList.drop i).length = items.size - i := by rw [List.length_drop, Array.length_toList]
  have hmid : (items.toList.drop i).length - (n - 1 - i) = items.size + 1 - n := by rw [hrl]; omega
  show wpAny _ _ (if (items.toList.drop i).length < n - 1 - i then _ else _) _ _ _
  rw [if_neg (by rw [hrl]; omega)]
  show wpAny _ _ (newList ((items.toList.drop i).take ((items.toList.drop i).length - (n - 1 - i))) >>= fun d => pure (items.toList.take i ++ [d] ++ (items.toList.drop i).drop ((items.toList.drop i).length - (n - 1 - i)))) _ _ _
  rw [hmid]
  have he : ∀ b o, s.heap.get? b = some o → h₂.get? b = some o := fun b o e => hk b o (Nat.ne_of_lt (Heap.lt_size e)) (hs₁.extBut b o (Nat.ne_of_lt (Heap.lt_size e)) (Heap.get?_push_of_some _ e))
  exact wpAny_bind (wpAny_newList (s := { s with heap := h₂, toks := tk }) (wpAny_pure (h h₂ tk he)) (by rw [List.length_take, hrl, sizeLine_eq]; omega))
theorem vals_app {xs ys : List V} {us ws : List Value} (h : Vals xs us) (k : Vals ys ws) : Vals (xs ++ ys) (us ++ ws) := Vals.append h k
def gStar (K : PySem.W.Frag) (n i : Nat) (t : TGs) : TG := fun v σ H Q => ∃ a xs, v = .ref a ∧ SqT K H a xs ∧ i < n ∧ n ≤ xs.length + 1 ∧ xs.length ≤ 16384 ∧ ∀ D, H D = none → t (xs.take i ++ [.ref D] ++ (xs.drop i).drop (xs.length + 1 - n)) σ (upd H D (.lst ((xs.drop i).take (xs.length + 1 - n)))) Q
theorem pg_star {X : Cx} {es : List Expr} {k : Nat} {t : TGs} {n i : Nat} {pos : Pos} (hc : X.calm = true) (h : PGs X es t) (hn : (assignEach es X.env).length = n := by rfl) (hst : (assignEach es X.env).findIdx? (·.1) = some i := by rfl) : PG X (.Tuple es k pos) (gStar X.K n i t) := by
  refine ⟨fun pins s σ H v u Q I r hw => ?_⟩
  obtain ⟨a, xs, e1, hq, hi, hl, hz, hw⟩ := hw
  subst e1
  cases r
  obtain ⟨its, rv, ht, _⟩ := I.tuple hq
  have hlen : xs.length = its.length := rv.length
  rw [assign_Tuple]
  refine wpAny_bind (wpAny_standAt ?_)
  unfold unpack
  rw [hn, hst]
  refine wpAny_bind (wpAny_holding (unpack_star ht (I.ok.hd hc) hi (by simpa [← hlen] using hl) (by simpa [← hlen] using hz) fun h' tk hk => ?_))
  have I1 : Inv X pins σ H { s with heap := h', toks := tk } := I.kept hk
  have hf : H h'.objs.size = none := I1.hok.fresh (Nat.le_refl _)
  have hsz : its.toArray.size = xs.length := by rw [List.size_toArray, hlen]
  rw [hsz]
  have hmid : Vals ((xs.drop i).take (xs.length + 1 - n)) ((its.drop i).take (xs.length + 1 - n)) := (rv.drop i).take _
  have I2 : Inv X pins σ (upd H h'.objs.size (.lst ((xs.drop i).take (xs.length + 1 - n)))) { s with heap := h'.push { cls := .type "list", data := .seq ((its.drop i).take (xs.length + 1 - n)).toArray }, toks := tk } := by
    refine I1.laid (t' := tk) (fun b u e => Heap.get?_push_of_some _ e) (Nat.le_refl _) ?_
    refine ⟨?_, _, 0, hmid, Heap.get?_push_size _ rfl⟩
    rw [sizeLine_eq, List.length_take, List.length_drop]
    omega
  exact h.run pins _ σ _ _ _ Q I2 (vals_app (vals_app (rv.take i) (.cons (show RelV (.ref h'.objs.size) (.ref h'.objs.size) from rfl) .nil)) ((rv.drop i).drop _)) (hw _ hf)
theorem pgs_consS {X : Cx} {e : Expr} {es : List Expr} {t : TG} {u : TGs} {p : Pos} (h1 : PG X e t) (h2 : PGs X es u) : PGs X (.Starred e p :: es) (L2.gCons t u) := by
  refine ⟨fun pins s σ H vs us Q I r h => ?_⟩
  obtain ⟨v, vr, e1, h⟩ := h
  subst e1
  cases r with
  | cons r rr =>
    show wpAny _ _ (assignInOrder (assign e X.env :: (assignEach es X.env).map (·.2)) _) _ _ _
    refine assignInOrder_cons (thn (h1.run pins s σ H _ _ _ I r h) fun _ s1 ⟨σ1, H1, I1, q1⟩ => ?_)
    exact h2.run pins s1 σ1 H1 _ _ Q I1 rr q1
end StarD
namespace DL
open PySem L2 PySem.Spec PyProof.Rows
/-- *xs (at i), .. = a tuple: n targets -/
def gS (n i : Nat) (gs : WGs) : WG := fun x ρ cs P => ∃ xs, seqD cs x = some (false, xs) ∧ i < n ∧ n ≤ xs.length + 1 ∧ xs.length ≤ 16384 ∧ newL ((xs.drop i).take (xs.length + 1 - n)) cs fun y cs1 => gs (xs.take i ++ [y] ++ (xs.drop i).drop (xs.length + 1 - n)) ρ cs1 P
section
variable {X : Cx} {e : Expr} {es : List Expr} {pos : Pos}
theorem dgs_consS {js js' : List Nat} {g : WG} {gs : WGs} {p : Pos} (h1 : DG X js e g) (h2 : DGs X js' es gs) : DGs X (js ++ js') (.Starred e p :: es) (gCons g gs) :=
  pgs_imp (StarD.pgs_consS h1 h2) fun vs σ H Q ⟨M, ρ, cs, xs, P, o, r, rv, ⟨x, rest, ex, p⟩, k⟩ => by
    subst ex
    cases rv with
    | cons r1 rr =>
      refine ⟨_, _, rfl, M, ρ, cs, x, _, o, r, r1, p, fun σ' ρ' M' H' cs' s o' r' hl hj p' => ?_⟩
      refine ⟨M', ρ', cs', rest, _, o', r', paired_mono (fun _ _ q => q.mono s) rr, p', fun σ2 ρ2 M2 H2 cs2 s2 o2 r2 hl2 hj2 p2 => ?_⟩
      exact k σ2 ρ2 M2 H2 cs2 (s.trans s2) o2 r2 (hl2.trans hl) (fun i hi => by rw [hj2 i (fun z => hi (List.mem_append.mpr (.inr z))), hj i (fun z => hi (List.mem_append.mpr (.inl z)))]) p2
theorem paired_dropL {K : Frag} {M : Hp} : ∀ (n : Nat) {vs : List V} {xs : List Vl}, Paired (RV K M) vs xs → Paired (RV K M) (vs.drop n) (xs.drop n)
  | 0, _, _, h => h
  | _ + 1, _, _, .nil => .nil
  | n + 1, _, _, .cons _ h => paired_dropL n h
theorem paired_takeL {K : Frag} {M : Hp} : ∀ (n : Nat) {vs : List V} {xs : List Vl}, Paired (RV K M) vs xs → Paired (RV K M) (vs.take n) (xs.take n)
  | 0, _, _, _ => .nil
  | _ + 1, _, _, .nil => .nil
  | n + 1, _, _, .cons r h => .cons r (paired_takeL n h)
theorem dg_star {js : List Nat} {gs : WGs} {n i k : Nat} (hc : X.calm = true) (h : DGs X js es gs) (hn : (assignEach es X.env).length = n := by rfl) (hst : (assignEach es X.env).findIdx? (·.1) = some i := by rfl) : DG X js (.Tuple es k pos) (gS n i gs) :=
  pg_imp (StarD.pg_star hc h hn hst) fun v σ H Q ⟨M, ρ, cs, x, P, o, r, rv, ⟨xs, hx, hi, hl, hz, p⟩, kk⟩ => by
    obtain ⟨ad, vs, ev, q, pr⟩ := seqD_tup o rv hx
    have hvl : vs.length = xs.length := Paired.len pr
    refine ⟨ad, vs, ev, q, hi, by rw [hvl]; exact hl, by rw [hvl]; exact hz, ?_⟩
    rw [hvl]
    refine newL_ok (Q := fun y H' => liftGs X.K js gs (vs.take i ++ [y] ++ (vs.drop i).drop (xs.length + 1 - n)) σ H' Q) o (paired_takeL _ (paired_dropL i pr)) p fun y x' M' H' cs' s o' r' p' => ?_
    exact ⟨M', ρ, cs', _, P, o', r.mono s, Paired.app (Paired.app (paired_takeL i (paired_mono (fun _ _ q => q.mono s) pr)) (.cons r' .nil)) (paired_dropL _ (paired_dropL i (paired_mono (fun _ _ q => q.mono s) pr))), p', fun σ2 ρ2 M2 H2 cs2 s2 o2 r2 hl2 hj2 p2 => kk σ2 ρ2 M2 H2 cs2 (s.trans s2) o2 r2 hl2 hj2 p2⟩
end
end DL
set_option maxRecDepth 100000
set_option maxHeartbeats 4000000
namespace DL
open PySem L2 PySem.Spec PyProof.Rows
theorem reads_ints {h : Heap} : ∀ {is : List Int} {us : List Value}, Vals (is.map V.int) us → ReadsAll h us (is.map PyData.int) []
  | [], [], .nil => .nil
  | i :: is, u :: us, .cons r k => by
    obtain ⟨t, e⟩ : ∃ t, u = .int i t := r
    subst e
    exact ReadsAll.cons (as := []) (bs := []) (.int i t) (reads_ints k)
theorem alike_ints (is : List Int) : PySem.W.AlikeAll (is.map PyData.int) := by
  refine ⟨fun x hx y hy => ?_, fun x hx => ?_⟩
  · obtain ⟨i, -, rfl⟩ := List.mem_map.mp hx
    obtain ⟨j, -, rfl⟩ := List.mem_map.mp hy
    rfl
  · obtain ⟨i, -, rfl⟩ := List.mem_map.mp hx
    exact fun z => by cases z
theorem depth_ints : ∀ is : List Int, PyData.depthAll (is.map PyData.int) ≤ 1
  | [] => Nat.zero_le _
  | i :: is => by
    show PyData.depthAll (.int i :: is.map PyData.int) ≤ 1
    unfold PyData.depthAll
    refine Nat.max_le.mpr ⟨?_, depth_ints is⟩
    unfold PyData.depth; omega
def rBestI (K : Frag) (f : Int → Int → Int) : List V → Hp → VK → Prop := fun xs H Q => ∃ p i is, xs = [.ref p] ∧ SqL K H p ((i :: is).map V.int) ∧ Q (.int (is.foldl f i)) H
section
variable {X : Cx} {a b e : Expr} {wa wb : WE} {wr : WA} {pos p : Pos}
theorem call_maxI (hc : X.calm = true) (hu : X.A.units + 64 < cLine) : CallR X (.builtin "max") (rBestI X.K max) := by
  intro pins s σ H xs us Q I r h
  obtain ⟨p, i, is, rfl, hq, q⟩ := h
  obtain ⟨u, rfl, rx⟩ := vals1 r
  cases rx
  obtain ⟨its, r', pl, hz⟩ := I.list hq
  have hd := depth_ints (i :: is)
  refine PySem.W.max_list_data (I.ok.hd hc) pl.isList (x := .int i) (xs := is.map .int) (as := []) (by simpa using reads_ints r') (alike_ints (i :: is)) (by show X.A.units + 1 + PyData.depthAll ((i :: is).map PyData.int) < _; omega) fun j v h' tk bs _ rd hk => ?_
  rw [PySem.W.maxD_ints] at rd
  cases rd with
  | int _ t => exact ⟨.int (is.foldl max i), H, I.kept hk, ⟨_, rfl⟩, q⟩
theorem call_minI (hc : X.calm = true) (hu : X.A.units + 64 < cLine) : CallR X (.builtin "min") (rBestI X.K min) := by
  intro pins s σ H xs us Q I r h
  obtain ⟨p, i, is, rfl, hq, q⟩ := h
  obtain ⟨u, rfl, rx⟩ := vals1 r
  cases rx
  obtain ⟨its, r', pl, hz⟩ := I.list hq
  have hd := depth_ints (i :: is)
  refine PySem.W.min_list_data (I.ok.hd hc) pl.isList (x := .int i) (xs := is.map .int) (as := []) (by simpa using reads_ints r') (alike_ints (i :: is)) (by show X.A.units + 1 + PyData.depthAll ((i :: is).map PyData.int) < _; omega) fun j v h' tk bs _ rd hk => ?_
  rw [PySem.W.minD_ints] at rd
  cases rd with
  | int _ t => exact ⟨.int (is.foldl min i), H, I.kept hk, ⟨_, rfl⟩, q⟩
def wBestI (f : Int → Int → Int) : WN := fun xs cs P => ∃ x i is, xs = [x] ∧ seqD cs x = some (true, (i :: is).map fun j => Vl.dat (.int j)) ∧ P (.dat (.int (is.foldl f i))) cs
theorem paired_intsB {K : Frag} {M : Hp} : ∀ {ns : List Int} {vs : List V}, Paired (RV K M) vs (ns.map fun i => Vl.dat (.int i)) → vs = ns.map V.int
  | [], _, .nil => rfl
  | _ :: _, _, .cons h k => by rw [inv_int h, paired_intsB k]; rfl
theorem rn_bestI {K : Frag} {f : Int → Int → Int} : RNOk K (rBestI K f) (wBestI f) := fun M H cs xs as P Q o r ⟨x, i, is, e, h, p⟩ k => by
  subst e
  cases r with
  | cons r1 rr =>
    cases rr
    obtain ⟨ad, vs, ev, hs, pr⟩ := seqD_list o r1 h
    subst ev
    rw [paired_intsB pr] at hs
    exact ⟨ad, i, is, rfl, hs, k _ _ M H cs (Same.refl _) o (rv_dat (.int _)) p⟩
theorem de_maxI (hc : X.calm = true) (hu : X.A.units + 64 < cLine) (hm : X.mg "max" = none) (ha : DA X [e] wr) (hg : Gl X "max" := by rfl) (he : starEach [e] X.env = (false, eval e X.env) :: starEach [] X.env := by rfl) (hpl : (backTo pos (starEach [] X.env)).any (·.1) = false := by rfl) : DE X (.Call (.Name "max" p) [e] [] pos) (wFn (wBestI max) wr) := de_callB (call_maxI hc hu) rn_bestI hm (by decide +kernel) ha hg (by decide) (by decide) he hpl
theorem de_minI (hc : X.calm = true) (hu : X.A.units + 64 < cLine) (hm : X.mg "min" = none) (ha : DA X [e] wr) (hg : Gl X "min" := by rfl) (he : starEach [e] X.env = (false, eval e X.env) :: starEach [] X.env := by rfl) (hpl : (backTo pos (starEach [] X.env)).any (·.1) = false := by rfl) : DE X (.Call (.Name "min" p) [e] [] pos) (wFn (wBestI min) wr) := de_callB (call_minI hc hu) rn_bestI hm (by decide +kernel) ha hg (by decide) (by decide) he hpl
/-- text[i] -/
def wIxS : W2 := fun x y cs P => ∃ (z : Str) (i : Int) (c : Nat), x = .dat (.str z) ∧ y = .dat (.int i) ∧ z.length ≤ 16777216 ∧ atI z.cps.toList i = some c ∧ P (.dat (.str ⟨#[c]⟩)) cs
/-- sorted(d), its keys ints -/
def wSortVI : WN := fun xs cs P => ∃ x kvs ks, xs = [x] ∧ dctD cs x = some kvs ∧ kvs.map (·.1) = ks.map Sum.inl ∧ ∀ ys : List Int, ys.Perm ks → ys.Pairwise (· ≤ ·) → newL (ys.map fun i => Vl.dat (.int i)) cs P
theorem rn_sortVI {K : Frag} : RNOk K rSortDI wSortVI := fun M H cs xs as P Q o r ⟨x, kvs, ks, e, h, hk, p⟩ k => by
  subst e
  cases r with
  | cons r1 rr =>
    cases rr
    obtain ⟨ad, ws, ea, hu, rep⟩ := dctD_ok o r1 h
    exact ⟨ad, ws, ks, by rw [ea], .inl hu, (kr_keys rep).trans hk, fun ys pp pm hs hp => newL_ok o (ints_paired ys) (p ys pm hs) k pp hp⟩
theorem de_sortVI (hc : X.calm = true) (hm : X.mg "sorted" = none) (ha : DA X [e] wr) (hg : Gl X "sorted" := by rfl) (he : starEach [e] X.env = (false, eval e X.env) :: starEach [] X.env := by rfl) (hpl : (backTo pos (starEach [] X.env)).any (·.1) = false := by rfl) :
    DE X (.Call (.Name "sorted" p) [e] [] pos) (wFn wSortVI wr) := de_callB (cr_sortDI hc) rn_sortVI hm (by decide +kernel) ha hg (by decide) (by decide) he hpl
/-- .. texts -/
def wSortVS : WN := fun xs cs P => ∃ x kvs ks, xs = [x] ∧ dctD cs x = some kvs ∧ kvs.map (·.1) = ks.map Sum.inr ∧ ks.length < 64 ∧ ∀ ys : List Str, ys.Perm ks → sortedS ys = true → newL (ys.map fun i => Vl.dat (.str i)) cs P
theorem rn_sortVS {K : Frag} : RNOk K (fun xs H Q => ∃ (a : Addr) (kvs : List (Key × V)) (ks : List Str), xs = [.ref a] ∧ Rd H a (.dK kvs) ∧ kvs.map (·.1) = ks.map Sum.inr ∧ ks.length < 64 ∧ ∀ ys p, ys.Perm ks → sortedS ys = true → H p = none → Q (.ref p) (upd H p (.lst (ys.map V.str)))) wSortVS := fun M H cs xs as P Q o r ⟨x, kvs, ks, e, h, hk, h64, p⟩ k => by
  subst e
  cases r with
  | cons r1 rr =>
    cases rr
    obtain ⟨ad, ws, ea, hu, rep⟩ := dctD_ok o r1 h
    exact ⟨ad, ws, ks, by rw [ea], .inl hu, (kr_keys rep).trans hk, h64, fun ys pp pm hs hp => newL_ok o (paired_strs ys) (p ys pm hs) k pp hp⟩
theorem de_sortVS (hc : X.calm = true) (hm : X.mg "sorted" = none) (ha : DA X [e] wr) (hg : Gl X "sorted" := by rfl) (he : starEach [e] X.env = (false, eval e X.env) :: starEach [] X.env := by rfl) (hpl : (backTo pos (starEach [] X.env)).any (·.1) = false := by rfl) :
    DE X (.Call (.Name "sorted" p) [e] [] pos) (wFn wSortVS wr) := de_callB (call_sortedD hc) rn_sortVS hm (by decide +kernel) ha hg (by decide) (by decide) he hpl
end
end DL
set_option maxRecDepth 100000
set_option maxHeartbeats 4000000
namespace DL
open PySem L2 PySem.Spec PyProof.Rows
structure DKk (P : Program) (w : World) (K : Frag) (mg : Str → Option Value) (base : Heap) (C : Addr) (x : Str) (n : Nat) (ks : List Str) (gD : List Vl → List Vl → List Vl) (k : Nat) (dsp : DSp) : Prop where
  ex : ∃ fi fd ps gF gV, Mk K C fi ∧ FnOk P w K mg base CX0 k fi fd ps (liftSp K dsp) ∧ KBn K fd ps (n + 1) ks gF gV ∧ mg x = some (.ref C) ∧
    ∀ M vs xs zs ys, Paired (RV K M) vs xs → Paired (RV K M) zs ys → vs.length = n + 1 → zs.length = ks.length → Paired (RV K M) (gV vs zs) (gD xs ys)
def wMakeK (C : Addr) (n m : Nat) (gD : List Vl → List Vl → List Vl) (dsp : DSp) (wr wk : WA) : WE := fun ρ cs P => wr ρ cs fun xs cs1 => wk ρ cs1 fun ys cs2 => xs.length = n ∧ ys.length = m ∧ ∀ a, cs2 a = none → dsp (gD (.cell a :: xs) ys) (cs2.put a (.ins C [])) (fun v cs3 => v = .dat .non ∧ P (.cell a) cs3) X0
theorem pk_of {X : Cx} {kws : List Keyword} {wk : WA} (h : DK X kws wk) : PK X kws (fun σ H Q => ∃ M0, liftA0 X.K M0 wk σ H Q) := ⟨fun pos pins s σ H Q I ⟨M0, q⟩ => (h M0).run pos pins s σ H Q I q⟩
theorem de_makeK {X : Cx} {C : Addr} {x : Str} {n k : Nat} {ks : List Str} {gD : List Vl → List Vl → List Vl} {dsp : DSp} {p pos : Pos} {e : Expr} {es : List Expr} {kws : List Keyword} {wr wk : WA} (G : DKk X.prog X.w X.K X.mg X.base C x n ks gD k dsp) (hr : Room (k + 1) X.A) (ha : DA X (e :: es) wr) (hk : DK X kws wk) (hg : Gl X x := by rfl)
    (hall : (backToKw pos (keywordEach kws X.env)).all (·.1.isSome) = true := by rfl) (hks : (backToKw pos (keywordEach kws X.env)).filterMap (·.1) = ks := by rfl) (hdb : (x == ("__debug__" : Str)) = false := by decide)
    (he : starEach (e :: es) X.env = (false, eval e X.env) :: starEach es X.env := by rfl) (hpl : ((backTo pos (starEach (e :: es) X.env)).any (·.1) || (backToKw pos (keywordEach kws X.env)).any (·.1.isNone)) = false := by rfl) :
    DE X (.Call (.Name x p) (e :: es) kws pos) (wMakeK C n ks.length gD dsp wr wk) := by
  obtain ⟨fi, fd, ps, gF, gV, Mm, F, kb, hm, hgd⟩ := G.ex
  refine pe_imp (pe_makeK (E := E0) Mm F hr hg hm kb pass0 ha (pk_of hk) hall hks hdb he hpl) fun σ H Q ⟨M, ρ, cs, P, o, r0, p, kk⟩ => ?_
  refine ⟨M, ρ, cs, _, o, r0, p, fun vs xs M1 H1 cs1 s1 o1 r1 p1 => ?_⟩
  refine ⟨M1, M1, ρ, cs1, _, Same.refl _, o1, r0.mono s1, p1, fun zs ys M2 H2 cs2 s2 o2 r2 ⟨l1, l2, p2⟩ => ?_⟩
  have e1 : vs.length = n := (Paired.len r1).trans l1
  have e2 : zs.length = ks.length := (Paired.len r2).trans l2
  refine ⟨e1, e2, fun a dx h1 h2 hne => ?_⟩
  have o3 := o2.newH h2 (.own a)
  have h3 : upd H2 dx (.own a) a = none := by rw [upd_ne hne.symm]; exact h1
  have o4 := o3.newC h3 (u := .ins C dx []) (c := .ins C []) ⟨rfl, .nil⟩
  refine ⟨M2, _, _, _, X0, o4, hgd M2 _ _ _ _ (.cons rv_raw (paired_mono (fun _ _ q => q.mono s2) r1)) r2 (by show vs.length + 1 = n + 1; rw [e1]) e2, p2 a (o2.freeC h1), fun v x M3 H3 cs3 s3 o3 r3 ⟨ex, p3⟩ => ?_, fun _ _ _ _ _ _ _ _ _ z => z.elim⟩
  subst ex
  exact ⟨inv_non r3, kk _ _ M3 H3 cs3 (s1.trans (s2.trans s3)) o3 rv_raw p3⟩
end DL
set_option maxRecDepth 100000
set_option maxHeartbeats 4000000
namespace DL
open PySem L2
local macro_rules | `(tactic| walk_at "dl") => `(tactic| simp only [wBestI, wIxS, wDGetV, wDInV, wDLen, wDCopy, wDDel, wDPut, wDNewK, wSortVI, wSortVS, wMakeK, gS, wFldI, wConI, wPropI, wMethI, wMethX, wAlt, wAltS, wCallX, wRaise, wRaise1, wRaise2, wCm, wCm0, noX, xw, insD_obj, insD_cell, coIns_ins, wSt, wLenS, wAll, wCntF, wIdxF, wSplit, wTryAs, wAsD, unE, wIsE, wXf, wIsiO, LamD.wOut, LamD.wLamMk, LamD.wAct, Dat.str.injEq, Dat.obj.injEq, wAbs, wCatS, wExt, wListOf, wiStr, wFld, wSetF, wMeth, wMake, wGMeth, wGCall, wDNewK, wDNewT, CO.ins.injEq, CO.dk.injEq, CO.dt.injEq, Cells.put_put, wRet, wRetN, wSeq, wAsg, wIfS, wDrop, wNext, wVar, wC, wOp, wUn, wFn, wNil, wCons, wTest, wNot, wAnd, wOr, wAndV, wOrV, wNotV, wIf, wChain, wTup, wLst, wCall, wNever, gN, gT, gNil, gCons, gIx, wI, wI0, wNeg, wMax2, wMin2, wLen, wIsN, wNotN, isNon_non, isNon_bl, isNon_int, isNon_str, isNon_lst, isNon_tup, isNon_cell, wIx, wTuple, wAug, wAugIx, wPar, wPar3, wSlL, wSlT, wPart, wNoPart, wCatT, wIsi, wIsi2, isiT, tyD_non, tyD_bl, tyD_int, tyD_str, tyD_lst, tyD_tup, tyD_cell, coTy_lst, seqD_lst, seqD_tp, seqD_cell, coSeq_lst, seen_dat, seen_cell, coDat_lst, startD, wYes, wApp, wEq_int, wEq_bl, allDat_nil, allDat_cons, allDat_map, Option.map_some, List.map_cons, List.map_nil, List.cons_append, List.nil_append, List.length_cons, List.length_nil, List.replicate, List.getElem?_cons_zero, List.getElem?_cons_succ, List.set_cons_zero, List.set_cons_succ, Option.some.injEq, exists_eq_left', exists_eq_left, exists_and_left, exists_eq', exists_eq, Vl.dat.injEq, Vl.raw.injEq, V.ref.injEq, CO.lst.injEq, Dat.int.injEq, Dat.bl.injEq, Dat.tup.injEq, Dat.lst.injEq, List.cons.injEq, and_true, true_and, retE, Nat.reduceAdd, Nat.reduceSub, and_assoc, Prod.mk.injEq, if_true, if_false, Bool.false_eq_true, decide_eq_true_eq, Bool.not_true, Bool.not_false, Bool.not_eq_true', decide_eq_false_iff_not, if_false_left, if_false_right, beq_iff_eq, Bool.or_eq_true, Bool.and_eq_true, Bool.or_self, Bool.or_true, Bool.true_or, Bool.or_false, Bool.false_or, decide_true, decide_false, reduceCtorEq, Cells.put_same, gt_iff_lt, ge_iff_le, beq_self_eq_true, bne_self_eq_false, Bool.decide_eq_true, not_true_eq_false, not_false_eq_true, Decidable.not_not, false_and, and_false, Bool.not_eq_false, at_0, at_1, at_2, at_3, at_4, at_5, ix_0, ix_1, ix_2, ix_3, Nat.reduceLT, Int.reduceLT, Int.reduceLE, Int.reduceNeg, Int.reduceAdd, Int.reduceSub, Int.reduceEq, Int.reducePow, Int.reduceToNat, Cells.put_put])
structure Due where
  ps : List Str
  p : Int
  d : Int
  a : Int
structure Acc where
  kd : Str
  l : Int
  b : Int
structure Bk where
  day : Int
  accs : List (Str × Acc)
  dues : List (Int × Due)
  nxt : Int
def accD (q : Acc) : Dat := .tup [.str q.kd, .int q.l, .int q.b]
def dueL (u : Due) : List Dat := u.ps.map .str ++ [.int u.p, .int u.d, .int u.a]
def dueD (u : Due) : Dat := .tup (dueL u)
def accK (b : Bk) : List (Key × Dat) := b.accs.map fun q => (.inr q.1, accD q.2)
def dueK (b : Bk) : List (Key × Dat) := b.dues.map fun q => (.inl q.1, dueD q.2)
def bkF (b : Bk) : List (Str × Dat) := [("day_number", .int b.day), ("accounts", .dct (accK b)), ("dues", .dct (dueK b)), ("following", .int b.nxt)]
def bkD (C : CE) (b : Bk) : Dat := .obj C.Books (bkF b)
def bkV (b : Bk) (ax dx : Vl) : List (Str × Vl) := [("day_number", .int b.day), ("accounts", ax), ("dues", dx), ("following", .int b.nxt)]
/-- x is such books -/
def isBk (C : CE) (cs : Cells) (x : Vl) (b : Bk) : Prop := ∃ ax dx, insD cs x = some (C.Books, bkV b ax dx) ∧ dctD cs ax = some (datK (accK b)) ∧ dctD cs dx = some (datK (dueK b))
theorem isBk_dat {C : CE} {cs : Cells} {b : Bk} : isBk C cs (.dat (bkD C b)) b := ⟨_, _, rfl, rfl, rfl⟩
theorem insD_sub {cs cs' : Cells} (s : SubC cs cs') {x : Vl} {r : Addr × List (Str × Vl)} (h : insD cs x = some r) : insD cs' x = some r := by
  match x, h with
  | .dat (.obj C fs), h => exact h
  | .raw (.ref a), h =>
    have h : coIns (cs a) = some r := h
    show coIns (cs' a) = some r
    cases e : cs a with
    | none => rw [e] at h; cases h
    | some c => rw [s a c e, ← e]; exact h
theorem dctD_sub {cs cs' : Cells} (s : SubC cs cs') {x : Vl} {r : List (Key × Vl)} (h : dctD cs x = some r) : dctD cs' x = some r := by
  match x, h with
  | .dat (.dct kvs), h => exact h
  | .raw (.ref a), h =>
    have h : coDk (cs a) = some r := h
    show coDk (cs' a) = some r
    cases e : cs a with
    | none => rw [e] at h; cases h
    | some c => rw [s a c e, ← e]; exact h
theorem isBk.sub {C : CE} {cs cs' : Cells} {x : Vl} {b : Bk} (s : SubC cs cs') (h : isBk C cs x b) : isBk C cs' x b := by
  obtain ⟨ax, dx, h1, h2, h3⟩ := h
  exact ⟨ax, dx, insD_sub s h1, dctD_sub s h2, dctD_sub s h3⟩
theorem sub_fresh {cs : Cells} {p : Addr} {c : CO} (h : cs p = none) : SubC cs (cs.put p c) := sub_put (fun _ _ e => e) h
theorem put_none {cs : Cells} {p a : Addr} {c : CO} (h : cs.put p c a = none) : a ≠ p ∧ cs a = none := by
  have hne : a ≠ p := fun z => by rw [z, Cells.put_same] at h; cases h
  rw [Cells.put_ne hne] at h
  exact ⟨hne, h⟩
def ledF (C : CE) (ps : List Int) (b : Bk) (pa : Addr) (fu : Vl) : List (Str × Vl) := [("periods", .dat (cal ps)), ("books", .dat (bkD C b)), ("past", .cell pa), ("future", fu)]
/-- L is such a ledger -/
structure isLed (C : CE) (cs : Cells) (L : Addr) (ps : List Int) (b : Bk) (pa : Addr) (fu : Vl) (past : List Vl) : Prop where
  led : cs L = some (.ins C.Ledger (ledF C ps b pa fu))
  past : cs pa = some (.lst past)
  ne : L ≠ pa
def lookA (l : List (Str × Acc)) (n : Str) : Option Acc := (l.find? fun q => decide (q.1 = n)).map (·.2)
theorem valD_accK {b : Bk} {n : Str} : valD (datK (accK b)) (.inr n) = (lookA b.accs n).map fun q => .dat (accD q) := by
  unfold valD datK accK lookA
  generalize b.accs = l
  induction l with
  | nil => rfl
  | cons q l ih =>
    simp only [List.map_cons, List.find?_cons]
    by_cases h : q.1 = n
    · simp [h]
    · have : ¬ (Sum.inr q.1 = (Sum.inr n : Key)) := fun z => h (Sum.inr.inj z)
      simp only [h, this, decide_false]
      exact ih
def sp_validate_amount (C : CE) : DSp := fun xs cs Q XP => ∃ v lo hi : Int, xs = [.int v, .int lo, .int hi] ∧ (if lo ≤ v ∧ v ≤ hi then Q .non cs else XP (.ref C.InvalidAmount) [] cs)
theorem len_validate_amount {C : CE} : ∀ xs cs Q XP, sp_validate_amount C xs cs Q XP → xs.length = 3 := by rintro xs cs Q XP ⟨v, lo, hi, rfl, _⟩; rfl
def sp_validate_calendarX (C : CE) : DSp := fun xs cs Q _ => ∃ ps : List Int, xs = [.dat (cal ps)] ∧ CalOk ps ∧ Q .non cs
theorem len_validate_calendarX {C : CE} : ∀ xs cs Q XP, sp_validate_calendarX C xs cs Q XP → xs.length = 1 := by rintro xs cs Q XP ⟨ps, rfl, _⟩; rfl
def sp_validate_ordersX (C : CE) : DSp := fun xs cs Q XP => ∃ (ps : List Int) (os : List Ord) (b : Bool), xs = [.dat (cal ps), .dat (seqd b (ordsD os))] ∧ CalOk ps ∧ (match os.findIdx? (fun o => !ordB ps o) with | none => Q .non cs | some i => XP (.ref C.InvalidOrder) [("index", .int (i : Int))] cs)
theorem len_validate_ordersX {C : CE} : ∀ xs cs Q XP, sp_validate_ordersX C xs cs Q XP → xs.length = 2 := by rintro xs cs Q XP ⟨ps, os, b, rfl, _⟩; rfl
def sp_Books___init__ (C : CE) : DSp := fun xs cs Q _ => ∃ (a : Addr) (d : Int) (ax dx : Vl) (n : Int), xs = [.cell a, .int d, ax, dx, .int n] ∧ cs a = some (.ins C.Books []) ∧ Q .non (cs.put a (.ins C.Books [("day_number", .int d), ("accounts", ax), ("dues", dx), ("following", .int n)]))
theorem len_Books___init__ {C : CE} : ∀ xs cs Q XP, sp_Books___init__ C xs cs Q XP → xs.length = 5 := by rintro xs cs Q XP ⟨a, d, ax, dx, n, rfl, _⟩; rfl
def newBk (C : CE) (cs : Cells) (b : Bk) (p p1 p2 : Addr) : Cells := ((cs.put p1 (.dk (datK (accK b)))).put p2 (.dk (datK (dueK b)))).put p (.ins C.Books (bkV b (.cell p1) (.cell p2)))
def sp_Books_copied (C : CE) : DSp := fun xs cs Q _ => ∃ (x : Vl) (b : Bk), xs = [x] ∧ isBk C cs x b ∧ ∀ p p1 p2, cs p = none → cs p1 = none → cs p2 = none → p ≠ p1 → p ≠ p2 → p1 ≠ p2 → Q (.cell p) (newBk C cs b p p1 p2)
theorem len_Books_copied {C : CE} : ∀ xs cs Q XP, sp_Books_copied C xs cs Q XP → xs.length = 1 := by rintro xs cs Q XP ⟨x, b, rfl, _⟩; rfl
/-- the ledger's calendar -/
def hasCal (C : CE) (cs : Cells) (x : Vl) (ps : List Int) : Prop := ∃ gs, insD cs x = some (C.Ledger, gs) ∧ gs.lookup ("periods" : Str) = some (.dat (cal ps))
def sp_Ledger_account_in (C : CE) : DSp := fun xs cs Q XP => ∃ (L x : Vl) (n : Str) (b : Bk) (ps : List Int) (c : Int), xs = [L, x, .dat (.str n)] ∧ hasCal C cs L ps ∧ isBk C cs x b ∧ ps.getLast? = some c ∧ n.length ≤ 16777216 ∧
  (match lookA b.accs n with | none => XP (.ref C.UnknownAccount) [("name", .dat (.str n))] cs | some q => PyData.strOk q.kd = true ∧ endR (madeR C q.kd n q.l q.b c) cs Q XP)
theorem len_Ledger_account_in {C : CE} : ∀ xs cs Q XP, sp_Ledger_account_in C xs cs Q XP → xs.length = 3 := by rintro xs cs Q XP ⟨L, x, n, b, ps, c, rfl, _⟩; rfl
def sp_Ledger_account (C : CE) : DSp := fun xs cs Q XP => ∃ (L : Addr) (n : Str) (b : Bk) (ps : List Int) (pa : Addr) (fu : Vl) (past : List Vl) (c : Int), xs = [.cell L, .dat (.str n)] ∧ isLed C cs L ps b pa fu past ∧ ps.getLast? = some c ∧ n.length ≤ 16777216 ∧
  (match lookA b.accs n with | none => XP (.ref C.UnknownAccount) [("name", .dat (.str n))] cs | some q => PyData.strOk q.kd = true ∧ endR (madeR C q.kd n q.l q.b c) cs Q XP)
theorem len_Ledger_account {C : CE} : ∀ xs cs Q XP, sp_Ledger_account C xs cs Q XP → xs.length = 2 := by rintro xs cs Q XP ⟨L, n, b, ps, pa, fu, past, c, rfl, _⟩; rfl
def sp_Ledger_commit (C : CE) : DSp := fun xs cs Q _ => ∃ (L : Addr) (op : Dat) (x : Vl) (b : Bk) (ps : List Int) (pa : Addr) (fu : Vl) (past : List Vl), xs = [.cell L, .dat op, x] ∧ isLed C cs L ps b pa fu past ∧ past.length < 16777216 ∧
  ∀ f', cs f' = none → Q .non (((cs.put pa (.lst (past ++ [.dat (.tup [op, bkD C b])]))).put f' (.lst [])).put L (.ins C.Ledger [("periods", .dat (cal ps)), ("books", x), ("past", .cell pa), ("future", .cell f')]))
theorem len_Ledger_commit {C : CE} : ∀ xs cs Q XP, sp_Ledger_commit C xs cs Q XP → xs.length = 3 := by rintro xs cs Q XP ⟨L, op, x, b, ps, pa, fu, past, rfl, _⟩; rfl
def sp_Ledger_validate_item (C : CE) : DSp := fun xs cs Q XP => ∃ (x : Vl) (k a : Int), xs = [x, .int k, .int a] ∧ (if (if k = 2 then 1 else -1000000000000000000) ≤ a ∧ a ≤ 1000000000000000000 ∧ a ≠ 0 then Q .non cs else XP (.ref C.InvalidAmount) [] cs)
theorem len_Ledger_validate_item {C : CE} : ∀ xs cs Q XP, sp_Ledger_validate_item C xs cs Q XP → xs.length = 3 := by rintro xs cs Q XP ⟨x, k, a, rfl, _⟩; rfl
/-- validate_calendar: slots 0 calendar, 1 before, 2 index, 3 period -/
def w_validate_calendarX (K : Frag) (C : CE) (W0 : DXP) : WS := (wSeq (wIfS (wNot (wTest (wChain wLe wLe (wC (.int 1)) (wFn wLen (wCons (wVar 0) wNil)) (wC (.int 5))))) (wRaise1 C.InvalidCalendar "index" (wUn wNeg (wC (.int 1))) (xw W0)) wNext)
    (wSeq (wAsg (wC (.int 0)) (gN 1))
    (wFor (wiEnum (wCons (wVar 0) wNil)) (gT 2 (gCons (gN 2) (gCons (gN 3) gNil))) (wSeq (wIfS (wOr (wNot (wTest (wCall sp_is_integer (wCons (wVar 3) wNil)))) (wOr (wNot (wTest (wChain wLt wLe (wVar 1) (wVar 3) (wC (.int 400))))) (wAnd (wTest (wOp wGt (wVar 1) (wC (.int 0)))) (wTest (wOp (wEqD true) (wOp wMod (wVar 3) (wVar 1)) (wC (.int 0))))))) (wRaise1 C.InvalidCalendar "index" (wVar 2) (xw W0)) wNext)
    (wAsg (wVar 3) (gN 1))))))
/-- validate_orders: slots 0 calendar, 1 orders, 2 index -/
def w_validate_ordersX (K : Frag) (C : CE) (W0 : DXP) : WS := (wSeq (wDrop (wCallX (sp_validate_calendarX C) (xw W0) (wCons (wVar 0) wNil)))
    (wSeq (wAsg (wCall sp_first_invalid_order (wCons (wVar 0) (wCons (wVar 1) wNil))) (gN 2))
    (wIfS (wTest (wOp wNotN (wVar 2) (wC .non))) (wRaise1 C.InvalidOrder "index" (wVar 2) (xw W0)) wNext)))
/-- Books.__init__: slots 0 self, 1 day, 2 accounts, 3 dues, 4 following -/
def w_Books___init__ (K : Frag) (C : CE) : WS := (wSeq (wSetF C.Books "day_number" (wVar 0) (wVar 1))
    (wSeq (wSetF C.Books "accounts" (wVar 0) (wVar 2))
    (wSeq (wSetF C.Books "dues" (wVar 0) (wVar 3))
    (wSetF C.Books "following" (wVar 0) (wVar 4)))))
/-- Books.copied: slots 0 self -/
def w_Books_copied (K : Frag) (C : CE) : WS := (wRet (wMake C.Books (sp_Books___init__ C) (wCons (wFldI C.Books "day_number" (wVar 0)) (wCons (wFn wDCopy (wCons (wFldI C.Books "accounts" (wVar 0)) wNil)) (wCons (wFn wDCopy (wCons (wFldI C.Books "dues" (wVar 0)) wNil)) (wCons (wFldI C.Books "following" (wVar 0)) wNil))))))
/-- validate_amount: slots 0 amount, 1 low, 2 high -/
def w_validate_amount (K : Frag) (C : CE) (W0 : DXP) : WS := (wIfS (wNot (wTest (wCall (sp_is_amount C) (wCons (wVar 0) (wCons (wVar 1) (wCons (wVar 2) wNil)))))) (wRaise (.ref C.InvalidAmount) (xw W0)) wNext)
/-- Ledger.account_in: slots 0 self, 1 books, 2 name, 3 kind, 4 limit, 5 balance -/
def w_Ledger_account_in (K : Frag) (C : CE) (W0 : DXP) : WS := (wSeq (wIfS (wTest (wOp (wDInV true) (wVar 2) (wFldI C.Books "accounts" (wVar 1)))) (wRaise1 C.UnknownAccount "name" (wVar 2) (xw W0)) wNext)
    (wSeq (wAsg (wOp wDGetV (wFldI C.Books "accounts" (wVar 1)) (wVar 2)) (gT 3 (gCons (gN 3) (gCons (gN 4) (gCons (gN 5) gNil)))))
    (wRet (wCm C.Account 2 3 gd_Account_made_2_limit_balance_cycle (sp_Account_made C) (xw W0) (wCons (wVar 3) (wCons (wVar 2) wNil)) (wCons (wVar 4) (wCons (wVar 5) (wCons (wOp wIx (wFldI C.Ledger "periods" (wVar 0)) (wUn wNeg (wC (.int 1)))) wNil)))))))
/-- Ledger.account: slots 0 self, 1 name -/
def w_Ledger_account (K : Frag) (C : CE) (W0 : DXP) : WS := (wRet (wMethX C.Ledger "account_in" (sp_Ledger_account_in C) (xw W0) (wVar 0) (wCons (wFldI C.Ledger "books" (wVar 0)) (wCons (wVar 1) wNil))))
/-- Ledger.commit: slots 0 self, 1 operation, 2 books -/
def w_Ledger_commit (K : Frag) (C : CE) : WS := (wSeq (wDrop (wApp (wFldI C.Ledger "past" (wVar 0)) (wTup (wCons (wVar 1) (wCons (wFldI C.Ledger "books" (wVar 0)) wNil)))))
    (wSeq (wSetF C.Ledger "future" (wVar 0) (wLst wNil))
    (wSetF C.Ledger "books" (wVar 0) (wVar 2))))
/-- Ledger.validate_item: slots 0 self, 1 parties, 2 amount -/
def w_Ledger_validate_item (K : Frag) (C : CE) (W0 : DXP) : WS := (wSeq (wDrop (wCallX (sp_validate_amount C) (xw W0) (wCons (wVar 2) (wCons (wIf (wTest (wOp (wEqD false) (wVar 1) (wC (.int 2)))) (wC (.int 1)) (wOp wSub (wC (.int 0)) (wC (.int 1000000000000000000)))) (wCons (wC (.int 1000000000000000000)) wNil)))))
    (wIfS (wTest (wOp (wEqD false) (wVar 2) (wC (.int 0)))) (wRaise (.ref C.InvalidAmount) (xw W0)) wNext))
theorem pure_validate_amount (K : Frag) (C : CE) : ∀ xs cs Q XP, sp_validate_amount C xs cs Q XP → w_validate_amount K C (GhX K XP) (retE K Q) (startD 3 xs) cs := by
  rintro xs cs Q XP ⟨v, lo, hi, rfl, q⟩
  unfold w_validate_amount
  walk_at "dl"
  refine ⟨v, lo, hi, rfl, _, rfl, ?_⟩
  by_cases h : lo ≤ v ∧ v ≤ hi
  · rw [if_pos h] at q
    rw [if_neg (by simp [h])]
    exact .now q
  · rw [if_neg h] at q
    rw [if_pos (by simpa using h)]
    exact .now q
theorem pure_validate_calendarX (K : Frag) (C : CE) : ∀ xs cs Q XP, sp_validate_calendarX C xs cs Q XP → w_validate_calendarX K C (GhX K XP) (retE K Q) (startD 4 xs) cs := by
  rintro xs cs Q XP ⟨ps, rfl, ⟨h1, h5, hc⟩, q⟩
  unfold w_validate_calendarX
  simp only [cal]
  walk_at "dl"
  have hl : (iD ps).length = ps.length := by simp [iD]
  simp only [List.length_map, hl]
  rw [if_pos (by omega), if_neg (by omega)]
  simp only [wFor, wiEnum]
  walk_at "dl"
  refine ⟨fun i ρ cs' => cs' = cs ∧ ∃ a b, ρ = [some (.dat (.tup (iD ps))), some (.int (prevOf ps i)), a, b], ⟨rfl, _, _, rfl⟩, fun _ _ _ _ _ => trivial, ?_, ?_⟩
  · rintro i x ρ cs' hx ⟨rfl, a, b, rfl⟩
    obtain ⟨d, hd, rfl⟩ := enumF_at hx
    unfold iD at hd
    rw [List.getElem?_map] at hd
    obtain ⟨p, hp, rfl⟩ := Option.map_eq_some_iff.mp hd
    obtain ⟨k1, k2, k3⟩ := calFrom_prev hc hp
    have hn : prevOf ps (i + 1) = p := by unfold prevOf; rw [if_neg (by omega), Nat.add_sub_cancel, hp]; rfl
    simp only [sp_is_integer]
    walk_at "dl"
    rw [if_pos k1, if_neg (fun z => z k2)]
    split
    · rename_i h0
      rw [if_neg (by rw [k3 h0]; decide)]
      exact ⟨h0, hn.symm⟩
    · exact hn.symm
  · rintro ρ cs' ⟨rfl, _⟩
    exact .now q
theorem pure_validate_ordersX (K : Frag) (C : CE) : ∀ xs cs Q XP, sp_validate_ordersX C xs cs Q XP → w_validate_ordersX K C (GhX K XP) (retE K Q) (startD 3 xs) cs := by
  rintro xs cs Q XP ⟨ps, os, b, rfl, hc, q⟩
  unfold w_validate_ordersX
  walk_at "dl"
  refine ⟨ps, rfl, hc, ?_⟩
  refine ⟨ps, os, b, rfl, ?_⟩
  unfold firstBad
  cases h : os.findIdx? (fun o => !ordB ps o) with
  | none =>
    rw [h] at q
    walk_at "dl"
    exact .now q
  | some i =>
    rw [h] at q
    walk_at "dl"
    exact .now q
theorem pure_Books___init__ (K : Frag) (C : CE) : ∀ xs cs Q XP, sp_Books___init__ C xs cs Q XP → w_Books___init__ K C (retE K Q) (startD 5 xs) cs := by
  rintro xs cs Q XP ⟨a, d, ax, dx, n, rfl, ha, q⟩
  unfold w_Books___init__
  walk_at "dl"
  exact ⟨_, ha, by simp, (show 1 < 1000 by decide), (show 2 < 1000 by decide), (show 3 < 1000 by decide), .now q⟩
theorem pure_Books_copied (K : Frag) (C : CE) : ∀ xs cs Q XP, sp_Books_copied C xs cs Q XP → w_Books_copied K C (retE K Q) (startD 1 xs) cs := by
  rintro xs cs Q XP ⟨x, b, rfl, ⟨ax, dx, hx, ha, hd⟩, q⟩
  unfold w_Books_copied
  walk_at "dl"
  refine ⟨_, hx, _, rfl, _, hx, _, rfl, _, ha, fun p1 h1 => ⟨_, insD_sub (sub_fresh h1) hx, _, rfl, _, dctD_sub (sub_fresh h1) hd, fun p2 h2 => ?_⟩⟩
  obtain ⟨n21, h2'⟩ := put_none h2
  refine ⟨_, insD_sub (sub_put (sub_fresh h1) h2) hx, _, rfl, fun p hp => ?_⟩
  obtain ⟨n2, hp1⟩ := put_none hp
  obtain ⟨n1, hp0⟩ := put_none hp1
  refine ⟨p, b.day, .cell p1, .cell p2, b.nxt, rfl, Cells.put_same, rfl, .now ?_⟩
  rw [Cells.put_put]
  exact q p p1 p2 hp0 h1 h2' n1 n2 n21.symm
theorem pure_Ledger_validate_item (K : Frag) (C : CE) : ∀ xs cs Q XP, sp_Ledger_validate_item C xs cs Q XP → w_Ledger_validate_item K C (GhX K XP) (retE K Q) (startD 3 xs) cs := by
  rintro xs cs Q XP ⟨x, k, a, rfl, q⟩
  unfold w_Ledger_validate_item
  walk_at "dl"
  have key : ∀ lo : Int, lo = (if k = 2 then 1 else -1000000000000000000) → sp_validate_amount C [.int a, .dat (.int lo), .dat (.int 1000000000000000000)] cs (fun x cs1 => if a = 0 then GhX K XP (.ref C.InvalidAmount) [] cs1 else GhK K Q (.dat .non) cs1) (fun cls fs cs' => GhX K XP cls fs cs') := by
    intro lo hlo
    rw [← hlo] at q
    refine ⟨a, lo, 1000000000000000000, rfl, ?_⟩
    by_cases h : lo ≤ a ∧ a ≤ 1000000000000000000
    · rw [if_pos h]
      show if a = 0 then _ else _
      by_cases h0 : a = 0
      · rw [if_pos h0]
        rw [if_neg (fun z => z.2.2 h0)] at q
        exact .now q
      · rw [if_neg h0]
        rw [if_pos ⟨h.1, h.2, h0⟩] at q
        exact .now q
    · rw [if_neg h]
      rw [if_neg (fun z => h ⟨z.1, z.2.1⟩)] at q
      exact .now q
  by_cases hk : k = 2
  · rw [if_pos hk]; exact key 1 (by rw [if_pos hk])
  · rw [if_neg hk]; exact key _ (by rw [if_neg hk])
theorem endR_gh {K : Frag} {r : Except (Addr × List (Str × Vl)) Dat} {cs : Cells} {Q : Vl → Cells → Prop} {XP : DXP} (h : endR r cs Q XP) : endR r cs (GhK K Q) (fun cls fs cs' => GhX K XP cls fs cs') := by
  match r, h with
  | .ok d, h => exact .now h
  | .error (D, fs), h => exact .now h
theorem last_cal {ps : List Int} {c : Int} (h : ps.getLast? = some c) : atI ((iD ps).map Vl.dat) (-1) = some (.int c) := by
  rw [iD_map]
  exact atI_last (by unfold iV; rw [List.getLast?_map, h]; rfl)
theorem pure_Ledger_account_in (K : Frag) (C : CE) : ∀ xs cs Q XP, sp_Ledger_account_in C xs cs Q XP → w_Ledger_account_in K C (GhX K XP) (retE K Q) (startD 6 xs) cs := by
  rintro xs cs Q XP ⟨L, x, n, b, ps, c, rfl, ⟨gs, hL, hper⟩, ⟨ax, dx, hx, ha, hd⟩, hc, hn, q⟩
  unfold w_Ledger_account_in
  walk_at "dl"
  refine ⟨_, hx, _, rfl, _, ha, .inr n, rfl, ?_⟩
  rw [valD_accK]
  cases h : lookA b.accs n with
  | none =>
    rw [h] at q
    rw [if_pos (by rfl)]
    exact .now q
  | some qq =>
    rw [h] at q
    obtain ⟨hs, q⟩ := q
    rw [if_neg (by simp)]
    refine ⟨_, hx, _, rfl, _, ha, .inr n, rfl, .dat (accD qq), by rw [valD_accK, h]; rfl, _, rfl, rfl, _, _, rfl, _, _, rfl, _, _, rfl, rfl, _, hL, _, hper, false, _, rfl, .int c, last_cal hc, ?_⟩
    exact ⟨.raw (.ref C.Account), qq.kd, n, qq.l, qq.b, c, rfl, hs, hn, endR_gh q⟩
theorem pure_Ledger_account (K : Frag) (C : CE) : ∀ xs cs Q XP, sp_Ledger_account C xs cs Q XP → w_Ledger_account K C (GhX K XP) (retE K Q) (startD 2 xs) cs := by
  rintro xs cs Q XP ⟨L, n, b, ps, pa, fu, past, c, rfl, hL, hc, hn, q⟩
  unfold w_Ledger_account
  walk_at "dl"
  refine ⟨_, by rw [hL.led]; rfl, rfl, _, by rw [hL.led]; rfl, _, rfl, ?_⟩
  refine ⟨.cell L, _, n, b, ps, c, rfl, ⟨_, by rw [insD_cell, hL.led]; rfl, rfl⟩, isBk_dat, hc, hn, ?_⟩
  cases h : lookA b.accs n with
  | none => rw [h] at q; exact .now q
  | some qq => rw [h] at q; exact ⟨q.1, endR_gh q.2⟩
theorem pure_Ledger_commit (K : Frag) (C : CE) : ∀ xs cs Q XP, sp_Ledger_commit C xs cs Q XP → w_Ledger_commit K C (retE K Q) (startD 3 xs) cs := by
  rintro xs cs Q XP ⟨L, op, x, b, ps, pa, fu, past, rfl, hL, hl, q⟩
  unfold w_Ledger_commit
  walk_at "dl"
  refine ⟨_, by rw [hL.led]; rfl, _, rfl, ?_⟩
  refine ⟨pa, rfl, past, hL.past, _, by rw [hL.led]; rfl, _, rfl, [op, bkD C b], rfl, by simp, past, hL.past, hl, by decide, .inl fun f' hf => ?_⟩
  obtain ⟨nfp, hf'⟩ := put_none hf
  have nLf : L ≠ f' := fun z => by have := hL.led; rw [z, hf'] at this; cases this
  exact ⟨ledF C ps b pa fu, by rw [Cells.put_ne nLf, Cells.put_ne hL.ne]; exact hL.led, (show 4 < 1000 by decide), (show 4 < 1000 by decide), .now (q f' hf')⟩
end DL
set_option maxRecDepth 100000
set_option maxHeartbeats 4000000
namespace DL
open PySem L2
local macro_rules | `(tactic| walk_at "dl") => `(tactic| simp only [wBestI, wIxS, wDGetV, wDInV, wDLen, wDCopy, wDDel, wDPut, wDNewK, wSortVI, wSortVS, wMakeK, gS, wFldI, wConI, wPropI, wMethI, wMethX, wAlt, wAltS, wCallX, wRaise, wRaise1, wRaise2, wCm, wCm0, noX, xw, insD_obj, insD_cell, coIns_ins, wSt, wLenS, wAll, wCntF, wIdxF, wSplit, wTryAs, wAsD, unE, wIsE, wXf, wIsiO, LamD.wOut, LamD.wLamMk, LamD.wAct, Dat.str.injEq, Dat.obj.injEq, wAbs, wCatS, wExt, wListOf, wiStr, wFld, wSetF, wMeth, wMake, wGMeth, wGCall, wDNewK, wDNewT, CO.ins.injEq, CO.dk.injEq, CO.dt.injEq, Cells.put_put, wRet, wRetN, wSeq, wAsg, wIfS, wDrop, wNext, wVar, wC, wOp, wUn, wFn, wNil, wCons, wTest, wNot, wAnd, wOr, wAndV, wOrV, wNotV, wIf, wChain, wTup, wLst, wCall, wNever, gN, gT, gNil, gCons, gIx, wI, wI0, wNeg, wMax2, wMin2, wLen, wIsN, wNotN, isNon_non, isNon_bl, isNon_int, isNon_str, isNon_lst, isNon_tup, isNon_cell, wIx, wTuple, wAug, wAugIx, wPar, wPar3, wSlL, wSlT, wPart, wNoPart, wCatT, wIsi, wIsi2, isiT, tyD_non, tyD_bl, tyD_int, tyD_str, tyD_lst, tyD_tup, tyD_cell, coTy_lst, seqD_lst, seqD_tp, seqD_cell, coSeq_lst, seen_dat, seen_cell, coDat_lst, startD, wYes, wApp, wEq_int, wEq_bl, allDat_nil, allDat_cons, allDat_map, Option.map_some, List.map_cons, List.map_nil, List.cons_append, List.nil_append, List.length_cons, List.length_nil, List.replicate, List.getElem?_cons_zero, List.getElem?_cons_succ, List.set_cons_zero, List.set_cons_succ, Option.some.injEq, exists_eq_left', exists_eq_left, exists_and_left, exists_eq', exists_eq, Vl.dat.injEq, Vl.raw.injEq, V.ref.injEq, CO.lst.injEq, Dat.int.injEq, Dat.bl.injEq, Dat.tup.injEq, Dat.lst.injEq, List.cons.injEq, and_true, true_and, retE, Nat.reduceAdd, Nat.reduceSub, and_assoc, Prod.mk.injEq, if_true, if_false, Bool.false_eq_true, decide_eq_true_eq, Bool.not_true, Bool.not_false, Bool.not_eq_true', decide_eq_false_iff_not, if_false_left, if_false_right, beq_iff_eq, Bool.or_eq_true, Bool.and_eq_true, Bool.or_self, Bool.or_true, Bool.true_or, Bool.or_false, Bool.false_or, decide_true, decide_false, reduceCtorEq, Cells.put_same, gt_iff_lt, ge_iff_le, beq_self_eq_true, bne_self_eq_false, Bool.decide_eq_true, not_true_eq_false, not_false_eq_true, Decidable.not_not, false_and, and_false, Bool.not_eq_false, at_0, at_1, at_2, at_3, at_4, at_5, ix_0, ix_1, ix_2, ix_3, Nat.reduceLT, Int.reduceLT, Int.reduceLE, Int.reduceNeg, Int.reduceAdd, Int.reduceSub, Int.reduceEq, Int.reducePow, Int.reduceToNat, Cells.put_put])
structure BkOk (b : Bk) : Prop where
  srt : (b.dues.map (·.1)).Pairwise (· < ·)
  two : ∀ q ∈ b.dues, (q.2.ps.length = 1 ∨ q.2.ps.length = 2) ∧ ∀ z ∈ q.2.ps, PyData.strOk z = true
  lim : b.dues.length ≤ 100000
  low : ∀ q ∈ b.dues, q.1 < b.nxt
def payOf (n : Str) (q : Int × Due) : Option Dat :=
  if q.2.ps.head? = some n then some (.tup [.int q.1, .int q.2.p, .int q.2.d, .int (if q.2.ps.length = 1 then q.2.a else 0 - q.2.a)])
  else if q.2.ps.getLast? = some n then some (.tup [.int q.1, .int q.2.p, .int q.2.d, .int q.2.a]) else none
def payL (b : Bk) (n : Str) : List Dat := b.dues.filterMap (payOf n)
def sp_Books_payments (C : CE) : DSp := fun xs cs Q _ => ∃ (x : Vl) (n : Str) (b : Bk), xs = [x, .dat (.str n)] ∧ isBk C cs x b ∧ BkOk b ∧ PyData.strOk n = true ∧ Q (.dat (.lst (payL b n))) cs
theorem len_Books_payments {C : CE} : ∀ xs cs Q XP, sp_Books_payments C xs cs Q XP → xs.length = 2 := by rintro xs cs Q XP ⟨x, n, b, rfl, _⟩; rfl
theorem srt_eq {ys ks : List Int} (p : ys.Perm ks) (h : ys.Pairwise (· ≤ ·)) (k : ks.Pairwise (· < ·)) : ys = ks :=
  List.Perm.eq_of_pairwise (le := (· ≤ ·)) (fun a b _ _ h1 h2 => Int.le_antisymm h1 h2) h (k.imp Int.le_of_lt) p
theorem valD_dueK {b : Bk} (h : (b.dues.map (·.1)).Pairwise (· < ·)) {i : Nat} {q : Int × Due} (e : b.dues[i]? = some q) : valD (datK (dueK b)) (.inl q.1) = some (.dat (dueD q.2)) := by
  unfold valD datK dueK
  generalize b.dues = l at h e
  induction l generalizing i with
  | nil => cases e
  | cons r l ih =>
    simp only [List.map_cons, List.find?_cons]
    rw [List.map_cons, List.pairwise_cons] at h
    cases i with
    | zero =>
      cases e
      simp
    | succ i =>
      have hm : q ∈ l := List.mem_of_getElem? e
      have hne : ¬ (Sum.inl r.1 = (Sum.inl q.1 : Key)) := fun z => by
        have := h.1 q.1 (List.mem_map.mpr ⟨q, hm, rfl⟩)
        have := Sum.inl.inj z
        omega
      simp only [hne, decide_false]
      exact ih h.2 e
/-- Books.payments: slots 0 self, 1 name, 2 found, 3 number, 4 parties, 5 period, 6 day, 7 amount -/
def w_Books_payments (K : Frag) (C : CE) : WS := (wSeq (wAsg (wLst wNil) (gN 2))
    (wSeq (wFor (wiSeq (wFn wSortVI (wCons (wFldI C.Books "dues" (wVar 0)) wNil))) (gN 3) (wSeq (wAsg (wOp wDGetV (wFldI C.Books "dues" (wVar 0)) (wVar 3)) (gS 4 0 (gCons (gN 4) (gCons (gN 5) (gCons (gN 6) (gCons (gN 7) gNil))))))
    (wIfS (wTest (wOp (wEqD false) (wOp wIx (wVar 4) (wC (.int 0))) (wVar 1))) (wDrop (wApp (wVar 2) (wTup (wCons (wVar 3) (wCons (wVar 5) (wCons (wVar 6) (wCons (wIf (wTest (wOp (wEqD false) (wFn wLen (wCons (wVar 4) wNil)) (wC (.int 1)))) (wVar 7) (wOp wSub (wC (.int 0)) (wVar 7))) wNil))))))) (wIfS (wTest (wOp (wEqD false) (wOp wIx (wVar 4) (wUn wNeg (wC (.int 1)))) (wVar 1))) (wDrop (wApp (wVar 2) (wTup (wCons (wVar 3) (wCons (wVar 5) (wCons (wVar 6) (wCons (wVar 7) wNil))))))) wNext))))
    (wRet (wVar 2))))
theorem pure_Books_payments (K : Frag) (C : CE) : ∀ xs cs Q XP, sp_Books_payments C xs cs Q XP → w_Books_payments K C (retE K Q) (startD 8 xs) cs := by
  rintro xs cs Q XP ⟨x, n, b, rfl, hb, ok, hn, q⟩
  obtain ⟨ax, dx, hx, ha, hd⟩ := hb
  unfold w_Books_payments
  walk_at "dl"
  refine ⟨by decide, .inl fun f hf => ?_⟩
  simp only [wFor, wiSeq]
  walk_at "dl"
  have sb := sub_fresh (c := CO.lst []) hf
  refine ⟨_, insD_sub sb hx, _, rfl, _, dctD_sub sb hd, b.dues.map (·.1), by simp [datK, dueK], fun ys pm ps => ?_⟩
  rw [srt_eq pm ps ok.srt]
  refine .inr ⟨(b.dues.map (·.1)).map .int, by rw [show ((b.dues.map (·.1)).map fun i => Vl.dat (.int i)) = ((b.dues.map (·.1)).map Dat.int).map .dat by simp [Function.comp_def]]; exact allDat_map _, _, _, rfl, ?_⟩
  refine ⟨fun i ρ cs' => cs' = cs.put f (.lst (((b.dues.take i).filterMap (payOf n)).map .dat)) ∧ ∃ a3 a4 a5 a6 a7, ρ = [some x, some (.dat (.str n)), some (.cell f), a3, a4, a5, a6, a7], ⟨by simp, _, _, _, _, _, rfl⟩, fun _ _ _ _ _ => rfl, ?_, ?_⟩
  · rintro i y ρ cs' hy ⟨rfl, a3, a4, a5, a6, a7, rfl⟩
    rw [List.map_map, List.map_map, List.getElem?_map] at hy
    obtain ⟨qq, hq, rfl⟩ := Option.map_eq_some_iff.mp hy
    have hsub : ∀ c, SubC cs (cs.put f c) := fun c => sub_fresh hf
    have htk : b.dues.take (i + 1) = b.dues.take i ++ [qq] := by rw [List.take_succ, hq]; rfl
    obtain ⟨h12, hst⟩ := ok.two qq (List.mem_of_getElem? hq)
    walk_at "dl"
    refine ⟨_, insD_sub (hsub _) hx, _, rfl, _, dctD_sub (hsub _) hd, .inl qq.1, rfl, _, valD_dueK ok.srt hq, ?_⟩
    have fin : ∀ (acc : List Vl) (ρ' : DEnv), acc = ((b.dues.take (i + 1)).filterMap (payOf n)).map Vl.dat → (∃ a3 a4 a5 a6 a7, ρ' = [some x, some (.dat (.str n)), some (.cell f), a3, a4, a5, a6, a7]) → (cs.put f (.lst acc) = cs.put f (.lst (((b.dues.take (i + 1)).filterMap (payOf n)).map .dat)) ∧ ∃ a3 a4 a5 a6 a7, ρ' = [some x, some (.dat (.str n)), some (.cell f), a3, a4, a5, a6, a7]) := fun acc ρ' e h => ⟨by rw [e], h⟩
    have hlen : (List.map Vl.dat (List.filterMap (payOf n) (List.take i b.dues))).length < 16777216 := by
      rw [List.length_map]
      have h1 := List.length_filterMap_le (payOf n) (b.dues.take i)
      have h2 : (b.dues.take i).length ≤ b.dues.length := by rw [List.length_take]; omega
      have := ok.lim
      omega
    have hpay : ((b.dues.take (i + 1)).filterMap (payOf n)).map Vl.dat = ((b.dues.take i).filterMap (payOf n)).map Vl.dat ++ ((payOf n qq).toList).map Vl.dat := by
      rw [htk, List.filterMap_append, List.map_append]
      congr 1
    obtain ⟨num, ⟨us, pp, dd, aa⟩⟩ := qq
    simp only at h12 hst
    rcases us with _ | ⟨z, _ | ⟨z2, _ | ⟨z3, us⟩⟩⟩
    · simp at h12
    · have hz := hst z (by simp)
      simp only [dueD, dueL, List.map_cons, List.map_nil, List.cons_append, List.nil_append]
      walk_at "dl"
      refine ⟨by decide, by decide, .inr ⟨[.str z], rfl, _, _, rfl, _, _, rfl, _, _, rfl, _, _, rfl, rfl, true, _, rfl, .dat (.str z), rfl, wEq_str hz hn ⟨_, rfl, ?_⟩⟩⟩
      by_cases hzn : z = n
      · rw [if_pos (by simp [hzn])]
        refine ⟨_, Cells.put_same, true, _, rfl, ?_⟩
        rw [if_pos (by rfl)]
        refine ⟨_, rfl, by simp, _, Cells.put_same, hlen, ?_⟩
        have hp : payOf n (num, ⟨[z], pp, dd, aa⟩) = some (.tup [.int num, .int pp, .int dd, .int aa]) := by
          unfold payOf; rw [if_pos (by simp [hzn])]; rfl
        rw [Cells.put_put, hpay, hp]
        rfl
      · rw [if_neg (by simp [hzn])]
        refine ⟨true, _, rfl, .dat (.str z), rfl, wEq_str hz hn ⟨_, rfl, ?_⟩⟩
        rw [if_neg (by simp [hzn])]
        have hp : payOf n (num, ⟨[z], pp, dd, aa⟩) = none := by
          unfold payOf; rw [if_neg (by simp [hzn]), if_neg (by simp [hzn])]
        rw [hpay, hp]
        simp
    · have hz := hst z (by simp)
      have hz2 := hst z2 (by simp)
      simp only [dueD, dueL, List.map_cons, List.map_nil, List.cons_append, List.nil_append]
      walk_at "dl"
      refine ⟨by decide, by decide, .inr ⟨[.str z, .str z2], rfl, _, _, rfl, _, _, rfl, _, _, rfl, _, _, rfl, rfl, true, _, rfl, .dat (.str z), rfl, wEq_str hz hn ⟨_, rfl, ?_⟩⟩⟩
      by_cases hzn : z = n
      · rw [if_pos (by simp [hzn])]
        refine ⟨_, Cells.put_same, true, _, rfl, ?_⟩
        rw [if_neg (by simp)]
        refine ⟨aa, rfl, _, rfl, by simp, _, Cells.put_same, hlen, ?_⟩
        have hp : payOf n (num, ⟨[z, z2], pp, dd, aa⟩) = some (.tup [.int num, .int pp, .int dd, .int (0 - aa)]) := by
          unfold payOf; rw [if_pos (by simp [hzn])]; rfl
        rw [Cells.put_put, hpay, hp]
        rfl
      · rw [if_neg (by simp [hzn])]
        refine ⟨true, _, rfl, .dat (.str z2), rfl, wEq_str hz2 hn ⟨_, rfl, ?_⟩⟩
        by_cases hzn2 : z2 = n
        · rw [if_pos (by simp [hzn2])]
          refine ⟨_, Cells.put_same, _, rfl, by simp, _, Cells.put_same, hlen, ?_⟩
          have hp : payOf n (num, ⟨[z, z2], pp, dd, aa⟩) = some (.tup [.int num, .int pp, .int dd, .int aa]) := by
            unfold payOf; rw [if_neg (by simp [hzn]), if_pos (by simp [hzn2])]
          rw [Cells.put_put, hpay, hp]
          rfl
        · rw [if_neg (by simp [hzn2])]
          have hp : payOf n (num, ⟨[z, z2], pp, dd, aa⟩) = none := by
            unfold payOf; rw [if_neg (by simp [hzn]), if_neg (by simp [hzn2])]
          rw [hpay, hp]
          simp
    · simp at h12
  · rintro ρ cs' ⟨rfl, a3, a4, a5, a6, a7, rfl⟩
    walk_at "dl"
    refine ⟨_, _, .frz Cells.put_same, ?_⟩
    rw [Cells.del_put hf, List.take_of_length_le (by simp)]
    exact q
end DL
set_option maxRecDepth 100000
set_option maxHeartbeats 4000000
namespace DL
open PySem L2
local macro_rules | `(tactic| walk_at "dl") => `(tactic| simp only [wBestI, wIxS, wDGetV, wDInV, wDLen, wDCopy, wDDel, wDPut, wDNewK, wSortVI, wSortVS, wMakeK, gS, wFldI, wConI, wPropI, wMethI, wMethX, wAlt, wAltS, wCallX, wRaise, wRaise1, wRaise2, wCm, wCm0, noX, xw, insD_obj, insD_cell, coIns_ins, wSt, wLenS, wAll, wCntF, wIdxF, wSplit, wTryAs, wAsD, unE, wIsE, wXf, wIsiO, LamD.wOut, LamD.wLamMk, LamD.wAct, Dat.str.injEq, Dat.obj.injEq, wAbs, wCatS, wExt, wListOf, wiStr, wFld, wSetF, wMeth, wMake, wGMeth, wGCall, wDNewK, wDNewT, CO.ins.injEq, CO.dk.injEq, CO.dt.injEq, Cells.put_put, wRet, wRetN, wSeq, wAsg, wIfS, wDrop, wNext, wVar, wC, wOp, wUn, wFn, wNil, wCons, wTest, wNot, wAnd, wOr, wAndV, wOrV, wNotV, wIf, wChain, wTup, wLst, wCall, wNever, gN, gT, gNil, gCons, gIx, wI, wI0, wNeg, wMax2, wMin2, wLen, wIsN, wNotN, isNon_non, isNon_bl, isNon_int, isNon_str, isNon_lst, isNon_tup, isNon_cell, wIx, wTuple, wAug, wAugIx, wPar, wPar3, wSlL, wSlT, wPart, wNoPart, wCatT, wIsi, wIsi2, isiT, tyD_non, tyD_bl, tyD_int, tyD_str, tyD_lst, tyD_tup, tyD_cell, coTy_lst, seqD_lst, seqD_tp, seqD_cell, coSeq_lst, seen_dat, seen_cell, coDat_lst, startD, wYes, wApp, wEq_int, wEq_bl, allDat_nil, allDat_cons, allDat_map, Option.map_some, List.map_cons, List.map_nil, List.cons_append, List.nil_append, List.length_cons, List.length_nil, List.replicate, List.getElem?_cons_zero, List.getElem?_cons_succ, List.set_cons_zero, List.set_cons_succ, Option.some.injEq, exists_eq_left', exists_eq_left, exists_and_left, exists_eq', exists_eq, Vl.dat.injEq, Vl.raw.injEq, V.ref.injEq, CO.lst.injEq, Dat.int.injEq, Dat.bl.injEq, Dat.tup.injEq, Dat.lst.injEq, List.cons.injEq, and_true, true_and, retE, Nat.reduceAdd, Nat.reduceSub, and_assoc, Prod.mk.injEq, if_true, if_false, Bool.false_eq_true, decide_eq_true_eq, Bool.not_true, Bool.not_false, Bool.not_eq_true', decide_eq_false_iff_not, if_false_left, if_false_right, beq_iff_eq, Bool.or_eq_true, Bool.and_eq_true, Bool.or_self, Bool.or_true, Bool.true_or, Bool.or_false, Bool.false_or, decide_true, decide_false, reduceCtorEq, Cells.put_same, gt_iff_lt, ge_iff_le, beq_self_eq_true, bne_self_eq_false, Bool.decide_eq_true, not_true_eq_false, not_false_eq_true, Decidable.not_not, false_and, and_false, Bool.not_eq_false, at_0, at_1, at_2, at_3, at_4, at_5, ix_0, ix_1, ix_2, ix_3, Nat.reduceLT, Int.reduceLT, Int.reduceLE, Int.reduceNeg, Int.reduceAdd, Int.reduceSub, Int.reduceEq, Int.reducePow, Int.reduceToNat, Cells.put_put])
theorem frzLed {K : Frag} {C : CE} {cs : Cells} {L p p1 p2 pa : Addr} {ps : List Int} {b : Bk} {fu : Vl} (hL : cs L = some (.ins C.Ledger [("periods", .dat (cal ps)), ("books", .cell p), ("past", .cell pa), ("future", fu)])) (hp : cs p = some (.ins C.Books (bkV b (.cell p1) (.cell p2)))) (h1 : cs p1 = some (.dk (datK (accK b)))) (h2 : cs p2 = some (.dk (datK (dueK b)))) (n12 : p1 ≠ p2) :
    GhC K cs ((((((cs.del p1).put p (.ins C.Books (bkV b (.dat (.dct (accK b))) (.cell p2)))).del p2).put p (.ins C.Books (datF (bkF b)))).del p).put L (.ins C.Ledger (ledF C ps b pa fu))) := by
  have np1 : p ≠ p1 := fun z => by rw [z, h1] at hp; cases hp
  have np2 : p ≠ p2 := fun z => by rw [z, h2] at hp; cases hp
  have nL1 : L ≠ p1 := fun z => by rw [z, h1] at hL; cases hL
  have nL2 : L ≠ p2 := fun z => by rw [z, h2] at hL; cases hL
  by_cases nLp : L = p
  · exfalso
    rw [nLp, hp] at hL
    have := Option.some.inj hL
    simp [bkV] at this
    exact absurd this.2.1.1 (by decide)
  refine GhC.trans (GhC.fld (f := "accounts") (.dct h1) hp np1 ?_) ?_
  · intro q hq e
    simp only [bkV, List.mem_cons, List.not_mem_nil, or_false] at hq
    rcases hq with rfl | rfl | rfl | rfl
    · dsimp only at e; exact absurd e (by decide)
    · rfl
    · dsimp only at e; exact absurd e (by decide)
    · dsimp only at e; exact absurd e (by decide)
  have e1 : repF "accounts" (.dct (accK b)) (bkV b (.cell p1) (.cell p2)) = bkV b (.dat (.dct (accK b))) (.cell p2) := rfl
  rw [e1]
  refine GhC.trans (GhC.fld (f := "dues") (p := p2) (.dct (kvs := dueK b) ?_) Cells.put_same np2 ?_) ?_
  · rw [Cells.put_ne np2.symm]
    simp [Cells.del, n12.symm, h2]
  · intro q hq e
    simp only [bkV, List.mem_cons, List.not_mem_nil, or_false] at hq
    rcases hq with rfl | rfl | rfl | rfl
    · dsimp only at e; exact absurd e (by decide)
    · dsimp only at e; exact absurd e (by decide)
    · rfl
    · dsimp only at e; exact absurd e (by decide)
  have e2 : repF "dues" (.dct (dueK b)) (bkV b (.dat (.dct (accK b))) (.cell p2)) = datF (bkF b) := rfl
  rw [e2]
  refine GhC.fld (f := "books") (p := p) (d := bkD C b) (fs := [("periods", .dat (cal ps)), ("books", .cell p), ("past", .cell pa), ("future", fu)]) (.obj Cells.put_same) ?_ nLp ?_
  · rw [Cells.put_ne nLp]
    simp only [Cells.del, nL2, if_false]
    rw [Cells.put_ne nLp]
    simp only [Cells.del, nL1, if_false]
    exact hL
  · intro q hq e
    simp only [List.mem_cons, List.not_mem_nil, or_false] at hq
    rcases hq with rfl | rfl | rfl | rfl
    · dsimp only at e; exact absurd e (by decide)
    · rfl
    · dsimp only at e; exact absurd e (by decide)
    · dsimp only at e; exact absurd e (by decide)
/-- books that are being changed: three cells -/
structure isBkC (C : CE) (cs : Cells) (p p1 p2 : Addr) (b : Bk) : Prop where
  p : cs p = some (.ins C.Books (bkV b (.cell p1) (.cell p2)))
  h1 : cs p1 = some (.dk (datK (accK b)))
  h2 : cs p2 = some (.dk (datK (dueK b)))
  n12 : p1 ≠ p2
theorem isBkC.bk {C : CE} {cs : Cells} {p p1 p2 : Addr} {b : Bk} (h : isBkC C cs p p1 p2 b) : isBk C cs (.cell p) b := ⟨.cell p1, .cell p2, by rw [insD_cell, h.p]; rfl, by rw [dctD_cell, h.h1]; rfl, by rw [dctD_cell, h.h2]; rfl⟩
theorem isBkC.new {C : CE} {cs : Cells} {p p1 p2 : Addr} {b : Bk} (n1 : p ≠ p1) (n2 : p ≠ p2) (n12 : p1 ≠ p2) : isBkC C (newBk C cs b p p1 p2) p p1 p2 b :=
  ⟨Cells.put_same, by unfold newBk; rw [Cells.put_ne n1.symm, Cells.put_ne n12, Cells.put_same], by unfold newBk; rw [Cells.put_ne n2.symm, Cells.put_same], n12⟩
def withA (b : Bk) (n : Str) (q : Acc) : Bk := { b with accs := b.accs ++ [(n, q)] }
theorem putD_accK {b : Bk} {n : Str} {q : Acc} (h : lookA b.accs n = none) : putD (datK (accK b)) (.inr n) (.dat (accD q)) = datK (accK (withA b n q)) := by
  unfold putD
  have hv : (valD (datK (accK b)) (.inr n)).isSome = false := by rw [valD_accK, h]; rfl
  have hany : ((datK (accK b)).any fun kv => decide (kv.1 = Sum.inr n)) = false := by
    cases e : ((datK (accK b)).any fun kv => decide (kv.1 = Sum.inr n)) with
    | false => rfl
    | true =>
      exfalso
      unfold valD at hv
      obtain ⟨kv, hm, hk⟩ := List.any_eq_true.mp e
      have : ((datK (accK b)).find? fun kv => decide (kv.1 = Sum.inr n)).isSome = true := List.find?_isSome.mpr ⟨kv, hm, hk⟩
      rw [Option.isSome_map] at hv
      rw [hv] at this
      cases this
  rw [hany, if_neg (by decide)]
  simp [datK, accK, withA]
/-- what opening an account answers: nothing, or what is raised (Overdrawn is not told of here) -/
def openR (C : CE) (b : Bk) (n kd : Str) (l bal c : Int) : Option (Addr × List (Str × Vl)) :=
  if b.accs.length = 20 then some (C.TooManyAccounts, []) else if (lookA b.accs n).isSome = true then some (C.DuplicateName, [("name", .dat (.str n))]) else
  match madeR C kd n l bal c with
  | .error e => some e
  | .ok _ => if -1000000000000000000 ≤ bal ∧ bal ≤ 1000000000000000000 then none else some (C.InvalidAmount, [])
theorem exmB_ok {K : Frag} {D c : Addr} {b : Bool} (h : exmB K D c b = true) : PySem.W.exmOne K (.ref D) (.ref c) = some b := of_decide_eq_true h
/-- what open_books knows of the exception classes -/
structure KO (K : Frag) (C : CE) : Prop where
  o_uk : exmB K C.UnknownKind C.Overdrawn false = true
  o_nm : exmB K C.InvalidName C.Overdrawn false = true
  o_am : exmB K C.InvalidAmount C.Overdrawn false = true
  o_ov : exmB K C.Overdrawn C.Overdrawn true = true
/-- Ledger.open_books: slots 0 self, 1 books, 2 name, 3 kind, 4 limit, 5 balance -/
def w_Ledger_open_books (K : Frag) (C : CE) (W0 : DXP) : WS := (wSeq (wIfS (wTest (wOp (wEqD false) (wFn wDLen (wCons (wFldI C.Books "accounts" (wVar 1)) wNil)) (wC (.int 20)))) (wRaise (.ref C.TooManyAccounts) (xw W0)) wNext)
    (wSeq (wIfS (wTest (wOp (wDInV false) (wVar 2) (wFldI C.Books "accounts" (wVar 1)))) (wRaise1 C.DuplicateName "name" (wVar 2) (xw W0)) wNext)
    (wSeq (wTry K (xw W0) (fun W1 => (wDrop (wCm C.Account 2 3 gd_Account_made_2_limit_balance_cycle (sp_Account_made C) W1 (wCons (wVar 3) (wCons (wVar 2) wNil)) (wCons (wVar 4) (wCons (wVar 5) (wCons (wOp wIx (wFldI C.Ledger "periods" (wVar 0)) (wUn wNeg (wC (.int 1)))) wNil)))))) ((.ref C.Overdrawn, (wSeq wNever
    wNever)) :: []))
    (wSeq (wDrop (wCallX (sp_validate_amount C) (xw W0) (wCons (wVar 5) (wCons (wOp wSub (wC (.int 0)) (wC (.int 1000000000000000000))) (wCons (wC (.int 1000000000000000000)) wNil)))))
    (wDPut (wFldI C.Books "accounts" (wVar 1)) (wVar 2) (wTup (wCons (wVar 3) (wCons (wVar 4) (wCons (wVar 5) wNil)))))))))
def sp_Ledger_open_books (C : CE) : DSp := fun xs cs Q XP => ∃ (L : Vl) (p p1 p2 : Addr) (n kd : Str) (l bal c : Int) (b : Bk) (ps : List Int), xs = [L, .cell p, .dat (.str n), .dat (.str kd), .int l, .int bal] ∧ hasCal C cs L ps ∧ ps.getLast? = some c ∧ isBkC C cs p p1 p2 b ∧ b.accs.length ≤ 20 ∧ n.length ≤ 16777216 ∧ PyData.strOk kd = true ∧
  (∀ fs, madeR C kd n l bal c ≠ .error (C.Overdrawn, fs)) ∧
  (match openR C b n kd l bal c with | some e => XP (.ref e.1) e.2 cs | none => Q .non (cs.put p1 (.dk (datK (accK (withA b n ⟨kd, l, bal⟩))))))
theorem len_Ledger_open_books {C : CE} : ∀ xs cs Q XP, sp_Ledger_open_books C xs cs Q XP → xs.length = 6 := by rintro xs cs Q XP ⟨L, p, p1, p2, n, kd, l, bal, c, b, ps, rfl, _⟩; rfl
theorem madeR_err {C : CE} {kd n : Str} {l bal c : Int} {D : Addr} {fs : List (Str × Vl)} (h : madeR C kd n l bal c = .error (D, fs)) : D = C.UnknownKind ∨ D = C.InvalidName ∨ D = C.InvalidAmount ∨ D = C.Overdrawn := by
  unfold madeR at h
  by_cases h1 : kd = "open" ∨ kd = "limited" ∨ kd = "savings"
  · rw [if_pos h1] at h
    by_cases h2 : nameB n = true
    · rw [if_pos h2] at h
      by_cases h3 : 0 ≤ l ∧ l ≤ (if kd = "limited" then 1000000000000000000 else 0)
      · rw [if_pos h3] at h
        by_cases h4 : kd ≠ "open" ∧ bal < 0 - l
        · rw [if_pos h4] at h; cases h; exact .inr (.inr (.inr rfl))
        · rw [if_neg h4] at h; cases h
      · rw [if_neg h3] at h; cases h; exact .inr (.inr (.inl rfl))
    · rw [if_neg h2] at h; cases h; exact .inr (.inl rfl)
  · rw [if_neg h1] at h; cases h; exact .inl rfl
theorem pure_Ledger_open_books (K : Frag) (C : CE) (F : KO K C) : ∀ xs cs Q XP, sp_Ledger_open_books C xs cs Q XP → w_Ledger_open_books K C (GhX K XP) (retE K Q) (startD 6 xs) cs := by
  rintro xs cs Q XP ⟨L, p, p1, p2, n, kd, l, bal, c, b, ps, rfl, ⟨gs, hL, hper⟩, hc, hb, h20, hn, hs, hno, q⟩
  obtain ⟨ax, dx, hx, ha, hd⟩ := hb.bk
  unfold w_Ledger_open_books
  walk_at "dl"
  have hk1 : dctD cs (.cell p1) = some (datK (accK b)) := by rw [dctD_cell, hb.h1]; rfl
  refine ⟨_, by rw [hb.p]; rfl, _, rfl, _, hk1, ?_⟩
  have hlen : (datK (accK b)).length = b.accs.length := by simp [datK, accK]
  rw [hlen]
  unfold openR at q
  by_cases h0 : b.accs.length = 20
  · rw [if_pos (by omega)]
    rw [if_pos h0] at q
    exact .now q
  · rw [if_neg (by omega)]
    rw [if_neg h0] at q
    refine ⟨_, by rw [hb.p]; rfl, _, rfl, _, hk1, .inr n, rfl, ?_⟩
    rw [valD_accK, Option.isSome_map]
    by_cases hA : (lookA b.accs n).isSome = true
    · rw [if_pos hA]
      rw [if_pos hA] at q
      exact .now q
    · rw [if_neg hA]
      rw [if_neg hA] at q
      simp only [wTry]
      walk_at "dl"
      refine ⟨_, hL, _, hper, false, _, rfl, .int c, last_cal hc, ?_⟩
      refine ⟨.raw (.ref C.Account), kd, n, l, bal, c, rfl, hs, hn, ?_⟩
      cases hm : madeR C kd n l bal c with
      | error e =>
        obtain ⟨D, fs⟩ := e
        rw [hm] at q
        have hf : PySem.W.exmOne K (.ref D) (.ref C.Overdrawn) = some false := by
          rcases madeR_err hm with e | e | e | e
          · rw [e]; exact exmB_ok F.o_uk
          · rw [e]; exact exmB_ok F.o_nm
          · rw [e]; exact exmB_ok F.o_am
          · rw [e] at hm; exact absurd hm (hno fs)
        exact ⟨false, hf, fun z => (by cases z), fun _ => .now q⟩
      | ok d =>
        rw [hm] at q
        refine ⟨bal, -1000000000000000000, 1000000000000000000, rfl, ?_⟩
        by_cases hr : -1000000000000000000 ≤ bal ∧ bal ≤ 1000000000000000000
        · rw [if_pos hr]
          simp only [if_pos hr] at q
          refine ⟨by decide, _, by rw [hb.p]; rfl, _, rfl, p1, rfl, _, .inr n, rfl, hb.h1, by rw [hlen]; omega, .now ?_⟩
          rw [show (Dat.tup [Dat.str kd, Dat.int l, Dat.int bal]) = accD ⟨kd, l, bal⟩ from rfl, putD_accK (by simpa using hA)]
          exact q
        · rw [if_neg hr]
          simp only [if_neg hr] at q
          exact .now q
end DL
set_option maxRecDepth 100000
set_option maxHeartbeats 4000000
namespace DL
open PySem L2
local macro_rules | `(tactic| walk_at "dl") => `(tactic| simp only [wBestI, wIxS, wDGetV, wDInV, wDLen, wDCopy, wDDel, wDPut, wDNewK, wSortVI, wSortVS, wMakeK, gS, wFldI, wConI, wPropI, wMethI, wMethX, wAlt, wAltS, wCallX, wRaise, wRaise1, wRaise2, wCm, wCm0, noX, xw, insD_obj, insD_cell, coIns_ins, wSt, wLenS, wAll, wCntF, wIdxF, wSplit, wTryAs, wAsD, unE, wIsE, wXf, wIsiO, LamD.wOut, LamD.wLamMk, LamD.wAct, Dat.str.injEq, Dat.obj.injEq, wAbs, wCatS, wExt, wListOf, wiStr, wFld, wSetF, wMeth, wMake, wGMeth, wGCall, wDNewK, wDNewT, CO.ins.injEq, CO.dk.injEq, CO.dt.injEq, Cells.put_put, wRet, wRetN, wSeq, wAsg, wIfS, wDrop, wNext, wVar, wC, wOp, wUn, wFn, wNil, wCons, wTest, wNot, wAnd, wOr, wAndV, wOrV, wNotV, wIf, wChain, wTup, wLst, wCall, wNever, gN, gT, gNil, gCons, gIx, wI, wI0, wNeg, wMax2, wMin2, wLen, wIsN, wNotN, isNon_non, isNon_bl, isNon_int, isNon_str, isNon_lst, isNon_tup, isNon_cell, wIx, wTuple, wAug, wAugIx, wPar, wPar3, wSlL, wSlT, wPart, wNoPart, wCatT, wIsi, wIsi2, isiT, tyD_non, tyD_bl, tyD_int, tyD_str, tyD_lst, tyD_tup, tyD_cell, coTy_lst, seqD_lst, seqD_tp, seqD_cell, coSeq_lst, seen_dat, seen_cell, coDat_lst, startD, wYes, wApp, wEq_int, wEq_bl, allDat_nil, allDat_cons, allDat_map, Option.map_some, List.map_cons, List.map_nil, List.cons_append, List.nil_append, List.length_cons, List.length_nil, List.replicate, List.getElem?_cons_zero, List.getElem?_cons_succ, List.set_cons_zero, List.set_cons_succ, Option.some.injEq, exists_eq_left', exists_eq_left, exists_and_left, exists_eq', exists_eq, Vl.dat.injEq, Vl.raw.injEq, V.ref.injEq, CO.lst.injEq, Dat.int.injEq, Dat.bl.injEq, Dat.tup.injEq, Dat.lst.injEq, List.cons.injEq, and_true, true_and, retE, Nat.reduceAdd, Nat.reduceSub, and_assoc, Prod.mk.injEq, if_true, if_false, Bool.false_eq_true, decide_eq_true_eq, Bool.not_true, Bool.not_false, Bool.not_eq_true', decide_eq_false_iff_not, if_false_left, if_false_right, beq_iff_eq, Bool.or_eq_true, Bool.and_eq_true, Bool.or_self, Bool.or_true, Bool.true_or, Bool.or_false, Bool.false_or, decide_true, decide_false, reduceCtorEq, Cells.put_same, gt_iff_lt, ge_iff_le, beq_self_eq_true, bne_self_eq_false, Bool.decide_eq_true, not_true_eq_false, not_false_eq_true, Decidable.not_not, false_and, and_false, Bool.not_eq_false, at_0, at_1, at_2, at_3, at_4, at_5, ix_0, ix_1, ix_2, ix_3, Nat.reduceLT, Int.reduceLT, Int.reduceLE, Int.reduceNeg, Int.reduceAdd, Int.reduceSub, Int.reduceEq, Int.reducePow, Int.reduceToNat, Cells.put_put])
def ledE (C : CE) (cs : Cells) (L pa f' : Addr) (ps : List Int) (b : Bk) (past : List Vl) : Cells := ((cs.put pa (.lst past)).put f' (.lst [])).put L (.ins C.Ledger (ledF C ps b pa (.cell f')))
theorem opFin {K : Frag} {C : CE} {cs cs2 : Cells} {L pa f' p p1 p2 : Addr} {ps : List Int} {b b' : Bk} {fu v : Vl} {past past' : List Vl} {Q : Vl → Cells → Prop} (fp : cs p = none) (f1 : cs p1 = none) (f2 : cs p2 = none) (hsub : SubC cs cs2) (hb : isBkC C cs2 p p1 p2 b') (hL : isLed C cs L ps b pa fu past) (hf : cs2 f' = none)
    (q : Q v (ledE C cs L pa f' ps b' past')) : GhK K Q v (((cs2.put pa (.lst past')).put f' (.lst [])).put L (.ins C.Ledger [("periods", .dat (cal ps)), ("books", .cell p), ("past", .cell pa), ("future", .cell f')])) := by
  have nf : ∀ a c, cs2 a = some c → a ≠ f' := fun a c e z => by rw [z, hf] at e; cases e
  have nLp : L ≠ p := fun z => by have := hL.led; rw [z, fp] at this; cases this
  have nL1 : L ≠ p1 := fun z => by have := hL.led; rw [z, f1] at this; cases this
  have nL2 : L ≠ p2 := fun z => by have := hL.led; rw [z, f2] at this; cases this
  have npp : p ≠ pa := fun z => by have := hL.past; rw [← z, fp] at this; cases this
  have np1 : p1 ≠ pa := fun z => by have := hL.past; rw [← z, f1] at this; cases this
  have np2 : p2 ≠ pa := fun z => by have := hL.past; rw [← z, f2] at this; cases this
  have e0 : ∀ a, a ≠ L → a ≠ f' → a ≠ pa → (((cs2.put pa (.lst past')).put f' (.lst [])).put L (.ins C.Ledger [("periods", .dat (cal ps)), ("books", .cell p), ("past", .cell pa), ("future", .cell f')])) a = cs2 a := fun a h1 h2 h3 => by
    rw [Cells.put_ne h1, Cells.put_ne h2, Cells.put_ne h3]
  refine GhC.ghk (GhC.trans (frzLed (b := b') Cells.put_same ?_ ?_ ?_ hb.n12) (.sub ?_)) q
  · rw [e0 p nLp.symm (nf p _ hb.p) npp]; exact hb.p
  · rw [e0 p1 nL1.symm (nf p1 _ hb.h1) np1]; exact hb.h1
  · rw [e0 p2 nL2.symm (nf p2 _ hb.h2) np2]; exact hb.h2
  · intro a c e
    unfold ledE at e
    by_cases hA : a = L
    · rw [hA, Cells.put_same] at e
      rw [hA, Cells.put_same]
      exact e
    · rw [Cells.put_ne hA] at e
      have nap : ∀ z, z ∈ [p, p1, p2] → a ≠ z := by
        intro z hz haz
        subst haz
        by_cases hf' : a = f'
        · simp only [List.mem_cons, List.not_mem_nil, or_false] at hz
          rcases hz with rfl | rfl | rfl
          · exact nf _ _ hb.p hf'
          · exact nf _ _ hb.h1 hf'
          · exact nf _ _ hb.h2 hf'
        · rw [Cells.put_ne hf'] at e
          simp only [List.mem_cons, List.not_mem_nil, or_false] at hz
          rcases hz with rfl | rfl | rfl
          · rw [Cells.put_ne npp, fp] at e; cases e
          · rw [Cells.put_ne np1, f1] at e; cases e
          · rw [Cells.put_ne np2, f2] at e; cases e
      have h0 := nap p (by simp)
      have h1 := nap p1 (by simp)
      have h2 := nap p2 (by simp)
      rw [Cells.put_ne hA]
      simp only [Cells.del, h0, if_false]
      rw [Cells.put_ne h0]
      simp only [Cells.del, h2, if_false]
      rw [Cells.put_ne h0]
      simp only [Cells.del, h1, if_false]
      rw [Cells.put_ne hA]
      by_cases hf' : a = f'
      · rw [hf', Cells.put_same] at e ⊢; exact e
      · rw [Cells.put_ne hf'] at e ⊢
        by_cases hpa : a = pa
        · rw [hpa, Cells.put_same] at e ⊢; exact e
        · rw [Cells.put_ne hpa] at e ⊢
          exact hsub a c e
theorem none_sub {cs cs' : Cells} (s : SubC cs cs') {a : Addr} (h : cs' a = none) : cs a = none := by
  cases e : cs a with
  | none => rfl
  | some c => rw [s a c e] at h; cases h
theorem sub_newBk {C : CE} {cs : Cells} {b : Bk} {p p1 p2 : Addr} (fp : cs p = none) (f1 : cs p1 = none) (f2 : cs p2 = none) : SubC cs (newBk C cs b p p1 p2) := sub_put' (sub_put' (sub_put' (fun _ _ e => e) f1) f2) fp
theorem isLed.sub {C : CE} {cs cs' : Cells} {L pa : Addr} {ps : List Int} {b : Bk} {fu : Vl} {past : List Vl} (s : SubC cs cs') (h : isLed C cs L ps b pa fu past) : isLed C cs' L ps b pa fu past := ⟨s _ _ h.led, s _ _ h.past, h.ne⟩
theorem isLed.cal {C : CE} {cs : Cells} {L pa : Addr} {ps : List Int} {b : Bk} {fu : Vl} {past : List Vl} (h : isLed C cs L ps b pa fu past) : hasCal C cs (.cell L) ps := ⟨_, by rw [insD_cell, h.led]; rfl, rfl⟩
def sp_Ledger_open_account (C : CE) : DSp := fun xs cs Q XP => ∃ (L pa : Addr) (n kd : Str) (l bal c : Int) (b : Bk) (ps : List Int) (fu : Vl) (past : List Vl), xs = [.cell L, .dat (.str n), .dat (.str kd), .int l, .int bal] ∧ isLed C cs L ps b pa fu past ∧ ps.getLast? = some c ∧ b.accs.length ≤ 20 ∧ past.length < 16777216 ∧ n.length ≤ 16777216 ∧ PyData.strOk kd = true ∧
  (∀ fs, madeR C kd n l bal c ≠ .error (C.Overdrawn, fs)) ∧
  (match openR C b n kd l bal c with | some e => XP (.ref e.1) e.2 cs | none => ∀ f', cs f' = none → Q .non (ledE C cs L pa f' ps (withA b n ⟨kd, l, bal⟩) (past ++ [.dat (.tup [.tup [.str "open_account", .str n, .str kd, .int l, .int bal], bkD C b])])))
theorem len_Ledger_open_account {C : CE} : ∀ xs cs Q XP, sp_Ledger_open_account C xs cs Q XP → xs.length = 5 := by rintro xs cs Q XP ⟨L, pa, n, kd, l, bal, c, b, ps, fu, past, rfl, _⟩; rfl
/-- Ledger.open_account: slots 0 self, 1 name, 2 kind, 3 limit, 4 balance, 5 books -/
def w_Ledger_open_account (K : Frag) (C : CE) (W0 : DXP) : WS := (wSeq (wAsg (wMethI C.Books "copied" (sp_Books_copied C) (wFldI C.Ledger "books" (wVar 0)) wNil) (gN 5))
    (wSeq (wDrop (wMethX C.Ledger "open_books" (sp_Ledger_open_books C) (xw W0) (wVar 0) (wCons (wVar 5) (wCons (wVar 1) (wCons (wVar 2) (wCons (wVar 3) (wCons (wVar 4) wNil)))))))
    (wDrop (wMethI C.Ledger "commit" (sp_Ledger_commit C) (wVar 0) (wCons (wTup (wCons (wC (.str "open_account")) (wCons (wVar 1) (wCons (wVar 2) (wCons (wVar 3) (wCons (wVar 4) wNil)))))) (wCons (wVar 5) wNil))))))
theorem pure_Ledger_open_account (K : Frag) (C : CE) : ∀ xs cs Q XP, sp_Ledger_open_account C xs cs Q XP → w_Ledger_open_account K C (GhX K XP) (retE K Q) (startD 6 xs) cs := by
  rintro xs cs Q XP ⟨L, pa, n, kd, l, bal, c, b, ps, fu, past, rfl, hL, hc, h20, hpl, hn, hs, hno, q⟩
  unfold w_Ledger_open_account
  walk_at "dl"
  refine ⟨_, by rw [hL.led]; rfl, _, rfl, _, rfl, rfl, ?_⟩
  refine ⟨_, b, rfl, isBk_dat, fun p p1 p2 fp f1 f2 n1 n2 n12 => ?_⟩
  have sb := sub_newBk (C := C) (b := b) fp f1 f2
  have hL1 := hL.sub sb
  walk_at "dl"
  refine ⟨_, by rw [hL1.led]; rfl, rfl, ?_⟩
  refine ⟨.cell L, p, p1, p2, n, kd, l, bal, c, b, ps, rfl, hL1.cal, hc, .new n1 n2 n12, h20, hn, hs, hno, ?_⟩
  cases ho : openR C b n kd l bal c with
  | some e =>
    rw [ho] at q
    exact .drop sb q
  | none =>
    rw [ho] at q
    have sb2 : SubC cs ((newBk C cs b p p1 p2).put p1 (.dk (datK (accK (withA b n ⟨kd, l, bal⟩))))) := sub_put' sb f1
    have hL2 := hL.sub sb2
    refine ⟨_, by rw [hL2.led]; rfl, rfl, ?_⟩
    have nb := isBkC.new (C := C) (cs := cs) (b := b) n1 n2 n12
    have hb' : isBkC C ((newBk C cs b p p1 p2).put p1 (.dk (datK (accK (withA b n ⟨kd, l, bal⟩))))) p p1 p2 (withA b n ⟨kd, l, bal⟩) := ⟨by rw [Cells.put_ne n1]; exact nb.p, Cells.put_same, by rw [Cells.put_ne n12.symm]; exact nb.h2, n12⟩
    exact ⟨by decide, L, _, .cell p, b, ps, pa, fu, past, rfl, hL2, hpl, fun f' hf => opFin fp f1 f2 sb2 hb' hL hf (q f' (none_sub sb2 hf))⟩
end DL
set_option maxRecDepth 100000
set_option maxHeartbeats 4000000
namespace DL
open PySem L2
local macro_rules | `(tactic| walk_at "dl") => `(tactic| simp only [wBestI, wIxS, wDGetV, wDInV, wDLen, wDCopy, wDDel, wDPut, wDNewK, wSortVI, wSortVS, wMakeK, gS, wFldI, wConI, wPropI, wMethI, wMethX, wAlt, wAltS, wCallX, wRaise, wRaise1, wRaise2, wCm, wCm0, noX, xw, insD_obj, insD_cell, coIns_ins, wSt, wLenS, wAll, wCntF, wIdxF, wSplit, wTryAs, wAsD, unE, wIsE, wXf, wIsiO, LamD.wOut, LamD.wLamMk, LamD.wAct, Dat.str.injEq, Dat.obj.injEq, wAbs, wCatS, wExt, wListOf, wiStr, wFld, wSetF, wMeth, wMake, wGMeth, wGCall, wDNewK, wDNewT, CO.ins.injEq, CO.dk.injEq, CO.dt.injEq, Cells.put_put, wRet, wRetN, wSeq, wAsg, wIfS, wDrop, wNext, wVar, wC, wOp, wUn, wFn, wNil, wCons, wTest, wNot, wAnd, wOr, wAndV, wOrV, wNotV, wIf, wChain, wTup, wLst, wCall, wNever, gN, gT, gNil, gCons, gIx, wI, wI0, wNeg, wMax2, wMin2, wLen, wIsN, wNotN, isNon_non, isNon_bl, isNon_int, isNon_str, isNon_lst, isNon_tup, isNon_cell, wIx, wTuple, wAug, wAugIx, wPar, wPar3, wSlL, wSlT, wPart, wNoPart, wCatT, wIsi, wIsi2, isiT, tyD_non, tyD_bl, tyD_int, tyD_str, tyD_lst, tyD_tup, tyD_cell, coTy_lst, seqD_lst, seqD_tp, seqD_cell, coSeq_lst, seen_dat, seen_cell, coDat_lst, startD, wYes, wApp, wEq_int, wEq_bl, allDat_nil, allDat_cons, allDat_map, Option.map_some, List.map_cons, List.map_nil, List.cons_append, List.nil_append, List.length_cons, List.length_nil, List.replicate, List.getElem?_cons_zero, List.getElem?_cons_succ, List.set_cons_zero, List.set_cons_succ, Option.some.injEq, exists_eq_left', exists_eq_left, exists_and_left, exists_eq', exists_eq, Vl.dat.injEq, Vl.raw.injEq, V.ref.injEq, CO.lst.injEq, Dat.int.injEq, Dat.bl.injEq, Dat.tup.injEq, Dat.lst.injEq, List.cons.injEq, and_true, true_and, retE, Nat.reduceAdd, Nat.reduceSub, and_assoc, Prod.mk.injEq, if_true, if_false, Bool.false_eq_true, decide_eq_true_eq, Bool.not_true, Bool.not_false, Bool.not_eq_true', decide_eq_false_iff_not, if_false_left, if_false_right, beq_iff_eq, Bool.or_eq_true, Bool.and_eq_true, Bool.or_self, Bool.or_true, Bool.true_or, Bool.or_false, Bool.false_or, decide_true, decide_false, reduceCtorEq, Cells.put_same, gt_iff_lt, ge_iff_le, beq_self_eq_true, bne_self_eq_false, Bool.decide_eq_true, not_true_eq_false, not_false_eq_true, Decidable.not_not, false_and, and_false, Bool.not_eq_false, at_0, at_1, at_2, at_3, at_4, at_5, ix_0, ix_1, ix_2, ix_3, Nat.reduceLT, Int.reduceLT, Int.reduceLE, Int.reduceNeg, Int.reduceAdd, Int.reduceSub, Int.reduceEq, Int.reducePow, Int.reduceToNat, Cells.put_put])
/-- the account stands, and Account.made takes it -/
def okA (C : CE) (b : Bk) (c : Int) (n : Str) : Prop := n.length ≤ 16777216 ∧ PyData.strOk n = true ∧ ∃ q d, lookA b.accs n = some q ∧ PyData.strOk q.kd = true ∧ madeR C q.kd n q.l q.b c = .ok d
def sp_Ledger_validate_parties (C : CE) : DSp := fun xs cs Q XP => ∃ (L pa : Addr) (z z2 : Str) (b : Bk) (ps : List Int) (fu : Vl) (past : List Vl) (c : Int), xs = [.cell L, .dat (.lst [.str z, .str z2])] ∧ isLed C cs L ps b pa fu past ∧ ps.getLast? = some c ∧ okA C b c z ∧ okA C b c z2 ∧ (if z = z2 then XP (.ref C.SameAccount) [] cs else Q .non cs)
theorem len_Ledger_validate_parties {C : CE} : ∀ xs cs Q XP, sp_Ledger_validate_parties C xs cs Q XP → xs.length = 2 := by rintro xs cs Q XP ⟨L, pa, z, z2, b, ps, fu, past, c, rfl, _⟩; rfl
/-- Ledger.validate_parties: slots 0 self, 1 names, 2 name -/
def w_Ledger_validate_parties (K : Frag) (C : CE) (W0 : DXP) : WS := (wSeq (wFor (wiSeq (wVar 1)) (gN 2) (wDrop (wMethX C.Ledger "account" (sp_Ledger_account C) (xw W0) (wVar 0) (wCons (wVar 2) wNil))))
    (wIfS (wTest (wOp (wEqD false) (wOp wIx (wVar 1) (wC (.int 0))) (wOp wIx (wVar 1) (wC (.int 1))))) (wRaise (.ref C.SameAccount) (xw W0)) wNext))
theorem pure_Ledger_validate_parties (K : Frag) (C : CE) : ∀ xs cs Q XP, sp_Ledger_validate_parties C xs cs Q XP → w_Ledger_validate_parties K C (GhX K XP) (retE K Q) (startD 3 xs) cs := by
  rintro xs cs Q XP ⟨L, pa, z, z2, b, ps, fu, past, c, rfl, hL, hc, hz, hz2, q⟩
  unfold w_Ledger_validate_parties
  walk_at "dl"
  simp only [wFor, wiSeq]
  walk_at "dl"
  refine ⟨fun i ρ cs' => cs' = cs ∧ ∃ a2, ρ = [some (.cell L), some (.dat (.lst [.str z, .str z2])), a2], ⟨rfl, _, rfl⟩, fun _ _ _ _ _ => trivial, ?_, ?_⟩
  · rintro i x ρ cs' hx ⟨rfl, a2, rfl⟩
    obtain ⟨n, rfl, hn⟩ : ∃ n, x = .dat (.str n) ∧ okA C b c n := by
      have := List.mem_of_getElem? hx
      simp only [List.mem_cons, List.not_mem_nil, or_false] at this
      rcases this with rfl | rfl
      · exact ⟨z, rfl, hz⟩
      · exact ⟨z2, rfl, hz2⟩
    obtain ⟨hn1, hn2, qq, d, hlk, hs, hm⟩ := hn
    walk_at "dl"
    refine ⟨_, by rw [hL.led]; rfl, rfl, L, n, b, ps, pa, fu, past, c, rfl, hL, hc, hn1, ?_⟩
    rw [hlk]
    refine ⟨hs, ?_⟩
    rw [hm]
    exact rfl
  · rintro ρ cs' ⟨rfl, a2, rfl⟩
    walk_at "dl"
    refine wEq_str hz.2.1 hz2.2.1 ⟨_, rfl, ?_⟩
    by_cases e : z = z2
    · rw [if_pos e] at q
      rw [if_pos (by simp [e])]
      exact .now q
    · rw [if_neg e] at q
      rw [if_neg (by simp [e])]
      exact .now q
end DL
set_option maxRecDepth 100000
set_option maxHeartbeats 4000000
namespace DL
open PySem L2
local macro_rules | `(tactic| walk_at "dl") => `(tactic| simp only [wBestI, wIxS, wDGetV, wDInV, wDLen, wDCopy, wDDel, wDPut, wDNewK, wSortVI, wSortVS, wMakeK, gS, wFldI, wConI, wPropI, wMethI, wMethX, wAlt, wAltS, wCallX, wRaise, wRaise1, wRaise2, wCm, wCm0, noX, xw, insD_obj, insD_cell, coIns_ins, wSt, wLenS, wAll, wCntF, wIdxF, wSplit, wTryAs, wAsD, unE, wIsE, wXf, wIsiO, LamD.wOut, LamD.wLamMk, LamD.wAct, Dat.str.injEq, Dat.obj.injEq, wAbs, wCatS, wExt, wListOf, wiStr, wFld, wSetF, wMeth, wMake, wGMeth, wGCall, wDNewK, wDNewT, CO.ins.injEq, CO.dk.injEq, CO.dt.injEq, Cells.put_put, wRet, wRetN, wSeq, wAsg, wIfS, wDrop, wNext, wVar, wC, wOp, wUn, wFn, wNil, wCons, wTest, wNot, wAnd, wOr, wAndV, wOrV, wNotV, wIf, wChain, wTup, wLst, wCall, wNever, gN, gT, gNil, gCons, gIx, wI, wI0, wNeg, wMax2, wMin2, wLen, wIsN, wNotN, isNon_non, isNon_bl, isNon_int, isNon_str, isNon_lst, isNon_tup, isNon_cell, wIx, wTuple, wAug, wAugIx, wPar, wPar3, wSlL, wSlT, wPart, wNoPart, wCatT, wIsi, wIsi2, isiT, tyD_non, tyD_bl, tyD_int, tyD_str, tyD_lst, tyD_tup, tyD_cell, coTy_lst, seqD_lst, seqD_tp, seqD_cell, coSeq_lst, seen_dat, seen_cell, coDat_lst, startD, wYes, wApp, wEq_int, wEq_bl, allDat_nil, allDat_cons, allDat_map, Option.map_some, List.map_cons, List.map_nil, List.cons_append, List.nil_append, List.length_cons, List.length_nil, List.replicate, List.getElem?_cons_zero, List.getElem?_cons_succ, List.set_cons_zero, List.set_cons_succ, Option.some.injEq, exists_eq_left', exists_eq_left, exists_and_left, exists_eq', exists_eq, Vl.dat.injEq, Vl.raw.injEq, V.ref.injEq, CO.lst.injEq, Dat.int.injEq, Dat.bl.injEq, Dat.tup.injEq, Dat.lst.injEq, List.cons.injEq, and_true, true_and, retE, Nat.reduceAdd, Nat.reduceSub, and_assoc, Prod.mk.injEq, if_true, if_false, Bool.false_eq_true, decide_eq_true_eq, Bool.not_true, Bool.not_false, Bool.not_eq_true', decide_eq_false_iff_not, if_false_left, if_false_right, beq_iff_eq, Bool.or_eq_true, Bool.and_eq_true, Bool.or_self, Bool.or_true, Bool.true_or, Bool.or_false, Bool.false_or, decide_true, decide_false, reduceCtorEq, Cells.put_same, gt_iff_lt, ge_iff_le, beq_self_eq_true, bne_self_eq_false, Bool.decide_eq_true, not_true_eq_false, not_false_eq_true, Decidable.not_not, false_and, and_false, Bool.not_eq_false, at_0, at_1, at_2, at_3, at_4, at_5, ix_0, ix_1, ix_2, ix_3, Nat.reduceLT, Int.reduceLT, Int.reduceLE, Int.reduceNeg, Int.reduceAdd, Int.reduceSub, Int.reduceEq, Int.reducePow, Int.reduceToNat, Cells.put_put])
def withU (b : Bk) (u : Due) : Bk := { b with dues := b.dues ++ [(b.nxt, u)], nxt := b.nxt + 1 }
theorem putD_dueK {b : Bk} {u : Due} (h : ∀ q ∈ b.dues, q.1 < b.nxt) : putD (datK (dueK b)) (.inl b.nxt) (.dat (dueD u)) = datK (dueK (withU b u)) := by
  unfold putD
  have hany : ((datK (dueK b)).any fun kv => decide (kv.1 = Sum.inl b.nxt)) = false := by
    rw [List.any_eq_false]
    intro kv hm
    unfold datK dueK at hm
    rw [List.map_map] at hm
    obtain ⟨q, hq, rfl⟩ := List.mem_map.mp hm
    simp only [Function.comp, decide_eq_true_eq]
    intro z
    have := h q hq
    have := Sum.inl.inj z
    omega
  rw [hany, if_neg (by decide)]
  simp [datK, dueK, withU]
def cntPay (b : Bk) (z : Str) : Int := ((payL b z).length : Int)
def maxPay (b : Bk) : List Str → Int
  | [] => 0
  | z :: zs => (zs.map (cntPay b)).foldl max (cntPay b z)
def sp_Ledger_add_item (C : CE) : DSp := fun xs cs Q XP => ∃ (L : Vl) (p p1 p2 : Addr) (u : Due) (b : Bk) (ps : List Int) (c : Int), xs = [L, .cell p, .dat (dueD u)] ∧ hasCal C cs L ps ∧ (∃ gs, insD cs L = some (C.Ledger, gs) ∧ gs.lookup ("account_in" : Str) = none) ∧ CalOk ps ∧ ps.getLast? = some c ∧ isBkC C cs p p1 p2 b ∧ BkOk b ∧ (u.ps.length = 1 ∨ u.ps.length = 2) ∧ (∀ z ∈ u.ps, okA C b c z) ∧
  (if ordB ps (u.p, u.d, u.a) = true then (if maxPay b u.ps = 60 then XP (.ref C.TooManyOrders) [] cs else Q (.int b.nxt) ((cs.put p2 (.dk (datK (dueK (withU b u))))).put p (.ins C.Books (bkV (withU b u) (.cell p1) (.cell p2))))) else XP (.ref C.InvalidOrder) [("index", .int 0)] cs)
theorem len_Ledger_add_item {C : CE} : ∀ xs cs Q XP, sp_Ledger_add_item C xs cs Q XP → xs.length = 3 := by rintro xs cs Q XP ⟨L, p, p1, p2, u, b, ps, c, rfl, _⟩; rfl
/-- Ledger.add_item: slots 0 self, 1 books, 2 parts, 3 parties, 4 period, 5 day, 6 amount, 7 name, 8 number -/
def w_Ledger_add_item (K : Frag) (C : CE) (W0 : DXP) : WS := (wSeq (wAsg (wVar 2) (gS 4 0 (gCons (gN 3) (gCons (gN 4) (gCons (gN 5) (gCons (gN 6) gNil))))))
    (wSeq (wFor (wiSeq (wVar 3)) (gN 7) (wDrop (wMethX C.Ledger "account_in" (sp_Ledger_account_in C) (xw W0) (wVar 0) (wCons (wVar 1) (wCons (wVar 7) wNil)))))
    (wSeq (wDrop (wCallX (sp_validate_ordersX C) (xw W0) (wCons (wFldI C.Ledger "periods" (wVar 0)) (wCons (wLst (wCons (wTup (wCons (wVar 4) (wCons (wVar 5) (wCons (wVar 6) wNil)))) wNil)) wNil))))
    (wSeq (wIfS (wTest (wOp (wEqD false) (wFn (wBestI max) (wCons (wLc (wiSeq (wVar 3)) (gN 7) wYes (wFn wLen (wCons (wMethI C.Books "payments" (sp_Books_payments C) (wVar 1) (wCons (wVar 7) wNil)) wNil)) [7]) wNil)) (wC (.int 60)))) (wRaise (.ref C.TooManyOrders) (xw W0)) wNext)
    (wSeq (wAsg (wFldI C.Books "following" (wVar 1)) (gN 8))
    (wSeq (wDPut (wFldI C.Books "dues" (wVar 1)) (wVar 8) (wVar 2))
    (wSeq (wSetF C.Books "following" (wVar 1) (wOp wAdd (wVar 8) (wC (.int 1))))
    (wRet (wVar 8)))))))))
theorem pure_Ledger_add_item (K : Frag) (C : CE) : ∀ xs cs Q XP, sp_Ledger_add_item C xs cs Q XP → w_Ledger_add_item K C (GhX K XP) (retE K Q) (startD 9 xs) cs := by
  rintro xs cs Q XP ⟨L, p, p1, p2, u, b, ps, c, rfl, hcal, ⟨gs, hLi, hLa⟩, hck, hc, hb, ok, h12, hA, q⟩
  obtain ⟨zs, pp, dd, aa⟩ := u
  simp only at h12 hA q
  unfold w_Ledger_add_item
  have hlen : (dueL ⟨zs, pp, dd, aa⟩).length = zs.length + 3 := by simp [dueL]
  have htk : ((dueL ⟨zs, pp, dd, aa⟩).map Vl.dat).take zs.length = (zs.map Dat.str).map .dat := by simp [dueL]
  have hdr : ((dueL ⟨zs, pp, dd, aa⟩).map Vl.dat).drop zs.length = [.int pp, .int dd, .int aa] := by simp [dueL]
  simp only [dueD]
  walk_at "dl"
  simp only [List.drop_zero, List.take_zero, List.length_map, hlen, List.nil_append, show zs.length + 3 + 1 - 4 = zs.length by omega, htk, hdr, List.singleton_append]
  refine ⟨by omega, by omega, .inr ⟨zs.map .str, allDat_map _, ?_⟩⟩
  refine ⟨_, _, rfl, _, _, rfl, _, _, rfl, _, _, rfl, rfl, ?_⟩
  simp only [wFor, wiSeq]
  walk_at "dl"
  refine ⟨fun i ρ cs' => cs' = cs ∧ ∃ a7, ρ = [some L, some (.cell p), some (.dat (.tup (dueL ⟨zs, pp, dd, aa⟩))), some (.dat (.lst (zs.map .str))), some (.int pp), some (.int dd), some (.int aa), a7, none], ⟨rfl, _, rfl⟩, fun _ _ _ _ _ => trivial, ?_, ?_⟩
  · rintro i x ρ cs' hx ⟨rfl, a7, rfl⟩
    rw [List.map_map, List.getElem?_map] at hx
    obtain ⟨z, hz, rfl⟩ := Option.map_eq_some_iff.mp hx
    obtain ⟨hn1, hn2, qq, d, hlk, hs, hm⟩ := hA z (List.mem_of_getElem? hz)
    walk_at "dl"
    refine ⟨_, hLi, hLa, L, .cell p, z, b, ps, c, rfl, hcal, hb.bk, hc, hn1, ?_⟩
    rw [hlk]
    refine ⟨hs, ?_⟩
    rw [hm]
    exact rfl
  · rintro ρ cs' ⟨rfl, a7, rfl⟩
    obtain ⟨gs', hL', hper⟩ := hcal
    walk_at "dl"
    refine ⟨_, hL', _, hper, by decide, by decide, .inr ⟨_, rfl, ?_⟩⟩
    refine ⟨ps, [(pp, dd, aa)], true, rfl, hck, ?_⟩
    have hfi : List.findIdx? (fun o => !ordB ps o) [(pp, dd, aa)] = if ordB ps (pp, dd, aa) = true then none else some 0 := by
      simp only [List.findIdx?_cons, List.findIdx?_nil]
      cases ordB ps (pp, dd, aa) <;> rfl
    rw [hfi]
    by_cases ho : ordB ps (pp, dd, aa) = true
    · rw [if_pos ho] at q
      rw [if_pos ho]
      refine lc_pure ((zs.map Dat.str).map .dat) _ (fun _ => true) (fun x => match x with | .dat (.str z) => .int (cntPay b z) | _ => .non) (fun Pi h => ⟨_, rfl, true, _, rfl, h⟩) (fun _ _ => rfl) (by simp; omega) ?_ ?_
      · intro x hx cs2 B N hs hbb
        rw [List.map_map] at hx
        obtain ⟨z, hz, rfl⟩ := List.mem_map.mp hx
        obtain ⟨hn1, hn2, _⟩ := hA z hz
        simp only [wipeD]
        walk_at "dl"
        refine ⟨_, by rw [hs p _ hb.p]; rfl, rfl, .cell p, z, b, rfl, hb.bk.sub hs, ok, hn2, true, _, rfl, ?_⟩
        rw [if_pos rfl] at hbb
        rw [List.length_map]
        exact hbb
      · have hfl : (List.filter (fun _ => true) ((zs.map Dat.str).map Vl.dat)).map (fun x => match x with | .dat (.str z) => Dat.int (cntPay b z) | _ => .non) = (zs.map (cntPay b)).map Dat.int := by
          rw [List.filter_eq_self.mpr (fun _ _ => rfl)]
          simp only [List.map_map]
          rfl
        rw [hfl]
        rcases zs with _ | ⟨z0, zr⟩
        · simp at h12
        · refine ⟨cntPay b z0, zr.map (cntPay b), by simp [seqD_lst, Function.comp_def], ?_⟩
          unfold maxPay at q
          by_cases hm : (zr.map (cntPay b)).foldl max (cntPay b z0) = 60
          · rw [if_pos hm] at q
            rw [if_pos hm]
            exact .now q
          · rw [if_neg hm] at q
            rw [if_neg hm]
            have np2 : p ≠ p2 := fun z => by have := hb.p; rw [z, hb.h2] at this; cases this
            refine ⟨_, by rw [hb.p]; rfl, _, rfl, _, by rw [hb.p]; rfl, _, rfl, p2, rfl, _, .inl b.nxt, rfl, hb.h2, by simp [datK, dueK]; have := ok.lim; omega, b.nxt, rfl, bkV b (.cell p1) (.cell p2), by rw [Cells.put_ne np2]; exact hb.p, (show 4 < 1000 by decide), .now ?_⟩
            rw [show Vl.dat (Dat.tup (dueL ⟨z0 :: zr, pp, dd, aa⟩)) = .dat (dueD ⟨z0 :: zr, pp, dd, aa⟩) from rfl, putD_dueK ok.low]
            exact q
    · rw [if_neg ho] at q
      rw [if_neg ho]
      exact .now q
end DL
set_option maxRecDepth 100000
set_option maxHeartbeats 4000000
namespace DL
open PySem L2
local macro_rules | `(tactic| walk_at "dl") => `(tactic| simp only [wBestI, wIxS, wDGetV, wDInV, wDLen, wDCopy, wDDel, wDPut, wDNewK, wSortVI, wSortVS, wMakeK, gS, wFldI, wConI, wPropI, wMethI, wMethX, wAlt, wAltS, wCallX, wRaise, wRaise1, wRaise2, wCm, wCm0, noX, xw, insD_obj, insD_cell, coIns_ins, wSt, wLenS, wAll, wCntF, wIdxF, wSplit, wTryAs, wAsD, unE, wIsE, wXf, wIsiO, LamD.wOut, LamD.wLamMk, LamD.wAct, Dat.str.injEq, Dat.obj.injEq, wAbs, wCatS, wExt, wListOf, wiStr, wFld, wSetF, wMeth, wMake, wGMeth, wGCall, wDNewK, wDNewT, CO.ins.injEq, CO.dk.injEq, CO.dt.injEq, Cells.put_put, wRet, wRetN, wSeq, wAsg, wIfS, wDrop, wNext, wVar, wC, wOp, wUn, wFn, wNil, wCons, wTest, wNot, wAnd, wOr, wAndV, wOrV, wNotV, wIf, wChain, wTup, wLst, wCall, wNever, gN, gT, gNil, gCons, gIx, wI, wI0, wNeg, wMax2, wMin2, wLen, wIsN, wNotN, isNon_non, isNon_bl, isNon_int, isNon_str, isNon_lst, isNon_tup, isNon_cell, wIx, wTuple, wAug, wAugIx, wPar, wPar3, wSlL, wSlT, wPart, wNoPart, wCatT, wIsi, wIsi2, isiT, tyD_non, tyD_bl, tyD_int, tyD_str, tyD_lst, tyD_tup, tyD_cell, coTy_lst, seqD_lst, seqD_tp, seqD_cell, coSeq_lst, seen_dat, seen_cell, coDat_lst, startD, wYes, wApp, wEq_int, wEq_bl, allDat_nil, allDat_cons, allDat_map, Option.map_some, List.map_cons, List.map_nil, List.cons_append, List.nil_append, List.length_cons, List.length_nil, List.replicate, List.getElem?_cons_zero, List.getElem?_cons_succ, List.set_cons_zero, List.set_cons_succ, Option.some.injEq, exists_eq_left', exists_eq_left, exists_and_left, exists_eq', exists_eq, Vl.dat.injEq, Vl.raw.injEq, V.ref.injEq, CO.lst.injEq, Dat.int.injEq, Dat.bl.injEq, Dat.tup.injEq, Dat.lst.injEq, List.cons.injEq, and_true, true_and, retE, Nat.reduceAdd, Nat.reduceSub, and_assoc, Prod.mk.injEq, if_true, if_false, Bool.false_eq_true, decide_eq_true_eq, Bool.not_true, Bool.not_false, Bool.not_eq_true', decide_eq_false_iff_not, if_false_left, if_false_right, beq_iff_eq, Bool.or_eq_true, Bool.and_eq_true, Bool.or_self, Bool.or_true, Bool.true_or, Bool.or_false, Bool.false_or, decide_true, decide_false, reduceCtorEq, Cells.put_same, gt_iff_lt, ge_iff_le, beq_self_eq_true, bne_self_eq_false, Bool.decide_eq_true, not_true_eq_false, not_false_eq_true, Decidable.not_not, false_and, and_false, Bool.not_eq_false, at_0, at_1, at_2, at_3, at_4, at_5, ix_0, ix_1, ix_2, ix_3, Nat.reduceLT, Int.reduceLT, Int.reduceLE, Int.reduceNeg, Int.reduceAdd, Int.reduceSub, Int.reduceEq, Int.reducePow, Int.reduceToNat, Cells.put_put])
/-- what adding u answers behind the checks of names: nothing, or what is raised -/
def addR (C : CE) (b : Bk) (ps : List Int) (u : Due) : Option (Addr × List (Str × Vl)) :=
  if (if u.ps.length = 2 then 1 else -1000000000000000000) ≤ u.a ∧ u.a ≤ 1000000000000000000 ∧ u.a ≠ 0 then
    (if ordB ps (u.p, u.d, u.a) = true then (if maxPay b u.ps = 60 then some (C.TooManyOrders, []) else none) else some (C.InvalidOrder, [("index", .int 0)]))
  else some (C.InvalidAmount, [])
def sp_Ledger_add_order (C : CE) : DSp := fun xs cs Q XP => ∃ (L pa : Addr) (n : Str) (pe d a c : Int) (b : Bk) (ps : List Int) (fu : Vl) (past : List Vl), xs = [.cell L, .dat (.str n), .int pe, .int d, .int a] ∧ isLed C cs L ps b pa fu past ∧ CalOk ps ∧ ps.getLast? = some c ∧ BkOk b ∧ past.length < 16777216 ∧ n.length ≤ 16777216 ∧
  (if lookA b.accs n = none then XP (.ref C.UnknownAccount) [("name", .dat (.str n))] cs else okA C b c n ∧
    (match addR C b ps ⟨[n], pe, d, a⟩ with | some e => XP (.ref e.1) e.2 cs | none => ∀ f', cs f' = none → Q (.int b.nxt) (ledE C cs L pa f' ps (withU b ⟨[n], pe, d, a⟩) (past ++ [.dat (.tup [.tup [.str "add_order", .str n, .int pe, .int d, .int a], bkD C b])]))))
theorem len_Ledger_add_order {C : CE} : ∀ xs cs Q XP, sp_Ledger_add_order C xs cs Q XP → xs.length = 5 := by rintro xs cs Q XP ⟨L, pa, n, pe, d, a, c, b, ps, fu, past, rfl, _⟩; rfl
def sp_Ledger_add_transfer (C : CE) : DSp := fun xs cs Q XP => ∃ (L pa : Addr) (z z2 : Str) (pe d a c : Int) (b : Bk) (ps : List Int) (fu : Vl) (past : List Vl), xs = [.cell L, .dat (.str z), .dat (.str z2), .int pe, .int d, .int a] ∧ isLed C cs L ps b pa fu past ∧ CalOk ps ∧ ps.getLast? = some c ∧ BkOk b ∧ past.length < 16777216 ∧ okA C b c z ∧ okA C b c z2 ∧
  (if z = z2 then XP (.ref C.SameAccount) [] cs else
    (match addR C b ps ⟨[z, z2], pe, d, a⟩ with | some e => XP (.ref e.1) e.2 cs | none => ∀ f', cs f' = none → Q (.int b.nxt) (ledE C cs L pa f' ps (withU b ⟨[z, z2], pe, d, a⟩) (past ++ [.dat (.tup [.tup [.str "add_transfer", .str z, .str z2, .int pe, .int d, .int a], bkD C b])]))))
theorem len_Ledger_add_transfer {C : CE} : ∀ xs cs Q XP, sp_Ledger_add_transfer C xs cs Q XP → xs.length = 6 := by rintro xs cs Q XP ⟨L, pa, z, z2, pe, d, a, c, b, ps, fu, past, rfl, _⟩; rfl
theorem bkU {C : CE} {cs : Cells} {p p1 p2 : Addr} {b : Bk} {u : Due} (h : isBkC C cs p p1 p2 b) : isBkC C ((cs.put p2 (.dk (datK (dueK (withU b u))))).put p (.ins C.Books (bkV (withU b u) (.cell p1) (.cell p2)))) p p1 p2 (withU b u) := by
  have np1 : p ≠ p1 := fun z => by have := h.p; rw [z, h.h1] at this; cases this
  have np2 : p ≠ p2 := fun z => by have := h.p; rw [z, h.h2] at this; cases this
  exact ⟨Cells.put_same, by rw [Cells.put_ne np1.symm, Cells.put_ne h.n12]; exact h.h1, by rw [Cells.put_ne np2.symm, Cells.put_same], h.n12⟩
/-- Ledger.add_order: slots 0 self, 1 name, 2 period, 3 day, 4 amount, 5 books, 6 number -/
def w_Ledger_add_order (K : Frag) (C : CE) (W0 : DXP) : WS := (wSeq (wAsg (wMethI C.Books "copied" (sp_Books_copied C) (wFldI C.Ledger "books" (wVar 0)) wNil) (gN 5))
    (wSeq (wDrop (wMethX C.Ledger "account" (sp_Ledger_account C) (xw W0) (wVar 0) (wCons (wVar 1) wNil)))
    (wSeq (wDrop (wMethX C.Ledger "validate_item" (sp_Ledger_validate_item C) (xw W0) (wVar 0) (wCons (wC (.int 1)) (wCons (wVar 4) wNil))))
    (wSeq (wAsg (wMethX C.Ledger "add_item" (sp_Ledger_add_item C) (xw W0) (wVar 0) (wCons (wVar 5) (wCons (wTup (wCons (wVar 1) (wCons (wVar 2) (wCons (wVar 3) (wCons (wVar 4) wNil))))) wNil))) (gN 6))
    (wSeq (wDrop (wMethI C.Ledger "commit" (sp_Ledger_commit C) (wVar 0) (wCons (wTup (wCons (wC (.str "add_order")) (wCons (wVar 1) (wCons (wVar 2) (wCons (wVar 3) (wCons (wVar 4) wNil)))))) (wCons (wVar 5) wNil))))
    (wRet (wVar 6)))))))
/-- Ledger.add_transfer: slots 0 self, 1 source, 2 target, 3 period, 4 day, 5 amount, 6 books, 7 number -/
def w_Ledger_add_transfer (K : Frag) (C : CE) (W0 : DXP) : WS := (wSeq (wAsg (wMethI C.Books "copied" (sp_Books_copied C) (wFldI C.Ledger "books" (wVar 0)) wNil) (gN 6))
    (wSeq (wDrop (wMethX C.Ledger "validate_parties" (sp_Ledger_validate_parties C) (xw W0) (wVar 0) (wCons (wLst (wCons (wVar 1) (wCons (wVar 2) wNil))) wNil)))
    (wSeq (wDrop (wMethX C.Ledger "validate_item" (sp_Ledger_validate_item C) (xw W0) (wVar 0) (wCons (wC (.int 2)) (wCons (wVar 5) wNil))))
    (wSeq (wAsg (wMethX C.Ledger "add_item" (sp_Ledger_add_item C) (xw W0) (wVar 0) (wCons (wVar 6) (wCons (wTup (wCons (wVar 1) (wCons (wVar 2) (wCons (wVar 3) (wCons (wVar 4) (wCons (wVar 5) wNil)))))) wNil))) (gN 7))
    (wSeq (wDrop (wMethI C.Ledger "commit" (sp_Ledger_commit C) (wVar 0) (wCons (wTup (wCons (wC (.str "add_transfer")) (wCons (wVar 1) (wCons (wVar 2) (wCons (wVar 3) (wCons (wVar 4) (wCons (wVar 5) wNil))))))) (wCons (wVar 6) wNil))))
    (wRet (wVar 7)))))))
theorem pure_Ledger_add_order (K : Frag) (C : CE) : ∀ xs cs Q XP, sp_Ledger_add_order C xs cs Q XP → w_Ledger_add_order K C (GhX K XP) (retE K Q) (startD 7 xs) cs := by
  rintro xs cs Q XP ⟨L, pa, n, pe, d, a, c, b, ps, fu, past, rfl, hL, hck, hc, ok, hpl, hn, q⟩
  unfold w_Ledger_add_order
  walk_at "dl"
  refine ⟨_, by rw [hL.led]; rfl, _, rfl, _, rfl, rfl, _, b, rfl, isBk_dat, fun p p1 p2 fp f1 f2 n1 n2 n12 => ?_⟩
  have sb := sub_newBk (C := C) (b := b) fp f1 f2
  have hL1 := hL.sub sb
  have nb := isBkC.new (C := C) (cs := cs) (b := b) n1 n2 n12
  walk_at "dl"
  refine ⟨_, by rw [hL1.led]; rfl, rfl, L, n, b, ps, pa, fu, past, c, rfl, hL1, hc, hn, ?_⟩
  by_cases h0 : lookA b.accs n = none
  · rw [if_pos h0] at q
    rw [h0]
    exact .drop sb q
  · rw [if_neg h0] at q
    obtain ⟨hA, q⟩ := q
    obtain ⟨hn1, hn2, qq, dd, hlk, hs, hm⟩ := hA
    rw [hlk]
    refine ⟨hs, ?_⟩
    rw [hm]
    refine ⟨_, by rw [hL1.led]; rfl, rfl, _, 1, a, rfl, ?_⟩
    unfold addR at q
    simp only [List.length_cons, List.length_nil, show ((0 : Nat) + 1 = 2) = False by simp, if_false] at q
    rw [if_neg (show ¬ ((1 : Int) = 2) by decide)]
    by_cases ha : -1000000000000000000 ≤ a ∧ a ≤ 1000000000000000000 ∧ a ≠ 0
    · rw [if_pos ha] at q
      rw [if_pos ha]
      refine ⟨_, by rw [hL1.led]; rfl, rfl, by decide, .cell L, p, p1, p2, ⟨[n], pe, d, a⟩, b, ps, c, rfl, hL1.cal, ⟨_, by rw [insD_cell, hL1.led]; rfl, rfl⟩, hck, hc, nb, ok, .inl rfl, fun z hz => ?_, ?_⟩
      · simp only [List.mem_cons, List.not_mem_nil, or_false] at hz
        subst hz
        exact ⟨hn1, hn2, qq, dd, hlk, hs, hm⟩
      · by_cases ho : ordB ps (pe, d, a) = true
        · rw [if_pos ho] at q
          rw [if_pos ho]
          by_cases hmx : maxPay b [n] = 60
          · rw [if_pos hmx] at q
            rw [if_pos hmx]
            exact .drop sb q
          · rw [if_neg hmx] at q
            rw [if_neg hmx]
            have sb2 := sub_put' (c := .ins C.Books (bkV (withU b ⟨[n], pe, d, a⟩) (.cell p1) (.cell p2))) (sub_put' (c := .dk (datK (dueK (withU b ⟨[n], pe, d, a⟩)))) sb f2) fp
            have hL2 := hL.sub sb2
            refine ⟨_, by rw [hL2.led]; rfl, rfl, by decide, L, _, .cell p, b, ps, pa, fu, past, rfl, hL2, hpl, fun f' hf => opFin fp f1 f2 sb2 (bkU nb) hL hf (q f' (none_sub sb2 hf))⟩
        · rw [if_neg ho] at q
          rw [if_neg ho]
          exact .drop sb q
    · rw [if_neg ha] at q
      rw [if_neg ha]
      exact .drop sb q
theorem pure_Ledger_add_transfer (K : Frag) (C : CE) : ∀ xs cs Q XP, sp_Ledger_add_transfer C xs cs Q XP → w_Ledger_add_transfer K C (GhX K XP) (retE K Q) (startD 8 xs) cs := by
  rintro xs cs Q XP ⟨L, pa, z, z2, pe, d, a, c, b, ps, fu, past, rfl, hL, hck, hc, ok, hpl, hz, hz2, q⟩
  unfold w_Ledger_add_transfer
  walk_at "dl"
  refine ⟨_, by rw [hL.led]; rfl, _, rfl, _, rfl, rfl, _, b, rfl, isBk_dat, fun p p1 p2 fp f1 f2 n1 n2 n12 => ?_⟩
  have sb := sub_newBk (C := C) (b := b) fp f1 f2
  have hL1 := hL.sub sb
  have nb := isBkC.new (C := C) (cs := cs) (b := b) n1 n2 n12
  walk_at "dl"
  refine ⟨_, by rw [hL1.led]; rfl, rfl, by decide, .inr ⟨_, rfl, L, pa, z, z2, b, ps, fu, past, c, rfl, hL1, hc, hz, hz2, ?_⟩⟩
  by_cases hzz : z = z2
  · rw [if_pos hzz] at q
    rw [if_pos hzz]
    exact .drop sb q
  · rw [if_neg hzz] at q
    rw [if_neg hzz]
    refine ⟨_, by rw [hL1.led]; rfl, rfl, _, 2, a, rfl, ?_⟩
    unfold addR at q
    simp only [List.length_cons, List.length_nil, show ((0 : Nat) + 1 + 1 = 2) = True by simp, if_true] at q
    rw [if_pos rfl]
    by_cases ha : 1 ≤ a ∧ a ≤ 1000000000000000000 ∧ a ≠ 0
    · rw [if_pos ha] at q
      rw [if_pos ha]
      refine ⟨_, by rw [hL1.led]; rfl, rfl, by decide, .cell L, p, p1, p2, ⟨[z, z2], pe, d, a⟩, b, ps, c, rfl, hL1.cal, ⟨_, by rw [insD_cell, hL1.led]; rfl, rfl⟩, hck, hc, nb, ok, .inr rfl, fun y hy => ?_, ?_⟩
      · simp only [List.mem_cons, List.not_mem_nil, or_false] at hy
        rcases hy with rfl | rfl
        · exact hz
        · exact hz2
      · by_cases ho : ordB ps (pe, d, a) = true
        · rw [if_pos ho] at q
          rw [if_pos ho]
          by_cases hmx : maxPay b [z, z2] = 60
          · rw [if_pos hmx] at q
            rw [if_pos hmx]
            exact .drop sb q
          · rw [if_neg hmx] at q
            rw [if_neg hmx]
            have sb2 := sub_put' (c := .ins C.Books (bkV (withU b ⟨[z, z2], pe, d, a⟩) (.cell p1) (.cell p2))) (sub_put' (c := .dk (datK (dueK (withU b ⟨[z, z2], pe, d, a⟩)))) sb f2) fp
            have hL2 := hL.sub sb2
            refine ⟨_, by rw [hL2.led]; rfl, rfl, by decide, L, _, .cell p, b, ps, pa, fu, past, rfl, hL2, hpl, fun f' hf => opFin fp f1 f2 sb2 (bkU nb) hL hf (q f' (none_sub sb2 hf))⟩
        · rw [if_neg ho] at q
          rw [if_neg ho]
          exact .drop sb q
    · rw [if_neg ha] at q
      rw [if_neg ha]
      exact .drop sb q
end DL
set_option maxRecDepth 100000
set_option maxHeartbeats 4000000
namespace DL
open PySem L2
local macro_rules | `(tactic| walk_at "dl") => `(tactic| simp only [wBestI, wIxS, wDGetV, wDInV, wDLen, wDCopy, wDDel, wDPut, wDNewK, wSortVI, wSortVS, wMakeK, gS, wFldI, wConI, wPropI, wMethI, wMethX, wAlt, wAltS, wCallX, wRaise, wRaise1, wRaise2, wCm, wCm0, noX, xw, insD_obj, insD_cell, coIns_ins, wSt, wLenS, wAll, wCntF, wIdxF, wSplit, wTryAs, wAsD, unE, wIsE, wXf, wIsiO, LamD.wOut, LamD.wLamMk, LamD.wAct, Dat.str.injEq, Dat.obj.injEq, wAbs, wCatS, wExt, wListOf, wiStr, wFld, wSetF, wMeth, wMake, wGMeth, wGCall, wDNewK, wDNewT, CO.ins.injEq, CO.dk.injEq, CO.dt.injEq, Cells.put_put, wRet, wRetN, wSeq, wAsg, wIfS, wDrop, wNext, wVar, wC, wOp, wUn, wFn, wNil, wCons, wTest, wNot, wAnd, wOr, wAndV, wOrV, wNotV, wIf, wChain, wTup, wLst, wCall, wNever, gN, gT, gNil, gCons, gIx, wI, wI0, wNeg, wMax2, wMin2, wLen, wIsN, wNotN, isNon_non, isNon_bl, isNon_int, isNon_str, isNon_lst, isNon_tup, isNon_cell, wIx, wTuple, wAug, wAugIx, wPar, wPar3, wSlL, wSlT, wPart, wNoPart, wCatT, wIsi, wIsi2, isiT, tyD_non, tyD_bl, tyD_int, tyD_str, tyD_lst, tyD_tup, tyD_cell, coTy_lst, seqD_lst, seqD_tp, seqD_cell, coSeq_lst, seen_dat, seen_cell, coDat_lst, startD, wYes, wApp, wEq_int, wEq_bl, allDat_nil, allDat_cons, allDat_map, Option.map_some, List.map_cons, List.map_nil, List.cons_append, List.nil_append, List.length_cons, List.length_nil, List.replicate, List.getElem?_cons_zero, List.getElem?_cons_succ, List.set_cons_zero, List.set_cons_succ, Option.some.injEq, exists_eq_left', exists_eq_left, exists_and_left, exists_eq', exists_eq, Vl.dat.injEq, Vl.raw.injEq, V.ref.injEq, CO.lst.injEq, Dat.int.injEq, Dat.bl.injEq, Dat.tup.injEq, Dat.lst.injEq, List.cons.injEq, and_true, true_and, retE, Nat.reduceAdd, Nat.reduceSub, and_assoc, Prod.mk.injEq, if_true, if_false, Bool.false_eq_true, decide_eq_true_eq, Bool.not_true, Bool.not_false, Bool.not_eq_true', decide_eq_false_iff_not, if_false_left, if_false_right, beq_iff_eq, Bool.or_eq_true, Bool.and_eq_true, Bool.or_self, Bool.or_true, Bool.true_or, Bool.or_false, Bool.false_or, decide_true, decide_false, reduceCtorEq, Cells.put_same, gt_iff_lt, ge_iff_le, beq_self_eq_true, bne_self_eq_false, Bool.decide_eq_true, not_true_eq_false, not_false_eq_true, Decidable.not_not, false_and, and_false, Bool.not_eq_false, at_0, at_1, at_2, at_3, at_4, at_5, ix_0, ix_1, ix_2, ix_3, Nat.reduceLT, Int.reduceLT, Int.reduceLE, Int.reduceNeg, Int.reduceAdd, Int.reduceSub, Int.reduceEq, Int.reducePow, Int.reduceToNat, Cells.put_put])
theorem madeR_ok {C : CE} {kd n : Str} {l bal c : Int} {d : Dat} (h : madeR C kd n l bal c = .ok d) : ∃ k, d = acctD C k n l bal c := by
  unfold madeR at h
  by_cases h1 : kd = "open" ∨ kd = "limited" ∨ kd = "savings"
  · rw [if_pos h1] at h
    by_cases h2 : nameB n = true
    · rw [if_pos h2] at h
      by_cases h3 : 0 ≤ l ∧ l ≤ (if kd = "limited" then 1000000000000000000 else 0)
      · rw [if_pos h3] at h
        by_cases h4 : kd ≠ "open" ∧ bal < 0 - l
        · rw [if_pos h4] at h; cases h
        · rw [if_neg h4] at h; cases h; exact ⟨_, rfl⟩
      · rw [if_neg h3] at h; cases h
    · rw [if_neg h2] at h; cases h
  · rw [if_neg h1] at h; cases h
/-- the ledger at L holds these books, in cells or frozen -/
def hasBk (C : CE) (cs : Cells) (L : Addr) (b : Bk) : Prop := ∃ gs x, coIns (cs L) = some (C.Ledger, gs) ∧ gs.lookup ("books" : Str) = some x ∧ isBk C cs x b
theorem isLed.has {C : CE} {cs : Cells} {L pa : Addr} {ps : List Int} {b : Bk} {fu : Vl} {past : List Vl} (h : isLed C cs L ps b pa fu past) : hasBk C cs L b := ⟨_, _, by rw [h.led]; rfl, rfl, isBk_dat⟩
def sp_Ledger_names (C : CE) : DSp := fun xs cs Q _ => ∃ (L : Addr) (b : Bk), xs = [.cell L] ∧ hasBk C cs L b ∧ b.accs.length < 64 ∧ ∀ ys : List Str, ys.Perm (b.accs.map (·.1)) → PyProof.Rows.sortedS ys = true → Q (.dat (.lst (ys.map .str))) cs
theorem len_Ledger_names {C : CE} : ∀ xs cs Q XP, sp_Ledger_names C xs cs Q XP → xs.length = 1 := by rintro xs cs Q XP ⟨L, b, rfl, _⟩; rfl
def sp_Ledger___init__ (C : CE) : DSp := fun xs cs Q _ => ∃ (L : Addr) (ps : List Int) (d : Int), xs = [.cell L, .dat (cal ps), .int d] ∧ CalOk ps ∧ cs L = some (.ins C.Ledger []) ∧ ∀ pa f', cs pa = none → cs f' = none → pa ≠ f' → Q .non (ledE C cs L pa f' ps ⟨d, [], [], 1⟩ [])
theorem len_Ledger___init__ {C : CE} : ∀ xs cs Q XP, sp_Ledger___init__ C xs cs Q XP → xs.length = 3 := by rintro xs cs Q XP ⟨L, ps, d, rfl, _⟩; rfl
/-- Ledger.__init__: slots 0 self, 1 calendar, 2 day -/
def w_Ledger___init__ (K : Frag) (C : CE) (W0 : DXP) : WS := (wSeq (wDrop (wCallX (sp_validate_calendarX C) (xw W0) (wCons (wVar 1) wNil)))
    (wSeq (wSetF C.Ledger "periods" (wVar 0) (wVar 1))
    (wSeq (wSetF C.Ledger "books" (wVar 0) (wMake C.Books (sp_Books___init__ C) (wCons (wVar 2) (wCons wDNewK (wCons wDNewK (wCons (wC (.int 1)) wNil))))))
    (wSeq (wSetF C.Ledger "past" (wVar 0) (wLst wNil))
    (wSetF C.Ledger "future" (wVar 0) (wLst wNil))))))
/-- Ledger.names: slots 0 self -/
def w_Ledger_names (K : Frag) (C : CE) : WS := (wRet (wFn wSortVS (wCons (wFldI C.Books "accounts" (wFldI C.Ledger "books" (wVar 0))) wNil)))
theorem pure_Ledger_names (K : Frag) (C : CE) : ∀ xs cs Q XP, sp_Ledger_names C xs cs Q XP → w_Ledger_names K C (retE K Q) (startD 1 xs) cs := by
  rintro xs cs Q XP ⟨L, b, rfl, ⟨gs, x, hg, hb, ax, dx, hx, ha, hd⟩, h64, q⟩
  unfold w_Ledger_names
  walk_at "dl"
  refine ⟨_, hg, _, hb, _, hx, _, rfl, _, ha, b.accs.map (·.1), by simp [datK, accK], by simpa using h64, fun ys pm hs => .inr ⟨ys.map .str, ?_, .now (q ys pm hs)⟩⟩
  rw [show (ys.map fun i => Vl.dat (.str i)) = (ys.map Dat.str).map .dat by simp [Function.comp_def]]
  exact allDat_map _
theorem pure_Ledger___init__ (K : Frag) (C : CE) : ∀ xs cs Q XP, sp_Ledger___init__ C xs cs Q XP → w_Ledger___init__ K C (GhX K XP) (retE K Q) (startD 3 xs) cs := by
  rintro xs cs Q XP ⟨L, ps, d, rfl, hck, hL, q⟩
  unfold w_Ledger___init__
  walk_at "dl"
  refine ⟨ps, rfl, hck, _, hL, by simp, fun p1 f1 p2 f2 p fp => ?_⟩
  obtain ⟨n1L, g1⟩ := put_none f1
  obtain ⟨n21, f2'⟩ := put_none f2
  obtain ⟨n2L, g2⟩ := put_none f2'
  obtain ⟨np2, fp'⟩ := put_none fp
  obtain ⟨np1, fp''⟩ := put_none fp'
  obtain ⟨npL, gp⟩ := put_none fp''
  refine ⟨p, d, .cell p1, .cell p2, 1, rfl, Cells.put_same, rfl, ?_⟩
  rw [Cells.put_put]
  refine ⟨putV "periods" (.dat (cal ps)) [], by rw [Cells.put_ne npL.symm, Cells.put_ne n2L.symm, Cells.put_ne n1L.symm, Cells.put_same], (show 1 < 1000 by decide), by decide, .inl fun pa fpa => ?_⟩
  obtain ⟨naL, fpa1⟩ := put_none fpa
  obtain ⟨nap, fpa2⟩ := put_none fpa1
  obtain ⟨na2, fpa3⟩ := put_none fpa2
  obtain ⟨na1, fpa4⟩ := put_none fpa3
  obtain ⟨_, ga⟩ := put_none fpa4
  refine ⟨[("periods", .dat (cal ps)), ("books", .cell p)], by rw [Cells.put_ne naL.symm]; exact Cells.put_same, (show 2 < 1000 by decide), by decide, .inl fun f' ff => ?_⟩
  obtain ⟨nfL, ff1⟩ := put_none ff
  obtain ⟨nfa, ff2⟩ := put_none ff1
  obtain ⟨_, ff3⟩ := put_none ff2
  obtain ⟨nfp, ff4⟩ := put_none ff3
  obtain ⟨nf2, ff5⟩ := put_none ff4
  obtain ⟨nf1, ff6⟩ := put_none ff5
  obtain ⟨_, gf⟩ := put_none ff6
  refine ⟨[("periods", .dat (cal ps)), ("books", .cell p), ("past", .cell pa)], by rw [Cells.put_ne nfL.symm]; exact Cells.put_same, (show 3 < 1000 by decide), ?_⟩
  have q' := q pa f' ga gf nfa.symm
  generalize hcs8 : Cells.put (Cells.put _ f' _) L _ = c8
  have e8 : c8 L = some (.ins C.Ledger [("periods", .dat (cal ps)), ("books", .cell p), ("past", .cell pa), ("future", .cell f')]) := by
    rw [← hcs8, Cells.put_same]; rfl
  have ep : c8 p = some (.ins C.Books (bkV ⟨d, [], [], 1⟩ (.cell p1) (.cell p2))) := by
    rw [← hcs8]
    simp only [Cells.put, npL, nfp.symm, nap.symm, if_true, if_false]; rfl
  have ep1 : c8 p1 = some (.dk (datK (accK ⟨d, [], [], 1⟩))) := by
    rw [← hcs8]
    simp only [Cells.put, n1L, nf1.symm, na1.symm, np1.symm, n21.symm, if_true, if_false]; rfl
  have ep2 : c8 p2 = some (.dk (datK (dueK ⟨d, [], [], 1⟩))) := by
    rw [← hcs8]
    simp only [Cells.put, n2L, nf2.symm, na2.symm, np2.symm, if_true, if_false]; rfl
  refine GhC.ghk (GhC.trans (frzLed e8 ep ep1 ep2 n21.symm) (.sub ?_)) q'
  · intro a x e
    unfold ledE at e
    by_cases hA : a = L
    · subst hA
      rw [Cells.put_same] at e ⊢
      exact e
    · rw [Cells.put_ne hA] at e ⊢
      have nap' : a ≠ p ∧ a ≠ p1 ∧ a ≠ p2 := by
        by_cases hf : a = f'
        · subst hf; exact ⟨nfp, nf1, nf2⟩
        · rw [Cells.put_ne hf] at e
          by_cases ha : a = pa
          · subst ha; exact ⟨nap, na1, na2⟩
          · rw [Cells.put_ne ha] at e
            exact ⟨fun z => (by rw [z, gp] at e; cases e), fun z => (by rw [z, g1] at e; cases e), fun z => (by rw [z, g2] at e; cases e)⟩
      obtain ⟨h0, h1, h2⟩ := nap'
      rw [← hcs8]
      simp only [Cells.put, Cells.del, hA, h0, h1, h2, if_false] at e ⊢
      exact e
end DL
set_option maxRecDepth 100000
set_option maxHeartbeats 4000000
namespace DL
open PySem L2 PySem.Spec PyProof.Rows
def wPop (wo : WE) : WE := fun ρ cs P => wo ρ cs fun o cs1 => ∃ a xs y, o = .cell a ∧ cs1 a = some (.lst xs) ∧ xs.getLast? = some y ∧ P y (cs1.put a (.lst xs.dropLast))
def wEqNil (neg : Bool) : W2 := fun x y cs P => ∃ xs, seqD cs x = some (true, xs) ∧ seqD cs y = some (true, []) ∧ P (.dat (.bl (if neg then !xs.isEmpty else xs.isEmpty))) cs
theorem paired_dropLast {α β : Type} {R : α → β → Prop} {xs : List α} {ys : List β} (h : Paired R xs ys) : Paired R xs.dropLast ys.dropLast := by
  rw [List.dropLast_eq_take, List.dropLast_eq_take, Paired.len h]
  exact Paired.take _ h
section
variable {X : Cx} {a b e o : Expr} {es : List Expr} {wa wb wo : WE} {wr : WA} {pos : Pos}
theorem de_pop {apos cpos : Pos} (ho : DE X o wo) (hbase : attributeBase o "pop" X.env (eval o X.env) = eval o X.env := by rfl) (hline : (apos.endLine == cpos.line) = true := by rfl) : DE X (.Call (.Attribute o "pop" apos) [] [] cpos) (wPop wo) :=
  pe_imp (pe_bm0 PySem.F.plainAttrs_list PySem.F.slot_list_pop PySem.F.type_list_pop mt_pop ho hbase hline) fun σ H Q ⟨M, ρ, cs, P, o, r0, p, k⟩ => by
    refine ⟨M, ρ, cs, _, o, r0, p, fun v x M1 H1 cs1 s1 o1 r1 ⟨a, xs, y, ea, hc, hy, p1⟩ => ?_⟩
    subst ea
    have e1 : v = .ref a := r1
    subst e1
    obtain ⟨ys, hyy, py⟩ := cell_lst o1 hc
    rw [List.getLast?_eq_getElem?] at hy
    obtain ⟨z, hz, rz⟩ := Paired.getR py hy
    refine ⟨.inl ⟨rfl, _, .inl (.inl hyy)⟩, a, ys, z, rfl, rfl, hyy, by rw [Paired.len py]; exact hz, ?_⟩
    exact k _ _ M1 _ _ s1 (o1.setC hc (c := .lst xs.dropLast) (paired_dropLast py)) rz p1
def rEqNil (K : Frag) : R2 := fun x y H Q => ∃ a b xs, x = V.ref a ∧ y = V.ref b ∧ SqL K H a xs ∧ SqL K H b [] ∧ Q (.bl xs.isEmpty) H
theorem op_eqNil (hu : X.A.units + 64 < cLine) : OpR X (compareOp .Eq) (rEqNil X.K) := by
  intro pins s σ H x y v u Q I rx ry h
  obtain ⟨a, b, xs, rfl, rfl, ha, hb, q⟩ := h
  obtain rfl : v = Value.ref a := rx
  obtain rfl : u = Value.ref b := ry
  obtain ⟨its, r1, p1, z1⟩ := I.list ha
  obtain ⟨its2, r2, p2, z2⟩ := I.list hb
  cases r2
  have hl := r1.length
  cases xs with
  | nil =>
    cases r1
    exact SeqAt.eq_listAt (e := fun _ => true) p1.isList p2.isList rfl (by omega) (fun j h1 h2 => absurd h1 (by simp)) ⟨.bl true, H, I, rfl, q⟩
  | cons x xs =>
    refine SeqAt.eq_list_lengthsAt p1.isList p2.isList ?_ (by omega) ⟨.bl false, H, I, rfl, q⟩
    rw [List.size_toArray, ← hl]
    rfl
theorem c_eqNil (hu : X.A.units + 64 < cLine) : CmpD X .Eq (wEqNil false) := ⟨⟨_, op_eqNil hu, fun M H cs x y a b P Q o rx ry ⟨xs, h1, h2, p⟩ k => by
  obtain ⟨ad, vs, ea, q, pr⟩ := seqD_list o rx h1
  obtain ⟨ad2, vs2, ea2, q2, pr2⟩ := seqD_list o ry h2
  cases pr2
  refine ⟨ad, ad2, vs, ea, ea2, q, q2, ?_⟩
  have e : vs.isEmpty = xs.isEmpty := by
    cases pr <;> rfl
  rw [e]
  exact k _ _ M H cs (Same.refl _) o (rv_dat (.bl _)) p⟩, by decide⟩
end
/-- x, y = a, b where what is read may raise -/
theorem ds_par0 {X : Cx} {M0 : Hp} {a b : Expr} {wr : WA} {pos : Pos} {i j : Nat} {x y : Str} {px py pt pt2 : Pos} {kt k2 : Nat} (hc : X.calm = true) (hN : X.N.Nodup) (ha : DA0 X M0 [a, b] wr) (hi : X.N[i]? = some x := by rfl) (hj : X.N[j]? = some y := by rfl) (hij : i ≠ j := by decide)
    (hx : X.env.scope.names.lookup x = some .local := by rfl) (hy : X.env.scope.names.lookup y = some .local := by rfl)
    (hw : swappedStores [.Tuple [.Name x px, .Name y py] kt pt] (.Tuple [a, b] k2 pt2) X.env = pure (some [x, y]) := by rfl)
    (hs : swapsWithSole [.Tuple [.Name x px, .Name y py] kt pt] (.Tuple [a, b] k2 pt2) pos.line X.env = pure false := by rfl) :
    DS0 X M0 (.Assign [.Tuple [.Name x px, .Name y py] kt pt] (.Tuple [a, b] k2 pt2) pos) (wPar i j wr) :=
  ps_imp (ps_par hc hN hi hj hij hx hy ha hw hs) fun E σ H ⟨M, ρ, cs, D, sm, o, r, h, e⟩ => ⟨M, ρ, cs, _, sm, o, r, h, fun vs xs M' H' cs' s o' rv ⟨x1, y1, ex, p⟩ => by
    subst ex
    cases rv with
    | cons r1 rr =>
      cases rr with
      | cons r2 rr =>
        cases rr
        exact ⟨_, _, rfl, e.nx _ _ M' H' cs' s o' (((r.mono s).set r1).set r2) p⟩⟩
def spStar (K : Frag) (n : Nat) (dsp : DSp) : Sp := fun vs H Q E => ∃ ws rest, vs = ws ++ rest ∧ ws.length = n ∧ rest.length ≤ sizeLine ∧ ∀ p, H p = none → liftSp K dsp (ws ++ [V.ref p]) (upd H p (.tup rest)) Q E
structure DMokS (P : Program) (w : World) (K : Frag) (mg : Str → Option Value) (base : Heap) (C : Addr) (m : Str) (n k : Nat) (dsp : DSp) : Prop where
  ex : ∃ f, FnR P w K mg base CX0 k f (spStar K n dsp) ∧ Cls K C ∧ Meth K C m f
def wMethS (C : Addr) (m : Str) (n : Nat) (dsp : DSp) (wo : WE) (wr : WA) : WE := fun ρ cs P => wo ρ cs fun x cs1 => ∃ gs, insD cs1 x = some (C, gs) ∧ gs.lookup m = none ∧ wr ρ cs1 fun xs cs2 => ∃ ys ds, x :: xs = ys ++ ds.map .dat ∧ ys.length = n ∧ ds.length ≤ 16777216 ∧ dsp (ys ++ [.dat (.tup ds)]) cs2 P X0
theorem fn_dataS {P : Program} {w : World} {K : Frag} {mg : Str → Option Value} {base : Heap} {x qual : Str} {st : Stmt} {f : Addr} {fd : FuncData} {N ps : List Str} {pv : Str} {k : Nat} {dsp : DSp} {ws : WS} (F : Fun K x qual st f fd) (S : FnScope N (ps ++ [pv]) (defScope st))
    (hb : ∀ (kV doc pm : Value) (an : Option Addr) (cdv ct : Value) (us rest : List Value), us.length = ps.length → bindArgs (PySem.W.fnOf x qual (defArgs st) (defBody st) (defScope st) .none kV doc pm an cdv ct) ⟨us ++ rest, []⟩ = (newTuple rest >>= fun t => pure (ps.zip us ++ [(pv, t)])))
    (body : ∀ (cdv : Value) (A : Around) (outer : List Env) (s : Shared) (H : Hp) (E : XK), Room k (A.deeper (PyProof.Rows.envOfC qual (defScope st) s.heap.objs.size f cdv)) → DSs (cxOf CX0 P w K mg base N qual (defScope st) f cdv A outer s H E).nox (defBody st) ws)
    (pure : ∀ xs cs Q XP, dsp xs cs Q XP → ws (retE K Q) (startD N.length xs) cs) : FnR P w K mg base CX0 (k + 1) f (spStar K ps.length dsp) := by
  obtain ⟨oc, od, kV, doc, pm, an, cdv, ct, osl, rfl, lk, hcd⟩ := F.ex
  refine (StX.fn_star (sp := liftSp K dsp) lk hcd S StX.cxUp_none (hb kV doc pm an cdv ct) fun A outer s H vs Q E hr ⟨M, xs, cs, P', XP, o, r, d, kk, _⟩ => ⟨_, (body cdv A outer s H E hr).nox, ?_⟩).imp fun vs H Q E h => h
  exact ⟨M, startD N.length xs, cs, retE K P', o, start_rho r, pure xs cs P' XP d, ⟨fun σ' ρ' M' H' cs' s o' _ p => kk.gh _ _ M' H' cs' s o' (rv_dat .non) p, kk.gh, fun _ _ _ _ _ _ _ _ p => p.elim, fun _ _ _ _ _ _ _ _ p => p.elim⟩⟩
section
variable {X : Cx} {e o : Expr} {es : List Expr} {wo : WE} {wr : WA} {pos apos : Pos} {C : Addr} {m : Str} {k n : Nat} {dsp : DSp}
theorem paired_split {α β : Type} {R : α → β → Prop} : ∀ {ys zs : List β} {vs : List α}, Paired R vs (ys ++ zs) → ∃ u1 u2, vs = u1 ++ u2 ∧ Paired R u1 ys ∧ Paired R u2 zs
  | [], _, vs, h => ⟨[], vs, rfl, .nil, h⟩
  | _ :: ys, _, _, .cons h t => by
    obtain ⟨u1, u2, e, p1, p2⟩ := paired_split (ys := ys) t
    subst e
    exact ⟨_ :: u1, u2, rfl, .cons h p1, p2⟩
theorem drAll_of' {K : Frag} {M : Hp} : ∀ {ds : List Dat} {vs : List V}, Paired (RV K M) vs (ds.map .dat) → DrAll K M vs ds
  | [], _, .nil => .nil
  | _ :: _, _, .cons h t => .cons h (drAll_of' t)
theorem star_use {K : Frag} {M H : Hp} {cs : Cells} {vs : List V} {xs ys : List Vl} {ds : List Dat} {P : Vl → Cells → Prop} {Q : VK} (o : Ok K M H cs) (r : Paired (RV K M) vs xs) (e : xs = ys ++ ds.map .dat) (hn : ys.length = n) (hz : ds.length ≤ 16777216) (p : dsp (ys ++ [.dat (.tup ds)]) cs P X0) (kk : Kont K M P Q) : spStar K n dsp vs H Q E0 := by
  subst e
  obtain ⟨u1, u2, ev, p1, p2⟩ := paired_split r
  have hl := Paired.len p2
  rw [List.length_map] at hl
  refine ⟨u1, u2, ev, (Paired.len p1).trans hn, by rw [hl, sizeLine_eq]; exact hz, fun q hq => ?_⟩
  obtain ⟨sm, o2⟩ := o.newM hq (.tup u2)
  have rt : RV K (upd M q (.tup u2)) (V.ref q) (.dat (.tup ds)) := Dr.tup (.inl (.inl upd_same)) (drAll_of' (paired_mono (fun _ _ z => RV.mono sm z) p2))
  exact ⟨_, _, cs, P, X0, o2, Paired.app (paired_mono (fun _ _ z => RV.mono sm z) p1) (.cons rt .nil), p, kk.mono sm, fun _ _ _ _ _ _ _ _ _ z => z.elim⟩
theorem de_methSn {pl : Sem Bool} (G : DMokS X.prog X.w X.K X.mg X.base C m n k dsp) (hr : Room k X.A) (ho : DE X o wo)
    (ht : eval (.Call (.Attribute o m apos) [] [] pos) X.env = (eval o X.env >>= fun ov => standAt apos.atName >>= fun _ => holding [ov] (getMethod ov m pl) >>= fun q => callWith pos q.1 q.2 (backTo pos (starEach [] X.env)) (backToKw pos (keywordEach [] X.env))) := by rfl) : DE X (.Call (.Attribute o m apos) [] [] pos) (wMethS C m n dsp wo wNil) := by
  obtain ⟨f, F, hc, hm⟩ := G.ex
  refine ⟨fun pins s σ H Q I ⟨M, ρ, cs, P, ok, r0, p, kk⟩ => ?_⟩
  refine PySem.W.methodCall_KW (pl := pl) (thn (ho.run pins s σ H (fun v H1 => ∃ M1 x cs1, Same M M1 ∧ Ok X.K M1 H1 cs1 ∧ RV X.K M1 v x ∧ ∃ gs, insD cs1 x = some (C, gs) ∧ gs.lookup m = none ∧ wNil ρ cs1 fun xs cs2 => ∃ ys ds, x :: xs = ys ++ ds.map .dat ∧ ys.length = n ∧ ds.length ≤ 16777216 ∧ dsp (ys ++ [.dat (.tup ds)]) cs2 P X0) I ⟨M, ρ, cs, _, ok, r0, p, fun v x M1 H1 cs1 s1 o1 r1 p1 => ⟨M1, x, cs1, s1, o1, r1, p1⟩⟩) fun u s1 ⟨v, H1, I1, ru, q⟩ => ?_) ht
  obtain ⟨M1, x, cs1, sm, o1, r1, gs, hi, hl, ys, ds, e1, e2, e3, p2⟩ := q
  obtain ⟨a, dx, fs, ev, hH, pr⟩ := insD_ok o1 r1 hi
  subst ev
  obtain rfl : u = Value.ref a := ru
  refine getmeth_ok I1 hH hc hm ((fr_lookup pr).2 hl) ?_
  exact PySem.W.callWith_K0 (first := [.ref a]) I1.kIn hm.kp (wpAny_call (run_fnR (us := [.ref a]) (vs := [.ref a]) F hr pass0 I1 (.cons rfl .nil) (star_use o1 (.cons r1 .nil) e1 e2 e3 p2 (kk.mono sm))))
end
end DL
set_option maxRecDepth 100000
set_option maxHeartbeats 4000000
namespace DL
open PySem L2
local macro_rules | `(tactic| walk_at "dl") => `(tactic| simp only [wPop, wEqNil, wMethS, wBestI, wIxS, wDGetV, wDInV, wDLen, wDCopy, wDDel, wDPut, wDNewK, wSortVI, wSortVS, wMakeK, gS, wFldI, wConI, wPropI, wMethI, wMethX, wAlt, wAltS, wCallX, wRaise, wRaise1, wRaise2, wCm, wCm0, noX, xw, insD_obj, insD_cell, coIns_ins, wSt, wLenS, wAll, wCntF, wIdxF, wSplit, wTryAs, wAsD, unE, wIsE, wXf, wIsiO, LamD.wOut, LamD.wLamMk, LamD.wAct, Dat.str.injEq, Dat.obj.injEq, wAbs, wCatS, wExt, wListOf, wiStr, wFld, wSetF, wMeth, wMake, wGMeth, wGCall, wDNewK, wDNewT, CO.ins.injEq, CO.dk.injEq, CO.dt.injEq, Cells.put_put, wRet, wRetN, wSeq, wAsg, wIfS, wDrop, wNext, wVar, wC, wOp, wUn, wFn, wNil, wCons, wTest, wNot, wAnd, wOr, wAndV, wOrV, wNotV, wIf, wChain, wTup, wLst, wCall, wNever, gN, gT, gNil, gCons, gIx, wI, wI0, wNeg, wMax2, wMin2, wLen, wIsN, wNotN, isNon_non, isNon_bl, isNon_int, isNon_str, isNon_lst, isNon_tup, isNon_cell, wIx, wTuple, wAug, wAugIx, wPar, wPar3, wSlL, wSlT, wPart, wNoPart, wCatT, wIsi, wIsi2, isiT, tyD_non, tyD_bl, tyD_int, tyD_str, tyD_lst, tyD_tup, tyD_cell, coTy_lst, seqD_lst, seqD_tp, seqD_cell, coSeq_lst, seen_dat, seen_cell, coDat_lst, startD, wYes, wApp, wEq_int, wEq_bl, allDat_nil, allDat_cons, allDat_map, Option.map_some, List.map_cons, List.map_nil, List.cons_append, List.nil_append, List.length_cons, List.length_nil, List.replicate, List.getElem?_cons_zero, List.getElem?_cons_succ, List.set_cons_zero, List.set_cons_succ, Option.some.injEq, exists_eq_left', exists_eq_left, exists_and_left, exists_eq', exists_eq, Vl.dat.injEq, Vl.raw.injEq, V.ref.injEq, CO.lst.injEq, Dat.int.injEq, Dat.bl.injEq, Dat.tup.injEq, Dat.lst.injEq, List.cons.injEq, and_true, true_and, retE, Nat.reduceAdd, Nat.reduceSub, and_assoc, Prod.mk.injEq, if_true, if_false, Bool.false_eq_true, decide_eq_true_eq, Bool.not_true, Bool.not_false, Bool.not_eq_true', decide_eq_false_iff_not, if_false_left, if_false_right, beq_iff_eq, Bool.or_eq_true, Bool.and_eq_true, Bool.or_self, Bool.or_true, Bool.true_or, Bool.or_false, Bool.false_or, decide_true, decide_false, reduceCtorEq, Cells.put_same, gt_iff_lt, ge_iff_le, beq_self_eq_true, bne_self_eq_false, Bool.decide_eq_true, not_true_eq_false, not_false_eq_true, Decidable.not_not, false_and, and_false, Bool.not_eq_false, at_0, at_1, at_2, at_3, at_4, at_5, ix_0, ix_1, ix_2, ix_3, Nat.reduceLT, Int.reduceLT, Int.reduceLE, Int.reduceNeg, Int.reduceAdd, Int.reduceSub, Int.reduceEq, Int.reducePow, Int.reduceToNat, Cells.put_put])
def leS (a b : Str) : Bool := !PySem.Spec.ltCps b.cps.toList a.cps.toList
theorem ltCps_anti : ∀ {a b : List Nat}, PySem.Spec.ltCps a b = false → PySem.Spec.ltCps b a = false → a = b
  | [], [], _, _ => rfl
  | [], _ :: _, h, _ => by simp [PySem.Spec.ltCps] at h
  | _ :: _, [], _, h => by simp [PySem.Spec.ltCps] at h
  | a :: r, b :: t, h, h' => by
    simp only [PySem.Spec.ltCps, Bool.or_eq_false_iff, decide_eq_false_iff_not, Bool.and_eq_false_iff, beq_eq_false_iff_ne] at h h'
    have e : a = b := by omega
    subst e
    rw [ltCps_anti (h.2.resolve_left (fun z => z rfl)) (h'.2.resolve_left (fun z => z rfl))]
theorem ltCps_trans : ∀ {a b c : List Nat}, PySem.Spec.ltCps b a = false → PySem.Spec.ltCps c b = false → PySem.Spec.ltCps c a = false
  | [], b, c, _, h => by
    cases c with
    | nil => rfl
    | cons _ _ => rfl
  | a :: r, [], c, h, _ => by simp [PySem.Spec.ltCps] at h
  | a :: r, b :: t, [], _, h => by simp [PySem.Spec.ltCps] at h
  | a :: r, b :: t, c :: u, h, h' => by
    simp only [PySem.Spec.ltCps, Bool.or_eq_false_iff, decide_eq_false_iff_not, Bool.and_eq_false_iff, beq_eq_false_iff_ne] at h h' ⊢
    refine ⟨by omega, ?_⟩
    by_cases e : c = a
    · right
      have e1 : b = a := by omega
      have e2 : c = b := by omega
      exact ltCps_trans (h.2.resolve_left (fun z => z e1)) (h'.2.resolve_left (fun z => z e2))
    · exact .inl e
theorem ltCps_asym : ∀ {a b : List Nat}, PySem.Spec.ltCps a b = true → PySem.Spec.ltCps b a = false
  | [], [], h => by simp [PySem.Spec.ltCps] at h
  | [], _ :: _, _ => rfl
  | _ :: _, [], h => by simp [PySem.Spec.ltCps] at h
  | a :: r, b :: t, h => by
    simp only [PySem.Spec.ltCps, Bool.or_eq_true, decide_eq_true_eq, Bool.and_eq_true, beq_iff_eq, Bool.or_eq_false_iff, decide_eq_false_iff_not, Bool.and_eq_false_iff, beq_eq_false_iff_ne] at h ⊢
    rcases h with h | ⟨h, k⟩
    · exact ⟨by omega, .inl (by omega)⟩
    · exact ⟨by omega, .inr (ltCps_asym k)⟩
theorem cps_inj {a b : Str} (h : a.cps.toList = b.cps.toList) : a = b := by
  cases a; cases b
  congr 1
  exact Array.toList_inj.mp h
theorem leS_anti {a b : Str} (h : leS a b = true) (h' : leS b a = true) : a = b := by
  simp only [leS, Bool.not_eq_true'] at h h'
  exact cps_inj (ltCps_anti h' h)
theorem leS_trans {a b c : Str} (h : leS a b = true) (h' : leS b c = true) : leS a c = true := by
  simp only [leS, Bool.not_eq_true'] at h h' ⊢
  exact ltCps_trans h h'
theorem leS_total (a b : Str) : (leS a b || leS b a) = true := by
  simp only [leS]
  cases h : PySem.Spec.ltCps b.cps.toList a.cps.toList with
  | false => rfl
  | true => rw [ltCps_asym h]; rfl
theorem risingS_pw : ∀ {p : Str} {l : List Str}, PyProof.Rows.risingS p l = true → (p :: l).Pairwise (fun a b => leS a b = true)
  | p, [], _ => List.pairwise_singleton _ _
  | p, x :: r, h => by
    simp only [PyProof.Rows.risingS, Bool.and_eq_true] at h
    have ih := risingS_pw h.2
    refine List.pairwise_cons.mpr ⟨fun y hy => ?_, ih⟩
    rcases List.mem_cons.mp hy with rfl | hy
    · exact h.1
    · exact leS_trans (show leS p x = true from h.1) ((List.pairwise_cons.mp ih).1 y hy)
theorem sortedS_pw : ∀ {l : List Str}, PyProof.Rows.sortedS l = true → l.Pairwise (fun a b => leS a b = true)
  | [], _ => .nil
  | _ :: _, h => risingS_pw h
def nms (b : Bk) : List Str := (b.accs.map (·.1)).mergeSort leS
theorem nms_perm (b : Bk) : (nms b).Perm (b.accs.map (·.1)) := List.mergeSort_perm _ _
theorem nms_pw (b : Bk) : (nms b).Pairwise (fun a b => leS a b = true) := List.pairwise_mergeSort (le := leS) (fun _ _ _ h h' => leS_trans h h') leS_total _
theorem names_eq {b : Bk} {ys : List Str} (pm : ys.Perm (b.accs.map (·.1))) (hs : PyProof.Rows.sortedS ys = true) : ys = nms b :=
  List.Perm.eq_of_pairwise (le := fun a b => leS a b = true) (fun a b _ _ h h' => leS_anti h h') (sortedS_pw hs) (nms_pw b) (pm.trans (nms_perm b).symm)
theorem nms_mem {b : Bk} {n : Str} : n ∈ nms b ↔ n ∈ b.accs.map (·.1) := (nms_perm b).mem_iff
theorem nms_len {b : Bk} : (nms b).length = b.accs.length := by rw [(nms_perm b).length_eq, List.length_map]
theorem nms_nodup {b : Bk} (h : (b.accs.map (·.1)).Nodup) : (nms b).Nodup := (nms_perm b).nodup_iff.mpr h
def setA (b : Bk) (n : Str) (q : Acc) : Bk := { b with accs := b.accs.map fun r => if r.1 = n then (r.1, q) else r }
theorem putD_setA {b : Bk} {n : Str} {q q' : Acc} (h : lookA b.accs n = some q') : putD (datK (accK b)) (.inr n) (.dat (accD q)) = datK (accK (setA b n q)) := by
  unfold putD
  have hv : (valD (datK (accK b)) (.inr n)).isSome = true := by rw [valD_accK, h]; rfl
  have hany : ((datK (accK b)).any fun kv => decide (kv.1 = Sum.inr n)) = true := by
    unfold valD at hv
    rw [Option.isSome_map, List.find?_isSome] at hv
    exact List.any_eq_true.mpr hv
  rw [if_pos hany]
  simp only [datK, accK, setA, List.map_map]
  apply List.map_congr_left
  intro r _
  simp only [Function.comp]
  by_cases e : r.1 = n
  · simp [e]
  · have : ¬ (Sum.inr r.1 = (Sum.inr n : Key)) := fun z => e (Sum.inr.inj z)
    simp [e, this]
def sp_Books_add_balance (C : CE) : DSp := fun xs cs Q _ => ∃ (p p1 p2 : Addr) (b : Bk) (n : Str) (amt : Int) (q : Acc), xs = [.cell p, .dat (.str n), .int amt] ∧ isBkC C cs p p1 p2 b ∧ lookA b.accs n = some q ∧ b.accs.length ≤ 20 ∧ Q (.int (q.b + amt)) (cs.put p1 (.dk (datK (accK (setA b n { q with b := q.b + amt })))))
theorem len_Books_add_balance {C : CE} : ∀ xs cs Q XP, sp_Books_add_balance C xs cs Q XP → xs.length = 3 := by rintro xs cs Q XP ⟨p, p1, p2, b, n, amt, q, rfl, _⟩; rfl
def sp_Ledger_today (C : CE) : DSp := fun xs cs Q _ => ∃ (L pa : Addr) (b : Bk) (ps : List Int) (fu : Vl) (past : List Vl), xs = [.cell L] ∧ isLed C cs L ps b pa fu past ∧ Q (.int b.day) cs
theorem len_Ledger_today {C : CE} : ∀ xs cs Q XP, sp_Ledger_today C xs cs Q XP → xs.length = 1 := by rintro xs cs Q XP ⟨L, pa, b, ps, fu, past, rfl, _⟩; rfl
def itemD (q : Int × Due) : Dat := .tup (.int q.1 :: dueL q.2)
def sp_Ledger_orders (C : CE) : DSp := fun xs cs Q _ => ∃ (L pa : Addr) (b : Bk) (ps : List Int) (fu : Vl) (past : List Vl), xs = [.cell L] ∧ isLed C cs L ps b pa fu past ∧ BkOk b ∧ Q (.dat (.lst (b.dues.map itemD))) cs
theorem len_Ledger_orders {C : CE} : ∀ xs cs Q XP, sp_Ledger_orders C xs cs Q XP → xs.length = 1 := by rintro xs cs Q XP ⟨L, pa, b, ps, fu, past, rfl, _⟩; rfl
/-- the ledger and its future -/
structure isLedF (C : CE) (cs : Cells) (L : Addr) (ps : List Int) (b : Bk) (pa fa : Addr) (past fut : List Vl) : Prop where
  led : isLed C cs L ps b pa (.cell fa) past
  fut : cs fa = some (.lst fut)
  nL : L ≠ fa
  nP : pa ≠ fa
def pastD (C : CE) (op : Dat) (b : Bk) : Vl := .dat (.tup [op, bkD C b])
def sp_Ledger_undo (C : CE) : DSp := fun xs cs Q _ => ∃ (L pa fa : Addr) (b : Bk) (ps : List Int) (past fut : List Vl), xs = [.cell L] ∧ isLedF C cs L ps b pa fa past fut ∧ fut.length < 16777216 ∧
  ((past = [] ∧ Q (.bl false) cs) ∨ ∃ past0 op b0, past = past0 ++ [pastD C op b0] ∧ Q (.bl true) (((cs.put pa (.lst past0)).put fa (.lst (fut ++ [pastD C op b]))).put L (.ins C.Ledger (ledF C ps b0 pa (.cell fa)))))
theorem len_Ledger_undo {C : CE} : ∀ xs cs Q XP, sp_Ledger_undo C xs cs Q XP → xs.length = 1 := by rintro xs cs Q XP ⟨L, pa, fa, b, ps, past, fut, rfl, _⟩; rfl
def balOf (b : Bk) (n : Str) : Int := match lookA b.accs n with | some q => q.b | none => 0
def sp_Ledger_total (C : CE) : DSp := fun xs cs Q _ => ∃ (L pa : Addr) (b : Bk) (ps : List Int) (fu : Vl) (past : List Vl) (c : Int) (zs : List Str), xs = [.cell L, .dat (.tup (zs.map .str))] ∧ isLed C cs L ps b pa fu past ∧ ps.getLast? = some c ∧ b.accs.length ≤ 20 ∧ zs.length ≤ 100 ∧ (∀ z ∈ zs, okA C b c z) ∧ (∀ n ∈ nms b, okA C b c n) ∧ Q (.int (((if zs = [] then nms b else zs).map (balOf b)).sum)) cs
def sp_times_dueX (C : CE) : DSp := fun xs cs Q XP => ∃ (ps : List Int) (o : Ord) (f l : Int), xs = [.dat (cal ps), .dat (ord o), .int f, .int l] ∧ CalOk ps ∧ (if ordB ps o = true then Q (.int (daysDue o.1 o.2.1 f l)) cs else XP (.ref C.InvalidOrder) [("index", .int 0)] cs)
theorem len_times_dueX {C : CE} : ∀ xs cs Q XP, sp_times_dueX C xs cs Q XP → xs.length = 4 := by rintro xs cs Q XP ⟨ps, o, f, l, rfl, _⟩; rfl
/-- Books.add_balance: slots 0 self, 1 name, 2 amount, 3 kind, 4 limit, 5 balance -/
def w_Books_add_balance (K : Frag) (C : CE) : WS := (wSeq (wAsg (wOp wDGetV (wFldI C.Books "accounts" (wVar 0)) (wVar 1)) (gT 3 (gCons (gN 3) (gCons (gN 4) (gCons (gN 5) gNil)))))
    (wSeq (wDPut (wFldI C.Books "accounts" (wVar 0)) (wVar 1) (wTup (wCons (wVar 3) (wCons (wVar 4) (wCons (wOp wAdd (wVar 5) (wVar 2)) wNil)))))
    (wRet (wOp wAdd (wVar 5) (wVar 2)))))
/-- Ledger.today: slots 0 self -/
def w_Ledger_today (K : Frag) (C : CE) : WS := (wRet (wFldI C.Books "day_number" (wFldI C.Ledger "books" (wVar 0))))
/-- Ledger.orders: slots 0 self, 1 number -/
def w_Ledger_orders (K : Frag) (C : CE) : WS := (wRet (wLc (wiSeq (wFn wSortVI (wCons (wFldI C.Books "dues" (wFldI C.Ledger "books" (wVar 0))) wNil))) (gN 1) wYes (wOp wCatT (wTup (wCons (wVar 1) wNil)) (wOp wDGetV (wFldI C.Books "dues" (wFldI C.Ledger "books" (wVar 0))) (wVar 1))) [1]))
/-- Ledger.undo: slots 0 self, 1 operation, 2 books -/
def w_Ledger_undo (K : Frag) (C : CE) : WS := (wSeq (wIfS (wTest (wOp (wEqNil false) (wFldI C.Ledger "past" (wVar 0)) (wLst wNil))) (wRet (wC (.bl false))) wNext)
    (wSeq (wAsg (wPop (wFldI C.Ledger "past" (wVar 0))) (gT 2 (gCons (gN 1) (gCons (gN 2) gNil))))
    (wSeq (wDrop (wApp (wFldI C.Ledger "future" (wVar 0)) (wTup (wCons (wVar 1) (wCons (wFldI C.Ledger "books" (wVar 0)) wNil)))))
    (wSeq (wSetF C.Ledger "books" (wVar 0) (wVar 2))
    (wRet (wC (.bl true)))))))
/-- Ledger.total: slots 0 self, 1 names, 2 chosen, 3 name -/
def w_Ledger_total (K : Frag) (C : CE) : WS := (wSeq (wAsg (wIf (wTest (wOp (wEqD true) (wVar 1) (wTup wNil))) (wVar 1) (wFn wTuple (wCons (wPropI C.Ledger (sp_Ledger_names C) (wVar 0)) wNil))) (gN 2))
    (wRet (wFn wSum (wCons (wLc (wiSeq (wVar 2)) (gN 3) wYes (wAlt (wPropI C.Account (sp_Account_balance C) (wMethI C.Ledger "account" (noX (sp_Ledger_account C)) (wVar 0) (wCons (wVar 3) wNil))) (wAlt (wPropI C.LimitedAccount (sp_Account_balance C) (wMethI C.Ledger "account" (noX (sp_Ledger_account C)) (wVar 0) (wCons (wVar 3) wNil))) (wPropI C.SavingsAccount (sp_Account_balance C) (wMethI C.Ledger "account" (noX (sp_Ledger_account C)) (wVar 0) (wCons (wVar 3) wNil))))) [3]) wNil))))
/-- times_due: slots 0 calendar, 1 order, 2 first, 3 last -/
def w_times_dueX (K : Frag) (C : CE) (W0 : DXP) : WS := (wSeq (wDrop (wCallX (sp_validate_ordersX C) (xw W0) (wCons (wVar 0) (wCons (wLst (wCons (wVar 1) wNil)) wNil))))
    (wRet (wCall sp_days_due (wCons (wOp wIx (wVar 1) (wC (.int 0))) (wCons (wOp wIx (wVar 1) (wC (.int 1))) (wCons (wVar 2) (wCons (wVar 3) wNil)))))))
/-- a list comprehension over what a list maps to, whose parts do not touch the cells -/
theorem lc_map {α : Type} {wi : WI} {g : WG} {wt : WT} {we : WE} {vs : List Nat} {ρ : DEnv} {cs : Cells} {P : Vl → Cells → Prop} (l : List α) (f : α → Vl) (G : Cells → Prop) (t : α → Bool) (r : α → Dat)
    (hi : ∀ Pi : List Vl → (Cells → Prop) → Cells → Prop, Pi (l.map f) G cs → wi ρ cs Pi) (hG : ∀ cs', SubC cs cs' → G cs') (hl : l.length ≤ 16777216)
    (hb : ∀ a ∈ l, ∀ cs' (B : Vl → Cells → Prop) (N : Cells → Prop), SubC cs cs' → (if t a = true then B (.dat (r a)) cs' else N cs') → g (f a) (wipeD ρ vs) cs' fun ρ2 cs2 => wt ρ2 cs2 fun b cs3 => if b = true then we ρ2 cs3 B else N cs3)
    (p : P (.dat (.lst ((l.filter t).map r))) cs) : wLc wi g wt we vs ρ cs P := by
  unfold wLc
  refine hi _ fun D hD => ?_
  have hsub : ∀ c, SubC cs (cs.put D c) := fun c a x e => by
    have : a ≠ D := fun z => by rw [z, hD] at e; cases e
    rw [Cells.put_ne this]; exact e
  refine ⟨fun i cs' => cs' = cs.put D (.lst ((((l.take i).filter t).map r).map .dat)), by simp, fun i cs' _ e => by subst e; exact hG _ (hsub _), ?_, ?_⟩
  · rintro i x cs' hx rfl
    rw [List.getElem?_map] at hx
    obtain ⟨a, ha, rfl⟩ := Option.map_eq_some_iff.mp hx
    have hlt : i < l.length := by rcases Nat.lt_or_ge i l.length with h | h; exact h; rw [List.getElem?_eq_none h] at ha; cases ha
    have htk : l.take (i + 1) = l.take i ++ [a] := by rw [List.take_add_one, ha]; rfl
    refine hb a (List.mem_of_getElem? ha) _ _ _ (hsub _) ?_
    by_cases ht : t a = true
    · rw [if_pos ht]
      refine ⟨_, Cells.put_same, ?_, ?_⟩
      · rw [List.length_map, List.length_map]
        have h1 := List.length_filter_le t (l.take i)
        have h2 : (l.take i).length ≤ i := List.length_take_le i l
        omega
      · show _ = cs.put D _
        rw [Cells.put_put, htk]
        simp [ht]
    · rw [if_neg ht]
      show _ = cs.put D _
      rw [htk]
      simp [ht]
  · rintro cs' rfl
    refine ⟨_, Cells.put_same, .inr ⟨_, allDat_map _, ?_⟩⟩
    rw [Cells.del_put hD, List.length_map, List.take_length]
    exact p
theorem lc_seq {α : Type} {we0 : WE} {g : WG} {wt : WT} {we : WE} {vs : List Nat} {ρ : DEnv} {cs : Cells} {P : Vl → Cells → Prop} (l : List α) (f : α → Dat) (b : Bool) (t : α → Bool) (r : α → Dat)
    (hi : ∀ P : Vl → Cells → Prop, P (.dat (seqd b (l.map f))) cs → we0 ρ cs P) (hl : l.length ≤ 16777216)
    (hb : ∀ a ∈ l, ∀ cs' (B : Vl → Cells → Prop) (N : Cells → Prop), SubC cs cs' → (if t a = true then B (.dat (r a)) cs' else N cs') → g (.dat (f a)) (wipeD ρ vs) cs' fun ρ2 cs2 => wt ρ2 cs2 fun b cs3 => if b = true then we ρ2 cs3 B else N cs3)
    (p : P (.dat (.lst ((l.filter t).map r))) cs) : wLc (wiSeq we0) g wt we vs ρ cs P :=
  lc_map l (fun a => .dat (f a)) (fun cs' => seqD cs' (.dat (seqd b (l.map f))) = some (b, (l.map f).map .dat)) t r (fun Pi h => hi _ ⟨b, _, seqD_seqd, by rw [show (l.map f).map Vl.dat = l.map fun a => .dat (f a) by simp [Function.comp_def]]; exact (show (l.map f).map Vl.dat = l.map fun a => .dat (f a) by simp [Function.comp_def]) ▸ h⟩) (fun _ _ => seqD_seqd) hl hb p
theorem lc_seqA {α : Type} {we0 : WE} {g : WG} {we : WE} {vs : List Nat} {ρ : DEnv} {cs : Cells} {P : Vl → Cells → Prop} (l : List α) (f : α → Dat) (b : Bool) (r : α → Dat)
    (hi : ∀ P : Vl → Cells → Prop, P (.dat (seqd b (l.map f))) cs → we0 ρ cs P) (hl : l.length ≤ 16777216)
    (hb : ∀ a ∈ l, ∀ cs' (B : Vl → Cells → Prop), SubC cs cs' → B (.dat (r a)) cs' → g (.dat (f a)) (wipeD ρ vs) cs' fun ρ2 cs2 => we ρ2 cs2 B)
    (p : P (.dat (.lst (l.map r))) cs) : wLc (wiSeq we0) g wYes we vs ρ cs P :=
  lc_seq l f b (fun _ => true) r hi hl (fun a ha cs' B N sb h => hb a ha cs' B sb h) (by rw [show l.filter (fun _ => true) = l from List.filter_eq_self.mpr fun _ _ => rfl]; exact p)
/-- ledger.account(name).balance -/
theorem w_bal {C : CE} {ρ : DEnv} {cs : Cells} {P : Vl → Cells → Prop} {wl wz : WE} {L pa : Addr} {z : Str} {b : Bk} {ps : List Int} {fu : Vl} {past : List Vl} {c : Int} (hl : ∀ P : Vl → Cells → Prop, P (.cell L) cs → wl ρ cs P) (hz : ∀ P : Vl → Cells → Prop, P (.dat (.str z)) cs → wz ρ cs P) (hL : isLed C cs L ps b pa fu past) (hc : ps.getLast? = some c) (ok : okA C b c z) (p : P (.int (balOf b z)) cs) :
    wAlt (wPropI C.Account (sp_Account_balance C) (wMethI C.Ledger "account" (noX (sp_Ledger_account C)) wl (wCons wz wNil))) (wAlt (wPropI C.LimitedAccount (sp_Account_balance C) (wMethI C.Ledger "account" (noX (sp_Ledger_account C)) wl (wCons wz wNil))) (wPropI C.SavingsAccount (sp_Account_balance C) (wMethI C.Ledger "account" (noX (sp_Ledger_account C)) wl (wCons wz wNil)))) ρ cs P := by
  obtain ⟨hn1, hn2, qq, d, hlk, hs, hm⟩ := ok
  obtain ⟨k, rfl⟩ := madeR_ok hm
  refine altk (w := fun D => wPropI D (sp_Account_balance C) (wMethI C.Ledger "account" (noX (sp_Ledger_account C)) wl (wCons wz wNil))) k ?_
  refine hl _ ⟨_, by rw [insD_cell, hL.led]; rfl, rfl, hz _ ⟨L, z, b, ps, pa, fu, past, c, rfl, hL, hc, hn1, ?_⟩⟩
  rw [hlk]
  refine ⟨hs, ?_⟩
  rw [hm]
  refine ⟨_, rfl, _, k, z, qq.l, qq.b, c, rfl, isAcct_dat, trivial, ?_⟩
  have e : balOf b z = qq.b := by unfold balOf; rw [hlk]
  rw [e] at p
  exact p
theorem pure_Books_add_balance (K : Frag) (C : CE) : ∀ xs cs Q XP, sp_Books_add_balance C xs cs Q XP → w_Books_add_balance K C (retE K Q) (startD 6 xs) cs := by
  rintro xs cs Q XP ⟨p, p1, p2, b, n, amt, q, rfl, hb, hl, h20, qq⟩
  unfold w_Books_add_balance
  walk_at "dl"
  have hk1 : dctD cs (.cell p1) = some (datK (accK b)) := by rw [dctD_cell, hb.h1]; rfl
  have hlen : (datK (accK b)).length = b.accs.length := by simp [datK, accK]
  refine ⟨_, by rw [hb.p]; rfl, _, rfl, _, hk1, .inr n, rfl, _, by rw [valD_accK, hl]; rfl, ?_⟩
  refine ⟨[.dat (.str q.kd), .int q.l, .int q.b], rfl, rfl, _, _, rfl, _, _, rfl, _, _, rfl, rfl, q.b, rfl, _, rfl, (show 3 ≤ 16777216 by decide), _, by rw [hb.p]; rfl, _, rfl, p1, rfl, _, .inr n, rfl, hb.h1, by rw [hlen]; omega, q.b, rfl, .now ?_⟩
  rw [show (Dat.tup [Dat.str q.kd, Dat.int q.l, Dat.int (q.b + amt)]) = accD { q with b := q.b + amt } from rfl, putD_setA hl]
  exact qq
theorem pure_Ledger_today (K : Frag) (C : CE) : ∀ xs cs Q XP, sp_Ledger_today C xs cs Q XP → w_Ledger_today K C (retE K Q) (startD 1 xs) cs := by
  rintro xs cs Q XP ⟨L, pa, b, ps, fu, past, rfl, hL, q⟩
  unfold w_Ledger_today
  walk_at "dl"
  exact ⟨_, by rw [hL.led]; rfl, _, rfl, _, rfl, _, rfl, .now q⟩
theorem pure_Ledger_orders (K : Frag) (C : CE) : ∀ xs cs Q XP, sp_Ledger_orders C xs cs Q XP → w_Ledger_orders K C (retE K Q) (startD 2 xs) cs := by
  rintro xs cs Q XP ⟨L, pa, b, ps, fu, past, rfl, hL, ok, q⟩
  unfold w_Ledger_orders
  walk_at "dl"
  have hlim := ok.lim
  refine lc_seqA b.dues (fun q => .int q.1) true itemD (fun P h => ?_) (by omega) (fun u hu cs' B sb h => ?_) (.now q)
  · walk_at "dl"
    refine ⟨_, by rw [hL.led]; rfl, _, rfl, _, rfl, _, rfl, _, rfl, b.dues.map (·.1), by simp [datK, dueK], fun ys pm hs => ?_⟩
    rw [srt_eq pm hs ok.srt]
    refine .inr ⟨b.dues.map fun q => .int q.1, ?_, (show P (.dat (seqd true _)) cs from h)⟩
    rw [show ((b.dues.map (·.1)).map fun i => Vl.dat (.int i)) = (b.dues.map fun q => Dat.int q.1).map .dat by simp [Function.comp_def]]
    exact allDat_map _
  · obtain ⟨i, hi⟩ := List.mem_iff_getElem?.mp hu
    have hL' := hL.sub sb
    simp only [wipeD]
    walk_at "dl"
    have h2 := (ok.two u hu).1
    refine ⟨by decide, _, by show coIns (cs' L) = _; rw [hL'.led]; rfl, _, rfl, _, rfl, _, rfl, _, rfl, .inl u.1, rfl, _, valD_dueK ok.srt hi, _, rfl, ?_, h⟩
    simp only [dueL, List.length_append, List.length_map, List.length_cons, List.length_nil]
    omega
theorem pure_Ledger_undo (K : Frag) (C : CE) : ∀ xs cs Q XP, sp_Ledger_undo C xs cs Q XP → w_Ledger_undo K C (retE K Q) (startD 3 xs) cs := by
  rintro xs cs Q XP ⟨L, pa, fa, b, ps, past, fut, rfl, ⟨hL, hf, nL, nP⟩, hz, q⟩
  unfold w_Ledger_undo
  walk_at "dl"
  refine ⟨_, by rw [hL.led]; rfl, _, rfl, by decide, .inr ⟨[], rfl, past, by rw [seqD_cell, hL.past]; rfl, rfl, ?_⟩⟩
  rcases q with ⟨rfl, q⟩ | ⟨past0, op, b0, rfl, q⟩
  · exact .now q
  · rw [if_neg (by simp)]
    refine ⟨_, by rw [hL.led]; rfl, _, rfl, pa, rfl, _, hL.past, _, List.getLast?_concat, ?_⟩
    rw [List.dropLast_concat]
    refine ⟨[.dat op, .dat (bkD C b0)], rfl, rfl, _, _, rfl, _, _, rfl, rfl, ?_⟩
    have e1 : (cs.put pa (.lst past0)) L = cs L := Cells.put_ne hL.ne
    refine ⟨_, by rw [e1, hL.led]; rfl, _, rfl, fa, rfl, fut, by rw [Cells.put_ne nP.symm]; exact hf, ?_⟩
    refine ⟨_, by rw [e1, hL.led]; rfl, _, rfl, _, rfl, (by show 2 ≤ 16777216; decide), fut, by rw [Cells.put_ne nP.symm]; exact hf, hz, ledF C ps b pa (.cell fa), by rw [Cells.put_ne nL, e1, hL.led], (show 4 < 1000 by decide), .now ?_⟩
    exact q
theorem pure_Ledger_total (K : Frag) (C : CE) : ∀ xs cs Q XP, sp_Ledger_total C xs cs Q XP → w_Ledger_total K C (retE K Q) (startD 4 xs) cs := by
  rintro xs cs Q XP ⟨L, pa, b, ps, fu, past, c, zs, rfl, hL, hc, h20, hz, ha, hn, q⟩
  unfold w_Ledger_total
  walk_at "dl"
  have key : ∀ ws : List Str, ws.length ≤ 100 → (∀ z ∈ ws, okA C b c z) → Q (.int (ws.map (balOf b)).sum) cs → wLc (wiSeq (wVar 2)) (gN 3) wYes (wAlt (wPropI C.Account (sp_Account_balance C) (wMethI C.Ledger "account" (noX (sp_Ledger_account C)) (wVar 0) (wCons (wVar 3) wNil))) (wAlt (wPropI C.LimitedAccount (sp_Account_balance C) (wMethI C.Ledger "account" (noX (sp_Ledger_account C)) (wVar 0) (wCons (wVar 3) wNil))) (wPropI C.SavingsAccount (sp_Account_balance C) (wMethI C.Ledger "account" (noX (sp_Ledger_account C)) (wVar 0) (wCons (wVar 3) wNil))))) [3] [some (.cell L), some (.dat (.tup (zs.map .str))), some (.dat (.tup (ws.map .str))), none] cs fun x cs1 => wSum [x] cs1 (GhK K Q) := fun ws hw hok hq => by
    refine lc_seqA ws .str false (fun z => .int (balOf b z)) (fun P h => ⟨_, rfl, h⟩) (by omega) (fun z hzm cs' B sb h => ?_) ?_
    · simp only [wipeD]
      refine w_bal (L := L) (z := z) ?_ ?_ (hL.sub sb) hc (hok z hzm) h
      · intro P h; exact ⟨_, rfl, h⟩
      · intro P h; exact ⟨_, rfl, h⟩
    · refine ⟨_, ws.map (balOf b), rfl, ?_, .now hq⟩
      simp [seqD]
  refine ⟨by decide, ?_⟩
  refine wEq_of 1 (by decide) rfl rfl ⟨by simp; omega, fun x h => ?_⟩ ⟨by decide, fun x h => by simp at h⟩ (fun e => ⟨false, rfl, ?_⟩) (fun e => ⟨true, rfl, ?_⟩)
  · obtain ⟨z, hz2, rfl⟩ := List.mem_map.mp h
    exact (ha z hz2).2.1
  · have hzs : zs = [] := by simpa using e
    subst hzs
    rw [if_pos rfl] at q
    rw [if_neg (by decide)]
    refine ⟨_, by rw [hL.led]; rfl, L, b, rfl, hL.has, by omega, fun ys pm hs => ?_⟩
    rw [names_eq pm hs]
    exact ⟨_, _, rfl, _, allDat_map _, key (nms b) (by rw [nms_len]; omega) hn q⟩
  · have hzs : zs ≠ [] := fun z => e (by rw [z]; rfl)
    rw [if_neg hzs] at q
    rw [if_pos rfl]
    exact key zs hz ha q
theorem pure_times_dueX (K : Frag) (C : CE) : ∀ xs cs Q XP, sp_times_dueX C xs cs Q XP → w_times_dueX K C (GhX K XP) (retE K Q) (startD 4 xs) cs := by
  rintro xs cs Q XP ⟨ps, ⟨p, d, a⟩, f, l, rfl, hc, q⟩
  unfold w_times_dueX
  walk_at "dl"
  refine ⟨by decide, .inr ⟨[ord (p, d, a)], rfl, ps, [(p, d, a)], true, rfl, hc, ?_⟩⟩
  by_cases ho : ordB ps (p, d, a) = true
  · obtain ⟨k1, k2, k3, k4⟩ := ordB_iff.mp ho
    have Cc := cal_cyc hc
    obtain ⟨p1, p2, p3⟩ := Cc.per _ k1
    have := Cc.le
    rw [if_pos ho] at q
    rw [show [(p, d, a)].findIdx? (fun o => !ordB ps o) = none by simp [ho]]
    simp only [ord]
    walk_at "dl"
    exact ⟨p, d, f, l, rfl, p1, by omega, .now q⟩
  · rw [if_neg ho] at q
    rw [show [(p, d, a)].findIdx? (fun o => !ordB ps o) = some 0 by simp [List.findIdx?_cons, ho]]
    exact .now q
end DL
set_option maxRecDepth 100000
set_option maxHeartbeats 4000000
namespace DL
open PySem L2
local macro_rules | `(tactic| walk_at "dl") => `(tactic| simp only [wPop, wEqNil, wMethS, wBestI, wIxS, wDGetV, wDInV, wDLen, wDCopy, wDDel, wDPut, wDNewK, wSortVI, wSortVS, wMakeK, gS, wFldI, wConI, wPropI, wMethI, wMethX, wAlt, wAltS, wCallX, wRaise, wRaise1, wRaise2, wCm, wCm0, noX, xw, insD_obj, insD_cell, coIns_ins, wSt, wLenS, wAll, wCntF, wIdxF, wSplit, wTryAs, wAsD, unE, wIsE, wXf, wIsiO, LamD.wOut, LamD.wLamMk, LamD.wAct, Dat.str.injEq, Dat.obj.injEq, wAbs, wCatS, wExt, wListOf, wiStr, wFld, wSetF, wMeth, wMake, wGMeth, wGCall, wDNewK, wDNewT, CO.ins.injEq, CO.dk.injEq, CO.dt.injEq, Cells.put_put, wRet, wRetN, wSeq, wAsg, wIfS, wDrop, wNext, wVar, wC, wOp, wUn, wFn, wNil, wCons, wTest, wNot, wAnd, wOr, wAndV, wOrV, wNotV, wIf, wChain, wTup, wLst, wCall, wNever, gN, gT, gNil, gCons, gIx, wI, wI0, wNeg, wMax2, wMin2, wLen, wIsN, wNotN, isNon_non, isNon_bl, isNon_int, isNon_str, isNon_lst, isNon_tup, isNon_cell, wIx, wTuple, wAug, wAugIx, wPar, wPar3, wSlL, wSlT, wPart, wNoPart, wCatT, wIsi, wIsi2, isiT, tyD_non, tyD_bl, tyD_int, tyD_str, tyD_lst, tyD_tup, tyD_cell, coTy_lst, seqD_lst, seqD_tp, seqD_cell, coSeq_lst, seen_dat, seen_cell, coDat_lst, startD, wYes, wApp, wEq_int, wEq_bl, allDat_nil, allDat_cons, allDat_map, Option.map_some, List.map_cons, List.map_nil, List.cons_append, List.nil_append, List.length_cons, List.length_nil, List.replicate, List.getElem?_cons_zero, List.getElem?_cons_succ, List.set_cons_zero, List.set_cons_succ, Option.some.injEq, exists_eq_left', exists_eq_left, exists_and_left, exists_eq', exists_eq, Vl.dat.injEq, Vl.raw.injEq, V.ref.injEq, CO.lst.injEq, Dat.int.injEq, Dat.bl.injEq, Dat.tup.injEq, Dat.lst.injEq, List.cons.injEq, and_true, true_and, retE, Nat.reduceAdd, Nat.reduceSub, and_assoc, Prod.mk.injEq, if_true, if_false, Bool.false_eq_true, decide_eq_true_eq, Bool.not_true, Bool.not_false, Bool.not_eq_true', decide_eq_false_iff_not, if_false_left, if_false_right, beq_iff_eq, Bool.or_eq_true, Bool.and_eq_true, Bool.or_self, Bool.or_true, Bool.true_or, Bool.or_false, Bool.false_or, decide_true, decide_false, reduceCtorEq, Cells.put_same, gt_iff_lt, ge_iff_le, beq_self_eq_true, bne_self_eq_false, Bool.decide_eq_true, not_true_eq_false, not_false_eq_true, Decidable.not_not, false_and, and_false, Bool.not_eq_false, at_0, at_1, at_2, at_3, at_4, at_5, ix_0, ix_1, ix_2, ix_3, Nat.reduceLT, Int.reduceLT, Int.reduceLE, Int.reduceNeg, Int.reduceAdd, Int.reduceSub, Int.reduceEq, Int.reducePow, Int.reduceToNat, Cells.put_put])
abbrev Row := Int × Int × Int × Int
def rowD (r : Row) : Dat := .tup [.int r.1, .int r.2.1, .int r.2.2.1, .int r.2.2.2]
def payR (n : Str) (q : Int × Due) : Option Row :=
  if q.2.ps.head? = some n then some (q.1, q.2.p, q.2.d, if q.2.ps.length = 1 then q.2.a else 0 - q.2.a)
  else if q.2.ps.getLast? = some n then some (q.1, q.2.p, q.2.d, q.2.a) else none
def rowsOf (b : Bk) (n : Str) : List Row := b.dues.filterMap (payR n)
theorem payL_rows (b : Bk) (n : Str) : payL b n = (rowsOf b n).map rowD := by
  unfold payL rowsOf
  rw [List.map_filterMap]
  congr 1
  funext q
  unfold payOf payR
  split
  · simp [rowD]
  · split <;> simp [rowD]
def flowS (b : Bk) (n : Str) (f l : Int) : Int := ((rowsOf b n).map fun r => r.2.2.2 * daysDue r.2.1 r.2.2.1 f l).sum
def addB (b : Bk) (n : Str) (t : Int) : Bk := { b with accs := b.accs.map fun r => if r.1 = n then (r.1, { r.2 with b := r.2.b + t }) else r }
def passN (b : Bk) (ns : List Str) (F : Str → Int) : Bk := { b with accs := b.accs.map fun r => if r.1 ∈ ns then (r.1, { r.2 with b := r.2.b + F r.1 }) else r }
def passB (b : Bk) (k : Int) : Bk := { b with day := b.day + k, accs := b.accs.map fun r => (r.1, { r.2 with b := r.2.b + flowS b r.1 (b.day + 1) (b.day + k) }) }
theorem addB_add (b : Bk) (n : Str) (t u : Int) : addB (addB b n t) n u = addB b n (t + u) := by
  unfold addB
  simp only [List.map_map]
  congr 1
  apply List.map_congr_left
  intro r _
  simp only [Function.comp]
  by_cases h : r.1 = n
  · simp [h, Int.add_assoc]
  · simp [h]
theorem addB_zero (b : Bk) (n : Str) : addB b n 0 = b := by
  unfold addB
  have : (b.accs.map fun r => if r.1 = n then (r.1, { r.2 with b := r.2.b + 0 }) else r) = b.accs := by
    conv => rhs; rw [← List.map_id b.accs]
    apply List.map_congr_left
    intro r _
    simp
  rw [this]
theorem lookA_addB {b : Bk} {n : Str} {t : Int} {q : Acc} (h : lookA b.accs n = some q) : lookA (addB b n t).accs n = some { q with b := q.b + t } := by
  unfold lookA addB at *
  simp only
  generalize b.accs = l at h
  induction l with
  | nil => cases h
  | cons r l ih =>
    simp only [List.map_cons, List.find?_cons] at h ⊢
    by_cases e : r.1 = n
    · simp only [e, decide_true, Option.map_some, if_true] at h ⊢
      cases h
      rfl
    · simp only [e, decide_false, if_false] at h ⊢
      exact ih h
theorem lookA_mem {l : List (Str × Acc)} {n : Str} (h : n ∈ l.map (·.1)) : ∃ q, lookA l n = some q := by
  unfold lookA
  obtain ⟨r, hr, e⟩ := List.mem_map.mp h
  have : (l.find? fun q => decide (q.1 = n)).isSome = true := List.find?_isSome.mpr ⟨r, hr, by simp [e]⟩
  obtain ⟨z, hz⟩ := Option.isSome_iff_exists.mp this
  exact ⟨z.2, by rw [hz]; rfl⟩
theorem lookA_of_mem {l : List (Str × Acc)} (nd : (l.map (·.1)).Nodup) {r : Str × Acc} (h : r ∈ l) : lookA l r.1 = some r.2 := by
  unfold lookA
  induction l with
  | nil => cases h
  | cons x l ih =>
    rw [List.map_cons, List.nodup_cons] at nd
    simp only [List.find?_cons]
    rcases List.mem_cons.mp h with rfl | h
    · simp
    · have hne : x.1 ≠ r.1 := fun z => nd.1 (List.mem_map.mpr ⟨r, h, z.symm⟩)
      simp only [hne, decide_false]
      exact ih nd.2 h
/-- with different names, one balance is set -/
theorem setA_addB {b : Bk} {n : Str} {q : Acc} {t : Int} (nd : (b.accs.map (·.1)).Nodup) (h : lookA b.accs n = some q) : setA b n { q with b := q.b + t } = addB b n t := by
  unfold setA addB
  congr 1
  apply List.map_congr_left
  intro r hr
  by_cases e : r.1 = n
  · have := lookA_of_mem nd hr
    rw [e, h] at this
    have e2 : q = r.2 := Option.some.inj this
    simp only [e, if_true, e2]
  · simp [e]
theorem addB_names (b : Bk) (n : Str) (t : Int) : (addB b n t).accs.map (·.1) = b.accs.map (·.1) := by
  unfold addB
  simp only [List.map_map]
  apply List.map_congr_left
  intro r _
  simp only [Function.comp]
  split <;> rfl
theorem passN_nil (b : Bk) (F : Str → Int) : passN b [] F = b := by
  unfold passN
  simp
theorem passN_cons (b : Bk) (ns : List Str) (n : Str) (F : Str → Int) (h : n ∉ ns) : addB (passN b ns F) n (F n) = passN b (ns ++ [n]) F := by
  unfold addB passN
  simp only [List.map_map]
  congr 1
  apply List.map_congr_left
  intro r _
  simp only [Function.comp, List.mem_append, List.mem_singleton]
  by_cases e : r.1 = n
  · have : r.1 ∉ ns := e ▸ h
    simp [e, h]
  · by_cases e2 : r.1 ∈ ns <;> simp [e, e2]
theorem passN_all (b : Bk) (F : Str → Int) {ns : List Str} (h : ∀ n ∈ b.accs.map (·.1), n ∈ ns) : (passN b ns F).accs = b.accs.map fun r => (r.1, { r.2 with b := r.2.b + F r.1 }) := by
  unfold passN
  simp only
  apply List.map_congr_left
  intro r hr
  rw [if_pos (h r.1 (List.mem_map.mpr ⟨r, hr, rfl⟩))]
theorem passN_names (b : Bk) (ns : List Str) (F : Str → Int) : (passN b ns F).accs.map (·.1) = b.accs.map (·.1) := by
  unfold passN
  simp only [List.map_map]
  apply List.map_congr_left
  intro r _
  simp only [Function.comp]
  split <;> rfl
theorem lookA_map {l : List (Str × Acc)} {n : Str} {g : Str → Acc → Acc} : lookA (l.map fun r => (r.1, g r.1 r.2)) n = (lookA l n).map (g n) := by
  unfold lookA
  induction l with
  | nil => rfl
  | cons r l ih =>
    simp only [List.map_cons, List.find?_cons]
    by_cases e : r.1 = n
    · simp [e]
    · simp only [e, decide_false]; exact ih
theorem balOf_passB {b : Bk} {k : Int} {n : Str} (h : n ∈ b.accs.map (·.1)) : balOf (passB b k) n = balOf b n + flowS b n (b.day + 1) (b.day + k) := by
  obtain ⟨q, hq⟩ := lookA_mem h
  unfold balOf passB
  simp only
  rw [lookA_map (g := fun n q => { q with b := q.b + flowS b n (b.day + 1) (b.day + k) }), hq]
  rfl
def okO (C : CE) (b : Bk) (c : Int) (n : Str) : Prop := n.length ≤ 16777216 ∧ PyData.strOk n = true ∧ ∃ q, lookA b.accs n = some q ∧ q.kd = "open" ∧ madeR C q.kd n q.l q.b c = .ok (acctD C .op n q.l q.b c)
theorem okO.okA {C : CE} {b : Bk} {c : Int} {n : Str} (h : okO C b c n) : okA C b c n := by
  obtain ⟨h1, h2, q, h3, h4, h5⟩ := h
  exact ⟨h1, h2, q, _, h3, by rw [h4]; decide +kernel, h5⟩
def sp_Ledger_first_overdraft (C : CE) : DSp := fun xs cs Q _ => ∃ (L pa : Addr) (b : Bk) (ps : List Int) (fu : Vl) (past : List Vl) (c : Int), xs = [.cell L] ∧ isLed C cs L ps b pa fu past ∧ ps.getLast? = some c ∧ b.accs.length ≤ 20 ∧ (∀ n ∈ nms b, okO C b c n) ∧ Q .non cs
theorem len_Ledger_first_overdraft {C : CE} : ∀ xs cs Q XP, sp_Ledger_first_overdraft C xs cs Q XP → xs.length = 1 := by rintro xs cs Q XP ⟨L, pa, b, ps, fu, past, c, rfl, _⟩; rfl
def sp_Ledger_pass_days (C : CE) : DSp := fun xs cs Q _ => ∃ (L pa : Addr) (b : Bk) (ps : List Int) (fu : Vl) (past : List Vl) (c k : Int), xs = [.cell L, .int k] ∧ isLed C cs L ps b pa fu past ∧ ps.getLast? = some c ∧ CalOk ps ∧ b.accs.length ≤ 20 ∧ (b.accs.map (·.1)).Nodup ∧ BkOk b ∧ (∀ q ∈ b.dues, q.2.p ∈ ps) ∧ past.length < 16777216 ∧ (∀ n ∈ nms b, okO C b c n) ∧ 0 ≤ k ∧ k ≤ 1000000000000000000 ∧
  ∀ f', cs f' = none → Q (.dat (.lst ((nms b).map fun n => .tup [.str n, .int (balOf (passB b k) n)]))) (ledE C cs L pa f' ps (passB b k) (past ++ [pastD C (.tup [.str "pass_days", .int k]) b]))
theorem len_Ledger_pass_days {C : CE} : ∀ xs cs Q XP, sp_Ledger_pass_days C xs cs Q XP → xs.length = 2 := by rintro xs cs Q XP ⟨L, pa, b, ps, fu, past, c, k, rfl, _⟩; rfl
/-- Ledger.first_overdraft: slots 0 self, 1 found, 2 name, 3 account, 4 day -/
def w_Ledger_first_overdraft (K : Frag) (C : CE) : WS := (wSeq (wAsg (wLst wNil) (gN 1))
    (wSeq (wFor (wiSeq (wPropI C.Ledger (sp_Ledger_names C) (wVar 0))) (gN 2) (wSeq (wAsg (wMethI C.Ledger "account" (noX (sp_Ledger_account C)) (wVar 0) (wCons (wVar 2) wNil)) (gN 3))
    (wIfS (wTest (wOp wNotN (wAlt (wPropI C.Account (sp_Account_floor C) (wVar 3)) (wAlt (wPropI C.LimitedAccount (sp_LimitedAccount_floor C) (wVar 3)) (wPropI C.SavingsAccount (sp_LimitedAccount_floor C) (wVar 3)))) (wC .non))) (wSeq wNever
    wNever) wNext)))
    (wRet (wIf (wTest (wOp (wEqD true) (wVar 1) (wLst wNil))) (wFn (wBestI min) (wCons (wVar 1) wNil)) (wC .non)))))
/-- Ledger.pass_days: slots 0 self, 1 count, 2 overdraft, 3 last, 4 books, 5 name, 6 number, 7 period, 8 day, 9 amount -/
def w_Ledger_pass_days_b0_7 (K : Frag) (C : CE) (W0 : DXP) : WS := (wRet (wLc (wiSeq (wPropI C.Ledger (sp_Ledger_names C) (wVar 0))) (gN 5) wYes (wTup (wCons (wVar 5) (wCons (wOp wIx (wOp wDGetV (wFldI C.Books "accounts" (wVar 4)) (wVar 5)) (wC (.int 2))) wNil))) [5]))
def w_Ledger_pass_days_b0_6 (K : Frag) (C : CE) (W0 : DXP) : WS := (wSeq (wDrop (wMethI C.Ledger "commit" (sp_Ledger_commit C) (wVar 0) (wCons (wTup (wCons (wC (.str "pass_days")) (wCons (wVar 1) wNil))) (wCons (wVar 4) wNil))))
    (w_Ledger_pass_days_b0_7 K C W0))
def w_Ledger_pass_days_b0_5 (K : Frag) (C : CE) (W0 : DXP) : WS := (wSeq (wSetF C.Books "day_number" (wVar 4) (wVar 3))
    (w_Ledger_pass_days_b0_6 K C W0))
def w_Ledger_pass_days_b0_4 (K : Frag) (C : CE) (W0 : DXP) : WS := (wSeq (wFor (wiSeq (wPropI C.Ledger (sp_Ledger_names C) (wVar 0))) (gN 5) (wFor (wiSeq (wMethI C.Books "payments" (sp_Books_payments C) (wFldI C.Ledger "books" (wVar 0)) (wCons (wVar 5) wNil))) (gT 4 (gCons (gN 6) (gCons (gN 7) (gCons (gN 8) (gCons (gN 9) gNil))))) (wDrop (wMethI C.Books "add_balance" (sp_Books_add_balance C) (wVar 4) (wCons (wVar 5) (wCons (wOp wMul (wVar 9) (wCall sp_days_due (wCons (wVar 7) (wCons (wVar 8) (wCons (wOp wAdd (wPropI C.Ledger (sp_Ledger_today C) (wVar 0)) (wC (.int 1))) (wCons (wVar 3) wNil)))))) wNil))))))
    (w_Ledger_pass_days_b0_5 K C W0))
def w_Ledger_pass_days_b0_3 (K : Frag) (C : CE) (W0 : DXP) : WS := (wSeq (wAsg (wMethI C.Books "copied" (sp_Books_copied C) (wFldI C.Ledger "books" (wVar 0)) wNil) (gN 4))
    (w_Ledger_pass_days_b0_4 K C W0))
def w_Ledger_pass_days_b0_2 (K : Frag) (C : CE) (W0 : DXP) : WS := (wSeq (wIfS (wAnd (wTest (wOp wNotN (wVar 2) (wC .non))) (wTest (wOp wLe (wOp wIx (wVar 2) (wC (.int 0))) (wVar 3)))) (wRaise2 C.Overdrawn "name" "day" (wOp wIx (wVar 2) (wC (.int 1))) (wOp wIx (wVar 2) (wC (.int 0))) (xw W0)) wNext)
    (w_Ledger_pass_days_b0_3 K C W0))
def w_Ledger_pass_days_b0_1 (K : Frag) (C : CE) (W0 : DXP) : WS := (wSeq (wPar 2 3 (wCons (wMethI C.Ledger "first_overdraft" (sp_Ledger_first_overdraft C) (wVar 0) wNil) (wCons (wOp wAdd (wPropI C.Ledger (sp_Ledger_today C) (wVar 0)) (wVar 1)) wNil)))
    (w_Ledger_pass_days_b0_2 K C W0))
def w_Ledger_pass_days_b0_0 (K : Frag) (C : CE) (W0 : DXP) : WS := (wSeq (wIfS (wOr (wNot (wTest (wCall sp_is_integer (wCons (wVar 1) wNil)))) (wNot (wTest (wChain wLe wLe (wC (.int 0)) (wVar 1) (wC (.int 1000000000000000000)))))) (wRaise (.ref C.InvalidCount) (xw W0)) wNext)
    (w_Ledger_pass_days_b0_1 K C W0))
def w_Ledger_pass_days (K : Frag) (C : CE) (W0 : DXP) : WS := (w_Ledger_pass_days_b0_0 K C W0)
theorem due_le {p d t k : Int} (hp : 0 < p) (hk : 0 ≤ k) : 0 ≤ daysDue p d (t + 1) (t + k) ∧ daysDue p d (t + 1) (t + k) ≤ k := by
  unfold daysDue
  have e : t + 1 - 1 - d = t - d := by omega
  have h1 : (t + k - d) / p ≤ (t - d) / p + k := by
    have h2 : (t - d + k * p) / p = (t - d) / p + k := Int.add_mul_ediv_right _ _ (by omega)
    rw [← h2]
    refine Int.ediv_le_ediv hp ?_
    have : k * 1 ≤ k * p := Int.mul_le_mul_of_nonneg_left (by omega) hk
    omega
  rw [e]
  omega
theorem pure_Ledger_first_overdraft (K : Frag) (C : CE) : ∀ xs cs Q XP, sp_Ledger_first_overdraft C xs cs Q XP → w_Ledger_first_overdraft K C (retE K Q) (startD 5 xs) cs := by
  rintro xs cs Q XP ⟨L, pa, b, ps, fu, past, c, rfl, hL, hc, h20, ok, q⟩
  unfold w_Ledger_first_overdraft
  walk_at "dl"
  refine ⟨by decide, .inr ⟨[], rfl, ?_⟩⟩
  simp only [wFor, wiSeq]
  walk_at "dl"
  refine ⟨_, by rw [hL.led]; rfl, L, b, rfl, hL.has, by omega, fun ys pm hs => ?_⟩
  rw [names_eq pm hs]
  refine ⟨true, _, rfl, ?_⟩
  refine ⟨fun i ρ cs' => cs' = cs ∧ ∃ x y z, ρ = [some (.cell L), some (.dat (.lst [])), x, y, z], ⟨rfl, _, _, _, rfl⟩, fun _ _ _ _ _ => rfl, ?_, ?_⟩
  · rintro i x ρ cs' hx ⟨rfl, x1, x2, x3, rfl⟩
    rw [List.map_map, List.getElem?_map] at hx
    obtain ⟨n, hn, rfl⟩ := Option.map_eq_some_iff.mp hx
    obtain ⟨h1, h2, qq, hlk, hkd, hm⟩ := ok n (List.mem_of_getElem? hn)
    walk_at "dl"
    refine ⟨_, by rw [hL.led]; rfl, rfl, L, n, b, ps, pa, fu, past, c, rfl, hL, hc, h1, ?_⟩
    rw [hlk]
    refine ⟨by rw [hkd]; decide +kernel, ?_⟩
    rw [hm]
    refine .inl ⟨_, rfl, _, .op, n, qq.l, qq.b, c, rfl, isAcct_dat, rfl, ?_⟩
    walk_at "dl"
  · rintro ρ cs' ⟨rfl, x1, x2, x3, rfl⟩
    walk_at "dl"
    refine ⟨by decide, .inr ⟨[], rfl, ?_⟩⟩
    exact wEq_of 1 (by decide) rfl rfl ⟨by decide, fun x h => by simp at h⟩ ⟨by decide, fun x h => by simp at h⟩ (fun e => ⟨false, rfl, .now q⟩) (fun e => absurd rfl e)
theorem bkA {C : CE} {cs : Cells} {p p1 p2 : Addr} {b b' : Bk} (h : isBkC C cs p p1 p2 b) (e : b' = { b with accs := b'.accs }) : isBkC C (cs.put p1 (.dk (datK (accK b')))) p p1 p2 b' := by
  have np1 : p ≠ p1 := fun z => by have := h.p; rw [z, h.h1] at this; cases this
  refine ⟨?_, Cells.put_same, ?_, h.n12⟩
  · rw [Cells.put_ne np1, h.p, e]; rfl
  · rw [Cells.put_ne h.n12.symm, h.h2, e]; rfl
theorem pure_Ledger_pass_days (K : Frag) (C : CE) : ∀ xs cs Q XP, sp_Ledger_pass_days C xs cs Q XP → w_Ledger_pass_days K C (GhX K XP) (retE K Q) (startD 10 xs) cs := by
  rintro xs cs Q XP ⟨L, pa, b, ps, fu, past, c, k, rfl, hL, hc, hck, h20, nd, ok, hps, hpl, okn, k0, k1, q⟩
  unfold w_Ledger_pass_days w_Ledger_pass_days_b0_0
  walk_at "dl"
  refine ⟨k, rfl, ?_⟩
  walk_at "dl"
  rw [if_pos k0, if_neg (by omega)]
  unfold w_Ledger_pass_days_b0_1
  walk_at "dl"
  refine ⟨_, by rw [hL.led]; rfl, rfl, L, pa, b, ps, fu, past, c, rfl, hL, hc, h20, okn, ?_⟩
  walk_at "dl"
  refine ⟨_, by rw [hL.led]; rfl, L, pa, b, ps, fu, past, rfl, hL, b.day, rfl, ?_⟩
  unfold w_Ledger_pass_days_b0_2
  walk_at "dl"
  unfold w_Ledger_pass_days_b0_3
  walk_at "dl"
  refine ⟨_, by rw [hL.led]; rfl, _, rfl, _, rfl, rfl, _, b, rfl, isBk_dat, fun p p1 p2 fp f1 f2 n1 n2 n12 => ?_⟩
  have sb := sub_newBk (C := C) (b := b) fp f1 f2
  have nb := isBkC.new (C := C) (cs := cs) (b := b) n1 n2 n12
  have hL1 := hL.sub sb
  unfold w_Ledger_pass_days_b0_4
  walk_at "dl"
  simp only [wFor, wiSeq]
  walk_at "dl"
  refine ⟨_, by rw [hL1.led]; rfl, L, b, rfl, hL1.has, by omega, fun ys pm hs => ?_⟩
  rw [names_eq pm hs]
  refine ⟨true, _, rfl, ?_⟩
  generalize hF : (fun n => flowS b n (b.day + 1) (b.day + k)) = F
  have pN : ∀ ns, passN b ns F = { b with accs := (passN b ns F).accs } := fun _ => rfl
  refine ⟨fun i ρ cs' => cs' = (newBk C cs b p p1 p2).put p1 (.dk (datK (accK (passN b ((nms b).take i) F)))) ∧ ∃ x5 x6 x7 x8 x9, ρ = [some (.cell L), some (.int k), some .non, some (.int (b.day + k)), some (.cell p), x5, x6, x7, x8, x9], ?_, fun _ _ _ _ _ => rfl, ?_, ?_⟩
  · refine ⟨?_, _, _, _, _, _, rfl⟩
    rw [List.take_zero, passN_nil, Cells.put_self nb.h1]
  · rintro i x ρ cs' hx ⟨rfl, x5, x6, x7, x8, x9, rfl⟩
    rw [List.map_map, List.getElem?_map] at hx
    obtain ⟨n, hn, rfl⟩ := Option.map_eq_some_iff.mp hx
    have hlt : i < (nms b).length := by rcases Nat.lt_or_ge i (nms b).length with h | h; exact h; rw [List.getElem?_eq_none h] at hn; cases hn
    have hmem := List.mem_of_getElem? hn
    obtain ⟨hn1, hn2, _⟩ := okn n hmem
    have hnot : n ∉ (nms b).take i := fun z => by
      have hnd := nms_nodup nd
      obtain ⟨j, hj⟩ := List.mem_iff_getElem?.mp z
      rw [List.getElem?_take] at hj
      split at hj
      · rename_i hji
        have := (List.getElem?_inj (by omega) hnd).mp (hj.trans hn.symm)
        omega
      · cases hj
    have htk : (nms b).take (i + 1) = (nms b).take i ++ [n] := by rw [List.take_add_one, hn]; rfl
    have sb1 : SubC cs ((newBk C cs b p p1 p2).put p1 (.dk (datK (accK (passN b ((nms b).take i) F))))) := sub_put' sb f1
    have hL2 := hL.sub sb1
    walk_at "dl"
    refine ⟨_, by rw [hL2.led]; rfl, _, rfl, _, rfl, rfl, _, n, b, rfl, isBk_dat, ok, hn2, ?_⟩
    rw [payL_rows]
    refine ⟨true, _, rfl, ?_⟩
    generalize hb1 : passN b ((nms b).take i) F = b1
    have eb1 : b1 = { b with accs := b1.accs } := by rw [← hb1]; rfl
    have nd1 : (b1.accs.map (·.1)).Nodup := by rw [← hb1, passN_names]; exact nd
    have l1 : b1.accs.length ≤ 20 := by rw [← List.length_map (f := (·.1)), ← hb1, passN_names, List.length_map]; exact h20
    obtain ⟨q1, hq1⟩ : ∃ q, lookA b1.accs n = some q := lookA_mem (by rw [← hb1, passN_names]; exact nms_mem.mp hmem)
    refine ⟨fun j ρ cs' => cs' = (newBk C cs b p p1 p2).put p1 (.dk (datK (accK (addB b1 n (((rowsOf b n).take j).map fun r => r.2.2.2 * daysDue r.2.1 r.2.2.1 (b.day + 1) (b.day + k)).sum)))) ∧ ∃ x6 x7 x8 x9, ρ = [some (.cell L), some (.int k), some .non, some (.int (b.day + k)), some (.cell p), some (.dat (.str n)), x6, x7, x8, x9], ?_, fun _ _ _ _ _ => rfl, ?_, ?_⟩
    · refine ⟨?_, _, _, _, _, rfl⟩
      rw [List.take_zero, List.map_nil, List.sum_nil, addB_zero]
    · rintro j x ρ cs' hx ⟨rfl, x6, x7, x8, x9, rfl⟩
      rw [List.map_map, List.getElem?_map] at hx
      obtain ⟨⟨rn, rp, rd, ra⟩, hr, rfl⟩ := Option.map_eq_some_iff.mp hx
      have hmr := List.mem_of_getElem? hr
      have hper : rp ∈ ps := by
        unfold rowsOf at hmr
        obtain ⟨u, hu, hpu⟩ := List.mem_filterMap.mp hmr
        have := hps u hu
        unfold payR at hpu
        split at hpu
        · cases hpu; exact this
        · split at hpu
          · cases hpu; exact this
          · cases hpu
      obtain ⟨pp1, pp2⟩ := calFrom_all (by decide) hck.2.2 rp hper
      have htk2 : (rowsOf b n).take (j + 1) = (rowsOf b n).take j ++ [(rn, rp, rd, ra)] := by rw [List.take_add_one, hr]; rfl
      generalize hT : (((rowsOf b n).take j).map fun r : Row => r.2.2.2 * daysDue r.2.1 r.2.2.1 (b.day + 1) (b.day + k)).sum = T
      have nb2 : isBkC C ((newBk C cs b p p1 p2).put p1 (.dk (datK (accK (addB b1 n T))))) p p1 p2 (addB b1 n T) := bkA nb (by rw [eb1]; rfl)
      have sb2 : SubC cs ((newBk C cs b p p1 p2).put p1 (.dk (datK (accK (addB b1 n T))))) := sub_put' sb f1
      have hL3 := hL.sub sb2
      simp only [rowD, Function.comp]
      walk_at "dl"
      refine ⟨_, by rw [nb2.p]; rfl, rfl, _, by rw [hL3.led]; rfl, L, pa, b, ps, fu, past, rfl, hL3, b.day, rfl, rp, rd, b.day + 1, b.day + k, rfl, pp1, by omega, _, rfl, ?_⟩
      have hdl := due_le (p := rp) (d := rd) (t := b.day) pp1 k0
      refine ⟨mulR (by omega) (by omega), p, p1, p2, addB b1 n T, n, _, { q1 with b := q1.b + T }, rfl, nb2, lookA_addB hq1, by rw [← List.length_map (f := (·.1)), addB_names, List.length_map]; exact l1, ?_⟩
      have e1 := setA_addB (b := addB b1 n T) (t := ra * daysDue rp rd (b.day + 1) (b.day + k)) (by rw [addB_names]; exact nd1) (lookA_addB (t := T) hq1)
      rw [Cells.put_put, e1, addB_add, htk2, List.map_append, List.sum_append, hT]
      simp
    · rintro ρ cs' ⟨rfl, x6, x7, x8, x9, rfl⟩
      refine ⟨?_, _, _, _, _, _, rfl⟩
      rw [List.length_map, List.length_map, List.take_length, htk, ← passN_cons _ _ _ _ hnot, hb1, ← hF]
      rfl
  · rintro ρ cs' ⟨rfl, x5, x6, x7, x8, x9, rfl⟩
    rw [List.length_map, List.length_map, List.take_length]
    have hall : ∀ n ∈ b.accs.map (·.1), n ∈ nms b := fun n h => nms_mem.mpr h
    generalize hb1 : passN b (nms b) F = b1
    have eb1 : b1 = { b with accs := b1.accs } := by rw [← hb1]; rfl
    have nb2 : isBkC C ((newBk C cs b p p1 p2).put p1 (.dk (datK (accK b1)))) p p1 p2 b1 := bkA nb eb1
    have sb2 : SubC cs ((newBk C cs b p p1 p2).put p1 (.dk (datK (accK b1)))) := sub_put' sb f1
    unfold w_Ledger_pass_days_b0_5
    walk_at "dl"
    refine ⟨_, nb2.p, (show 4 < 1000 by decide), ?_⟩
    have epb : { b1 with day := b.day + k } = passB b k := by
      rw [eb1]
      unfold passB
      rw [← hb1, passN_all b F hall, ← hF]
    have e1 : putV ("day_number" : Str) (.int (b.day + k)) (bkV b1 (.cell p1) (.cell p2)) = bkV (passB b k) (.cell p1) (.cell p2) := by
      rw [← epb]; rfl
    have e1' : putV (Str.ofString "day_number") (Vl.dat (.int (b.day + k))) (bkV b1 (.cell p1) (.cell p2)) = bkV (passB b k) (.cell p1) (.cell p2) := e1
    rw [e1']
    generalize hc3 : ((newBk C cs b p p1 p2).put p1 (.dk (datK (accK b1)))).put p (.ins C.Books (bkV (passB b k) (.cell p1) (.cell p2))) = c3
    have nb3 : isBkC C c3 p p1 p2 (passB b k) := by
      rw [← hc3]
      refine ⟨Cells.put_same, ?_, ?_, n12⟩
      · rw [Cells.put_ne n1.symm, nb2.h1, ← epb]; rfl
      · rw [Cells.put_ne n2.symm, nb2.h2, ← epb]; rfl
    have sb3 : SubC cs c3 := by rw [← hc3]; exact sub_put' sb2 fp
    have hL4 := hL.sub sb3
    unfold w_Ledger_pass_days_b0_6
    walk_at "dl"
    refine ⟨_, by rw [hL4.led]; rfl, rfl, (by decide), L, _, .cell p, b, ps, pa, fu, past, rfl, hL4, hpl, fun f' hf => ?_⟩
    have nf : ∀ a c, c3 a = some c → a ≠ f' := fun a c e z => by rw [z, hf] at e; cases e
    have nLp : L ≠ p := fun z => by have := hL.led; rw [z, fp] at this; cases this
    have nL1 : L ≠ p1 := fun z => by have := hL.led; rw [z, f1] at this; cases this
    have npp : p ≠ pa := fun z => by have := hL.past; rw [← z, fp] at this; cases this
    have np1 : p1 ≠ pa := fun z => by have := hL.past; rw [← z, f1] at this; cases this
    have nL2 : L ≠ p2 := fun z => by have := hL.led; rw [z, f2] at this; cases this
    have np2 : p2 ≠ pa := fun z => by have := hL.past; rw [← z, f2] at this; cases this
    have fin := opFin (K := K) (Q := Q) (v := .dat (.lst ((nms b).map fun n => .tup [.str n, .int (balOf (passB b k) n)]))) fp f1 f2 sb3 nb3 hL hf (q f' (none_sub sb3 hf))
    have e2 : (past ++ [pastD C (.tup [.str "pass_days", .int k]) b]) = past ++ [Vl.dat (.tup [.tup [.str "pass_days", .int k], bkD C b])] := rfl
    rw [e2] at fin
    generalize hc4 : Cells.put (Cells.put (Cells.put c3 pa _) f' _) L _ = c4 at fin ⊢
    have eL : c4 L = some (.ins C.Ledger [("periods", .dat (cal ps)), ("books", .cell p), ("past", .cell pa), ("future", .cell f')]) := by rw [← hc4, Cells.put_same]
    have e0 : ∀ a, a ≠ L → a ≠ f' → a ≠ pa → c4 a = c3 a := fun a h1 h2 h3 => by rw [← hc4, Cells.put_ne h1, Cells.put_ne h2, Cells.put_ne h3]
    have nb4 : isBkC C c4 p p1 p2 (passB b k) := ⟨by rw [e0 p nLp.symm (nf p _ nb3.p) npp]; exact nb3.p, by rw [e0 p1 nL1.symm (nf p1 _ nb3.h1) np1]; exact nb3.h1, by rw [e0 p2 nL2.symm (nf p2 _ nb3.h2) np2]; exact nb3.h2, n12⟩
    have hnm : (passB b k).accs.map (·.1) = b.accs.map (·.1) := by unfold passB; simp [Function.comp_def]
    have hnms : nms (passB b k) = nms b := by unfold nms; rw [hnm]
    show w_Ledger_pass_days_b0_7 K C (GhX K XP) _ _ c4
    unfold w_Ledger_pass_days_b0_7
    walk_at "dl"
    refine lc_seqA (nms b) .str true (fun n => .tup [.str n, .int (balOf (passB b k) n)]) (fun P h => ?_) (by rw [nms_len]; omega) (fun n hn cs' B sb' h => ?_) fin
    · walk_at "dl"
      refine ⟨_, by rw [eL]; rfl, L, passB b k, rfl, ⟨_, _, by rw [eL]; rfl, rfl, nb4.bk⟩, by rw [← List.length_map (f := (·.1)), hnm, List.length_map]; omega, fun ys pm hs => ?_⟩
      rw [names_eq pm hs, hnms]
      exact h
    · obtain ⟨qa, hqa⟩ := lookA_mem (l := (passB b k).accs) (n := n) (by rw [hnm]; exact nms_mem.mp hn)
      have eb : balOf (passB b k) n = qa.b := by unfold balOf; rw [hqa]
      rw [eb] at h
      simp only [wipeD]
      walk_at "dl"
      refine ⟨_, by rw [sb' _ _ nb4.p]; rfl, _, rfl, _, by rw [dctD_cell, sb' _ _ nb4.h1]; rfl, .inr n, rfl, _, by rw [valD_accK, hqa]; rfl, false, _, rfl, .int qa.b, rfl, _, rfl, (by show 2 ≤ 16777216; decide), h⟩
end DL
set_option maxRecDepth 100000
set_option maxHeartbeats 4000000
namespace DL
open PySem L2
local macro_rules | `(tactic| walk_at "dl") => `(tactic| simp only [wPop, wEqNil, wMethS, wBestI, wIxS, wDGetV, wDInV, wDLen, wDCopy, wDDel, wDPut, wDNewK, wSortVI, wSortVS, wMakeK, gS, wFldI, wConI, wPropI, wMethI, wMethX, wAlt, wAltS, wCallX, wRaise, wRaise1, wRaise2, wCm, wCm0, noX, xw, insD_obj, insD_cell, coIns_ins, wSt, wLenS, wAll, wCntF, wIdxF, wSplit, wTryAs, wAsD, unE, wIsE, wXf, wIsiO, LamD.wOut, LamD.wLamMk, LamD.wAct, Dat.str.injEq, Dat.obj.injEq, wAbs, wCatS, wExt, wListOf, wiStr, wFld, wSetF, wMeth, wMake, wGMeth, wGCall, wDNewK, wDNewT, CO.ins.injEq, CO.dk.injEq, CO.dt.injEq, Cells.put_put, wRet, wRetN, wSeq, wAsg, wIfS, wDrop, wNext, wVar, wC, wOp, wUn, wFn, wNil, wCons, wTest, wNot, wAnd, wOr, wAndV, wOrV, wNotV, wIf, wChain, wTup, wLst, wCall, wNever, gN, gT, gNil, gCons, gIx, wI, wI0, wNeg, wMax2, wMin2, wLen, wIsN, wNotN, isNon_non, isNon_bl, isNon_int, isNon_str, isNon_lst, isNon_tup, isNon_cell, wIx, wTuple, wAug, wAugIx, wPar, wPar3, wSlL, wSlT, wPart, wNoPart, wCatT, wIsi, wIsi2, isiT, tyD_non, tyD_bl, tyD_int, tyD_str, tyD_lst, tyD_tup, tyD_cell, coTy_lst, seqD_lst, seqD_tp, seqD_cell, coSeq_lst, seen_dat, seen_cell, coDat_lst, startD, wYes, wApp, wEq_int, wEq_bl, allDat_nil, allDat_cons, allDat_map, Option.map_some, List.map_cons, List.map_nil, List.cons_append, List.nil_append, List.length_cons, List.length_nil, List.replicate, List.getElem?_cons_zero, List.getElem?_cons_succ, List.set_cons_zero, List.set_cons_succ, Option.some.injEq, exists_eq_left', exists_eq_left, exists_and_left, exists_eq', exists_eq, Vl.dat.injEq, Vl.raw.injEq, V.ref.injEq, CO.lst.injEq, Dat.int.injEq, Dat.bl.injEq, Dat.tup.injEq, Dat.lst.injEq, List.cons.injEq, and_true, true_and, retE, Nat.reduceAdd, Nat.reduceSub, and_assoc, Prod.mk.injEq, if_true, if_false, Bool.false_eq_true, decide_eq_true_eq, Bool.not_true, Bool.not_false, Bool.not_eq_true', decide_eq_false_iff_not, if_false_left, if_false_right, beq_iff_eq, Bool.or_eq_true, Bool.and_eq_true, Bool.or_self, Bool.or_true, Bool.true_or, Bool.or_false, Bool.false_or, decide_true, decide_false, reduceCtorEq, Cells.put_same, gt_iff_lt, ge_iff_le, beq_self_eq_true, bne_self_eq_false, Bool.decide_eq_true, not_true_eq_false, not_false_eq_true, Decidable.not_not, false_and, and_false, Bool.not_eq_false, at_0, at_1, at_2, at_3, at_4, at_5, ix_0, ix_1, ix_2, ix_3, Nat.reduceLT, Int.reduceLT, Int.reduceLE, Int.reduceNeg, Int.reduceAdd, Int.reduceSub, Int.reduceEq, Int.reducePow, Int.reduceToNat, Cells.put_put])
def HSt (a q : Addr) (cs : Cells) : Prop := a ≠ q ∧ ∃ c1 c2, cs a = some c1 ∧ cs q = some c2 ∧ HOk q c1 c2
def Eq2 (a q : Addr) (cs cs' : Cells) : Prop := ∀ x, x ≠ a → x ≠ q → cs' x = cs x
theorem Eq2.refl {a q : Addr} {cs : Cells} : Eq2 a q cs cs := fun _ _ _ => rfl
theorem Eq2.trans {a q : Addr} {cs cs1 cs2 : Cells} (h : Eq2 a q cs cs1) (h' : Eq2 a q cs1 cs2) : Eq2 a q cs cs2 := fun x h1 h2 => (h' x h1 h2).trans (h x h1 h2)
theorem next_use {C : CE} {a q : Addr} {cs : Cells} {n : Int} {Q : Vl → Cells → Prop} {XP : DXP} (h : HSt a q cs) (h0 : 0 < n) (h1 : n ≤ 1000000000000000000000000000000) (k : ∀ r cs', 0 ≤ r → r < n → HSt a q cs' → Eq2 a q cs cs' → Q (.int r) cs') : sp_law_next C [.cell a, .int n] cs Q XP := by
  obtain ⟨ne, c1, c2, e1, e2, ok⟩ := h
  refine ⟨a, q, n, c1, c2, rfl, ne, e1, e2, ok, h0, h1, fun r c1' c2' hr0 hr1 ok' => k r _ hr0 hr1 ⟨ne, c1', c2', ?_, Cells.put_same, ok'⟩ fun x x1 x2 => ?_⟩
  · rw [Cells.put_ne ne, Cells.put_same]
  · rw [Cells.put_ne x2, Cells.put_ne x1]
def sp_law_calendarH (C : CE) : DSp := fun xs cs Q _ => ∃ a q : Addr, xs = [.cell a] ∧ HSt a q cs ∧ ∀ ps cs', CalOk ps → HSt a q cs' → Eq2 a q cs cs' → Q (.dat (cal ps)) cs'
theorem len_law_calendarH {C : CE} : ∀ xs cs Q XP, sp_law_calendarH C xs cs Q XP → xs.length = 1 := by rintro xs cs Q XP ⟨a, q, rfl, _⟩; rfl
def nmOk (n : Str) : Prop := nameB n = true ∧ n.length ≤ 16777216 ∧ PyData.strOk n = true
structure GB (ps : List Int) (b : Bk) : Prop where
  ok : BkOk b
  nd : (b.accs.map (·.1)).Nodup
  l20 : b.accs.length ≤ 20
  acc : ∀ r ∈ b.accs, nmOk r.1 ∧ r.2.kd = "open" ∧ r.2.l = 0
  due : ∀ u ∈ b.dues, ordB ps (u.2.p, u.2.d, u.2.a) = true ∧ (∀ z ∈ u.2.ps, z ∈ b.accs.map (·.1)) ∧ ((∃ z, u.2.ps = [z]) ∨ ∃ z z2, u.2.ps = [z, z2] ∧ z ≠ z2)
theorem GB.okO {C : CE} {ps : List Int} {b : Bk} {c : Int} (g : GB ps b) {n : Str} (h : n ∈ b.accs.map (·.1)) : okO C b c n := by
  obtain ⟨r, hr, e⟩ := List.mem_map.mp h
  have e : r.1 = n := e
  subst e
  obtain ⟨⟨h1, h2, h3⟩, h4, h5⟩ := g.acc r hr
  refine ⟨h2, h3, r.2, lookA_of_mem g.nd hr, h4, ?_⟩
  unfold madeR
  rw [h4, h5, if_pos (.inl rfl), if_pos h1, if_pos (by decide), if_neg (by simp)]
  rfl
theorem GB.pass {ps : List Int} {b : Bk} (g : GB ps b) (k : Int) : GB ps (passB b k) := by
  have hnm : (passB b k).accs.map (·.1) = b.accs.map (·.1) := by unfold passB; simp [Function.comp_def]
  refine ⟨⟨g.ok.srt, g.ok.two, g.ok.lim, g.ok.low⟩, by rw [hnm]; exact g.nd, ?_, fun r hr => ?_, fun u hu => ?_⟩
  · rw [← List.length_map (f := (·.1)), hnm, List.length_map]; exact g.l20
  · obtain ⟨r0, hr0, rfl⟩ := List.mem_map.mp hr
    exact g.acc r0 hr0
  · obtain ⟨h1, h2, h3⟩ := g.due u hu
    exact ⟨h1, fun z hz => by rw [hnm]; exact h2 z hz, h3⟩
/-- the draws' state and a ledger -/
structure HL (C : CE) (cs : Cells) (a q L pa fa : Addr) (ps : List Int) (b : Bk) (past fut : List Vl) : Prop where
  h : HSt a q cs
  led : isLedF C cs L ps b pa fa past fut
  nL : L ≠ a ∧ L ≠ q
  nP : pa ≠ a ∧ pa ≠ q
  nF : fa ≠ a ∧ fa ≠ q
theorem isLedF.eq2 {C : CE} {cs cs' : Cells} {a q L pa fa : Addr} {ps : List Int} {b : Bk} {past fut : List Vl} (e : Eq2 a q cs cs') (h : isLedF C cs L ps b pa fa past fut) (nL : L ≠ a ∧ L ≠ q) (nP : pa ≠ a ∧ pa ≠ q) (nF : fa ≠ a ∧ fa ≠ q) : isLedF C cs' L ps b pa fa past fut :=
  ⟨⟨by rw [e L nL.1 nL.2]; exact h.led.led, by rw [e pa nP.1 nP.2]; exact h.led.past, h.led.ne⟩, by rw [e fa nF.1 nF.2]; exact h.fut, h.nL, h.nP⟩
theorem HL.draw {C : CE} {cs cs' : Cells} {a q L pa fa : Addr} {ps : List Int} {b : Bk} {past fut : List Vl} (h : HL C cs a q L pa fa ps b past fut) (hs : HSt a q cs') (e : Eq2 a q cs cs') : HL C cs' a q L pa fa ps b past fut :=
  ⟨hs, h.led.eq2 e h.nL h.nP h.nF, h.nL, h.nP, h.nF⟩
theorem HSt.ne {a q x : Addr} {cs : Cells} (h : HSt a q cs) (hx : cs x = none) : x ≠ a ∧ x ≠ q := by
  obtain ⟨_, c1, c2, e1, e2, _⟩ := h
  exact ⟨fun z => (by rw [z, e1] at hx; cases hx), fun z => (by rw [z, e2] at hx; cases hx)⟩
/-- an operation on the ledger -/
theorem HL.op {C : CE} {cs : Cells} {a q L pa fa f' : Addr} {ps : List Int} {b b' : Bk} {past fut past' : List Vl} (h : HL C cs a q L pa fa ps b past fut) (hf : cs f' = none) : HL C (ledE C cs L pa f' ps b' past') a q L pa f' ps b' past' [] := by
  obtain ⟨na, nq⟩ := h.h.ne hf
  have nfL : L ≠ f' := fun z => by have := h.led.led.led; rw [z, hf] at this; cases this
  have nfP : pa ≠ f' := fun z => by have := h.led.led.past; rw [z, hf] at this; cases this
  obtain ⟨ne, c1, c2, e1, e2, ok⟩ := h.h
  refine ⟨⟨ne, c1, c2, ?_, ?_, ok⟩, ⟨⟨Cells.put_same, ?_, h.led.led.ne⟩, ?_, nfL, nfP⟩, h.nL, h.nP, na, nq⟩
  · unfold ledE; rw [Cells.put_ne h.nL.1.symm, Cells.put_ne na.symm, Cells.put_ne h.nP.1.symm]; exact e1
  · unfold ledE; rw [Cells.put_ne h.nL.2.symm, Cells.put_ne nq.symm, Cells.put_ne h.nP.2.symm]; exact e2
  · unfold ledE; rw [Cells.put_ne h.led.led.ne.symm, Cells.put_ne nfP, Cells.put_same]
  · unfold ledE; rw [Cells.put_ne nfL.symm, Cells.put_same]
/-- what else there is stays -/
theorem ledE_ne {C : CE} {cs : Cells} {L pa f' x : Addr} {ps : List Int} {b : Bk} {past : List Vl} {c : CO} (hx : cs x = some c) (hf : cs f' = none) (n1 : x ≠ L) (n2 : x ≠ pa) : ledE C cs L pa f' ps b past x = some c := by
  have : x ≠ f' := fun z => by rw [z, hf] at hx; cases hx
  unfold ledE; rw [Cells.put_ne n1, Cells.put_ne this, Cells.put_ne n2]; exact hx
def sp_law_filled (C : CE) : DSp := fun xs cs Q _ => ∃ (a q : Addr) (ps : List Int) (m : Int), xs = [.cell a, .dat (cal ps), .int m] ∧ HSt a q cs ∧ CalOk ps ∧ ∀ cs' L pa fa b past fut, HL C cs' a q L pa fa ps b past fut → GB ps b → b.day = m → 1 ≤ b.accs.length → past.length ≤ 100 → fut.length ≤ 100 → Q (.cell L) cs'
theorem len_law_filled {C : CE} : ∀ xs cs Q XP, sp_law_filled C xs cs Q XP → xs.length = 3 := by rintro xs cs Q XP ⟨a, q, ps, m, rfl, _⟩; rfl
def gd_Ledger___init___1_day : List Vl → List Vl → List Vl := fun xs ys => xs ++ ys
/-- _law_calendar: slots 0 _law_h, 1 _law_found, 2 _law_k -/
def w_law_calendarH (K : Frag) (C : CE) : WS := (wSeq (wAsg (wLst (wCons (wOp wAdd (wC (.int 1)) (wCall (sp_law_next C) (wCons (wVar 0) (wCons (wC (.int 3)) wNil)))) wNil)) (gN 1))
    (wSeq (wFor (wiRng1 (wCons (wCall (sp_law_next C) (wCons (wVar 0) (wCons (wC (.int 3)) wNil))) wNil)) (gN 2) (wDrop (wApp (wVar 1) (wOp wMul (wOp wIx (wVar 1) (wUn wNeg (wC (.int 1)))) (wOp wAdd (wC (.int 2)) (wCall (sp_law_next C) (wCons (wVar 0) (wCons (wC (.int 3)) wNil))))))))
    (wRet (wFn wTuple (wCons (wVar 1) wNil)))))
theorem pure_law_calendarH (K : Frag) (C : CE) : ∀ xs cs Q XP, sp_law_calendarH C xs cs Q XP → w_law_calendarH K C (retE K Q) (startD 3 xs) cs := by
  rintro xs cs Q XP ⟨a, q, rfl, hh, k⟩
  unfold w_law_calendarH
  walk_at "dl"
  refine next_use hh (by decide) (by decide) fun r cs1 hr0 hr1 h1 e1 => ?_
  walk_at "dl"
  refine ⟨by decide, .inl fun p hp => ?_⟩
  obtain ⟨npa, npq⟩ := h1.ne hp
  have hp0 : cs p = none := by rw [← e1 p npa npq]; exact hp
  have h1' : HSt a q (cs1.put p (.lst [.int (1 + r)])) := by
    obtain ⟨ne, c1, c2, x1, x2, ok⟩ := h1
    exact ⟨ne, c1, c2, by rw [Cells.put_ne npa.symm]; exact x1, by rw [Cells.put_ne npq.symm]; exact x2, ok⟩
  simp only [wFor, wiRng1]
  walk_at "dl"
  refine next_use h1' (by decide) (by decide) fun j cs2 hj0 hj1 h2 e2 => ?_
  walk_at "dl"
  refine ⟨by omega, by omega, fun i ρ cs' => ∃ ps, HSt a q cs' ∧ cs' p = some (.lst (iV ps)) ∧ (∀ x, x ≠ a → x ≠ q → x ≠ p → cs' x = cs x) ∧ calFrom 0 ps ∧ 1 ≤ ps.length ∧ ps.length ≤ i + 1 ∧ i ≤ 2 ∧ (∀ x ∈ ps, x ≤ 3 * 4 ^ i) ∧ ∃ a3, ρ = [some (.cell a), some (.cell p), a3], ?_, fun _ _ _ _ _ => trivial, ?_, ?_⟩
  · refine ⟨[1 + r], h2, by rw [e2 p npa npq, Cells.put_same]; rfl, fun x x1 x2 x3 => by rw [e2 x x1 x2, Cells.put_ne x3, e1 x x1 x2], ⟨by omega, by omega, fun z => absurd z (by decide), trivial⟩, by simp, by simp, by decide, by simp; omega, _, rfl⟩
  · rintro i x ρ cs' hx ⟨ps, h3, hp3, e3, hcf, hl1, hl2, hi2, hall, a3, rfl⟩
    obtain ⟨hi, rfl⟩ := rangeD_at hx
    have hi' : i < 2 := by omega
    have hne : ps ≠ [] := by intro z; subst z; simp at hl1
    have hlast : ps.getLast? = some (ps.getLast hne) := List.getLast?_eq_some_getLast hne
    generalize hz : ps.getLast hne = z at hlast
    have hzm : z ∈ ps := List.mem_of_getLast? hlast
    have hza := calFrom_all (Int.le_refl 0) hcf z hzm
    have hzl := hall z hzm
    walk_at "dl"
    refine ⟨_, hp3, true, _, by rw [hp3]; rfl, .int z, atI_last (by unfold iV; rw [List.getLast?_map, hlast]; rfl), ?_⟩
    refine next_use h3 (by decide) (by decide) fun r2 cs4 hr20 hr21 h4 e4 => ?_
    walk_at "dl"
    have hp4 : cs4 p = some (.lst (iV ps)) := by rw [e4 p npa npq]; exact hp3
    have hz4 : z * (2 + r2) ≤ z * 4 := Int.mul_le_mul_of_nonneg_left (by omega) (by omega)
    have h48 : (3 : Int) * 4 ^ (i + 1) ≤ 48 := by
      have : i = 0 ∨ i = 1 := by omega
      rcases this with rfl | rfl <;> decide
    have h4e : (3 : Int) * 4 ^ (i + 1) = 4 * (3 * 4 ^ i) := by rw [Int.pow_succ]; omega
    refine ⟨mulL (by omega) (by omega), _, hp4, by rw [iV_len]; omega, ?_, ps ++ [z * (2 + r2)], ?_, ?_, ?_, ?_, ?_, ?_, ?_⟩
    · obtain ⟨ne, c1, c2, x1, x2, ok⟩ := h4
      exact ⟨ne, c1, c2, by rw [Cells.put_ne npa.symm]; exact x1, by rw [Cells.put_ne npq.symm]; exact x2, ok⟩
    · rw [← iV_app]; rfl
    · intro x x1 x2 x3
      rw [Cells.put_ne x3, e4 x x1 x2, e3 x x1 x2 x3]
    · refine calFrom_snoc hcf (c := z) (by rw [hlast]; rfl) ?_ (by omega) (fun _ => by simp)
      have : z * 1 < z * (2 + r2) := Int.mul_lt_mul_of_pos_left (by omega) hza.1
      omega
    · simp
    · simp; omega
    · omega
    · intro x hx
      rcases List.mem_append.mp hx with y | y
      · have := hall x y
        have h0 : (0 : Int) ≤ 3 * 4 ^ i := by
          have : (0 : Int) ≤ 4 ^ i := Int.pow_nonneg (by decide)
          omega
        omega
      · simp at y; rw [y]; omega
  · rintro ρ cs' ⟨ps, h3, hp3, e3, hcf, hl1, hl2, hi2, hall, a3, rfl⟩
    rw [rangeD_len] at hl2
    walk_at "dl"
    refine ⟨true, _, by rw [hp3]; rfl, _, allDat_iV ps, ?_⟩
    have hj : j.toNat ≤ 2 := by omega
    refine .drop (cs' := cs'.del p) (fun x c e => ?_) (k ps _ ⟨hl1, by omega, hcf⟩ ?_ ?_)
    · unfold Cells.del at e
      split at e
      · cases e
      · exact e
    · obtain ⟨ne, c1, c2, x1, x2, ok⟩ := h3
      exact ⟨ne, c1, c2, by unfold Cells.del; rw [if_neg npa.symm]; exact x1, by unfold Cells.del; rw [if_neg npq.symm]; exact x2, ok⟩
    · intro x x1 x2
      unfold Cells.del
      by_cases hx : x = p
      · subst hx; rw [if_pos rfl, hp0]
      · rw [if_neg hx, e3 x x1 x2 hx]
end DL
set_option maxRecDepth 100000
set_option maxHeartbeats 4000000
namespace DL
open PySem L2
local macro_rules | `(tactic| walk_at "dl") => `(tactic| simp only [wPop, wEqNil, wMethS, wBestI, wIxS, wDGetV, wDInV, wDLen, wDCopy, wDDel, wDPut, wDNewK, wSortVI, wSortVS, wMakeK, gS, wFldI, wConI, wPropI, wMethI, wMethX, wAlt, wAltS, wCallX, wRaise, wRaise1, wRaise2, wCm, wCm0, noX, xw, insD_obj, insD_cell, coIns_ins, wSt, wLenS, wAll, wCntF, wIdxF, wSplit, wTryAs, wAsD, unE, wIsE, wXf, wIsiO, LamD.wOut, LamD.wLamMk, LamD.wAct, Dat.str.injEq, Dat.obj.injEq, wAbs, wCatS, wExt, wListOf, wiStr, wFld, wSetF, wMeth, wMake, wGMeth, wGCall, wDNewK, wDNewT, CO.ins.injEq, CO.dk.injEq, CO.dt.injEq, Cells.put_put, wRet, wRetN, wSeq, wAsg, wIfS, wDrop, wNext, wVar, wC, wOp, wUn, wFn, wNil, wCons, wTest, wNot, wAnd, wOr, wAndV, wOrV, wNotV, wIf, wChain, wTup, wLst, wCall, wNever, gN, gT, gNil, gCons, gIx, wI, wI0, wNeg, wMax2, wMin2, wLen, wIsN, wNotN, isNon_non, isNon_bl, isNon_int, isNon_str, isNon_lst, isNon_tup, isNon_cell, wIx, wTuple, wAug, wAugIx, wPar, wPar3, wSlL, wSlT, wPart, wNoPart, wCatT, wIsi, wIsi2, isiT, tyD_non, tyD_bl, tyD_int, tyD_str, tyD_lst, tyD_tup, tyD_cell, coTy_lst, seqD_lst, seqD_tp, seqD_cell, coSeq_lst, seen_dat, seen_cell, coDat_lst, startD, wYes, wApp, wEq_int, wEq_bl, allDat_nil, allDat_cons, allDat_map, Option.map_some, List.map_cons, List.map_nil, List.cons_append, List.nil_append, List.length_cons, List.length_nil, List.replicate, List.getElem?_cons_zero, List.getElem?_cons_succ, List.set_cons_zero, List.set_cons_succ, Option.some.injEq, exists_eq_left', exists_eq_left, exists_and_left, exists_eq', exists_eq, Vl.dat.injEq, Vl.raw.injEq, V.ref.injEq, CO.lst.injEq, Dat.int.injEq, Dat.bl.injEq, Dat.tup.injEq, Dat.lst.injEq, List.cons.injEq, and_true, true_and, retE, Nat.reduceAdd, Nat.reduceSub, and_assoc, Prod.mk.injEq, if_true, if_false, Bool.false_eq_true, decide_eq_true_eq, Bool.not_true, Bool.not_false, Bool.not_eq_true', decide_eq_false_iff_not, if_false_left, if_false_right, beq_iff_eq, Bool.or_eq_true, Bool.and_eq_true, Bool.or_self, Bool.or_true, Bool.true_or, Bool.or_false, Bool.false_or, decide_true, decide_false, reduceCtorEq, Cells.put_same, gt_iff_lt, ge_iff_le, beq_self_eq_true, bne_self_eq_false, Bool.decide_eq_true, not_true_eq_false, not_false_eq_true, Decidable.not_not, false_and, and_false, Bool.not_eq_false, at_0, at_1, at_2, at_3, at_4, at_5, ix_0, ix_1, ix_2, ix_3, Nat.reduceLT, Int.reduceLT, Int.reduceLE, Int.reduceNeg, Int.reduceAdd, Int.reduceSub, Int.reduceEq, Int.reducePow, Int.reduceToNat, Cells.put_put])
theorem GB.withA {ps : List Int} {b : Bk} (g : GB ps b) {n : Str} {bal : Int} (hn : nmOk n) (hnew : n ∉ b.accs.map (·.1)) (h20 : b.accs.length < 20) : GB ps (DL.withA b n ⟨"open", 0, bal⟩) := by
  have hnm : (DL.withA b n ⟨"open", 0, bal⟩).accs.map (·.1) = b.accs.map (·.1) ++ [n] := by unfold DL.withA; simp
  refine ⟨⟨g.ok.srt, g.ok.two, g.ok.lim, g.ok.low⟩, ?_, ?_, fun r hr => ?_, fun u hu => ?_⟩
  · rw [hnm]
    exact List.nodup_append.mpr ⟨g.nd, by simp, fun x hx y hy e => hnew (by rw [List.mem_singleton] at hy; rw [← hy, ← e]; exact hx)⟩
  · rw [← List.length_map (f := (·.1)), hnm]; simp; omega
  · rcases List.mem_append.mp (show r ∈ b.accs ++ [(n, ⟨"open", 0, bal⟩)] from hr) with h | h
    · exact g.acc r h
    · rw [List.mem_singleton] at h; subst h; exact ⟨hn, rfl, rfl⟩
  · obtain ⟨h1, h2, h3⟩ := g.due u hu
    exact ⟨h1, fun z hz => by rw [hnm]; exact List.mem_append_left _ (h2 z hz), h3⟩
theorem GB.withU {ps : List Int} {b : Bk} (g : GB ps b) {u : Due} (h1 : ordB ps (u.p, u.d, u.a) = true) (h2 : ∀ z ∈ u.ps, z ∈ b.accs.map (·.1)) (h3 : (∃ z, u.ps = [z]) ∨ ∃ z z2, u.ps = [z, z2] ∧ z ≠ z2) (hl : b.dues.length < 100000) : GB ps (DL.withU b u) := by
  have hps : ∀ z ∈ u.ps, PyData.strOk z = true := fun z hz => by
    obtain ⟨r, hr, e⟩ := List.mem_map.mp (h2 z hz)
    have e : r.1 = z := e
    rw [← e]
    exact (g.acc r hr).1.2.2
  have hlen : u.ps.length = 1 ∨ u.ps.length = 2 := by
    rcases h3 with ⟨z, e⟩ | ⟨z, z2, e, _⟩ <;> rw [e] <;> simp
  have mem : ∀ x, x ∈ (DL.withU b u).dues → x ∈ b.dues ∨ x = (b.nxt, u) := fun x hx => by
    rcases List.mem_append.mp (show x ∈ b.dues ++ [(b.nxt, u)] from hx) with h | h
    · exact .inl h
    · exact .inr (List.mem_singleton.mp h)
  refine ⟨⟨?_, fun x hx => ?_, ?_, fun x hx => ?_⟩, g.nd, g.l20, g.acc, fun x hx => ?_⟩
  · show ((b.dues ++ [(b.nxt, u)]).map (·.1)).Pairwise (· < ·)
    rw [List.map_append]
    refine List.pairwise_append.mpr ⟨g.ok.srt, by simp, fun x hx y hy => ?_⟩
    obtain ⟨r, hr, rfl⟩ := List.mem_map.mp hx
    simp only [List.map_cons, List.map_nil, List.mem_singleton] at hy
    rw [hy]
    exact g.ok.low r hr
  · rcases mem x hx with h | rfl
    · exact g.ok.two x h
    · exact ⟨hlen, hps⟩
  · show (b.dues ++ [(b.nxt, u)]).length ≤ 100000
    simp; omega
  · show x.1 < b.nxt + 1
    rcases mem x hx with h | rfl
    · have := g.ok.low x h; omega
    · show b.nxt < b.nxt + 1; omega
  · rcases mem x hx with h | rfl
    · exact g.due x h
    · exact ⟨h1, h2, h3⟩
theorem cntPay_le (b : Bk) (z : Str) : 0 ≤ cntPay b z ∧ cntPay b z ≤ b.dues.length := by
  unfold cntPay payL
  have := List.length_filterMap_le (payOf z) b.dues
  omega
theorem maxPay1 {b : Bk} {z : Str} (h : b.dues.length < 60) : maxPay b [z] ≠ 60 := by
  have := cntPay_le b z
  unfold maxPay
  simp
  omega
theorem maxPay2 {b : Bk} {z z2 : Str} (h : b.dues.length < 60) : maxPay b [z, z2] ≠ 60 := by
  have := cntPay_le b z
  have := cntPay_le b z2
  unfold maxPay
  simp
  omega
theorem openR_none {C : CE} {b : Bk} {n : Str} {bal c : Int} (hn : nameB n = true) (hnew : n ∉ b.accs.map (·.1)) (h20 : b.accs.length < 20) (h1 : -1000000000000000000 ≤ bal) (h2 : bal ≤ 1000000000000000000) : openR C b n "open" 0 bal c = none := by
  have hlk : lookA b.accs n = none := by
    cases e : lookA b.accs n with
    | none => rfl
    | some q =>
      exfalso
      unfold lookA at e
      obtain ⟨r, hr, e2⟩ := Option.map_eq_some_iff.mp e
      have := List.find?_some hr
      simp at this
      exact hnew (List.mem_map.mpr ⟨r, List.mem_of_find?_eq_some hr, this⟩)
  unfold openR
  rw [if_neg (by omega), hlk, if_neg (by simp)]
  have hm : madeR C "open" n 0 bal c = .ok (acctD C .op n 0 bal c) := by
    unfold madeR
    rw [if_pos (.inl rfl), if_pos hn, if_pos (by decide), if_neg (by simp)]
    rfl
  rw [hm]
  simp only
  rw [if_pos ⟨h1, h2⟩]
def nm4 : List Str := ["amy", "bob", "cy", "di"]
theorem nm4_ok : ∀ n ∈ nm4, nmOk n := by
  intro n hn
  simp only [nm4, List.mem_cons, List.not_mem_nil, or_false] at hn
  rcases hn with rfl | rfl | rfl | rfl <;> exact ⟨by decide +kernel, by decide +kernel, by decide +kernel⟩
theorem nm4_new : ∀ i n, nm4[i]? = some n → n ∉ nm4.take i := by
  intro i n h
  match i, h with
  | 0, h => simp
  | 1, h => cases h; decide +kernel
  | 2, h => cases h; decide +kernel
  | 3, h => cases h; decide +kernel
theorem cutTo {α : Type} (xs : List α) {j : Int} (h : 0 ≤ j) : cutD xs none (some j) = xs.take j.toNat := by
  unfold cutD
  have e : HT.sIx xs.length xs.length (some j) = min j.toNat xs.length := by
    show (if j < 0 then _ else _) = _
    rw [if_neg (by omega)]
  rw [e, HT.sIx_none, List.drop_zero, Nat.sub_zero, List.take_eq_take_iff]
  omega
theorem ordB_of {ps : List Int} {p d a : Int} (h1 : p ∈ ps) (h2 : 0 ≤ d) (h3 : d < p) (h4 : a ≠ 0) : ordB ps (p, d, a) = true := by
  unfold ordB
  simp [h1, h2, h3, h4]
theorem addR_none {C : CE} {b : Bk} {ps : List Int} {u : Due} (h1 : ordB ps (u.p, u.d, u.a) = true) (h2 : (if u.ps.length = 2 then 1 else -1000000000000000000) ≤ u.a) (h3 : u.a ≤ 1000000000000000000) (h4 : u.a ≠ 0) (h5 : maxPay b u.ps ≠ 60) : addR C b ps u = none := by
  unfold addR
  rw [if_pos ⟨h2, h3, h4⟩, if_pos h1, if_neg h5]
theorem hT {ρ : DEnv} {cs : Cells} {P : Vl → Cells → Prop} {i : Nat} {x : Vl} (h : ρ[i]? = some (some x)) (p : P x cs) : wVar i ρ cs P := ⟨x, h, p⟩
/-- _law_filled: slots 0 _law_h, 1 _law_calendar_here, 2 _law_moment, 3 _law_ledger, 4 _law_name, 5 _law_k, 6 _law_names, 7 _law_period, 8 _law_one, 9 _law_other, 10 _law_residue, 11 _law_amount -/
def w_law_filled_b2_3 (K : Frag) (C : CE) : WS := (wIfS (wTest (wOp (wEqD true) (wVar 8) (wVar 9))) (wDrop (wMethI C.Ledger "add_transfer" (noX (sp_Ledger_add_transfer C)) (wVar 3) (wCons (wVar 8) (wCons (wVar 9) (wCons (wVar 7) (wCons (wVar 10) (wCons (wVar 11) wNil))))))) (wDrop (wMethI C.Ledger "add_order" (noX (sp_Ledger_add_order C)) (wVar 3) (wCons (wVar 8) (wCons (wVar 7) (wCons (wVar 10) (wCons (wOp wMul (wVar 11) (wOp wSub (wC (.int 1)) (wOp wMul (wC (.int 2)) (wCall (sp_law_next C) (wCons (wVar 0) (wCons (wC (.int 2)) wNil)))))) wNil)))))))
def w_law_filled_b2_2 (K : Frag) (C : CE) : WS := (wSeq (wPar 10 11 (wCons (wCall (sp_law_next C) (wCons (wVar 0) (wCons (wVar 7) wNil))) (wCons (wOp wAdd (wC (.int 1)) (wCall (sp_law_next C) (wCons (wVar 0) (wCons (wOp wIx (wLst (wCons (wC (.int 50)) (wCons (wOp wPow (wC (.int 10)) (wC (.int 18))) wNil))) (wOp wDiv (wCall (sp_law_next C) (wCons (wVar 0) (wCons (wC (.int 9)) wNil))) (wC (.int 8)))) wNil)))) wNil)))
    (w_law_filled_b2_3 K C))
def w_law_filled_b2_1 (K : Frag) (C : CE) : WS := (wSeq (wPar 8 9 (wCons (wOp wIx (wVar 6) (wCall (sp_law_next C) (wCons (wVar 0) (wCons (wFn wLen (wCons (wVar 6) wNil)) wNil)))) (wCons (wOp wIx (wVar 6) (wCall (sp_law_next C) (wCons (wVar 0) (wCons (wFn wLen (wCons (wVar 6) wNil)) wNil)))) wNil)))
    (w_law_filled_b2_2 K C))
def w_law_filled_b2_0 (K : Frag) (C : CE) : WS := (wSeq (wPar 6 7 (wCons (wPropI C.Ledger (sp_Ledger_names C) (wVar 3)) (wCons (wOp wIx (wVar 1) (wCall (sp_law_next C) (wCons (wVar 0) (wCons (wFn wLen (wCons (wVar 1) wNil)) wNil)))) wNil)))
    (w_law_filled_b2_1 K C))
def w_law_filled_b0_3 (K : Frag) (C : CE) : WS := (wRet (wVar 3))
def w_law_filled_b0_2 (K : Frag) (C : CE) : WS := (wSeq (wFor (wiRng1 (wCons (wCall (sp_law_next C) (wCons (wVar 0) (wCons (wC (.int 7)) wNil))) wNil)) (gN 5) (w_law_filled_b2_0 K C))
    (w_law_filled_b0_3 K C))
def w_law_filled_b0_1 (K : Frag) (C : CE) : WS := (wSeq (wFor (wiSeq (wSlL (wLst (wCons (wC (.str "amy")) (wCons (wC (.str "bob")) (wCons (wC (.str "cy")) (wCons (wC (.str "di")) wNil))))) wNoPart (wPart (wOp wAdd (wC (.int 1)) (wCall (sp_law_next C) (wCons (wVar 0) (wCons (wC (.int 4)) wNil))))))) (gN 4) (wDrop (wMethI C.Ledger "open_account" (noX (sp_Ledger_open_account C)) (wVar 3) (wCons (wVar 4) (wCons (wC (.str "open")) (wCons (wC (.int 0)) (wCons (wOp wSub (wCall (sp_law_next C) (wCons (wVar 0) (wCons (wC (.int 2000)) wNil))) (wC (.int 1000))) wNil)))))))
    (w_law_filled_b0_2 K C))
def w_law_filled_b0_0 (K : Frag) (C : CE) : WS := (wSeq (wAsg (wMakeK C.Ledger 1 1 gd_Ledger___init___1_day (noX (sp_Ledger___init__ C)) (wCons (wVar 1) wNil) (wCons (wVar 2) wNil)) (gN 3))
    (w_law_filled_b0_1 K C))
def w_law_filled (K : Frag) (C : CE) : WS := (w_law_filled_b0_0 K C)
theorem pure_law_filled (K : Frag) (C : CE) : ∀ xs cs Q XP, sp_law_filled C xs cs Q XP → w_law_filled K C (retE K Q) (startD 12 xs) cs := by
  rintro xs cs Q XP ⟨a, q, ps, m, rfl, hh, hck, k⟩
  have hc : ∃ c, ps.getLast? = some c := by
    cases e : ps.getLast? with
    | none => have := hck.1; rw [List.getLast?_eq_none_iff] at e; rw [e] at this; simp at this
    | some c => exact ⟨c, rfl⟩
  obtain ⟨c, hc⟩ := hc
  unfold w_law_filled w_law_filled_b0_0
  walk_at "dl"
  refine fun L fL => ⟨L, ps, m, rfl, hck, Cells.put_same, fun pa f' fpa ff npf => ?_⟩
  obtain ⟨nPL, fpa'⟩ := put_none fpa
  obtain ⟨nFL, ff'⟩ := put_none ff
  walk_at "dl"
  have H0 : HL C (ledE C (cs.put L (.ins C.Ledger [])) L pa f' ps ⟨m, [], [], 1⟩ []) a q L pa f' ps ⟨m, [], [], 1⟩ [] [] := by
    obtain ⟨nLa, nLq⟩ := hh.ne fL
    obtain ⟨nPa, nPq⟩ := hh.ne fpa'
    obtain ⟨nFa, nFq⟩ := hh.ne ff'
    obtain ⟨ne, c1, c2, e1, e2, ok⟩ := hh
    refine ⟨⟨ne, c1, c2, ?_, ?_, ok⟩, ⟨⟨Cells.put_same, ?_, nPL.symm⟩, ?_, nFL.symm, npf⟩, ⟨nLa, nLq⟩, ⟨nPa, nPq⟩, nFa, nFq⟩
    · unfold ledE; rw [Cells.put_ne nLa.symm, Cells.put_ne nFa.symm, Cells.put_ne nPa.symm, Cells.put_ne nLa.symm]; exact e1
    · unfold ledE; rw [Cells.put_ne nLq.symm, Cells.put_ne nFq.symm, Cells.put_ne nPq.symm, Cells.put_ne nLq.symm]; exact e2
    · unfold ledE; rw [Cells.put_ne nPL, Cells.put_ne npf, Cells.put_same]
    · unfold ledE; rw [Cells.put_ne nFL, Cells.put_same]
  generalize ledE C (cs.put L (.ins C.Ledger [])) L pa f' ps ⟨m, [], [], 1⟩ [] = cs0 at H0 ⊢
  unfold w_law_filled_b0_1
  walk_at "dl"
  simp only [wFor, wiSeq]
  walk_at "dl"
  refine ⟨by decide, .inr ⟨nm4.map .str, rfl, ?_⟩⟩
  refine next_use H0.h (by decide) (by decide) fun r cs1 hr0 hr1 h1 e1 => ?_
  have H1 := H0.draw h1 e1
  walk_at "dl"
  rw [cutTo _ (by omega), ← List.map_take, ← List.map_take]
  refine .inr ⟨_, allDat_map _, true, _, rfl, ?_⟩
  refine ⟨fun i ρ cs' => ∃ fa b past, HL C cs' a q L pa fa ps b past [] ∧ GB ps b ∧ b.day = m ∧ b.dues = [] ∧ b.accs.map (·.1) = nm4.take i ∧ i ≤ 4 ∧ past.length ≤ i ∧ ∃ x4, ρ = [some (.cell a), some (.dat (cal ps)), some (.int m), some (.cell L), x4, none, none, none, none, none, none, none], ?_, fun _ _ _ _ _ => rfl, ?_, ?_⟩
  · exact ⟨_, _, _, H1, ⟨⟨.nil, fun q h => (by cases h), (by show 0 ≤ _; omega), fun q h => (by cases h)⟩, .nil, (by show 0 ≤ _; omega), fun q h => (by cases h), fun q h => (by cases h)⟩, rfl, rfl, rfl, by decide, by decide, _, rfl⟩
  · rintro i x ρ cs' hx ⟨fa, b, past, H, g, hd, hdu, hnm, hi4, hpl, x4, rfl⟩
    rw [List.map_map, List.getElem?_map, List.getElem?_take] at hx
    split at hx
    · obtain ⟨n, hn, rfl⟩ := Option.map_eq_some_iff.mp hx
      have hlt : i < 4 := by
        have : i < nm4.length := by rcases Nat.lt_or_ge i nm4.length with h | h; exact h; rw [List.getElem?_eq_none h] at hn; cases hn
        exact this
      have hnok := nm4_ok n (List.mem_of_getElem? hn)
      have hnew : n ∉ b.accs.map (·.1) := by rw [hnm]; exact nm4_new i n hn
      have hal : b.accs.length ≤ 4 := by
        have := congrArg List.length hnm
        rw [List.length_map] at this
        have := List.length_take_le i nm4
        omega
      walk_at "dl"
      refine ⟨_, by rw [H.led.led.led]; rfl, rfl, ?_⟩
      refine next_use H.h (by decide) (by decide) fun w cs2 hw0 hw1 h2 e2 => ?_
      have H2 := H.draw h2 e2
      walk_at "dl"
      have ho : openR C b n "open" 0 (w - 1000) c = none := openR_none hnok.1 hnew (by omega) (by omega) (by omega)
      refine ⟨L, pa, n, "open", 0, w - 1000, c, b, ps, .cell fa, past, rfl, H2.led.led, hc, by omega, by omega, hnok.2.1, by decide +kernel, fun fs e => ?_, ?_⟩
      · unfold openR at ho
        rw [if_neg (by omega)] at ho
        rw [e] at ho
        split at ho <;> simp at ho
      · have ho' : openR C b n (Str.ofString "open") 0 (w - 1000) c = none := ho
        rw [ho']
        intro f2 hf2
        refine ⟨f2, _, _, H2.op hf2, g.withA hnok hnew (by omega), hd, hdu, ?_, by omega, ?_⟩
        · show (b.accs ++ [(n, (⟨"open", 0, w - 1000⟩ : Acc))]).map (·.1) = _
          rw [List.map_append, hnm, List.take_add_one, hn]
          rfl
        · simp; omega
    · cases hx
  · rintro ρ cs' ⟨fa, b, past, H, g, hd, hdu, hnm, hi4, hpl, x4, rfl⟩
    have hal : 1 ≤ b.accs.length := by
      have := congrArg List.length hnm
      rw [List.length_map, List.length_map, List.length_map, List.length_take, List.length_take] at this
      have h4 : nm4.length = 4 := rfl
      rw [h4] at this
      omega
    unfold w_law_filled_b0_2
    walk_at "dl"
    simp only [wFor, wiRng1]
    walk_at "dl"
    refine next_use H.h (by decide) (by decide) fun j cs2 hj0 hj1 h2 e2 => ?_
    have H2 := H.draw h2 e2
    walk_at "dl"
    refine ⟨by omega, by omega, fun i ρ cs' => ∃ fa b past, HL C cs' a q L pa fa ps b past [] ∧ GB ps b ∧ b.day = m ∧ b.dues.length ≤ i ∧ 1 ≤ b.accs.length ∧ i ≤ 7 ∧ past.length ≤ 4 + i ∧ ∃ x4 x5 x6 x7 x8 x9 x10 x11, ρ = [some (.cell a), some (.dat (cal ps)), some (.int m), some (.cell L), x4, x5, x6, x7, x8, x9, x10, x11], ?_, fun _ _ _ _ _ => trivial, ?_, ?_⟩
    · exact ⟨_, _, _, H2, g, hd, by rw [hdu]; simp, hal, by omega, by simp at hpl; omega, _, _, _, _, _, _, _, _, rfl⟩
    · rintro i x ρ cs' hx ⟨fa, b, past, H, g, hd, hdu, hal, hi7, hpl, x4, x5, x6, x7, x8, x9, x10, x11, rfl⟩
      obtain ⟨hi, rfl⟩ := rangeD_at hx
      have g20 := g.l20
      unfold w_law_filled_b2_0
      walk_at "dl"
      refine ⟨_, by rw [H.led.led.led]; rfl, L, b, rfl, H.led.led.has, by omega, fun ys pm hs => ?_⟩
      rw [names_eq pm hs]
      walk_at "dl"
      have hpl1 := hck.1
      have hpl5 := hck.2.1
      refine ⟨false, (iD ps).map .dat, rfl, ?_⟩
      have hlp : ((iD ps).map Vl.dat).length = ps.length := by simp [iD]
      rw [hlp]
      refine next_use H.h (by omega) (by omega) fun r1 cs3 hr10 hr11 h3 e3 => ?_
      have H3 := H.draw h3 e3
      obtain ⟨p, hp⟩ : ∃ p, ps[r1.toNat]? = some p := ⟨_, List.getElem?_eq_getElem (by omega)⟩
      have hpm := List.mem_of_getElem? hp
      obtain ⟨pp0, pp1⟩ := calFrom_all (Int.le_refl 0) hck.2.2 p hpm
      refine ⟨false, (iD ps).map .dat, rfl, r1, rfl, .int p, ?_, ?_⟩
      · rw [iD_map]; exact atI_int hr10 (iV_get hp)
      have hnl : (nms b).length = b.accs.length := nms_len
      unfold w_law_filled_b2_1
      walk_at "dl"
      rw [List.length_map, List.length_map, hnl]
      refine next_use H3.h (by omega) (by omega) fun r2 cs4 hr20 hr21 h4 e4 => ?_
      have H4 := H3.draw h4 e4
      obtain ⟨n1, hn1⟩ : ∃ n, (nms b)[r2.toNat]? = some n := ⟨_, List.getElem?_eq_getElem (by omega)⟩
      refine ⟨r2, rfl, .dat (.str n1), atI_int hr20 (by rw [List.getElem?_map, List.getElem?_map, hn1]; rfl), ?_⟩
      refine next_use H4.h (by omega) (by omega) fun r3 cs5 hr30 hr31 h5 e5 => ?_
      have H5 := H4.draw h5 e5
      obtain ⟨n2, hn2⟩ : ∃ n, (nms b)[r3.toNat]? = some n := ⟨_, List.getElem?_eq_getElem (by omega)⟩
      refine ⟨r3, rfl, .dat (.str n2), atI_int hr30 (by rw [List.getElem?_map, List.getElem?_map, hn2]; rfl), ?_⟩
      have hm1 := nms_mem.mp (List.mem_of_getElem? hn1)
      have hm2 := nms_mem.mp (List.mem_of_getElem? hn2)
      have ok1 := g.okO (C := C) (c := c) hm1
      have ok2 := g.okO (C := C) (c := c) hm2
      unfold w_law_filled_b2_2
      walk_at "dl"
      refine next_use H5.h (by omega) (by omega) fun rd cs6 hrd0 hrd1 h6 e6 => ?_
      have H6 := H5.draw h6 e6
      refine ⟨pow10 18 (by decide), by decide, .inr ⟨[.int 50, .int 1000000000000000000], rfl, ?_⟩⟩
      refine next_use H6.h (by decide) (by decide) fun r7 cs7 hr70 hr71 h7 e7 => ?_
      have H7 := H6.draw h7 e7
      walk_at "dl"
      have h78 : r7 / 8 = 0 ∨ r7 / 8 = 1 := by omega
      obtain ⟨bd, hbd, hbd0, hbd1⟩ : ∃ bd : Int, atI [Vl.dat (.int 50), Vl.dat (.int 1000000000000000000)] (r7 / 8) = some (.int bd) ∧ 0 < bd ∧ bd ≤ 1000000000000000000 := by
        rcases h78 with e | e
        · exact ⟨50, by rw [e]; rfl, by decide, by decide⟩
        · exact ⟨1000000000000000000, by rw [e]; rfl, by decide, by decide⟩
      refine ⟨divOk (by decide) (by decide), _, hbd, ?_⟩
      refine next_use H7.h hbd0 (by omega) fun am cs8 ham0 ham1 h8 e8 => ?_
      have H8 := H7.draw h8 e8
      refine ⟨am, rfl, ?_⟩
      unfold w_law_filled_b2_3
      walk_at "dl"
      refine wEq_of 1 (by decide) rfl rfl ok1.2.1 ok2.2.1 (fun e => ⟨false, rfl, ?_⟩) (fun e => ⟨true, rfl, ?_⟩)
      · have e12 : n1 = n2 := by cases e; rfl
        rw [if_neg (by decide)]
        refine ⟨_, by rw [H8.led.led.led]; rfl, rfl, ?_⟩
        refine next_use H8.h (by decide) (by decide) fun sg cs9 hs0 hs1 h9 e9 => ?_
        have H9 := H8.draw h9 e9
        walk_at "dl"
        have hsg : sg = 0 ∨ sg = 1 := by omega
        generalize hA : (1 + am) * (1 - 2 * sg) = A
        have hA1 : (A = 1 + am ∨ A = -(1 + am)) := by
          rcases hsg with rfl | rfl
          · left; rw [← hA]; omega
          · right; rw [← hA]; omega
        have hA0 : A ≠ 0 := by omega
        have hob := ordB_of hpm hrd0 hrd1 hA0
        refine ⟨mulR (by omega) (by omega), mulR (by omega) (by omega), ?_⟩
        refine ⟨L, pa, n1, p, rd, A, c, b, ps, .cell fa, past, rfl, H9.led.led, hck, hc, g.ok, by omega, ok1.1, ?_⟩
        obtain ⟨qa, hqa⟩ := lookA_mem hm1
        rw [if_neg (by rw [hqa]; simp)]
        refine ⟨ok1.okA, ?_⟩
        have ha : addR C b ps ⟨[n1], p, rd, A⟩ = none := addR_none hob (by show (if (1 : Nat) = 2 then (1 : Int) else _) ≤ A; rw [if_neg (by decide)]; omega) (by show A ≤ _; omega) hA0 (maxPay1 (by omega))
        rw [ha]
        intro f2 hf2
        refine ⟨f2, _, _, H9.op hf2, g.withU hob (fun z hz => by simp at hz; rw [hz]; exact hm1) (.inl ⟨n1, rfl⟩) (by omega), hd, ?_, hal, by omega, ?_⟩
        · show (b.dues ++ [_]).length ≤ _
          simp; omega
        · simp; omega
      · have e12 : n1 ≠ n2 := fun z => e (by rw [z])
        rw [if_pos rfl]
        refine ⟨_, by rw [H8.led.led.led]; rfl, rfl, ?_⟩
        have hob := ordB_of (a := 1 + am) hpm hrd0 hrd1 (by omega)
        refine ⟨L, pa, n1, n2, p, rd, 1 + am, c, b, ps, .cell fa, past, rfl, H8.led.led, hck, hc, g.ok, by omega, ok1.okA, ok2.okA, ?_⟩
        rw [if_neg e12]
        have ha : addR C b ps ⟨[n1, n2], p, rd, 1 + am⟩ = none := addR_none hob (by show (if (2 : Nat) = 2 then (1 : Int) else _) ≤ 1 + am; rw [if_pos rfl]; omega) (by show 1 + am ≤ _; omega) (by show 1 + am ≠ 0; omega) (maxPay2 (by omega))
        rw [ha]
        intro f2 hf2
        refine ⟨f2, _, _, H8.op hf2, g.withU hob (fun z hz => by simp at hz; rcases hz with rfl | rfl; exact hm1; exact hm2) (.inr ⟨n1, n2, rfl, e12⟩) (by omega), hd, ?_, hal, by omega, ?_⟩
        · show (b.dues ++ [_]).length ≤ _
          simp; omega
        · simp; omega
    · rintro ρ cs' ⟨fa, b, past, H, g, hd, hdu, hal, hi7, hpl, x4, x5, x6, x7, x8, x9, x10, x11, rfl⟩
      rw [rangeD_len] at hpl
      unfold w_law_filled_b0_3
      walk_at "dl"
      exact .now (k cs' L pa fa b past [] H g hd hal (by omega) (by simp))
end DL
set_option maxRecDepth 100000
set_option maxHeartbeats 4000000
namespace DL
open PySem L2
local macro_rules | `(tactic| walk_at "dl") => `(tactic| simp only [wPop, wEqNil, wMethS, wBestI, wIxS, wDGetV, wDInV, wDLen, wDCopy, wDDel, wDPut, wDNewK, wSortVI, wSortVS, wMakeK, gS, wFldI, wConI, wPropI, wMethI, wMethX, wAlt, wAltS, wCallX, wRaise, wRaise1, wRaise2, wCm, wCm0, noX, xw, insD_obj, insD_cell, coIns_ins, wSt, wLenS, wAll, wCntF, wIdxF, wSplit, wTryAs, wAsD, unE, wIsE, wXf, wIsiO, LamD.wOut, LamD.wLamMk, LamD.wAct, Dat.str.injEq, Dat.obj.injEq, wAbs, wCatS, wExt, wListOf, wiStr, wFld, wSetF, wMeth, wMake, wGMeth, wGCall, wDNewK, wDNewT, CO.ins.injEq, CO.dk.injEq, CO.dt.injEq, Cells.put_put, wRet, wRetN, wSeq, wAsg, wIfS, wDrop, wNext, wVar, wC, wOp, wUn, wFn, wNil, wCons, wTest, wNot, wAnd, wOr, wAndV, wOrV, wNotV, wIf, wChain, wTup, wLst, wCall, wNever, gN, gT, gNil, gCons, gIx, wI, wI0, wNeg, wMax2, wMin2, wLen, wIsN, wNotN, isNon_non, isNon_bl, isNon_int, isNon_str, isNon_lst, isNon_tup, isNon_cell, wIx, wTuple, wAug, wAugIx, wPar, wPar3, wSlL, wSlT, wPart, wNoPart, wCatT, wIsi, wIsi2, isiT, tyD_non, tyD_bl, tyD_int, tyD_str, tyD_lst, tyD_tup, tyD_cell, coTy_lst, seqD_lst, seqD_tp, seqD_cell, coSeq_lst, seen_dat, seen_cell, coDat_lst, startD, wYes, wApp, wEq_int, wEq_bl, allDat_nil, allDat_cons, allDat_map, Option.map_some, List.map_cons, List.map_nil, List.cons_append, List.nil_append, List.length_cons, List.length_nil, List.replicate, List.getElem?_cons_zero, List.getElem?_cons_succ, List.set_cons_zero, List.set_cons_succ, Option.some.injEq, exists_eq_left', exists_eq_left, exists_and_left, exists_eq', exists_eq, Vl.dat.injEq, Vl.raw.injEq, V.ref.injEq, CO.lst.injEq, Dat.int.injEq, Dat.bl.injEq, Dat.tup.injEq, Dat.lst.injEq, List.cons.injEq, and_true, true_and, retE, Nat.reduceAdd, Nat.reduceSub, and_assoc, Prod.mk.injEq, if_true, if_false, Bool.false_eq_true, decide_eq_true_eq, Bool.not_true, Bool.not_false, Bool.not_eq_true', decide_eq_false_iff_not, if_false_left, if_false_right, beq_iff_eq, Bool.or_eq_true, Bool.and_eq_true, Bool.or_self, Bool.or_true, Bool.true_or, Bool.or_false, Bool.false_or, decide_true, decide_false, reduceCtorEq, Cells.put_same, gt_iff_lt, ge_iff_le, beq_self_eq_true, bne_self_eq_false, Bool.decide_eq_true, not_true_eq_false, not_false_eq_true, Decidable.not_not, false_and, and_false, Bool.not_eq_false, at_0, at_1, at_2, at_3, at_4, at_5, ix_0, ix_1, ix_2, ix_3, Nat.reduceLT, Int.reduceLT, Int.reduceLE, Int.reduceNeg, Int.reduceAdd, Int.reduceSub, Int.reduceEq, Int.reducePow, Int.reduceToNat, Cells.put_put])
def pay1 (n : Str) (u : Int × Due) : Int := if u.2.ps.head? = some n then (if u.2.ps.length = 1 then u.2.a else 0 - u.2.a) else if u.2.ps.getLast? = some n then u.2.a else 0
theorem flowS_eq (b : Bk) (n : Str) (f l : Int) : flowS b n f l = (b.dues.map fun u => pay1 n u * daysDue u.2.p u.2.d f l).sum := by
  unfold flowS rowsOf
  induction b.dues with
  | nil => rfl
  | cons u us ih =>
    simp only [List.map_cons, List.sum_cons, List.filterMap_cons]
    rw [← ih]
    unfold payR pay1
    by_cases h : u.2.ps.head? = some n
    · simp [h]
    · by_cases h2 : u.2.ps.getLast? = some n
      · simp [h, h2]
      · simp [h, h2]
theorem due_add {p d t f s : Int} (hp : 0 < p) (hf : 0 ≤ f) (hs : 0 ≤ s) : daysDue p d (t + 1) (t + f) + daysDue p d (t + f + 1) (t + f + s) = daysDue p d (t + 1) (t + (f + s)) := by
  unfold daysDue
  have m1 : (t - d) / p ≤ (t + f - d) / p := Int.ediv_le_ediv hp (by omega)
  have m2 : (t + f - d) / p ≤ (t + f + s - d) / p := Int.ediv_le_ediv hp (by omega)
  rw [show t + 1 - 1 - d = t - d by omega, show t + f + 1 - 1 - d = t + f - d by omega, show t + (f + s) - d = t + f + s - d by omega]
  omega
theorem sum_add {α : Type} (l : List α) (f g : α → Int) : (l.map fun x => f x + g x).sum = (l.map f).sum + (l.map g).sum := by
  induction l with
  | nil => rfl
  | cons x l ih => simp only [List.map_cons, List.sum_cons, ih]; omega
theorem flow_add {ps : List Int} {b : Bk} (g : GB ps b) (hck : CalOk ps) (n : Str) {f s : Int} (hf : 0 ≤ f) (hs : 0 ≤ s) : flowS b n (b.day + 1) (b.day + f) + flowS b n (b.day + f + 1) (b.day + f + s) = flowS b n (b.day + 1) (b.day + (f + s)) := by
  rw [flowS_eq, flowS_eq, flowS_eq, ← sum_add]
  congr 1
  apply List.map_congr_left
  intro u hu
  have h := (g.due u hu).1
  obtain ⟨k1, _⟩ := ordB_iff.mp h
  obtain ⟨p0, _⟩ := calFrom_all (Int.le_refl 0) hck.2.2 _ k1
  rw [← Int.mul_add, due_add p0 hf hs]
theorem pass_add {ps : List Int} {b : Bk} (g : GB ps b) (hck : CalOk ps) {f s : Int} (hf : 0 ≤ f) (hs : 0 ≤ s) : passB (passB b f) s = passB b (f + s) := by
  unfold passB
  simp only [List.map_map]
  have e : (b.day + f + s) = b.day + (f + s) := by omega
  congr 1
  apply List.map_congr_left
  intro r _
  simp only [Function.comp]
  congr 2
  have := flow_add g hck r.1 hf hs
  have e2 : flowS { day := b.day + f, accs := b.accs.map fun r => (r.1, { r.2 with b := r.2.b + flowS b r.1 (b.day + 1) (b.day + f) }), dues := b.dues, nxt := b.nxt } r.1 (b.day + f + 1) (b.day + f + s) = flowS b r.1 (b.day + f + 1) (b.day + f + s) := rfl
  rw [e2]
  omega
theorem pass_nms (b : Bk) (k : Int) : nms (passB b k) = nms b := by
  unfold nms passB
  simp [Function.comp_def]
/-- what the law reckons for an account -/
def ownP (n : Str) (u : Int × Due) : Bool := decide (u.2.ps = [n])
def trP (u : Int × Due) : Bool := decide (u.2.ps.length = 2)
def sgn (n : Str) (u : Int × Due) : Int := (if u.2.ps.getLast? = some n then 1 else 0) - (if u.2.ps.head? = some n then 1 else 0)
theorem flow_law {ps : List Int} {b : Bk} (g : GB ps b) (n : Str) (f l : Int) : flowS b n f l = ((b.dues.filter (ownP n)).map fun u => u.2.a * daysDue u.2.p u.2.d f l).sum + ((b.dues.filter trP).map fun u => u.2.a * daysDue u.2.p u.2.d f l * sgn n u).sum := by
  rw [flowS_eq]
  have h := g.due
  generalize b.dues = ds at h
  induction ds with
  | nil => rfl
  | cons u us ih =>
    have ih := ih fun x hx => h x (List.mem_cons_of_mem _ hx)
    obtain ⟨_, _, h3⟩ := h u List.mem_cons_self
    simp only [List.map_cons, List.sum_cons, List.filter_cons]
    rw [ih]
    rcases h3 with ⟨z, e⟩ | ⟨z, z2, e, ne⟩
    · have e2 : trP u = false := by unfold trP; rw [e]; rfl
      rw [e2]
      simp only [Bool.false_eq_true, if_false]
      by_cases hz : z = n
      · have e3 : ownP n u = true := by unfold ownP; rw [e, hz]; simp
        rw [e3]
        simp only [if_true, List.map_cons, List.sum_cons]
        have e4 : pay1 n u = u.2.a := by unfold pay1; rw [e]; simp [hz]
        rw [e4]
        omega
      · have e3 : ownP n u = false := by unfold ownP; rw [e]; simp [hz]
        rw [e3]
        simp only [Bool.false_eq_true, if_false]
        have e4 : pay1 n u = 0 := by unfold pay1; rw [e]; simp [hz]
        rw [e4]
        omega
    · have e2 : trP u = true := by unfold trP; rw [e]; rfl
      have e3 : ownP n u = false := by unfold ownP; rw [e]; simp
      rw [e2, e3]
      simp only [if_true, Bool.false_eq_true, if_false, List.map_cons, List.sum_cons]
      have e4 : pay1 n u * daysDue u.2.p u.2.d f l = u.2.a * daysDue u.2.p u.2.d f l * sgn n u := by
        unfold pay1 sgn
        rw [e]
        by_cases hz : z = n
        · have hz2 : ¬ z2 = n := fun q => ne (hz.trans q.symm)
          simp [hz, hz2, Int.neg_mul]
        · by_cases hz2 : z2 = n
          · simp [hz, hz2]
          · simp [hz, hz2]
      rw [e4]
      omega
theorem sum_one {ns : List Str} (nd : ns.Nodup) {z : Str} (h : z ∈ ns) (x : Int) : (ns.map fun n => if z = n then x else 0).sum = x := by
  induction ns with
  | nil => cases h
  | cons y ys ih =>
    rw [List.nodup_cons] at nd
    simp only [List.map_cons, List.sum_cons]
    rcases List.mem_cons.mp h with e | h
    · subst e
      have : (ys.map fun n => if z = n then x else 0).sum = 0 := by
        clear ih h
        have hn := nd.1
        clear nd
        induction ys with
        | nil => rfl
        | cons w ws ih =>
          simp only [List.map_cons, List.sum_cons]
          rw [ih (fun q => hn (List.mem_cons_of_mem _ q)), if_neg (fun q => hn (by rw [q]; exact List.mem_cons_self))]
          rfl
      rw [this]
      simp
    · have hne : z ≠ y := fun e => nd.1 (e ▸ h)
      rw [if_neg hne, ih nd.2 h]
      omega
theorem sum_zero {α : Type} (l : List α) (f : α → Int) (h : ∀ x ∈ l, f x = 0) : (l.map f).sum = 0 := by
  induction l with
  | nil => rfl
  | cons x l ih => simp only [List.map_cons, List.sum_cons]; rw [ih fun y hy => h y (List.mem_cons_of_mem _ hy), h x List.mem_cons_self]; rfl
/-- transfers alone keep the total -/
theorem total_keep {ps : List Int} {b : Bk} (g : GB ps b) (hno : ∀ u ∈ b.dues, u.2.ps.length = 2) (k : Int) : ((nms b).map (balOf (passB b k))).sum = ((nms b).map (balOf b)).sum := by
  have e1 : ((nms b).map (balOf (passB b k))).sum = ((nms b).map fun n => balOf b n + flowS b n (b.day + 1) (b.day + k)).sum := by
    congr 1
    apply List.map_congr_left
    intro n hn
    exact balOf_passB (nms_mem.mp hn)
  rw [e1, sum_add]
  have e2 : ((nms b).map fun n => flowS b n (b.day + 1) (b.day + k)).sum = 0 := by
    have nd := nms_nodup g.nd
    have e3 : ∀ n, flowS b n (b.day + 1) (b.day + k) = (b.dues.map fun u => pay1 n u * daysDue u.2.p u.2.d (b.day + 1) (b.day + k)).sum := fun n => flowS_eq b n _ _
    simp only [e3]
    have hd := g.due
    generalize b.day + 1 = f
    generalize b.day + k = l
    generalize b.dues = ds at hd hno
    induction ds with
    | nil => exact sum_zero _ _ fun _ _ => rfl
    | cons u us ih =>
      simp only [List.map_cons, List.sum_cons]
      rw [sum_add, ih (fun x hx => hd x (List.mem_cons_of_mem _ hx)) fun x hx => hno x (List.mem_cons_of_mem _ hx)]
      obtain ⟨_, hm, h3⟩ := hd u List.mem_cons_self
      have h2 := hno u List.mem_cons_self
      rcases h3 with ⟨z, e⟩ | ⟨z, z2, e, ne⟩
      · rw [e] at h2; cases h2
      · have e5 : ((nms b).map fun n => pay1 n u * daysDue u.2.p u.2.d f l) = (nms b).map fun n => (if z = n then (0 - u.2.a * daysDue u.2.p u.2.d f l) else 0) + (if z2 = n then u.2.a * daysDue u.2.p u.2.d f l else 0) := by
          apply List.map_congr_left
          intro n _
          unfold pay1
          rw [e]
          by_cases hz : z = n
          · have hz2 : ¬ z2 = n := fun q => ne (hz.trans q.symm)
            simp [hz, hz2, Int.neg_mul]
          · by_cases hz2 : z2 = n
            · simp [hz, hz2]
            · simp [hz, hz2]
        rw [e5, sum_add, sum_one nd (nms_mem.mpr (hm z (by rw [e]; simp))), sum_one nd (nms_mem.mpr (hm z2 (by rw [e]; simp)))]
        omega
  rw [e2]
  omega
theorem pass_use {C : CE} {cs : Cells} {a q L pa fa : Addr} {ps : List Int} {b : Bk} {past fut : List Vl} {c k : Int} {Q : Vl → Cells → Prop} {XP : DXP} (H : HL C cs a q L pa fa ps b past fut) (g : GB ps b) (hc : ps.getLast? = some c) (hck : CalOk ps) (hp : past.length < 16777216) (k0 : 0 ≤ k) (k1 : k ≤ 1000000000000000000)
    (h : ∀ f', cs f' = none → Q (.dat (.lst ((nms b).map fun n => .tup [.str n, .int (balOf (passB b k) n)]))) (ledE C cs L pa f' ps (passB b k) (past ++ [pastD C (.tup [.str "pass_days", .int k]) b]))) : sp_Ledger_pass_days C [.cell L, .int k] cs Q XP :=
  ⟨L, pa, b, ps, .cell fa, past, c, k, rfl, H.led.led, hc, hck, g.l20, g.nd, g.ok, fun u hu => (ordB_iff.mp (g.due u hu).1).1, hp, fun n hn => g.okO (nms_mem.mp hn), k0, k1, h⟩
theorem undo_use {C : CE} {cs : Cells} {a q L pa fa : Addr} {ps : List Int} {b b0 : Bk} {past fut : List Vl} {op : Dat} {Q : Vl → Cells → Prop} {XP : DXP} (H : HL C cs a q L pa fa ps b (past ++ [pastD C op b0]) fut) (hf : fut.length < 16777216)
    (h : ∀ cs', HL C cs' a q L pa fa ps b0 past (fut ++ [pastD C op b]) → (∀ x c, x ≠ L → x ≠ pa → x ≠ fa → cs x = some c → cs' x = some c) → Q (.bl true) cs') : sp_Ledger_undo C [.cell L] cs Q XP := by
  refine ⟨L, pa, fa, b, ps, _, fut, rfl, H.led, hf, .inr ⟨past, op, b0, rfl, h _ ?_ ?_⟩⟩
  · obtain ⟨ne, c1, c2, e1, e2, ok⟩ := H.h
    refine ⟨⟨ne, c1, c2, ?_, ?_, ok⟩, ⟨⟨Cells.put_same, ?_, H.led.led.ne⟩, ?_, H.led.nL, H.led.nP⟩, H.nL, H.nP, H.nF⟩
    · rw [Cells.put_ne H.nL.1.symm, Cells.put_ne H.nF.1.symm, Cells.put_ne H.nP.1.symm]; exact e1
    · rw [Cells.put_ne H.nL.2.symm, Cells.put_ne H.nF.2.symm, Cells.put_ne H.nP.2.symm]; exact e2
    · rw [Cells.put_ne H.led.led.ne.symm, Cells.put_ne H.led.nP, Cells.put_same]
    · rw [Cells.put_ne H.led.nL.symm, Cells.put_same]
  · intro x c h1 h2 h3 hx
    rw [Cells.put_ne h1, Cells.put_ne h3, Cells.put_ne h2]; exact hx
end DL
set_option maxRecDepth 100000
set_option maxHeartbeats 4000000
namespace DL
open PySem L2
local macro_rules | `(tactic| walk_at "dl") => `(tactic| simp only [wPop, wEqNil, wMethS, wBestI, wIxS, wDGetV, wDInV, wDLen, wDCopy, wDDel, wDPut, wDNewK, wSortVI, wSortVS, wMakeK, gS, wFldI, wConI, wPropI, wMethI, wMethX, wAlt, wAltS, wCallX, wRaise, wRaise1, wRaise2, wCm, wCm0, noX, xw, insD_obj, insD_cell, coIns_ins, wSt, wLenS, wAll, wCntF, wIdxF, wSplit, wTryAs, wAsD, unE, wIsE, wXf, wIsiO, LamD.wOut, LamD.wLamMk, LamD.wAct, Dat.str.injEq, Dat.obj.injEq, wAbs, wCatS, wExt, wListOf, wiStr, wFld, wSetF, wMeth, wMake, wGMeth, wGCall, wDNewK, wDNewT, CO.ins.injEq, CO.dk.injEq, CO.dt.injEq, Cells.put_put, wRet, wRetN, wSeq, wAsg, wIfS, wDrop, wNext, wVar, wC, wOp, wUn, wFn, wNil, wCons, wTest, wNot, wAnd, wOr, wAndV, wOrV, wNotV, wIf, wChain, wTup, wLst, wCall, wNever, gN, gT, gNil, gCons, gIx, wI, wI0, wNeg, wMax2, wMin2, wLen, wIsN, wNotN, isNon_non, isNon_bl, isNon_int, isNon_str, isNon_lst, isNon_tup, isNon_cell, wIx, wTuple, wAug, wAugIx, wPar, wPar3, wSlL, wSlT, wPart, wNoPart, wCatT, wIsi, wIsi2, isiT, tyD_non, tyD_bl, tyD_int, tyD_str, tyD_lst, tyD_tup, tyD_cell, coTy_lst, seqD_lst, seqD_tp, seqD_cell, coSeq_lst, seen_dat, seen_cell, coDat_lst, startD, wYes, wApp, wEq_int, wEq_bl, allDat_nil, allDat_cons, allDat_map, Option.map_some, List.map_cons, List.map_nil, List.cons_append, List.nil_append, List.length_cons, List.length_nil, List.replicate, List.getElem?_cons_zero, List.getElem?_cons_succ, List.set_cons_zero, List.set_cons_succ, Option.some.injEq, exists_eq_left', exists_eq_left, exists_and_left, exists_eq', exists_eq, Vl.dat.injEq, Vl.raw.injEq, V.ref.injEq, CO.lst.injEq, Dat.int.injEq, Dat.bl.injEq, Dat.tup.injEq, Dat.lst.injEq, List.cons.injEq, and_true, true_and, retE, Nat.reduceAdd, Nat.reduceSub, and_assoc, Prod.mk.injEq, if_true, if_false, Bool.false_eq_true, decide_eq_true_eq, Bool.not_true, Bool.not_false, Bool.not_eq_true', decide_eq_false_iff_not, if_false_left, if_false_right, beq_iff_eq, Bool.or_eq_true, Bool.and_eq_true, Bool.or_self, Bool.or_true, Bool.true_or, Bool.or_false, Bool.false_or, decide_true, decide_false, reduceCtorEq, Cells.put_same, gt_iff_lt, ge_iff_le, beq_self_eq_true, bne_self_eq_false, Bool.decide_eq_true, not_true_eq_false, not_false_eq_true, Decidable.not_not, false_and, and_false, Bool.not_eq_false, at_0, at_1, at_2, at_3, at_4, at_5, ix_0, ix_1, ix_2, ix_3, Nat.reduceLT, Int.reduceLT, Int.reduceLE, Int.reduceNeg, Int.reduceAdd, Int.reduceSub, Int.reduceEq, Int.reducePow, Int.reduceToNat, Cells.put_put])
theorem cutFrom2 {α : Type} (xs : List α) : cutD xs (some 2) none = xs.drop 2 := by
  unfold cutD
  have e : HT.sIx xs.length 0 (some 2) = min 2 xs.length := HT.sIx_nat xs.length 0 2
  rw [e, HT.sIx_none]
  rcases Nat.lt_or_ge xs.length 2 with h | h
  · rw [Nat.min_eq_right (by omega), List.drop_of_length_le (by omega), List.drop_of_length_le (by omega)]; simp
  · rw [Nat.min_eq_left h, List.take_of_length_le (by simp)]
/-- law: slots 0 _law_script, 1 _law_h, 2 _law_turn, 3 _law_calendar_here, 4 _law_moment, 5 _law_ledger, 6 _law_first, 7 _law_second, 8 _law_before, 9 _law_due, 10 _law_k, 11 _law_name, 12 _law_worth, 13 _law_own, 14 _law_order, 15 _law_transfer, 16 _law_number, 17 _law_source, 18 _law_target, 19 _law_period, 20 _law_residue, 21 _law_amount, 22 _law_times, 23 _law_sign, 24 _law_later -/
def w_law_b4_3 (K : Frag) (C : CE) : WS := (wAsg (wOp wAdd (wVar 12) (wOp wMul (wOp wMul (wVar 21) (wVar 22)) (wVar 23))) (gN 12))
def w_law_b4_2 (K : Frag) (C : CE) : WS := (wSeq (wAsg (wOp wSub (wFn wInt (wCons (wOp (wEqD false) (wVar 18) (wVar 11)) wNil)) (wFn wInt (wCons (wOp (wEqD false) (wVar 17) (wVar 11)) wNil))) (gN 23))
    (w_law_b4_3 K C))
def w_law_b4_1 (K : Frag) (C : CE) : WS := (wSeq (wAsg (wCall (noX (sp_times_dueX C)) (wCons (wVar 3) (wCons (wTup (wCons (wVar 19) (wCons (wVar 20) (wCons (wVar 21) wNil)))) (wCons (wOp wAdd (wVar 4) (wC (.int 1))) (wCons (wOp wAdd (wVar 4) (wVar 6)) wNil))))) (gN 22))
    (w_law_b4_2 K C))
def w_law_b4_0 (K : Frag) (C : CE) : WS := (wSeq (wAsg (wVar 15) (gT 6 (gCons (gN 16) (gCons (gN 17) (gCons (gN 18) (gCons (gN 19) (gCons (gN 20) (gCons (gN 21) gNil))))))))
    (w_law_b4_1 K C))
def w_law_b2_4 (K : Frag) (C : CE) : WS := (wDrop (wApp (wVar 9) (wTup (wCons (wVar 11) (wCons (wVar 12) wNil)))))
def w_law_b2_3 (K : Frag) (C : CE) : WS := (wSeq (wFor (wiSeq (wLc (wiSeq (wPropI C.Ledger (sp_Ledger_orders C) (wVar 5))) (gN 14) (wTest (wOp (wEqD false) (wFn wLen (wCons (wVar 14) wNil)) (wC (.int 6)))) (wVar 14) [14])) (gN 15) (w_law_b4_0 K C))
    (w_law_b2_4 K C))
def w_law_b2_2 (K : Frag) (C : CE) : WS := (wSeq (wFor (wiSeq (wVar 13)) (gN 14) (wAsg (wOp wAdd (wVar 12) (wOp wMul (wOp wIx (wVar 14) (wC (.int 4))) (wCall (noX (sp_times_dueX C)) (wCons (wVar 3) (wCons (wSlT (wVar 14) (wPart (wC (.int 2))) wNoPart) (wCons (wOp wAdd (wVar 4) (wC (.int 1))) (wCons (wOp wAdd (wVar 4) (wVar 6)) wNil))))))) (gN 12)))
    (w_law_b2_3 K C))
def w_law_b2_1 (K : Frag) (C : CE) : WS := (wSeq (wAsg (wLc (wiSeq (wPropI C.Ledger (sp_Ledger_orders C) (wVar 5))) (gN 14) (wAnd (wTest (wOp (wEqD false) (wOp wIx (wVar 14) (wC (.int 1))) (wVar 11))) (wTest (wOp (wEqD false) (wFn wLen (wCons (wVar 14) wNil)) (wC (.int 5))))) (wVar 14) [14]) (gN 13))
    (w_law_b2_2 K C))
def w_law_b2_0 (K : Frag) (C : CE) : WS := (wSeq (wAsg (wTup (wCons (wOp wIx (wPropI C.Ledger (sp_Ledger_names C) (wVar 5)) (wVar 10)) (wCons (wOp wIx (wVar 8) (wVar 10)) wNil))) (gT 2 (gCons (gN 11) (gCons (gN 12) gNil))))
    (w_law_b2_1 K C))
def w_law_b1_11 (K : Frag) (C : CE) : WS := (wIfS (wAnd (wTest (wOp (wEqD false) (wLc (wiSeq (wPropI C.Ledger (sp_Ledger_orders C) (wVar 5))) (gN 14) (wTest (wOp (wEqD false) (wFn wLen (wCons (wVar 14) wNil)) (wC (.int 5)))) (wVar 14) [14]) (wLst wNil))) (wTest (wOp (wEqD true) (wMethS C.Ledger "total" 1 (sp_Ledger_total C) (wVar 5) wNil) (wFn wSum (wCons (wVar 8) wNil))))) (wRet (wC (.bl false))) wNext)
def w_law_b1_10 (K : Frag) (C : CE) : WS := (wSeq (wIfS (wNot (wTest (wCall (sp_law_alike C 4) (wCons (wMethS C.Ledger "total" 1 (sp_Ledger_total C) (wVar 5) wNil) (wCons (wFn wSum (wCons (wLc (wiSeq (wVar 24)) (gT 2 (gCons (gN 11) (gCons (gN 12) gNil))) wYes (wVar 12) [11, 12]) wNil)) wNil))))) (wRet (wC (.bl false))) wNext)
    (w_law_b1_11 K C))
def w_law_b1_9 (K : Frag) (C : CE) : WS := (wSeq (wIfS (wOr (wNot (wTest (wCall (sp_law_alike C 4) (wCons (wMethI C.Ledger "pass_days" (noX (sp_Ledger_pass_days C)) (wVar 5) (wCons (wOp wAdd (wVar 6) (wVar 7)) wNil)) (wCons (wVar 24) wNil))))) (wTest (wOp (wEqD true) (wPropI C.Ledger (sp_Ledger_today C) (wVar 5)) (wOp wAdd (wOp wAdd (wVar 4) (wVar 6)) (wVar 7))))) (wRet (wC (.bl false))) wNext)
    (w_law_b1_10 K C))
def w_law_b1_8 (K : Frag) (C : CE) : WS := (wSeq (wDrop (wMethI C.Ledger "undo" (sp_Ledger_undo C) (wVar 5) wNil))
    (w_law_b1_9 K C))
def w_law_b1_7 (K : Frag) (C : CE) : WS := (wSeq (wDrop (wMethI C.Ledger "undo" (sp_Ledger_undo C) (wVar 5) wNil))
    (w_law_b1_8 K C))
def w_law_b1_6 (K : Frag) (C : CE) : WS := (wSeq (wAsg (wMethI C.Ledger "pass_days" (noX (sp_Ledger_pass_days C)) (wVar 5) (wCons (wVar 7) wNil)) (gN 24))
    (w_law_b1_7 K C))
def w_law_b1_5 (K : Frag) (C : CE) : WS := (wSeq (wIfS (wOr (wNot (wTest (wCall (sp_law_alike C 4) (wCons (wMethI C.Ledger "pass_days" (noX (sp_Ledger_pass_days C)) (wVar 5) (wCons (wVar 6) wNil)) (wCons (wVar 9) wNil))))) (wTest (wOp (wEqD true) (wPropI C.Ledger (sp_Ledger_today C) (wVar 5)) (wOp wAdd (wVar 4) (wVar 6))))) (wRet (wC (.bl false))) wNext)
    (w_law_b1_6 K C))
def w_law_b1_4 (K : Frag) (C : CE) : WS := (wSeq (wFor (wiRng1 (wCons (wFn wLen (wCons (wVar 8) wNil)) wNil)) (gN 10) (w_law_b2_0 K C))
    (w_law_b1_5 K C))
def w_law_b1_3 (K : Frag) (C : CE) : WS := (wSeq (wPar 8 9 (wCons (wLc (wiSeq (wPropI C.Ledger (sp_Ledger_names C) (wVar 5))) (gN 11) wYes (wAlt (wPropI C.Account (sp_Account_balance C) (wMethI C.Ledger "account" (noX (sp_Ledger_account C)) (wVar 5) (wCons (wVar 11) wNil))) (wAlt (wPropI C.LimitedAccount (sp_Account_balance C) (wMethI C.Ledger "account" (noX (sp_Ledger_account C)) (wVar 5) (wCons (wVar 11) wNil))) (wPropI C.SavingsAccount (sp_Account_balance C) (wMethI C.Ledger "account" (noX (sp_Ledger_account C)) (wVar 5) (wCons (wVar 11) wNil))))) [11]) (wCons (wLst wNil) wNil)))
    (w_law_b1_4 K C))
def w_law_b1_2 (K : Frag) (C : CE) : WS := (wSeq (wPar 6 7 (wCons (wCall (sp_law_next C) (wCons (wVar 1) (wCons (wOp wIx (wLst (wCons (wC (.int 50)) (wCons (wOp wPow (wC (.int 10)) (wC (.int 17))) wNil))) (wCall (sp_law_next C) (wCons (wVar 1) (wCons (wC (.int 2)) wNil)))) wNil))) (wCons (wCall (sp_law_next C) (wCons (wVar 1) (wCons (wOp wIx (wLst (wCons (wC (.int 50)) (wCons (wOp wPow (wC (.int 10)) (wC (.int 17))) wNil))) (wCall (sp_law_next C) (wCons (wVar 1) (wCons (wC (.int 2)) wNil)))) wNil))) wNil)))
    (w_law_b1_3 K C))
def w_law_b1_1 (K : Frag) (C : CE) : WS := (wSeq (wAsg (wCall (sp_law_filled C) (wCons (wVar 1) (wCons (wVar 3) (wCons (wVar 4) wNil)))) (gN 5))
    (w_law_b1_2 K C))
def w_law_b1_0 (K : Frag) (C : CE) : WS := (wSeq (wPar 3 4 (wCons (wCall (sp_law_calendarH C) (wCons (wVar 1) wNil)) (wCons (wOp wSub (wCall (sp_law_next C) (wCons (wVar 1) (wCons (wOp wPow (wC (.int 10)) (wC (.int 6))) wNil))) (wOp wPow (wC (.int 10)) (wC (.int 5)))) wNil)))
    (w_law_b1_1 K C))
def w_law_b0_2 (K : Frag) (C : CE) : WS := (wRet (wC (.bl true)))
def w_law_b0_1 (K : Frag) (C : CE) : WS := (wSeq (wFor (wiRng1 (wCons (wC (.int 2)) wNil)) (gN 2) (w_law_b1_0 K C))
    (w_law_b0_2 K C))
def w_law_b0_0 (K : Frag) (C : CE) : WS := (wSeq (wAsg (wCall (sp_law_mix C) (wCons (wVar 0) (wCons (wC (.int 44)) wNil))) (gN 1))
    (w_law_b0_1 K C))
def w_law (K : Frag) (C : CE) : WS := (w_law_b0_0 K C)
def sp_law (C : CE) : DSp := fun xs cs Q _ => ∃ ns : List Int, xs = [.dat (.lst (iD ns))] ∧ ns.length ≤ 63 ∧ ∀ cs', Q (.bl true) cs'
theorem len_law {C : CE} : ∀ xs cs Q XP, sp_law C xs cs Q XP → xs.length = 1 := by rintro xs cs Q XP ⟨ns, rfl, _⟩; rfl
theorem law_start (C : CE) (ns : List Int) (cs : Cells) (Q : Vl → Cells → Prop) (XP : DXP) (hl : ns.length ≤ 63) (q : ∀ cs', Q (.dat (.bl true)) cs') : sp_law C [.dat (.lst (ns.map .int))] cs Q XP := ⟨ns, rfl, hl, q⟩
def balL (b : Bk) (ns : List Str) : List Dat := ns.map fun n => .tup [.str n, .int (balOf b n)]
theorem balL_lv (b : Bk) {ns : List Str} (hl : ns.length ≤ 100) (h : ∀ n ∈ ns, PyData.strOk n = true) : (Dat.lst (balL b ns)).lv 3 := by
  refine ⟨by simp [balL]; omega, fun x hx => ?_⟩
  obtain ⟨n, hn, rfl⟩ := List.mem_map.mp hx
  refine ⟨by show 2 ≤ 16777216; decide, fun y hy => ?_⟩
  simp only [List.mem_cons, List.not_mem_nil, or_false] at hy
  rcases hy with rfl | rfl
  · exact h n hn
  · trivial
theorem seen_balL {cs : Cells} {dd : Addr} {b : Bk} {ns : List Str} (h : cs dd = some (.lst (ns.map fun n => .dat (.tup [.str n, .int (balOf b n)])))) : seen cs (.cell dd) = some (.lst (balL b ns)) := by
  show coDat (cs dd) = _
  rw [h]
  show (allDat _).map Dat.lst = _
  rw [show (ns.map fun n => Vl.dat (.tup [.str n, .int (balOf b n)])) = (balL b ns).map .dat by simp [balL, Function.comp_def], allDat_map]
  rfl
theorem list22 {α : Type} : ∀ {r : List α}, r.length = 22 → ∃ x3 x4 x5 x6 x7 x8 x9 x10 x11 x12 x13 x14 x15 x16 x17 x18 x19 x20 x21 x22 x23 x24, r = [x3, x4, x5, x6, x7, x8, x9, x10, x11, x12, x13, x14, x15, x16, x17, x18, x19, x20, x21, x22, x23, x24]
  | [x3, x4, x5, x6, x7, x8, x9, x10, x11, x12, x13, x14, x15, x16, x17, x18, x19, x20, x21, x22, x23, x24], _ => ⟨_, _, _, _, _, _, _, _, _, _, _, _, _, _, _, _, _, _, _, _, _, _, rfl⟩
theorem turn (K : Frag) (C : CE) {D : DEnds} {a q : Addr} {cs : Cells} {x0 x2 : Option Vl} {r : List (Option Vl)} (hh : HSt a q cs) (hr : r.length = 22) (hn : ∀ cs' r', HSt a q cs' → r'.length = 22 → D.nx (x0 :: some (.cell a) :: x2 :: r') cs') : w_law_b1_0 K C D (x0 :: some (.cell a) :: x2 :: r) cs := by
  obtain ⟨x3, x4, x5, x6, x7, x8, x9, x10, x11, x12, x13, x14, x15, x16, x17, x18, x19, x20, x21, x22, x23, x24, rfl⟩ := list22 hr
  unfold w_law_b1_0
  walk_at "dl"
  refine ⟨a, q, rfl, hh, fun ps cs1 hck h1 e1 => ?_⟩
  obtain ⟨c, hc⟩ : ∃ c, ps.getLast? = some c := by
    cases e : ps.getLast? with
    | none => have := hck.1; rw [List.getLast?_eq_none_iff] at e; rw [e] at this; simp at this
    | some c => exact ⟨c, rfl⟩
  refine ⟨pow10 6 (by decide), ?_⟩
  refine next_use h1 (by decide) (by decide) fun m cs2 hm0 hm1 h2 e2 => ?_
  walk_at "dl"
  refine ⟨pow10 5 (by decide), ?_⟩
  generalize hM : m - 100000 = M
  unfold w_law_b1_1
  walk_at "dl"
  refine ⟨a, q, ps, M, rfl, h2, hck, fun cs3 L pa fa b past fut H g hday hal hpl hfl => ?_⟩
  walk_at "dl"
  unfold w_law_b1_2
  walk_at "dl"
  have pick : ∀ r : Int, 0 ≤ r → r < 2 → ∃ bd : Int, atI [Vl.dat (.int 50), Vl.dat (.int 100000000000000000)] r = some (.int bd) ∧ 0 < bd ∧ bd ≤ 100000000000000000 := fun r h0 h1 => by
    have : r = 0 ∨ r = 1 := by omega
    rcases this with rfl | rfl
    · exact ⟨50, rfl, by decide, by decide⟩
    · exact ⟨100000000000000000, rfl, by decide, by decide⟩
  refine ⟨pow10 17 (by decide), by decide, .inr ⟨[.int 50, .int 100000000000000000], rfl, ?_⟩⟩
  refine next_use H.h (by decide) (by decide) fun r4 cs4 hr40 hr41 h4 e4 => ?_
  obtain ⟨bd4, hb4, hb40, hb41⟩ := pick r4 hr40 hr41
  have H4 := H.draw h4 e4
  refine ⟨true, _, rfl, r4, rfl, _, hb4, ?_⟩
  refine next_use H4.h hb40 (by omega) fun fi cs5 hfi0 hfi1 h5 e5 => ?_
  have H5 := H4.draw h5 e5
  refine ⟨pow10 17 (by decide), by decide, .inr ⟨[.int 50, .int 100000000000000000], rfl, ?_⟩⟩
  refine next_use H5.h (by decide) (by decide) fun r6 cs6 hr60 hr61 h6 e6 => ?_
  have H6 := H5.draw h6 e6
  obtain ⟨bd6, hb6, hb60, hb61⟩ := pick r6 hr60 hr61
  refine ⟨true, _, rfl, r6, rfl, _, hb6, ?_⟩
  refine next_use H6.h hb60 (by omega) fun se cs7 hse0 hse1 h7 e7 => ?_
  have H7 := H6.draw h7 e7
  clear hb4 hb6 e1 e2 e4 e5 e6 e7 h1 h2 h4 h5 h6 h7 H4 H5 H6 H pick hh
  have okn : ∀ n ∈ nms b, okO C b c n := fun n hn => g.okO (nms_mem.mp hn)
  have g20 := g.l20
  unfold w_law_b1_3
  walk_at "dl"
  refine lc_seqA (nms b) .str true (fun n => .int (balOf b n)) (fun P h => ?_) (by rw [nms_len]; omega) (fun n hn cs' B sb h => ?_) ?_
  · walk_at "dl"
    refine ⟨_, by rw [H7.led.led.led]; rfl, L, b, rfl, H7.led.led.has, by omega, fun ys pm hs => ?_⟩
    rw [names_eq pm hs]
    exact h
  · simp only [wipeD]
    refine w_bal (L := L) (z := n) ?_ ?_ (H7.led.led.sub sb) hc (okn n hn).okA h
    · intro P h; exact ⟨_, rfl, h⟩
    · intro P h; exact ⟨_, rfl, h⟩
  refine ⟨by decide, .inl fun dd hdd => ?_⟩
  have hdne : dd ≠ L ∧ dd ≠ pa := ⟨fun z => (by have := H7.led.led.led; rw [← z, hdd] at this; cases this), fun z => (by have := H7.led.led.past; rw [← z, hdd] at this; cases this)⟩
  have hdF : dd ≠ fa := fun z => by have := H7.led.fut; rw [← z, hdd] at this; cases this
  obtain ⟨hda, hdq⟩ := H7.h.ne hdd
  have put_HL : ∀ xs, HL C (cs7.put dd (.lst xs)) a q L pa fa ps b past fut := fun xs => by
    obtain ⟨ne, c1, c2, z1, z2, ok⟩ := H7.h
    exact ⟨⟨ne, c1, c2, by rw [Cells.put_ne hda.symm]; exact z1, by rw [Cells.put_ne hdq.symm]; exact z2, ok⟩, ⟨⟨by rw [Cells.put_ne hdne.1.symm]; exact H7.led.led.led, by rw [Cells.put_ne hdne.2.symm]; exact H7.led.led.past, H7.led.led.ne⟩, by rw [Cells.put_ne hdF.symm]; exact H7.led.fut, H7.led.nL, H7.led.nP⟩, H7.nL, H7.nP, H7.nF⟩
  unfold w_law_b1_4
  walk_at "dl"
  simp only [wFor, wiRng1]
  walk_at "dl"
  rw [List.length_map, List.length_map]
  have hnl : (nms b).length = b.accs.length := nms_len
  refine ⟨by omega, by omega, fun i ρ cs' => cs' = cs7.put dd (.lst (((nms b).take i).map fun n => .dat (.tup [.str n, .int (balOf (passB b fi) n)]))) ∧ ∃ y10 y11 y12 y13 y14 y15 y16 y17 y18 y19 y20 y21 y22 y23 y24, ρ = [x0, some (.cell a), x2, some (.dat (cal ps)), some (.int M), some (.cell L), some (.int fi), some (.int se), some (.dat (.lst ((nms b).map fun n => .int (balOf b n)))), some (.cell dd), y10, y11, y12, y13, y14, y15, y16, y17, y18, y19, y20, y21, y22, y23, y24], ?_, fun _ _ _ _ _ => trivial, ?_, ?_⟩
  · exact ⟨by simp, _, _, _, _, _, _, _, _, _, _, _, _, _, _, _, rfl⟩
  · rintro i x ρ cs' hx ⟨rfl, y10, y11, y12, y13, y14, y15, y16, y17, y18, y19, y20, y21, y22, y23, y24, rfl⟩
    obtain ⟨hi, rfl⟩ := rangeD_at hx
    have H8 := put_HL (((nms b).take i).map fun n => .dat (.tup [.str n, .int (balOf (passB b fi) n)]))
    obtain ⟨n, hn⟩ : ∃ n, (nms b)[i]? = some n := ⟨_, List.getElem?_eq_getElem (by omega)⟩
    have hmem := List.mem_of_getElem? hn
    have okn1 := okn n hmem
    have hil : i < 16777216 := by omega
    unfold w_law_b2_0
    walk_at "dl"
    have hat : ∀ {α : Type} (xs : List α) (y : α), xs[i]? = some y → atI xs (0 + (i : Int) * 1) = some y := fun xs y h => atI_int (by omega) (by rw [show (0 + (i : Int) * 1).toNat = i by omega]; exact h)
    refine ⟨_, by rw [H8.led.led.led]; rfl, L, b, rfl, H8.led.led.has, by omega, fun ys pm hs => ?_⟩
    rw [names_eq pm hs]
    refine ⟨true, _, rfl, .dat (.str n), hat _ _ (by rw [List.getElem?_map, List.getElem?_map, hn]; rfl), .int (balOf b n), hat _ _ (by rw [List.getElem?_map, List.getElem?_map, hn]; rfl), _, rfl, (by show 2 ≤ 16777216; decide), rfl, _, _, rfl, _, _, rfl, rfl, ?_⟩
    have hlim := g.ok.lim
    unfold w_law_b2_1
    walk_at "dl"
    refine lc_seq b.dues itemD true (ownP n) itemD (fun P h => ?_) (by omega) (fun u hu cs' B N sb h => ?_) ?_
    · walk_at "dl"
      exact ⟨_, by rw [H8.led.led.led]; rfl, L, pa, b, ps, .cell fa, past, rfl, H8.led.led, g.ok, h⟩
    · obtain ⟨_, hpm, h3⟩ := g.due u hu
      obtain ⟨_, hso⟩ := g.ok.two u hu
      simp only [wipeD]
      rcases h3 with ⟨z, ez⟩ | ⟨z, z2, ez, ne⟩
      · have eI : itemD u = .tup [.int u.1, .str z, .int u.2.p, .int u.2.d, .int u.2.a] := by unfold itemD dueL; rw [ez]; rfl
        rw [eI] at h ⊢
        walk_at "dl"
        refine wEq_of 1 (by decide) rfl rfl (hso z (by rw [ez]; simp)) okn1.2.1 (fun e => ⟨true, rfl, ?_⟩) (fun e => ⟨false, rfl, ?_⟩)
        · have e12 : z = n := by cases e; rfl
          rw [if_pos (by unfold ownP; rw [ez, e12]; simp)] at h
          rw [if_pos rfl]
          exact h
        · rw [if_neg (by unfold ownP; rw [ez]; simp; exact fun q => e (by rw [q]))] at h
          rw [if_neg (by decide)]
          exact h
      · have eI : itemD u = .tup [.int u.1, .str z, .str z2, .int u.2.p, .int u.2.d, .int u.2.a] := by unfold itemD dueL; rw [ez]; rfl
        rw [eI] at h ⊢
        rw [if_neg (by unfold ownP; rw [ez]; simp)] at h
        walk_at "dl"
        refine wEq_of 1 (by decide) rfl rfl (hso z (by rw [ez]; simp)) okn1.2.1 (fun e => ⟨true, rfl, ?_⟩) (fun e => ⟨false, rfl, ?_⟩)
        · rw [if_pos rfl]
          exact h
        · rw [if_neg (by decide)]
          exact h
    have hper : ∀ u ∈ b.dues, 0 < u.2.p ∧ u.2.p ≤ 400 := fun u hu => by
      obtain ⟨k1, _⟩ := ordB_iff.mp (g.due u hu).1
      exact calFrom_all (Int.le_refl 0) hck.2.2 _ k1
    unfold w_law_b2_2
    walk_at "dl"
    simp only [wFor, wiSeq]
    walk_at "dl"
    refine ⟨fun j ρ cs' => cs' = cs7.put dd (.lst (((nms b).take i).map fun n => .dat (.tup [.str n, .int (balOf (passB b fi) n)]))) ∧ ∃ y14 y15, ρ = [x0, some (.cell a), x2, some (.dat (cal ps)), some (.int M), some (.cell L), some (.int fi), some (.int se), some (.dat (.lst ((nms b).map fun n => .int (balOf b n)))), some (.cell dd), some (.int (0 + (i : Int) * 1)), some (.dat (.str n)), some (.int (balOf b n + (((b.dues.filter (ownP n)).take j).map fun u => u.2.a * daysDue u.2.p u.2.d (M + 1) (M + fi)).sum)), some (.dat (.lst ((b.dues.filter (ownP n)).map itemD))), y14, y15, y16, y17, y18, y19, y20, y21, y22, y23, y24], ?_, fun _ _ _ _ _ => trivial, ?_, ?_⟩
    · exact ⟨rfl, y14, y15, by simp⟩
    · rintro j x ρ cs' hx ⟨rfl, y14, y15, rfl⟩
      rw [List.map_map, List.getElem?_map] at hx
      obtain ⟨u, hu, rfl⟩ := Option.map_eq_some_iff.mp hx
      have hum := List.mem_of_getElem? hu
      obtain ⟨hud, hown⟩ := List.mem_filter.mp hum
      have ez : u.2.ps = [n] := of_decide_eq_true hown
      obtain ⟨hob, _, _⟩ := g.due u hud
      obtain ⟨p0, p1⟩ := hper u hud
      have hdl := due_le (p := u.2.p) (d := u.2.d) (t := M) p0 hfi0
      have htk : (b.dues.filter (ownP n)).take (j + 1) = (b.dues.filter (ownP n)).take j ++ [u] := by rw [List.take_add_one, hu]; rfl
      have eI : itemD u = .tup [.int u.1, .str n, .int u.2.p, .int u.2.d, .int u.2.a] := by unfold itemD dueL; rw [ez]; rfl
      simp only [Function.comp, eI]
      walk_at "dl"
      rw [cutFrom2]
      refine ⟨ps, (u.2.p, u.2.d, u.2.a), M + 1, M + fi, rfl, hck, ?_⟩
      rw [if_pos hob]
      walk_at "dl"
      refine ⟨mulR (by omega) (by omega), ?_⟩
      rw [htk, List.map_append, List.sum_append]
      simp
      omega
    · rintro ρ cs' ⟨rfl, y14, y15, rfl⟩
      rw [List.length_map, List.length_map, List.take_length]
      generalize hW : balOf b n + ((b.dues.filter (ownP n)).map fun u => u.2.a * daysDue u.2.p u.2.d (M + 1) (M + fi)).sum = W1
      unfold w_law_b2_3
      walk_at "dl"
      simp only [wFor, wiSeq]
      refine lc_seq b.dues itemD true trP itemD (fun P h => ?_) (by omega) (fun u hu cs' B N sb h => ?_) ?_
      · walk_at "dl"
        exact ⟨_, by rw [H8.led.led.led]; rfl, L, pa, b, ps, .cell fa, past, rfl, H8.led.led, g.ok, h⟩
      · obtain ⟨_, hpm, h3⟩ := g.due u hu
        simp only [wipeD]
        rcases h3 with ⟨z, ez⟩ | ⟨z, z2, ez, ne⟩
        · have eI : itemD u = .tup [.int u.1, .str z, .int u.2.p, .int u.2.d, .int u.2.a] := by unfold itemD dueL; rw [ez]; rfl
          rw [eI] at h ⊢
          rw [if_neg (by unfold trP; rw [ez]; simp)] at h
          walk_at "dl"
          exact h
        · have eI : itemD u = .tup [.int u.1, .str z, .str z2, .int u.2.p, .int u.2.d, .int u.2.a] := by unfold itemD dueL; rw [ez]; rfl
          rw [eI] at h ⊢
          rw [if_pos (by unfold trP; rw [ez]; rfl)] at h
          walk_at "dl"
          exact h
      refine ⟨true, _, rfl, ?_⟩
      refine ⟨fun j ρ cs' => cs' = cs7.put dd (.lst (((nms b).take i).map fun n => .dat (.tup [.str n, .int (balOf (passB b fi) n)]))) ∧ ∃ y14 y15 y16 y17 y18 y19 y20 y21 y22 y23, ρ = [x0, some (.cell a), x2, some (.dat (cal ps)), some (.int M), some (.cell L), some (.int fi), some (.int se), some (.dat (.lst ((nms b).map fun n => .int (balOf b n)))), some (.cell dd), some (.int (0 + (i : Int) * 1)), some (.dat (.str n)), some (.int (W1 + (((b.dues.filter trP).take j).map fun u => u.2.a * daysDue u.2.p u.2.d (M + 1) (M + fi) * sgn n u).sum)), some (.dat (.lst ((b.dues.filter (ownP n)).map itemD))), y14, y15, y16, y17, y18, y19, y20, y21, y22, y23, y24], ?_, fun _ _ _ _ _ => rfl, ?_, ?_⟩
      · exact ⟨rfl, y14, y15, y16, y17, y18, y19, y20, y21, y22, y23, by simp⟩
      · rintro j x ρ cs' hx ⟨rfl, y14, y15, y16, y17, y18, y19, y20, y21, y22, y23, rfl⟩
        rw [List.map_map, List.getElem?_map] at hx
        obtain ⟨u, hu, rfl⟩ := Option.map_eq_some_iff.mp hx
        have hum := List.mem_of_getElem? hu
        obtain ⟨hud, htr⟩ := List.mem_filter.mp hum
        have h2 : u.2.ps.length = 2 := of_decide_eq_true htr
        obtain ⟨hob, hpm, h3⟩ := g.due u hud
        obtain ⟨_, hso⟩ := g.ok.two u hud
        rcases h3 with ⟨z, ez⟩ | ⟨z, z2, ez, ne⟩
        · rw [ez] at h2; cases h2
        obtain ⟨p0, p1⟩ := hper u hud
        have hdl := due_le (p := u.2.p) (d := u.2.d) (t := M) p0 hfi0
        have htk : (b.dues.filter trP).take (j + 1) = (b.dues.filter trP).take j ++ [u] := by rw [List.take_add_one, hu]; rfl
        have eI : itemD u = .tup [.int u.1, .str z, .str z2, .int u.2.p, .int u.2.d, .int u.2.a] := by unfold itemD dueL; rw [ez]; rfl
        simp only [Function.comp, eI]
        unfold w_law_b4_0
        walk_at "dl"
        unfold w_law_b4_1
        walk_at "dl"
        refine ⟨by decide, ps, (u.2.p, u.2.d, u.2.a), M + 1, M + fi, rfl, hck, ?_⟩
        rw [if_pos hob]
        walk_at "dl"
        unfold w_law_b4_2
        walk_at "dl"
        refine wEq_str (hso z2 (by rw [ez]; simp)) okn1.2.1 (.inr ⟨_, rfl, ?_⟩)
        refine wEq_str (hso z (by rw [ez]; simp)) okn1.2.1 (.inr ⟨_, rfl, _, rfl, _, rfl, ?_⟩)
        unfold w_law_b4_3
        walk_at "dl"
        have es : (if decide (z2 = n) = true then (1 : Int) else 0) - (if decide (z = n) = true then 1 else 0) = sgn n u := by
          unfold sgn; rw [ez]; simp
        have hs1 : -1 ≤ sgn n u ∧ sgn n u ≤ 1 := by unfold sgn; split <;> split <;> omega
        simp only [decide_eq_true_eq] at es
        rw [es]
        refine ⟨mulR (by omega) (by omega), mulR (by omega) (by omega), ?_⟩
        rw [htk, List.map_append, List.sum_append]
        simp
        omega
      · rintro ρ cs' ⟨rfl, y14, y15, y16, y17, y18, y19, y20, y21, y22, y23, rfl⟩
        rw [List.length_map, List.length_map, List.take_length]
        have hfin : W1 + ((b.dues.filter trP).map fun u => u.2.a * daysDue u.2.p u.2.d (M + 1) (M + fi) * sgn n u).sum = balOf (passB b fi) n := by
          rw [balOf_passB (nms_mem.mp hmem), flow_law g, hday, ← hW]
          omega
        rw [hfin]
        unfold w_law_b2_4
        walk_at "dl"
        refine ⟨by decide, ?_, ?_⟩
        · rw [List.length_map, List.length_take]; omega
        · rw [List.take_add_one, hn, List.map_append]
          rfl
  · rintro ρ cs' ⟨rfl, y10, y11, y12, y13, y14, y15, y16, y17, y18, y19, y20, y21, y22, y23, y24, rfl⟩
    have hll : (rangeD 0 1 ((nms b).length : Int).toNat).length = (nms b).length := by rw [rangeD_len]; omega
    rw [hll, List.take_length]
    have H8 := put_HL ((nms b).map fun n => .dat (.tup [.str n, .int (balOf (passB b fi) n)]))
    generalize hc8 : cs7.put dd (.lst ((nms b).map fun n => .dat (.tup [.str n, .int (balOf (passB b fi) n)]))) = cs8 at H8
    have hd8 : cs8 dd = some (.lst ((nms b).map fun n => .dat (.tup [.str n, .int (balOf (passB b fi) n)]))) := by rw [← hc8, Cells.put_same]
    unfold w_law_b1_5
    walk_at "dl"
    refine ⟨_, by rw [H8.led.led.led]; rfl, rfl, pass_use H8 g hc hck (by omega) hfi0 (by omega) fun f9 hf9 => ?_⟩
    have H9 := H8.op (b' := passB b fi) (past' := past ++ [pastD C (.tup [.str "pass_days", .int fi]) b]) hf9
    have hd9 : ledE C cs8 L pa f9 ps (passB b fi) (past ++ [pastD C (.tup [.str "pass_days", .int fi]) b]) dd = some _ := ledE_ne hd8 hf9 hdne.1 hdne.2
    generalize ledE C cs8 L pa f9 ps (passB b fi) (past ++ [pastD C (.tup [.str "pass_days", .int fi]) b]) = cs9 at H9 hd9 ⊢
    have g9 := g.pass fi
    refine ⟨_, _, .lst (balL (passB b fi) (nms b)), rfl, rfl, seen_balL hd9, .inl (balL_lv _ (by omega) fun n hn => (okn n hn).2.1), by decide, true, rfl, ?_⟩
    rw [if_neg (by decide)]
    refine ⟨_, by rw [H9.led.led.led]; rfl, L, pa, passB b fi, ps, .cell f9, _, rfl, H9.led.led, ?_⟩
    have eday : (passB b fi).day = M + fi := by show b.day + fi = _; rw [hday]
    rw [eday]
    walk_at "dl"
    unfold w_law_b1_6
    walk_at "dl"
    refine ⟨_, by rw [H9.led.led.led]; rfl, rfl, pass_use H9 g9 hc hck (by simp; omega) hse0 (by omega) fun f10 hf10 => ?_⟩
    have H10 := H9.op (b' := passB (passB b fi) se) (past' := (past ++ [pastD C (.tup [.str "pass_days", .int fi]) b]) ++ [pastD C (.tup [.str "pass_days", .int se]) (passB b fi)]) hf10
    rw [pass_nms]
    generalize ledE C cs9 L pa f10 ps (passB (passB b fi) se) ((past ++ [pastD C (.tup [.str "pass_days", .int fi]) b]) ++ [pastD C (.tup [.str "pass_days", .int se]) (passB b fi)]) = cs10 at H10 ⊢
    unfold w_law_b1_7
    walk_at "dl"
    refine ⟨_, by rw [H10.led.led.led]; rfl, rfl, undo_use H10 (by simp) fun cs11 H11 _ => ?_⟩
    unfold w_law_b1_8
    walk_at "dl"
    refine ⟨_, by rw [H11.led.led.led]; rfl, rfl, undo_use H11 (by simp) fun cs12 H12 _ => ?_⟩
    unfold w_law_b1_9
    walk_at "dl"
    refine ⟨_, by rw [H12.led.led.led]; rfl, rfl, pass_use H12 g hc hck (by omega) (by omega) (by omega) fun f13 hf13 => ?_⟩
    have H13 := H12.op (b' := passB b (fi + se)) (past' := past ++ [pastD C (.tup [.str "pass_days", .int (fi + se)]) b]) hf13
    generalize ledE C cs12 L pa f13 ps (passB b (fi + se)) (past ++ [pastD C (.tup [.str "pass_days", .int (fi + se)]) b]) = cs13 at H13 ⊢
    have g13 := g.pass (fi + se)
    have okn13 : ∀ n ∈ nms (passB b (fi + se)), okA C (passB b (fi + se)) c n := fun n hn => (g13.okO (nms_mem.mp hn)).okA
    rw [pass_add g hck hfi0 hse0]
    refine ⟨_, _, .lst (balL (passB b (fi + se)) (nms b)), rfl, rfl, rfl, .inl (balL_lv _ (by omega) fun n hn => (okn n hn).2.1), by decide, true, rfl, ?_⟩
    rw [if_neg (by decide)]
    refine ⟨_, by rw [H13.led.led.led]; rfl, L, pa, passB b (fi + se), ps, .cell f13, _, rfl, H13.led.led, ?_⟩
    have eday2 : (passB b (fi + se)).day = M + fi + se := by show b.day + (fi + se) = _; rw [hday]; omega
    rw [eday2]
    walk_at "dl"
    have l13 : (passB b (fi + se)).accs.length ≤ 20 := g13.l20
    have total : ∀ (Q : Vl → Cells → Prop), Q (.int ((nms b).map (balOf (passB b (fi + se)))).sum) cs13 → sp_Ledger_total C ([.cell L] ++ [.dat (.tup [])]) cs13 Q X0 := fun Q h => ⟨L, pa, passB b (fi + se), ps, .cell f13, _, c, [], rfl, H13.led.led, hc, l13, by simp, fun z hz => by simp at hz, okn13, by rw [if_pos rfl, pass_nms]; exact h⟩
    unfold w_law_b1_10
    walk_at "dl"
    refine ⟨_, by rw [H13.led.led.led]; rfl, rfl, [.cell L], [], rfl, rfl, by simp, total _ ?_⟩
    refine lc_seqA (nms b) (fun n => .tup [.str n, .int (balOf (passB b (fi + se)) n)]) true (fun n => .int (balOf (passB b (fi + se)) n)) (fun P h => ⟨_, rfl, h⟩) (by omega) (fun n hn cs' B sb h => ?_) ?_
    · simp only [wipeD]
      walk_at "dl"
      exact h
    refine ⟨_, (nms b).map (balOf (passB b (fi + se))), rfl, by simp [seqD], ?_⟩
    refine ⟨_, _, .int ((nms b).map (balOf (passB b (fi + se)))).sum, rfl, rfl, rfl, .inl trivial, by decide, true, rfl, ?_⟩
    rw [if_neg (by decide)]
    unfold w_law_b1_11
    walk_at "dl"
    refine lc_seq b.dues itemD true (fun u => !trP u) itemD (fun P h => ?_) (by have := g.ok.lim; omega) (fun u hu cs' B N sb h => ?_) ?_
    · walk_at "dl"
      exact ⟨_, by rw [H13.led.led.led]; rfl, L, pa, passB b (fi + se), ps, .cell f13, _, rfl, H13.led.led, g13.ok, h⟩
    · obtain ⟨_, hpm, h3⟩ := g.due u hu
      simp only [wipeD]
      rcases h3 with ⟨z, ez⟩ | ⟨z, z2, ez, ne⟩
      · have eI : itemD u = .tup [.int u.1, .str z, .int u.2.p, .int u.2.d, .int u.2.a] := by unfold itemD dueL; rw [ez]; rfl
        rw [eI] at h ⊢
        rw [if_pos (by unfold trP; rw [ez]; simp)] at h
        walk_at "dl"
        exact h
      · have eI : itemD u = .tup [.int u.1, .str z, .str z2, .int u.2.p, .int u.2.d, .int u.2.a] := by unfold itemD dueL; rw [ez]; rfl
        rw [eI] at h ⊢
        rw [if_neg (by unfold trP; rw [ez]; simp)] at h
        walk_at "dl"
        exact h
    refine ⟨by decide, .inr ⟨[], rfl, ?_⟩⟩
    have hlv : (Dat.lst ((b.dues.filter fun u => !trP u).map itemD)).lv 3 := by
      refine ⟨?_, fun x hx => ?_⟩
      · rw [List.length_map]
        have h1 := List.length_filter_le (fun u => !trP u) b.dues
        have := g.ok.lim
        omega
      · obtain ⟨u, hu, rfl⟩ := List.mem_map.mp hx
        have hud := (List.mem_filter.mp hu).1
        obtain ⟨h12, hso⟩ := g.ok.two u hud
        refine ⟨?_, fun y hy => ?_⟩
        · simp only [dueL, List.length_cons, List.length_append, List.length_map, List.length_nil]; omega
        · simp only [dueL, List.mem_cons, List.mem_append, List.mem_map, List.not_mem_nil, or_false] at hy
          rcases hy with rfl | ⟨z, hz, rfl⟩ | rfl | rfl | rfl
          · trivial
          · exact hso z hz
          · trivial
          · trivial
          · trivial
    refine wEq_of 3 (by decide) rfl rfl hlv ⟨by decide, fun x h => by simp at h⟩ (fun e => ⟨true, rfl, ?_⟩) (fun e => ⟨false, rfl, ?_⟩)
    · rw [if_pos rfl]
      have hno : ∀ u ∈ b.dues, u.2.ps.length = 2 := fun u hu => by
        have e0 : (b.dues.filter fun u => !trP u).map itemD = [] := Dat.lst.inj e
        rw [List.map_eq_nil_iff, List.filter_eq_nil_iff] at e0
        have := e0 u hu
        simp only [Bool.not_eq_true', Bool.not_eq_false] at this
        exact of_decide_eq_true this
      refine ⟨_, by rw [H13.led.led.led]; rfl, rfl, [.cell L], [], rfl, rfl, by simp, total _ ?_⟩
      refine ⟨_, (nms b).map (balOf b), rfl, by simp [seqD], ?_⟩
      rw [total_keep g hno]
      walk_at "dl"
      exact hn cs13 _ H13.h rfl
    · rw [if_neg (by decide)]
      exact hn cs13 _ H13.h rfl
theorem pure_law (K : Frag) (C : CE) : ∀ xs cs Q XP, sp_law C xs cs Q XP → w_law K C (retE K Q) (startD 25 xs) cs := by
  rintro xs cs Q XP ⟨ns, rfl, hl, q⟩
  unfold w_law w_law_b0_0
  walk_at "dl"
  refine ⟨ns, 44, rfl, hl, by decide, fun p r c1 c2 hne hp hr ok => ?_⟩
  have h0 : HSt p r ((cs.put r c2).put p c1) := ⟨hne, c1, c2, Cells.put_same, by rw [Cells.put_ne hne.symm, Cells.put_same], ok⟩
  unfold w_law_b0_1
  walk_at "dl"
  simp only [wFor, wiRng1]
  walk_at "dl"
  refine ⟨fun i ρ cs' => HSt p r cs' ∧ ∃ x2 rr, ρ = some (.dat (.lst (iD ns))) :: some (.cell p) :: x2 :: rr ∧ rr.length = 22, ⟨h0, _, _, rfl, rfl⟩, fun _ _ _ _ _ => trivial, ?_, ?_⟩
  · rintro i x ρ cs' hx ⟨hh, x2, rr, rfl, hrr⟩
    show w_law_b1_0 K C _ (some (.dat (.lst (iD ns))) :: some (.cell p) :: some x :: rr) cs'
    exact turn K C hh hrr fun cs2 r2 h2 hr2 => ⟨h2, _, _, rfl, hr2⟩
  · rintro ρ cs' ⟨hh, x2, rr, rfl, hrr⟩
    unfold w_law_b0_2
    walk_at "dl"
    exact .now (q cs')
end DL
namespace Law
open PySem L2 DL GT
structure Bi (K : Frag) (mg : Str → Option Value) (C : CE) : Prop where
  b_all : mg "all" = none
  b_bool : mg "bool" = none
  b_dict : mg "dict" = none
  b_enumerate : mg "enumerate" = none
  b_int : mg "int" = none
  b_isinstance : mg "isinstance" = none
  b_len : mg "len" = none
  b_list : mg "list" = none
  b_max : mg "max" = none
  b_min : mg "min" = none
  b_range : mg "range" = none
  b_sorted : mg "sorted" = none
  b_str : mg "str" = none
  b_sum : mg "sum" = none
  b_tuple : mg "tuple" = none
  g_LETTERS : ∃ t, mg "LETTERS" = some (.str "abcdefghijklmnopqrstuvwxyz" t)
  g_MAX_ACCOUNTS : ∃ t, mg "MAX_ACCOUNTS" = some (.int 20 t)
  g_MAX_AMOUNT : ∃ t, mg "MAX_AMOUNT" = some (.int 1000000000000000000 t)
  g_MAX_DAYS : ∃ t, mg "MAX_DAYS" = some (.int 1000000000000000000 t)
  g_MAX_LETTERS : ∃ t, mg "MAX_LETTERS" = some (.int 8 t)
  g_MAX_ORDERS_ledger : ∃ t, mg "MAX_ORDERS_ledger" = some (.int 60 t)
  g_MAX_PERIOD : ∃ t, mg "MAX_PERIOD" = some (.int 400 t)
  g_MAX_PERIODS : ∃ t, mg "MAX_PERIODS" = some (.int 5 t)
  cl_Account : Cls K C.Account
  cl_LimitedAccount : Cls K C.LimitedAccount
  cl_SavingsAccount : Cls K C.SavingsAccount
  cl_Books : Cls K C.Books
  cl_Ledger : Cls K C.Ledger
  na_Account_amount : NoAttr K C.Account "amount"
  na_Account_credit : NoAttr K C.Account "credit"
  na_Account_cycle : NoAttr K C.Account "cycle"
  na_Account_title : NoAttr K C.Account "title"
  na_Books_accounts : NoAttr K C.Books "accounts"
  na_Books_day_number : NoAttr K C.Books "day_number"
  na_Books_dues : NoAttr K C.Books "dues"
  na_Books_following : NoAttr K C.Books "following"
  na_Ledger_books : NoAttr K C.Ledger "books"
  na_Ledger_future : NoAttr K C.Ledger "future"
  na_Ledger_past : NoAttr K C.Ledger "past"
  na_Ledger_periods : NoAttr K C.Ledger "periods"
  na_LimitedAccount_amount : NoAttr K C.LimitedAccount "amount"
  na_LimitedAccount_credit : NoAttr K C.LimitedAccount "credit"
  na_LimitedAccount_cycle : NoAttr K C.LimitedAccount "cycle"
  na_LimitedAccount_title : NoAttr K C.LimitedAccount "title"
  na_SavingsAccount_amount : NoAttr K C.SavingsAccount "amount"
  na_SavingsAccount_credit : NoAttr K C.SavingsAccount "credit"
  na_SavingsAccount_cycle : NoAttr K C.SavingsAccount "cycle"
  na_SavingsAccount_title : NoAttr K C.SavingsAccount "title"
  cv_Account_KIND : mg "Account" = some (.ref C.Account) ∧ ∃ mc uv, ClX.CRead K C.Account mc ∧ ClX.CVal K C.Account mc "KIND" (.str "open") uv
  cv_LimitedAccount_KIND : mg "LimitedAccount" = some (.ref C.LimitedAccount) ∧ ∃ mc uv, ClX.CRead K C.LimitedAccount mc ∧ ClX.CVal K C.LimitedAccount mc "KIND" (.str "limited") uv
  cv_SavingsAccount_KIND : mg "SavingsAccount" = some (.ref C.SavingsAccount) ∧ ∃ mc uv, ClX.CRead K C.SavingsAccount mc ∧ ClX.CVal K C.SavingsAccount mc "KIND" (.str "savings") uv
  gc_Overdrawn : mg "Overdrawn" = some (.ref C.Overdrawn)
  x0_InvalidAmount : Xc0 K mg "InvalidAmount" C.InvalidAmount
  x0_InvalidCount : Xc0 K mg "InvalidCount" C.InvalidCount
  x0_SameAccount : Xc0 K mg "SameAccount" C.SameAccount
  x0_TooManyAccounts : Xc0 K mg "TooManyAccounts" C.TooManyAccounts
  x0_TooManyOrders : Xc0 K mg "TooManyOrders" C.TooManyOrders
  x0_UnknownKind : Xc0 K mg "UnknownKind" C.UnknownKind
  kf : KO K C
section
variable {P : Program} {w : World} {K : Frag} {mg : Str → Option Value} {base : Heap} {C : CE}
theorem sc_is_integer : FnScope ["value"] ["value"] (defScope s_is_integer) := ⟨rfl, rfl, rfl, by decide +kernel, rfl, by decide +kernel, by decide +kernel⟩
theorem fo_is_integer {f : Addr} {fd : FuncData} (F : Fun K "is_integer" "is_integer" s_is_integer f fd) (B : Bi K mg C)  : FnOk P w K mg base CX0 1 f fd ["value"] (liftSp K sp_is_integer) :=
  fn_dataQ F sc_is_integer len_is_integer (fun cdv A outer s H E hr =>
      (dss_one (ds_ret (de_and (de_isi .int B.b_isinstance B.b_int (by decide +kernel) (de_var 0)) (de_one (de_not (de_isi .bool B.b_isinstance B.b_bool (by decide +kernel) (de_var 0)))))))) (fun xs cs Q XP h => pure_is_integer K xs cs Q XP h)
theorem sc_validate_calendarX : FnScope ["calendar", "before", "index", "period"] ["calendar"] (defScope s_validate_calendarX) := ⟨rfl, rfl, rfl, by decide +kernel, rfl, by decide +kernel, by decide +kernel⟩
theorem fo_validate_calendarX {f : Addr} {fd : FuncData} (F : Fun K "validate_calendar" "validate_calendar" s_validate_calendarX f fd) (B : Bi K mg C) (GX_InvalidCalendar : Xc1 P w K mg base "InvalidCalendar" C.InvalidCalendar "index") (G_is_integer : DOk P w K mg base CX0 "is_integer" ["value"] 1 sp_is_integer) : FnOk P w K mg base (L2.CX P w) 3 f fd ["calendar"] (liftSp K (sp_validate_calendarX C)) :=
  fn_dataX (ws := fun W0 => w_validate_calendarX K C W0) F sc_validate_calendarX len_validate_calendarX (fun cdv A outer s H E hr M0 W0 tk =>
      (dss_cons0 (ds_if0 (DT.d0 (dt_not (dt_chainD c_le c_le de_int (de_len B.b_len (da_cons (de_var 0) da_nil)) (de_gintE B.g_MAX_PERIODS)))) (dss_one0 (ds_raise1 GX_InvalidCalendar tk (hr.mono (by decide)) (DE.d0 (de_neg de_int)))) (DSs.d0 dss_nil))
      (dss_cons0 (DS.d0 (ds_set (i := 1) sc_validate_calendarX.nd de_int))
      (dss_one0 (ds_for0 (L2.passes_of rfl) (di_enum B.b_enumerate (da_cons (de_var 0) da_nil)) (dg_tup rfl (dgs_cons (dg_name (i := 2) sc_validate_calendarX.nd) (dgs_cons (dg_name (i := 3) sc_validate_calendarX.nd) dgs_nil))) (dss_cons0 (ds_if0 (DT.d0 (DW.dt (dw_or (dt_not (dt_val (de_call G_is_integer (hr.mono (by decide)) (da_cons (de_var 3) da_nil)))) (dw_or (dt_not (dt_chainD c_lt c_le (de_var 1) (de_var 3) (de_gintE B.g_MAX_PERIOD))) (dw_or1 (DW.dt (dw_and (dt_cmpD c_gt (de_var 1) de_int) (dw_and1 (dt_cmpD (c_ne hr.units) (de_mod (de_var 3) (de_var 1)) de_int))))))))) (dss_one0 (ds_raise1 GX_InvalidCalendar tk (hr.mono (by decide)) (DE.d0 (de_var 2)))) (DSs.d0 dss_nil))
      (dss_one0 (DS.d0 (ds_set (i := 1) sc_validate_calendarX.nd (de_var 3)))))))))) (fun xs cs Q XP h => pure_validate_calendarX K C xs cs Q XP h)
theorem sc_is_order : FnScope ["calendar", "order", "period", "day", "amount"] ["calendar", "order"] (defScope s_is_order) := ⟨rfl, rfl, rfl, by decide +kernel, rfl, by decide +kernel, by decide +kernel⟩
theorem fo_is_order {f : Addr} {fd : FuncData} (F : Fun K "is_order" "is_order" s_is_order f fd) (B : Bi K mg C) (G_is_integer : DOk P w K mg base CX0 "is_integer" ["value"] 1 sp_is_integer) : FnOk P w K mg base CX0 2 f fd ["calendar", "order"] (liftSp K sp_is_order) :=
  fn_dataQ F sc_is_order len_is_order (fun cdv A outer s H E hr =>
      (dss_cons (ds_asg (de_var 1) (dg_tup rfl (dgs_cons (dg_name (i := 2) sc_is_order.nd) (dgs_cons (dg_name (i := 3) sc_is_order.nd) (dgs_cons (dg_name (i := 4) sc_is_order.nd) dgs_nil)))))
      (dss_cons (ds_if (DW.dt (dw_or (dt_notin (de_var 2) (de_var 0)) (dw_or (dt_not (dt_val (de_call G_is_integer (hr.mono (by decide)) (da_cons (de_var 3) da_nil)))) (dw_or1 (dt_not (dt_chainD c_le c_lt de_int (de_var 3) (de_var 2))))))) (dss_one (ds_ret de_bl)) dss_nil)
      (dss_one (ds_ret (de_and (de_call G_is_integer (hr.mono (by decide)) (da_cons (de_var 4) da_nil)) (de_one (de_cmpD (c_ne hr.units) (de_var 4) de_int)))))))) (fun xs cs Q XP h => pure_is_order K xs cs Q XP h)
theorem sc_first_invalid_order : FnScope ["calendar", "orders", "index", "order"] ["calendar", "orders"] (defScope s_first_invalid_order) := ⟨rfl, rfl, rfl, by decide +kernel, rfl, by decide +kernel, by decide +kernel⟩
theorem fo_first_invalid_order {f : Addr} {fd : FuncData} (F : Fun K "first_invalid_order" "first_invalid_order" s_first_invalid_order f fd) (B : Bi K mg C) (G_is_order : DOk P w K mg base CX0 "is_order" ["calendar", "order"] 2 sp_is_order) : FnOk P w K mg base CX0 3 f fd ["calendar", "orders"] (liftSp K sp_first_invalid_order) :=
  fn_dataQ F sc_first_invalid_order len_first_invalid_order (fun cdv A outer s H E hr =>
      (dss_cons (ds_for (di_enum B.b_enumerate (da_cons (de_var 1) da_nil)) (dg_tup rfl (dgs_cons (dg_name (i := 2) sc_first_invalid_order.nd) (dgs_cons (dg_name (i := 3) sc_first_invalid_order.nd) dgs_nil))) (dss_one (ds_if (dt_not (dt_val (de_call G_is_order (hr.mono (by decide)) (da_cons (de_var 0) (da_cons (de_var 3) da_nil))))) (dss_one (ds_ret (de_var 2))) dss_nil)))
      (dss_one (ds_ret de_non)))) (fun xs cs Q XP h => pure_first_invalid_order K xs cs Q XP h)
theorem sc_validate_ordersX : FnScope ["calendar", "orders", "index"] ["calendar", "orders"] (defScope s_validate_ordersX) := ⟨rfl, rfl, rfl, by decide +kernel, rfl, by decide +kernel, by decide +kernel⟩
theorem fo_validate_ordersX {f : Addr} {fd : FuncData} (F : Fun K "validate_orders" "validate_orders" s_validate_ordersX f fd) (B : Bi K mg C) (G_validate_calendarX : DOkX P w K mg base "validate_calendar" ["calendar"] 3 (sp_validate_calendarX C)) (G_first_invalid_order : DOk P w K mg base CX0 "first_invalid_order" ["calendar", "orders"] 3 sp_first_invalid_order) (GX_InvalidOrder : Xc1 P w K mg base "InvalidOrder" C.InvalidOrder "index") : FnOk P w K mg base (L2.CX P w) 4 f fd ["calendar", "orders"] (liftSp K (sp_validate_ordersX C)) :=
  fn_dataX (ws := fun W0 => w_validate_ordersX K C W0) F sc_validate_ordersX len_validate_ordersX (fun cdv A outer s H E hr M0 W0 tk =>
      (dss_cons0 (ds_expr0 (de_callX G_validate_calendarX tk (hr.mono (by decide)) (DA.d0 (da_cons (de_var 0) da_nil))))
      (dss_cons0 (DS.d0 (ds_set (i := 2) sc_validate_ordersX.nd (de_call G_first_invalid_order (hr.mono (by decide)) (da_cons (de_var 0) (da_cons (de_var 1) da_nil)))))
      (dss_one0 (ds_if0 (DT.d0 (dt_cmpD c_notN (de_var 2) de_non)) (dss_one0 (ds_raise1 GX_InvalidOrder tk (hr.mono (by decide)) (DE.d0 (de_var 2)))) (DSs.d0 dss_nil)))))) (fun xs cs Q XP h => pure_validate_ordersX K C xs cs Q XP h)
theorem sc_days_due : FnScope ["period", "day", "first", "last"] ["period", "day", "first", "last"] (defScope s_days_due) := ⟨rfl, rfl, rfl, by decide +kernel, rfl, by decide +kernel, by decide +kernel⟩
theorem fo_days_due {f : Addr} {fd : FuncData} (F : Fun K "days_due" "days_due" s_days_due f fd) (B : Bi K mg C)  : FnOk P w K mg base CX0 1 f fd ["period", "day", "first", "last"] (liftSp K sp_days_due) :=
  fn_dataQ F sc_days_due len_days_due (fun cdv A outer s H E hr =>
      (dss_one (ds_ret (de_max2 rfl B.b_max (da_cons de_int (da_cons (de_sub (de_div (de_sub (de_var 3) (de_var 1)) (de_var 0)) (de_div (de_sub (de_sub (de_var 2) de_int) (de_var 1)) (de_var 0))) da_nil)))))) (fun xs cs Q XP h => pure_days_due K xs cs Q XP h)
theorem sc_times_dueX : FnScope ["calendar", "order", "first", "last"] ["calendar", "order", "first", "last"] (defScope s_times_dueX) := ⟨rfl, rfl, rfl, by decide +kernel, rfl, by decide +kernel, by decide +kernel⟩
theorem fo_times_dueX {f : Addr} {fd : FuncData} (F : Fun K "times_due" "times_due" s_times_dueX f fd) (B : Bi K mg C) (G_validate_ordersX : DOkX P w K mg base "validate_orders" ["calendar", "orders"] 4 (sp_validate_ordersX C)) (G_days_due : DOk P w K mg base CX0 "days_due" ["period", "day", "first", "last"] 1 sp_days_due) : FnOk P w K mg base (L2.CX P w) 5 f fd ["calendar", "order", "first", "last"] (liftSp K (sp_times_dueX C)) :=
  fn_dataX (ws := fun W0 => w_times_dueX K C W0) F sc_times_dueX len_times_dueX (fun cdv A outer s H E hr M0 W0 tk =>
      (dss_cons0 (ds_expr0 (de_callX G_validate_ordersX tk (hr.mono (by decide)) (DA.d0 (da_cons (de_var 0) (da_cons (de_lst (da_cons (de_var 1) da_nil)) da_nil)))))
      (dss_one0 (DS.d0 (ds_ret (de_call G_days_due (hr.mono (by decide)) (da_cons (de_ix (de_var 1) de_int) (da_cons (de_ix (de_var 1) de_int) (da_cons (de_var 2) (da_cons (de_var 3) da_nil)))))))))) (fun xs cs Q XP h => pure_times_dueX K C xs cs Q XP h)
theorem sc_is_amount : FnScope ["amount", "low", "high"] ["amount", "low", "high"] (defScope s_is_amount) := ⟨rfl, rfl, rfl, by decide +kernel, rfl, by decide +kernel, by decide +kernel⟩
theorem fo_is_amount {f : Addr} {fd : FuncData} (F : Fun K "is_amount" "is_amount" s_is_amount f fd) (B : Bi K mg C) (G_is_integer : DOk P w K mg base CX0 "is_integer" ["value"] 1 sp_is_integer) : FnOk P w K mg base CX0 2 f fd ["amount", "low", "high"] (liftSp K (sp_is_amount C)) :=
  fn_dataQ F sc_is_amount len_is_amount (fun cdv A outer s H E hr =>
      (dss_one (ds_ret (de_and (de_call G_is_integer (hr.mono (by decide)) (da_cons (de_var 0) da_nil)) (de_one (de_chainD c_le c_le (de_var 1) (de_var 0) (de_var 2))))))) (fun xs cs Q XP h => pure_is_amount K C xs cs Q XP h)
theorem sc_Account___init__ : FnScope ["self", "name", "limit", "amount", "cycle"] ["self", "name", "limit", "amount", "cycle"] (defScope s_Account___init__) := ⟨rfl, rfl, rfl, by decide +kernel, rfl, by decide +kernel, by decide +kernel⟩
theorem fo_Account___init__ {f : Addr} {fd : FuncData} (F : Fun K "__init__" "Account.__init__" s_Account___init__ f fd) (B : Bi K mg C)  : FnOk P w K mg base CX0 1 f fd ["self", "name", "limit", "amount", "cycle"] (liftSp K (sp_Account___init__ C)) :=
  fn_dataQ F sc_Account___init__ len_Account___init__ (fun cdv A outer s H E hr =>
      (dss_cons (ds_alt (ds_fld B.cl_Account B.na_Account_title (de_var 0) (de_var 1)) (ds_alt (ds_fld B.cl_LimitedAccount B.na_LimitedAccount_title (de_var 0) (de_var 1)) (ds_fld B.cl_SavingsAccount B.na_SavingsAccount_title (de_var 0) (de_var 1))))
      (dss_cons (ds_alt (ds_fld B.cl_Account B.na_Account_credit (de_var 0) (de_var 2)) (ds_alt (ds_fld B.cl_LimitedAccount B.na_LimitedAccount_credit (de_var 0) (de_var 2)) (ds_fld B.cl_SavingsAccount B.na_SavingsAccount_credit (de_var 0) (de_var 2))))
      (dss_cons (ds_alt (ds_fld B.cl_Account B.na_Account_amount (de_var 0) (de_var 3)) (ds_alt (ds_fld B.cl_LimitedAccount B.na_LimitedAccount_amount (de_var 0) (de_var 3)) (ds_fld B.cl_SavingsAccount B.na_SavingsAccount_amount (de_var 0) (de_var 3))))
      (dss_one (ds_alt (ds_fld B.cl_Account B.na_Account_cycle (de_var 0) (de_var 4)) (ds_alt (ds_fld B.cl_LimitedAccount B.na_LimitedAccount_cycle (de_var 0) (de_var 4)) (ds_fld B.cl_SavingsAccount B.na_SavingsAccount_cycle (de_var 0) (de_var 4))))))))) (fun xs cs Q XP h => pure_Account___init__ K C xs cs Q XP h)
theorem sc_Account_is_name : FnScope ["name", "letter"] ["name"] (defScope s_Account_is_name) := ⟨rfl, rfl, rfl, by decide +kernel, rfl, by decide +kernel, by decide +kernel⟩
theorem fo_Account_is_name {f : Addr} {fd : FuncData} (F : Fun K "is_name" "Account.is_name" s_Account_is_name f fd) (B : Bi K mg C)  : FnOk P w K mg base CX0 1 f fd ["name"] (liftSp K (sp_Account_is_name C)) :=
  fn_dataQ F sc_Account_is_name len_Account_is_name (fun cdv A outer s H E hr =>
      (dss_one (ds_ret (de_and (de_chainD c_le c_le de_int (de_lenS B.b_len (da_cons (de_var 0) da_nil)) (de_gintE B.g_MAX_LETTERS)) (de_one (de_all rfl B.b_all (da_cons (de_lc (own := [("letter", 1)]) sc_Account_is_name.nd (di_str (de_var 0)) (blkOk_by (N := ["name", "letter"]) (sc := defScope s_Account_is_name) (by decide +kernel)) (fun _ _ _ _ _ => (dg_name (i := 1) sc_Account_is_name.nd)) (fun _ _ _ _ _ => dts_nil) (fun _ _ _ _ _ => (de_inS (de_var 1) (de_gstrE B.g_LETTERS))) (by decide)) da_nil))))))) (fun xs cs Q XP h => pure_Account_is_name K C xs cs Q XP h)
theorem sc_Account_allows : FnScope ["self", "amount"] ["self", "amount"] (defScope s_Account_allows) := ⟨rfl, rfl, rfl, by decide +kernel, rfl, by decide +kernel, by decide +kernel⟩
theorem fo_Account_allows {f : Addr} {fd : FuncData} (F : Fun K "allows" "Account.allows" s_Account_allows f fd) (B : Bi K mg C)  : FnOk P w K mg base CX0 1 f fd ["self", "amount"] (liftSp K (sp_Account_allows C)) :=
  fn_dataQ F sc_Account_allows len_Account_allows (fun cdv A outer s H E hr =>
      (dss_one (ds_ret de_bl))) (fun xs cs Q XP h => pure_Account_allows K C xs cs Q XP h)
theorem sc_LimitedAccount_allows : FnScope ["self", "amount"] ["self", "amount"] (defScope s_LimitedAccount_allows) := ⟨rfl, rfl, rfl, by decide +kernel, rfl, by decide +kernel, by decide +kernel⟩
theorem fo_LimitedAccount_allows {f : Addr} {fd : FuncData} (F : Fun K "allows" "LimitedAccount.allows" s_LimitedAccount_allows f fd) (B : Bi K mg C)  : FnOk P w K mg base CX0 1 f fd ["self", "amount"] (liftSp K (sp_LimitedAccount_allows C)) :=
  fn_dataQ F sc_LimitedAccount_allows len_LimitedAccount_allows (fun cdv A outer s H E hr =>
      (dss_one (ds_ret (de_cmpD c_ge (de_var 1) (de_sub de_int (de_alt (de_fldI B.cl_LimitedAccount B.na_LimitedAccount_credit (de_var 0)) (de_fldI B.cl_SavingsAccount B.na_SavingsAccount_credit (de_var 0)))))))) (fun xs cs Q XP h => pure_LimitedAccount_allows K C xs cs Q XP h)
theorem sc_Account_made : FnScope ["cls", "kind", "name", "limit", "balance", "cycle", "account"] ["cls", "kind", "name", "limit", "balance", "cycle"] (defScope s_Account_made) := ⟨rfl, rfl, rfl, by decide +kernel, rfl, by decide +kernel, by decide +kernel⟩
theorem fo_Account_made {f : Addr} {fd : FuncData} (F : Fun K "made" "Account.made" s_Account_made f fd) (B : Bi K mg C) (G_Account_is_name : DStok P w K mg base "Account" C.Account "is_name" ["name"] 1 (sp_Account_is_name C)) (GX_InvalidName : Xc1 P w K mg base "InvalidName" C.InvalidName "name") (G_is_amount : DOk P w K mg base CX0 "is_amount" ["amount", "low", "high"] 2 (sp_is_amount C)) (G_LimitedAccount___init__ : DKok P w K mg base C.LimitedAccount "LimitedAccount" ["self", "name", "limit", "amount", "cycle"] 1 (sp_Account___init__ C)) (G_SavingsAccount___init__ : DKok P w K mg base C.SavingsAccount "SavingsAccount" ["self", "name", "limit", "amount", "cycle"] 1 (sp_Account___init__ C)) (G_Account___init__ : DKok P w K mg base C.Account "Account" ["self", "name", "limit", "amount", "cycle"] 1 (sp_Account___init__ C)) (G_Account_allows : DMok P w K mg base C.Account "allows" ["self", "amount"] 1 (sp_Account_allows C)) (G_LimitedAccount_allows : DMok P w K mg base C.LimitedAccount "allows" ["self", "amount"] 1 (sp_LimitedAccount_allows C)) (G_SavingsAccount_allows : DMok P w K mg base C.SavingsAccount "allows" ["self", "amount"] 1 (sp_LimitedAccount_allows C)) (GX_Overdrawn : Xc2 P w K mg base "Overdrawn" C.Overdrawn "name" "day") : FnOk P w K mg base (L2.CX P w) 3 f fd ["cls", "kind", "name", "limit", "balance", "cycle"] (liftSp K (sp_Account_made C)) :=
  fn_dataX (ws := fun W0 => w_Account_made K C W0) F sc_Account_made len_Account_made (fun cdv A outer s H E hr M0 W0 tk =>
      (dss_cons0 (ds_if0 (DT.d0 (dt_notin (de_var 1) (de_tup (da_cons (de_cvalE B.cv_Account_KIND (fun _ => .str _)) (da_cons (de_cvalE B.cv_LimitedAccount_KIND (fun _ => .str _)) (da_cons (de_cvalE B.cv_SavingsAccount_KIND (fun _ => .str _)) da_nil)))))) (dss_one0 (ds_raise0 B.x0_UnknownKind tk)) (DSs.d0 dss_nil))
      (dss_cons0 (ds_if0 (DT.d0 (dt_not (dt_val (de_static G_Account_is_name (hr.mono (by decide)) (da_cons (de_var 2) da_nil))))) (dss_one0 (ds_raise1 GX_InvalidName tk (hr.mono (by decide)) (DE.d0 (de_var 2)))) (DSs.d0 dss_nil))
      (dss_cons0 (ds_if0 (DT.d0 (dt_not (dt_val (de_call G_is_amount (hr.mono (by decide)) (da_cons (de_var 3) (da_cons de_int (da_cons (de_if (dt_cmpD (c_eq hr.units) (de_var 1) (de_cvalE B.cv_LimitedAccount_KIND (fun _ => .str _))) (de_gintE B.g_MAX_AMOUNT) de_int) da_nil))))))) (dss_one0 (ds_raise0 B.x0_InvalidAmount tk)) (DSs.d0 dss_nil))
      (dss_cons0 (DS.d0 (ds_if (dt_cmpD (c_eq hr.units) (de_var 1) (de_cvalE B.cv_LimitedAccount_KIND (fun _ => .str _))) (dss_one (ds_set (i := 6) sc_Account_made.nd (de_makeD G_LimitedAccount___init__ (hr.mono (by decide)) (da_cons (de_var 2) (da_cons (de_var 3) (da_cons (de_var 4) (da_cons (de_var 5) da_nil))))))) (dss_one (ds_if (dt_cmpD (c_eq hr.units) (de_var 1) (de_cvalE B.cv_SavingsAccount_KIND (fun _ => .str _))) (dss_one (ds_set (i := 6) sc_Account_made.nd (de_makeD G_SavingsAccount___init__ (hr.mono (by decide)) (da_cons (de_var 2) (da_cons (de_var 3) (da_cons (de_var 4) (da_cons (de_var 5) da_nil))))))) (dss_one (ds_set (i := 6) sc_Account_made.nd (de_makeD G_Account___init__ (hr.mono (by decide)) (da_cons (de_var 2) (da_cons (de_var 3) (da_cons (de_var 4) (da_cons (de_var 5) da_nil)))))))))))
      (dss_cons0 (ds_if0 (DT.d0 (dt_not (dt_val (de_alt (de_methI G_Account_allows (hr.mono (by decide)) (de_var 6) (da_cons (de_var 4) da_nil)) (de_alt (de_methI G_LimitedAccount_allows (hr.mono (by decide)) (de_var 6) (da_cons (de_var 4) da_nil)) (de_methI G_SavingsAccount_allows (hr.mono (by decide)) (de_var 6) (da_cons (de_var 4) da_nil))))))) (dss_one0 (ds_raise2 GX_Overdrawn tk (hr.mono (by decide)) (DE.d0 (de_var 2)) (DE.d0 de_non))) (DSs.d0 dss_nil))
      (dss_one0 (DS.d0 (ds_ret (de_var 6)))))))))) (fun xs cs Q XP h => pure_Account_made K C xs cs Q XP h)
theorem sc_Account_balance : FnScope ["self"] ["self"] (defScope s_Account_balance) := ⟨rfl, rfl, rfl, by decide +kernel, rfl, by decide +kernel, by decide +kernel⟩
theorem fo_Account_balance {f : Addr} {fd : FuncData} (F : Fun K "balance" "Account.balance" s_Account_balance f fd) (B : Bi K mg C)  : FnOk P w K mg base CX0 1 f fd ["self"] (liftSp K (sp_Account_balance C)) :=
  fn_dataQ F sc_Account_balance len_Account_balance (fun cdv A outer s H E hr =>
      (dss_one (ds_ret (de_alt (de_fldI B.cl_Account B.na_Account_amount (de_var 0)) (de_alt (de_fldI B.cl_LimitedAccount B.na_LimitedAccount_amount (de_var 0)) (de_fldI B.cl_SavingsAccount B.na_SavingsAccount_amount (de_var 0))))))) (fun xs cs Q XP h => pure_Account_balance K C xs cs Q XP h)
theorem sc_Account_floor : FnScope ["self"] ["self"] (defScope s_Account_floor) := ⟨rfl, rfl, rfl, by decide +kernel, rfl, by decide +kernel, by decide +kernel⟩
theorem fo_Account_floor {f : Addr} {fd : FuncData} (F : Fun K "floor" "Account.floor" s_Account_floor f fd) (B : Bi K mg C)  : FnOk P w K mg base CX0 1 f fd ["self"] (liftSp K (sp_Account_floor C)) :=
  fn_dataQ F sc_Account_floor len_Account_floor (fun cdv A outer s H E hr =>
      (dss_one (ds_ret de_non))) (fun xs cs Q XP h => pure_Account_floor K C xs cs Q XP h)
theorem sc_LimitedAccount_floor : FnScope ["self"] ["self"] (defScope s_LimitedAccount_floor) := ⟨rfl, rfl, rfl, by decide +kernel, rfl, by decide +kernel, by decide +kernel⟩
theorem fo_LimitedAccount_floor {f : Addr} {fd : FuncData} (F : Fun K "floor" "LimitedAccount.floor" s_LimitedAccount_floor f fd) (B : Bi K mg C)  : FnOk P w K mg base CX0 1 f fd ["self"] (liftSp K (sp_LimitedAccount_floor C)) :=
  fn_dataQ F sc_LimitedAccount_floor len_LimitedAccount_floor (fun cdv A outer s H E hr =>
      (dss_one (ds_ret (de_sub de_int (de_alt (de_fldI B.cl_LimitedAccount B.na_LimitedAccount_credit (de_var 0)) (de_fldI B.cl_SavingsAccount B.na_SavingsAccount_credit (de_var 0))))))) (fun xs cs Q XP h => pure_LimitedAccount_floor K C xs cs Q XP h)
theorem sc_Books___init__ : FnScope ["self", "day", "accounts", "dues", "following"] ["self", "day", "accounts", "dues", "following"] (defScope s_Books___init__) := ⟨rfl, rfl, rfl, by decide +kernel, rfl, by decide +kernel, by decide +kernel⟩
theorem fo_Books___init__ {f : Addr} {fd : FuncData} (F : Fun K "__init__" "Books.__init__" s_Books___init__ f fd) (B : Bi K mg C)  : FnOk P w K mg base CX0 1 f fd ["self", "day", "accounts", "dues", "following"] (liftSp K (sp_Books___init__ C)) :=
  fn_dataQ F sc_Books___init__ len_Books___init__ (fun cdv A outer s H E hr =>
      (dss_cons (ds_fld B.cl_Books B.na_Books_day_number (de_var 0) (de_var 1))
      (dss_cons (ds_fld B.cl_Books B.na_Books_accounts (de_var 0) (de_var 2))
      (dss_cons (ds_fld B.cl_Books B.na_Books_dues (de_var 0) (de_var 3))
      (dss_one (ds_fld B.cl_Books B.na_Books_following (de_var 0) (de_var 4))))))) (fun xs cs Q XP h => pure_Books___init__ K C xs cs Q XP h)
theorem sc_Books_copied : FnScope ["self"] ["self"] (defScope s_Books_copied) := ⟨rfl, rfl, rfl, by decide +kernel, rfl, by decide +kernel, by decide +kernel⟩
theorem fo_Books_copied {f : Addr} {fd : FuncData} (F : Fun K "copied" "Books.copied" s_Books_copied f fd) (B : Bi K mg C) (G_Books___init__ : DKok P w K mg base C.Books "Books" ["self", "day", "accounts", "dues", "following"] 1 (sp_Books___init__ C)) : FnOk P w K mg base CX0 3 f fd ["self"] (liftSp K (sp_Books_copied C)) :=
  fn_dataQ F sc_Books_copied len_Books_copied (fun cdv A outer s H E hr =>
      (dss_one (ds_ret (de_makeD G_Books___init__ (hr.mono (by decide)) (da_cons (de_fldI B.cl_Books B.na_Books_day_number (de_var 0)) (da_cons (de_copyV B.b_dict (da_cons (de_fldI B.cl_Books B.na_Books_accounts (de_var 0)) da_nil)) (da_cons (de_copyV B.b_dict (da_cons (de_fldI B.cl_Books B.na_Books_dues (de_var 0)) da_nil)) (da_cons (de_fldI B.cl_Books B.na_Books_following (de_var 0)) da_nil)))))))) (fun xs cs Q XP h => pure_Books_copied K C xs cs Q XP h)
theorem sc_Books_payments : FnScope ["self", "name", "found", "number", "parties", "period", "day", "amount"] ["self", "name"] (defScope s_Books_payments) := ⟨rfl, rfl, rfl, by decide +kernel, rfl, by decide +kernel, by decide +kernel⟩
theorem fo_Books_payments {f : Addr} {fd : FuncData} (F : Fun K "payments" "Books.payments" s_Books_payments f fd) (B : Bi K mg C)  : FnOk P w K mg base CX0 1 f fd ["self", "name"] (liftSp K (sp_Books_payments C)) :=
  fn_dataQ F sc_Books_payments len_Books_payments (fun cdv A outer s H E hr =>
      (dss_cons (ds_set (i := 2) sc_Books_payments.nd (de_lst da_nil))
      (dss_cons (ds_for (di_seq (de_sortVI rfl B.b_sorted (da_cons (de_fldI B.cl_Books B.na_Books_dues (de_var 0)) da_nil))) (dg_name (i := 3) sc_Books_payments.nd) (dss_cons (ds_asg (de_dgetV hr.units (de_fldI B.cl_Books B.na_Books_dues (de_var 0)) (de_var 3)) (dg_star rfl (dgs_consS (dg_name (i := 4) sc_Books_payments.nd) (dgs_cons (dg_name (i := 5) sc_Books_payments.nd) (dgs_cons (dg_name (i := 6) sc_Books_payments.nd) (dgs_cons (dg_name (i := 7) sc_Books_payments.nd) dgs_nil))))))
      (dss_one (ds_if (dt_cmpD (c_eq hr.units) (de_ix (de_var 4) de_int) (de_var 1)) (dss_one (ds_expr (de_append (de_var 2) (de_tup (da_cons (de_var 3) (da_cons (de_var 5) (da_cons (de_var 6) (da_cons (de_if (dt_cmpD (c_eq hr.units) (de_len B.b_len (da_cons (de_var 4) da_nil)) de_int) (de_var 7) (de_sub de_int (de_var 7))) da_nil)))))))) (dss_one (ds_if (dt_cmpD (c_eq hr.units) (de_ix (de_var 4) (de_neg de_int)) (de_var 1)) (dss_one (ds_expr (de_append (de_var 2) (de_tup (da_cons (de_var 3) (da_cons (de_var 5) (da_cons (de_var 6) (da_cons (de_var 7) da_nil)))))))) dss_nil))))))
      (dss_one (ds_ret (de_var 2)))))) (fun xs cs Q XP h => pure_Books_payments K C xs cs Q XP h)
theorem sc_Books_add_balance : FnScope ["self", "name", "amount", "kind", "limit", "balance"] ["self", "name", "amount"] (defScope s_Books_add_balance) := ⟨rfl, rfl, rfl, by decide +kernel, rfl, by decide +kernel, by decide +kernel⟩
theorem fo_Books_add_balance {f : Addr} {fd : FuncData} (F : Fun K "add_balance" "Books.add_balance" s_Books_add_balance f fd) (B : Bi K mg C)  : FnOk P w K mg base CX0 1 f fd ["self", "name", "amount"] (liftSp K (sp_Books_add_balance C)) :=
  fn_dataQ F sc_Books_add_balance len_Books_add_balance (fun cdv A outer s H E hr =>
      (dss_cons (ds_asg (de_dgetV hr.units (de_fldI B.cl_Books B.na_Books_accounts (de_var 0)) (de_var 1)) (dg_tup rfl (dgs_cons (dg_name (i := 3) sc_Books_add_balance.nd) (dgs_cons (dg_name (i := 4) sc_Books_add_balance.nd) (dgs_cons (dg_name (i := 5) sc_Books_add_balance.nd) dgs_nil)))))
      (dss_cons (ds_dput hr.units (de_fldI B.cl_Books B.na_Books_accounts (de_var 0)) (de_var 1) (de_tup (da_cons (de_var 3) (da_cons (de_var 4) (da_cons (de_add (de_var 5) (de_var 2)) da_nil)))))
      (dss_one (ds_ret (de_add (de_var 5) (de_var 2))))))) (fun xs cs Q XP h => pure_Books_add_balance K C xs cs Q XP h)
theorem sc_validate_amount : FnScope ["amount", "low", "high"] ["amount", "low", "high"] (defScope s_validate_amount) := ⟨rfl, rfl, rfl, by decide +kernel, rfl, by decide +kernel, by decide +kernel⟩
theorem fo_validate_amount {f : Addr} {fd : FuncData} (F : Fun K "validate_amount" "validate_amount" s_validate_amount f fd) (B : Bi K mg C) (G_is_amount : DOk P w K mg base CX0 "is_amount" ["amount", "low", "high"] 2 (sp_is_amount C)) : FnOk P w K mg base (L2.CX P w) 3 f fd ["amount", "low", "high"] (liftSp K (sp_validate_amount C)) :=
  fn_dataX (ws := fun W0 => w_validate_amount K C W0) F sc_validate_amount len_validate_amount (fun cdv A outer s H E hr M0 W0 tk =>
      (dss_one0 (ds_if0 (DT.d0 (dt_not (dt_val (de_call G_is_amount (hr.mono (by decide)) (da_cons (de_var 0) (da_cons (de_var 1) (da_cons (de_var 2) da_nil))))))) (dss_one0 (ds_raise0 B.x0_InvalidAmount tk)) (DSs.d0 dss_nil)))) (fun xs cs Q XP h => pure_validate_amount K C xs cs Q XP h)
theorem sc_Ledger___init__ : FnScope ["self", "calendar", "day"] ["self", "calendar", "day"] (defScope s_Ledger___init__) := ⟨rfl, rfl, rfl, by decide +kernel, rfl, by decide +kernel, by decide +kernel⟩
theorem fo_Ledger___init__ {f : Addr} {fd : FuncData} (F : Fun K "__init__" "Ledger.__init__" s_Ledger___init__ f fd) (B : Bi K mg C) (G_validate_calendarX : DOkX P w K mg base "validate_calendar" ["calendar"] 3 (sp_validate_calendarX C)) (G_Books___init__ : DKok P w K mg base C.Books "Books" ["self", "day", "accounts", "dues", "following"] 1 (sp_Books___init__ C)) : FnOk P w K mg base (L2.CX P w) 4 f fd ["self", "calendar", "day"] (liftSp K (sp_Ledger___init__ C)) :=
  fn_dataX (ws := fun W0 => w_Ledger___init__ K C W0) F sc_Ledger___init__ len_Ledger___init__ (fun cdv A outer s H E hr M0 W0 tk =>
      (dss_cons0 (ds_expr0 (de_callX G_validate_calendarX tk (hr.mono (by decide)) (DA.d0 (da_cons (de_var 1) da_nil))))
      (dss_cons0 (DS.d0 (ds_fld B.cl_Ledger B.na_Ledger_periods (de_var 0) (de_var 1)))
      (dss_cons0 (DS.d0 (ds_fld B.cl_Ledger B.na_Ledger_books (de_var 0) (de_makeD G_Books___init__ (hr.mono (by decide)) (da_cons (de_var 2) (da_cons de_dnewK (da_cons de_dnewK (da_cons de_int da_nil)))))))
      (dss_cons0 (DS.d0 (ds_fld B.cl_Ledger B.na_Ledger_past (de_var 0) (de_lst da_nil)))
      (dss_one0 (DS.d0 (ds_fld B.cl_Ledger B.na_Ledger_future (de_var 0) (de_lst da_nil))))))))) (fun xs cs Q XP h => pure_Ledger___init__ K C xs cs Q XP h)
theorem sc_Ledger_today : FnScope ["self"] ["self"] (defScope s_Ledger_today) := ⟨rfl, rfl, rfl, by decide +kernel, rfl, by decide +kernel, by decide +kernel⟩
theorem fo_Ledger_today {f : Addr} {fd : FuncData} (F : Fun K "today" "Ledger.today" s_Ledger_today f fd) (B : Bi K mg C)  : FnOk P w K mg base CX0 1 f fd ["self"] (liftSp K (sp_Ledger_today C)) :=
  fn_dataQ F sc_Ledger_today len_Ledger_today (fun cdv A outer s H E hr =>
      (dss_one (ds_ret (de_fldI B.cl_Books B.na_Books_day_number (de_fldI B.cl_Ledger B.na_Ledger_books (de_var 0)))))) (fun xs cs Q XP h => pure_Ledger_today K C xs cs Q XP h)
theorem sc_Ledger_names : FnScope ["self"] ["self"] (defScope s_Ledger_names) := ⟨rfl, rfl, rfl, by decide +kernel, rfl, by decide +kernel, by decide +kernel⟩
theorem fo_Ledger_names {f : Addr} {fd : FuncData} (F : Fun K "names" "Ledger.names" s_Ledger_names f fd) (B : Bi K mg C)  : FnOk P w K mg base CX0 1 f fd ["self"] (liftSp K (sp_Ledger_names C)) :=
  fn_dataQ F sc_Ledger_names len_Ledger_names (fun cdv A outer s H E hr =>
      (dss_one (ds_ret (de_sortVS rfl B.b_sorted (da_cons (de_fldI B.cl_Books B.na_Books_accounts (de_fldI B.cl_Ledger B.na_Ledger_books (de_var 0))) da_nil))))) (fun xs cs Q XP h => pure_Ledger_names K C xs cs Q XP h)
theorem sc_Ledger_orders : FnScope ["self", "number"] ["self"] (defScope s_Ledger_orders) := ⟨rfl, rfl, rfl, by decide +kernel, rfl, by decide +kernel, by decide +kernel⟩
theorem fo_Ledger_orders {f : Addr} {fd : FuncData} (F : Fun K "orders" "Ledger.orders" s_Ledger_orders f fd) (B : Bi K mg C)  : FnOk P w K mg base CX0 1 f fd ["self"] (liftSp K (sp_Ledger_orders C)) :=
  fn_dataQ F sc_Ledger_orders len_Ledger_orders (fun cdv A outer s H E hr =>
      (dss_one (ds_ret (de_lc (own := [("number", 1)]) sc_Ledger_orders.nd (di_seq (de_sortVI rfl B.b_sorted (da_cons (de_fldI B.cl_Books B.na_Books_dues (de_fldI B.cl_Ledger B.na_Ledger_books (de_var 0))) da_nil))) (blkOk_by (N := ["self", "number"]) (sc := defScope s_Ledger_orders) (by decide +kernel)) (fun _ _ _ _ _ => (dg_name (i := 1) sc_Ledger_orders.nd)) (fun _ _ _ _ _ => dts_nil) (fun _ _ _ _ _ => (de_catT (de_tup (da_cons (de_var 1) da_nil)) (de_dgetV hr.units (de_fldI B.cl_Books B.na_Books_dues (de_fldI B.cl_Ledger B.na_Ledger_books (de_var 0))) (de_var 1)))) (by decide))))) (fun xs cs Q XP h => pure_Ledger_orders K C xs cs Q XP h)
theorem sc_Ledger_account_in : FnScope ["self", "books", "name", "kind", "limit", "balance"] ["self", "books", "name"] (defScope s_Ledger_account_in) := ⟨rfl, rfl, rfl, by decide +kernel, rfl, by decide +kernel, by decide +kernel⟩
theorem fo_Ledger_account_in {f : Addr} {fd : FuncData} (F : Fun K "account_in" "Ledger.account_in" s_Ledger_account_in f fd) (B : Bi K mg C) (GX_UnknownAccount : Xc1 P w K mg base "UnknownAccount" C.UnknownAccount "name") (G_Account_made_2_limit_balance_cycle : DCok (L2.CX P w) P w K mg base "Account" C.Account "made" 2 ["limit", "balance", "cycle"] gd_Account_made_2_limit_balance_cycle 3 (sp_Account_made C)) : FnOk P w K mg base (L2.CX P w) 4 f fd ["self", "books", "name"] (liftSp K (sp_Ledger_account_in C)) :=
  fn_dataX (ws := fun W0 => w_Ledger_account_in K C W0) F sc_Ledger_account_in len_Ledger_account_in (fun cdv A outer s H E hr M0 W0 tk =>
      (dss_cons0 (ds_if0 (DT.d0 (dt_ninV hr.units (de_var 2) (de_fldI B.cl_Books B.na_Books_accounts (de_var 1)))) (dss_one0 (ds_raise1 GX_UnknownAccount tk (hr.mono (by decide)) (DE.d0 (de_var 2)))) (DSs.d0 dss_nil))
      (dss_cons0 (DS.d0 (ds_asg (de_dgetV hr.units (de_fldI B.cl_Books B.na_Books_accounts (de_var 1)) (de_var 2)) (dg_tup rfl (dgs_cons (dg_name (i := 3) sc_Ledger_account_in.nd) (dgs_cons (dg_name (i := 4) sc_Ledger_account_in.nd) (dgs_cons (dg_name (i := 5) sc_Ledger_account_in.nd) dgs_nil))))))
      (dss_one0 (ds_ret0 (de_cmX G_Account_made_2_limit_balance_cycle tk (hr.mono (by decide)) (DA.d0 (da_cons (de_var 3) (da_cons (de_var 2) da_nil))) ((dkc (de_var 4) (dkc (de_var 5) (dkc (de_ix (de_fldI B.cl_Ledger B.na_Ledger_periods (de_var 0)) (de_neg de_int)) dkn))) _))))))) (fun xs cs Q XP h => pure_Ledger_account_in K C xs cs Q XP h)
theorem sc_Ledger_account : FnScope ["self", "name"] ["self", "name"] (defScope s_Ledger_account) := ⟨rfl, rfl, rfl, by decide +kernel, rfl, by decide +kernel, by decide +kernel⟩
theorem fo_Ledger_account {f : Addr} {fd : FuncData} (F : Fun K "account" "Ledger.account" s_Ledger_account f fd) (B : Bi K mg C) (G_Ledger_account_in : DMokX P w K mg base C.Ledger "account_in" ["self", "books", "name"] 4 (sp_Ledger_account_in C)) : FnOk P w K mg base (L2.CX P w) 5 f fd ["self", "name"] (liftSp K (sp_Ledger_account C)) :=
  fn_dataX (ws := fun W0 => w_Ledger_account K C W0) F sc_Ledger_account len_Ledger_account (fun cdv A outer s H E hr M0 W0 tk =>
      (dss_one0 (ds_ret0 (de_methX G_Ledger_account_in tk (hr.mono (by decide)) (DE.d0 (de_var 0)) (DA.d0 (da_cons (de_fldI B.cl_Ledger B.na_Ledger_books (de_var 0)) (da_cons (de_var 1) da_nil))))))) (fun xs cs Q XP h => pure_Ledger_account K C xs cs Q XP h)
theorem sc_Ledger_commit : FnScope ["self", "operation", "books"] ["self", "operation", "books"] (defScope s_Ledger_commit) := ⟨rfl, rfl, rfl, by decide +kernel, rfl, by decide +kernel, by decide +kernel⟩
theorem fo_Ledger_commit {f : Addr} {fd : FuncData} (F : Fun K "commit" "Ledger.commit" s_Ledger_commit f fd) (B : Bi K mg C)  : FnOk P w K mg base CX0 1 f fd ["self", "operation", "books"] (liftSp K (sp_Ledger_commit C)) :=
  fn_dataQ F sc_Ledger_commit len_Ledger_commit (fun cdv A outer s H E hr =>
      (dss_cons (ds_expr (de_append (de_fldI B.cl_Ledger B.na_Ledger_past (de_var 0)) (de_tup (da_cons (de_var 1) (da_cons (de_fldI B.cl_Ledger B.na_Ledger_books (de_var 0)) da_nil)))))
      (dss_cons (ds_fld B.cl_Ledger B.na_Ledger_future (de_var 0) (de_lst da_nil))
      (dss_one (ds_fld B.cl_Ledger B.na_Ledger_books (de_var 0) (de_var 2)))))) (fun xs cs Q XP h => pure_Ledger_commit K C xs cs Q XP h)
theorem sc_Ledger_open_books : FnScope ["self", "books", "name", "kind", "limit", "balance"] ["self", "books", "name", "kind", "limit", "balance"] (defScope s_Ledger_open_books) := ⟨rfl, rfl, rfl, by decide +kernel, rfl, by decide +kernel, by decide +kernel⟩
theorem fo_Ledger_open_books {f : Addr} {fd : FuncData} (F : Fun K "open_books" "Ledger.open_books" s_Ledger_open_books f fd) (B : Bi K mg C) (GX_DuplicateName : Xc1 P w K mg base "DuplicateName" C.DuplicateName "name") (G_Account_made_2_limit_balance_cycle : DCok (L2.CX P w) P w K mg base "Account" C.Account "made" 2 ["limit", "balance", "cycle"] gd_Account_made_2_limit_balance_cycle 3 (sp_Account_made C)) (G_validate_amount : DOkX P w K mg base "validate_amount" ["amount", "low", "high"] 3 (sp_validate_amount C)) : FnOk P w K mg base (L2.CX P w) 4 f fd ["self", "books", "name", "kind", "limit", "balance"] (liftSp K (sp_Ledger_open_books C)) :=
  fn_dataX (ws := fun W0 => w_Ledger_open_books K C W0) F sc_Ledger_open_books len_Ledger_open_books (fun cdv A outer s H E hr M0 W0 tk =>
      (dss_cons0 (ds_if0 (DT.d0 (dt_cmpD (c_eq hr.units) (de_lenV B.b_len (da_cons (de_fldI B.cl_Books B.na_Books_accounts (de_var 1)) da_nil)) (de_gintE B.g_MAX_ACCOUNTS))) (dss_one0 (ds_raise0 B.x0_TooManyAccounts tk)) (DSs.d0 dss_nil))
      (dss_cons0 (ds_if0 (DT.d0 (dt_inV hr.units (de_var 2) (de_fldI B.cl_Books B.na_Books_accounts (de_var 1)))) (dss_one0 (ds_raise1 GX_DuplicateName tk (hr.mono (by decide)) (DE.d0 (de_var 2)))) (DSs.d0 dss_nil))
      (dss_cons0 (ds_try tk (fun M1 W1 pn xe sm1 tk1 po1 => (dss_one0 (ds_expr0 (de_cmX G_Account_made_2_limit_balance_cycle tk1 (hr.mono (by decide)) (DA.d0 (da_cons (de_var 3) (da_cons (de_var 2) da_nil))) ((dkc (de_var 4) (dkc (de_var 5) (dkc (de_ix (de_fldI B.cl_Ledger B.na_Ledger_periods (de_var 0)) (de_neg de_int)) dkn))) _))))) (.cons ⟨by rfl, by decide, .inl B.gc_Overdrawn⟩ (fun a oe pn => (DSs.d0 (dss_cons ds_never
      (dss_one ds_never)))) .nil))
      (dss_cons0 (ds_expr0 (de_callX G_validate_amount tk (hr.mono (by decide)) (DA.d0 (da_cons (de_var 5) (da_cons (de_sub de_int (de_gintE B.g_MAX_AMOUNT)) (da_cons (de_gintE B.g_MAX_AMOUNT) da_nil))))))
      (dss_one0 (DS.d0 (ds_dput hr.units (de_fldI B.cl_Books B.na_Books_accounts (de_var 1)) (de_var 2) (de_tup (da_cons (de_var 3) (da_cons (de_var 4) (da_cons (de_var 5) da_nil)))))))))))) (fun xs cs Q XP h => pure_Ledger_open_books K C B.kf xs cs Q XP h)
theorem sc_Ledger_open_account : FnScope ["self", "name", "kind", "limit", "balance", "books"] ["self", "name", "kind", "limit", "balance"] (defScope s_Ledger_open_account) := ⟨rfl, rfl, rfl, by decide +kernel, rfl, by decide +kernel, by decide +kernel⟩
theorem fo_Ledger_open_account {f : Addr} {fd : FuncData} (F : Fun K "open_account" "Ledger.open_account" s_Ledger_open_account f fd) (B : Bi K mg C) (G_Books_copied : DMok P w K mg base C.Books "copied" ["self"] 3 (sp_Books_copied C)) (G_Ledger_open_books : DMokX P w K mg base C.Ledger "open_books" ["self", "books", "name", "kind", "limit", "balance"] 4 (sp_Ledger_open_books C)) (G_Ledger_commit : DMok P w K mg base C.Ledger "commit" ["self", "operation", "books"] 1 (sp_Ledger_commit C)) : FnOk P w K mg base (L2.CX P w) 5 f fd ["self", "name", "kind", "limit", "balance"] (liftSp K (sp_Ledger_open_account C)) :=
  fn_dataX (ws := fun W0 => w_Ledger_open_account K C W0) F sc_Ledger_open_account len_Ledger_open_account (fun cdv A outer s H E hr M0 W0 tk =>
      (dss_cons0 (DS.d0 (ds_set (i := 5) sc_Ledger_open_account.nd (de_methIn G_Books_copied (hr.mono (by decide)) (de_fldI B.cl_Ledger B.na_Ledger_books (de_var 0)))))
      (dss_cons0 (ds_expr0 (de_methX G_Ledger_open_books tk (hr.mono (by decide)) (DE.d0 (de_var 0)) (DA.d0 (da_cons (de_var 5) (da_cons (de_var 1) (da_cons (de_var 2) (da_cons (de_var 3) (da_cons (de_var 4) da_nil))))))))
      (dss_one0 (DS.d0 (ds_expr (de_methI G_Ledger_commit (hr.mono (by decide)) (de_var 0) (da_cons (de_tup (da_cons de_str (da_cons (de_var 1) (da_cons (de_var 2) (da_cons (de_var 3) (da_cons (de_var 4) da_nil)))))) (da_cons (de_var 5) da_nil))))))))) (fun xs cs Q XP h => pure_Ledger_open_account K C xs cs Q XP h)
theorem sc_Ledger_add_item : FnScope ["self", "books", "parts", "parties", "period", "day", "amount", "name", "number"] ["self", "books", "parts"] (defScope s_Ledger_add_item) := ⟨rfl, rfl, rfl, by decide +kernel, rfl, by decide +kernel, by decide +kernel⟩
theorem fo_Ledger_add_item {f : Addr} {fd : FuncData} (F : Fun K "add_item" "Ledger.add_item" s_Ledger_add_item f fd) (B : Bi K mg C) (G_Ledger_account_in : DMokX P w K mg base C.Ledger "account_in" ["self", "books", "name"] 4 (sp_Ledger_account_in C)) (G_validate_ordersX : DOkX P w K mg base "validate_orders" ["calendar", "orders"] 4 (sp_validate_ordersX C)) (G_Books_payments : DMok P w K mg base C.Books "payments" ["self", "name"] 1 (sp_Books_payments C)) : FnOk P w K mg base (L2.CX P w) 5 f fd ["self", "books", "parts"] (liftSp K (sp_Ledger_add_item C)) :=
  fn_dataX (ws := fun W0 => w_Ledger_add_item K C W0) F sc_Ledger_add_item len_Ledger_add_item (fun cdv A outer s H E hr M0 W0 tk =>
      (dss_cons0 (DS.d0 (ds_asg (de_var 2) (dg_star rfl (dgs_consS (dg_name (i := 3) sc_Ledger_add_item.nd) (dgs_cons (dg_name (i := 4) sc_Ledger_add_item.nd) (dgs_cons (dg_name (i := 5) sc_Ledger_add_item.nd) (dgs_cons (dg_name (i := 6) sc_Ledger_add_item.nd) dgs_nil)))))))
      (dss_cons0 (ds_for0 (L2.passes_of rfl) (di_seq (de_var 3)) (dg_name (i := 7) sc_Ledger_add_item.nd) (dss_one0 (ds_expr0 (de_methX G_Ledger_account_in tk (hr.mono (by decide)) (DE.d0 (de_var 0)) (DA.d0 (da_cons (de_var 1) (da_cons (de_var 7) da_nil)))))))
      (dss_cons0 (ds_expr0 (de_callX G_validate_ordersX tk (hr.mono (by decide)) (DA.d0 (da_cons (de_fldI B.cl_Ledger B.na_Ledger_periods (de_var 0)) (da_cons (de_lst (da_cons (de_tup (da_cons (de_var 4) (da_cons (de_var 5) (da_cons (de_var 6) da_nil)))) da_nil)) da_nil)))))
      (dss_cons0 (ds_if0 (DT.d0 (dt_cmpD (c_eq hr.units) (de_maxI rfl hr.units B.b_max (da_cons (de_lc (own := [("name", 7)]) sc_Ledger_add_item.nd (di_seq (de_var 3)) (blkOk_by (N := ["self", "books", "parts", "parties", "period", "day", "amount", "name", "number"]) (sc := defScope s_Ledger_add_item) (by decide +kernel)) (fun _ _ _ _ _ => (dg_name (i := 7) sc_Ledger_add_item.nd)) (fun _ _ _ _ _ => dts_nil) (fun _ _ _ _ _ => (de_len B.b_len (da_cons (de_methI G_Books_payments (hr.mono (by decide)) (de_var 1) (da_cons (de_var 7) da_nil)) da_nil))) (by decide)) da_nil)) (de_gintE B.g_MAX_ORDERS_ledger))) (dss_one0 (ds_raise0 B.x0_TooManyOrders tk)) (DSs.d0 dss_nil))
      (dss_cons0 (DS.d0 (ds_set (i := 8) sc_Ledger_add_item.nd (de_fldI B.cl_Books B.na_Books_following (de_var 1))))
      (dss_cons0 (DS.d0 (ds_dput hr.units (de_fldI B.cl_Books B.na_Books_dues (de_var 1)) (de_var 8) (de_var 2)))
      (dss_cons0 (DS.d0 (ds_fld B.cl_Books B.na_Books_following (de_var 1) (de_add (de_var 8) de_int)))
      (dss_one0 (DS.d0 (ds_ret (de_var 8)))))))))))) (fun xs cs Q XP h => pure_Ledger_add_item K C xs cs Q XP h)
theorem sc_Ledger_validate_parties : FnScope ["self", "names", "name"] ["self", "names"] (defScope s_Ledger_validate_parties) := ⟨rfl, rfl, rfl, by decide +kernel, rfl, by decide +kernel, by decide +kernel⟩
theorem fo_Ledger_validate_parties {f : Addr} {fd : FuncData} (F : Fun K "validate_parties" "Ledger.validate_parties" s_Ledger_validate_parties f fd) (B : Bi K mg C) (G_Ledger_account : DMokX P w K mg base C.Ledger "account" ["self", "name"] 5 (sp_Ledger_account C)) : FnOk P w K mg base (L2.CX P w) 6 f fd ["self", "names"] (liftSp K (sp_Ledger_validate_parties C)) :=
  fn_dataX (ws := fun W0 => w_Ledger_validate_parties K C W0) F sc_Ledger_validate_parties len_Ledger_validate_parties (fun cdv A outer s H E hr M0 W0 tk =>
      (dss_cons0 (ds_for0 (L2.passes_of rfl) (di_seq (de_var 1)) (dg_name (i := 2) sc_Ledger_validate_parties.nd) (dss_one0 (ds_expr0 (de_methX G_Ledger_account tk (hr.mono (by decide)) (DE.d0 (de_var 0)) (DA.d0 (da_cons (de_var 2) da_nil))))))
      (dss_one0 (ds_if0 (DT.d0 (dt_cmpD (c_eq hr.units) (de_ix (de_var 1) de_int) (de_ix (de_var 1) de_int))) (dss_one0 (ds_raise0 B.x0_SameAccount tk)) (DSs.d0 dss_nil))))) (fun xs cs Q XP h => pure_Ledger_validate_parties K C xs cs Q XP h)
theorem sc_Ledger_validate_item : FnScope ["self", "parties", "amount"] ["self", "parties", "amount"] (defScope s_Ledger_validate_item) := ⟨rfl, rfl, rfl, by decide +kernel, rfl, by decide +kernel, by decide +kernel⟩
theorem fo_Ledger_validate_item {f : Addr} {fd : FuncData} (F : Fun K "validate_item" "Ledger.validate_item" s_Ledger_validate_item f fd) (B : Bi K mg C) (G_validate_amount : DOkX P w K mg base "validate_amount" ["amount", "low", "high"] 3 (sp_validate_amount C)) : FnOk P w K mg base (L2.CX P w) 4 f fd ["self", "parties", "amount"] (liftSp K (sp_Ledger_validate_item C)) :=
  fn_dataX (ws := fun W0 => w_Ledger_validate_item K C W0) F sc_Ledger_validate_item len_Ledger_validate_item (fun cdv A outer s H E hr M0 W0 tk =>
      (dss_cons0 (ds_expr0 (de_callX G_validate_amount tk (hr.mono (by decide)) (DA.d0 (da_cons (de_var 2) (da_cons (de_if (dt_cmpD (c_eq hr.units) (de_var 1) de_int) de_int (de_sub de_int (de_gintE B.g_MAX_AMOUNT))) (da_cons (de_gintE B.g_MAX_AMOUNT) da_nil))))))
      (dss_one0 (ds_if0 (DT.d0 (dt_cmpD (c_eq hr.units) (de_var 2) de_int)) (dss_one0 (ds_raise0 B.x0_InvalidAmount tk)) (DSs.d0 dss_nil))))) (fun xs cs Q XP h => pure_Ledger_validate_item K C xs cs Q XP h)
theorem sc_Ledger_add_order : FnScope ["self", "name", "period", "day", "amount", "books", "number"] ["self", "name", "period", "day", "amount"] (defScope s_Ledger_add_order) := ⟨rfl, rfl, rfl, by decide +kernel, rfl, by decide +kernel, by decide +kernel⟩
theorem fo_Ledger_add_order {f : Addr} {fd : FuncData} (F : Fun K "add_order" "Ledger.add_order" s_Ledger_add_order f fd) (B : Bi K mg C) (G_Books_copied : DMok P w K mg base C.Books "copied" ["self"] 3 (sp_Books_copied C)) (G_Ledger_account : DMokX P w K mg base C.Ledger "account" ["self", "name"] 5 (sp_Ledger_account C)) (G_Ledger_validate_item : DMokX P w K mg base C.Ledger "validate_item" ["self", "parties", "amount"] 4 (sp_Ledger_validate_item C)) (G_Ledger_add_item : DMokX P w K mg base C.Ledger "add_item" ["self", "books", "parts"] 5 (sp_Ledger_add_item C)) (G_Ledger_commit : DMok P w K mg base C.Ledger "commit" ["self", "operation", "books"] 1 (sp_Ledger_commit C)) : FnOk P w K mg base (L2.CX P w) 6 f fd ["self", "name", "period", "day", "amount"] (liftSp K (sp_Ledger_add_order C)) :=
  fn_dataX (ws := fun W0 => w_Ledger_add_order K C W0) F sc_Ledger_add_order len_Ledger_add_order (fun cdv A outer s H E hr M0 W0 tk =>
      (dss_cons0 (DS.d0 (ds_set (i := 5) sc_Ledger_add_order.nd (de_methIn G_Books_copied (hr.mono (by decide)) (de_fldI B.cl_Ledger B.na_Ledger_books (de_var 0)))))
      (dss_cons0 (ds_expr0 (de_methX G_Ledger_account tk (hr.mono (by decide)) (DE.d0 (de_var 0)) (DA.d0 (da_cons (de_var 1) da_nil))))
      (dss_cons0 (ds_expr0 (de_methX G_Ledger_validate_item tk (hr.mono (by decide)) (DE.d0 (de_var 0)) (DA.d0 (da_cons de_int (da_cons (de_var 4) da_nil)))))
      (dss_cons0 (ds_set0 (i := 6) sc_Ledger_add_order.nd (de_methX G_Ledger_add_item tk (hr.mono (by decide)) (DE.d0 (de_var 0)) (DA.d0 (da_cons (de_var 5) (da_cons (de_tup (da_cons (de_var 1) (da_cons (de_var 2) (da_cons (de_var 3) (da_cons (de_var 4) da_nil))))) da_nil)))))
      (dss_cons0 (DS.d0 (ds_expr (de_methI G_Ledger_commit (hr.mono (by decide)) (de_var 0) (da_cons (de_tup (da_cons de_str (da_cons (de_var 1) (da_cons (de_var 2) (da_cons (de_var 3) (da_cons (de_var 4) da_nil)))))) (da_cons (de_var 5) da_nil)))))
      (dss_one0 (DS.d0 (ds_ret (de_var 6)))))))))) (fun xs cs Q XP h => pure_Ledger_add_order K C xs cs Q XP h)
theorem sc_Ledger_add_transfer : FnScope ["self", "source", "target", "period", "day", "amount", "books", "number"] ["self", "source", "target", "period", "day", "amount"] (defScope s_Ledger_add_transfer) := ⟨rfl, rfl, rfl, by decide +kernel, rfl, by decide +kernel, by decide +kernel⟩
theorem fo_Ledger_add_transfer {f : Addr} {fd : FuncData} (F : Fun K "add_transfer" "Ledger.add_transfer" s_Ledger_add_transfer f fd) (B : Bi K mg C) (G_Books_copied : DMok P w K mg base C.Books "copied" ["self"] 3 (sp_Books_copied C)) (G_Ledger_validate_parties : DMokX P w K mg base C.Ledger "validate_parties" ["self", "names"] 6 (sp_Ledger_validate_parties C)) (G_Ledger_validate_item : DMokX P w K mg base C.Ledger "validate_item" ["self", "parties", "amount"] 4 (sp_Ledger_validate_item C)) (G_Ledger_add_item : DMokX P w K mg base C.Ledger "add_item" ["self", "books", "parts"] 5 (sp_Ledger_add_item C)) (G_Ledger_commit : DMok P w K mg base C.Ledger "commit" ["self", "operation", "books"] 1 (sp_Ledger_commit C)) : FnOk P w K mg base (L2.CX P w) 7 f fd ["self", "source", "target", "period", "day", "amount"] (liftSp K (sp_Ledger_add_transfer C)) :=
  fn_dataX (ws := fun W0 => w_Ledger_add_transfer K C W0) F sc_Ledger_add_transfer len_Ledger_add_transfer (fun cdv A outer s H E hr M0 W0 tk =>
      (dss_cons0 (DS.d0 (ds_set (i := 6) sc_Ledger_add_transfer.nd (de_methIn G_Books_copied (hr.mono (by decide)) (de_fldI B.cl_Ledger B.na_Ledger_books (de_var 0)))))
      (dss_cons0 (ds_expr0 (de_methX G_Ledger_validate_parties tk (hr.mono (by decide)) (DE.d0 (de_var 0)) (DA.d0 (da_cons (de_lst (da_cons (de_var 1) (da_cons (de_var 2) da_nil))) da_nil))))
      (dss_cons0 (ds_expr0 (de_methX G_Ledger_validate_item tk (hr.mono (by decide)) (DE.d0 (de_var 0)) (DA.d0 (da_cons de_int (da_cons (de_var 5) da_nil)))))
      (dss_cons0 (ds_set0 (i := 7) sc_Ledger_add_transfer.nd (de_methX G_Ledger_add_item tk (hr.mono (by decide)) (DE.d0 (de_var 0)) (DA.d0 (da_cons (de_var 6) (da_cons (de_tup (da_cons (de_var 1) (da_cons (de_var 2) (da_cons (de_var 3) (da_cons (de_var 4) (da_cons (de_var 5) da_nil)))))) da_nil)))))
      (dss_cons0 (DS.d0 (ds_expr (de_methI G_Ledger_commit (hr.mono (by decide)) (de_var 0) (da_cons (de_tup (da_cons de_str (da_cons (de_var 1) (da_cons (de_var 2) (da_cons (de_var 3) (da_cons (de_var 4) (da_cons (de_var 5) da_nil))))))) (da_cons (de_var 6) da_nil)))))
      (dss_one0 (DS.d0 (ds_ret (de_var 7)))))))))) (fun xs cs Q XP h => pure_Ledger_add_transfer K C xs cs Q XP h)
theorem sc_Ledger_first_overdraft : FnScope ["self", "found", "name", "account", "day"] ["self"] (defScope s_Ledger_first_overdraft) := ⟨rfl, rfl, rfl, by decide +kernel, rfl, by decide +kernel, by decide +kernel⟩
theorem fo_Ledger_first_overdraft {f : Addr} {fd : FuncData} (F : Fun K "first_overdraft" "Ledger.first_overdraft" s_Ledger_first_overdraft f fd) (B : Bi K mg C) (G_Ledger_names : DPok P w K mg base C.Ledger "names" 1 (sp_Ledger_names C)) (G_Ledger_account : DMokX P w K mg base C.Ledger "account" ["self", "name"] 5 (sp_Ledger_account C)) (G_Account_floor : DPok P w K mg base C.Account "floor" 1 (sp_Account_floor C)) (G_LimitedAccount_floor : DPok P w K mg base C.LimitedAccount "floor" 1 (sp_LimitedAccount_floor C)) (G_SavingsAccount_floor : DPok P w K mg base C.SavingsAccount "floor" 1 (sp_LimitedAccount_floor C)) : FnOk P w K mg base CX0 6 f fd ["self"] (liftSp K (sp_Ledger_first_overdraft C)) :=
  fn_dataQ F sc_Ledger_first_overdraft len_Ledger_first_overdraft (fun cdv A outer s H E hr =>
      (dss_cons (ds_set (i := 1) sc_Ledger_first_overdraft.nd (de_lst da_nil))
      (dss_cons (ds_for (di_seq (de_propI G_Ledger_names (hr.mono (by decide)) (de_var 0))) (dg_name (i := 2) sc_Ledger_first_overdraft.nd) (dss_cons (ds_set (i := 3) sc_Ledger_first_overdraft.nd (de_methI G_Ledger_account.ok0 (hr.mono (by decide)) (de_var 0) (da_cons (de_var 2) da_nil)))
      (dss_one (ds_if (dt_cmpD c_notN (de_alt (de_propI G_Account_floor (hr.mono (by decide)) (de_var 3)) (de_alt (de_propI G_LimitedAccount_floor (hr.mono (by decide)) (de_var 3)) (de_propI G_SavingsAccount_floor (hr.mono (by decide)) (de_var 3)))) de_non) (dss_cons ds_never
      (dss_one ds_never)) dss_nil))))
      (dss_one (ds_ret (de_if (dt_cmpD (c_ne hr.units) (de_var 1) (de_lst da_nil)) (de_minI rfl hr.units B.b_min (da_cons (de_var 1) da_nil)) de_non)))))) (fun xs cs Q XP h => pure_Ledger_first_overdraft K C xs cs Q XP h)
theorem sc_Ledger_pass_days : FnScope ["self", "count", "overdraft", "last", "books", "name", "number", "period", "day", "amount"] ["self", "count"] (defScope s_Ledger_pass_days) := ⟨rfl, rfl, rfl, by decide +kernel, rfl, by decide +kernel, by decide +kernel⟩
theorem fo_Ledger_pass_days {f : Addr} {fd : FuncData} (F : Fun K "pass_days" "Ledger.pass_days" s_Ledger_pass_days f fd) (B : Bi K mg C) (G_is_integer : DOk P w K mg base CX0 "is_integer" ["value"] 1 sp_is_integer) (G_Ledger_today : DPok P w K mg base C.Ledger "today" 1 (sp_Ledger_today C)) (G_Ledger_first_overdraft : DMok P w K mg base C.Ledger "first_overdraft" ["self"] 6 (sp_Ledger_first_overdraft C)) (GX_Overdrawn : Xc2 P w K mg base "Overdrawn" C.Overdrawn "name" "day") (G_Books_copied : DMok P w K mg base C.Books "copied" ["self"] 3 (sp_Books_copied C)) (G_Ledger_names : DPok P w K mg base C.Ledger "names" 1 (sp_Ledger_names C)) (G_Books_payments : DMok P w K mg base C.Books "payments" ["self", "name"] 1 (sp_Books_payments C)) (G_days_due : DOk P w K mg base CX0 "days_due" ["period", "day", "first", "last"] 1 sp_days_due) (G_Books_add_balance : DMok P w K mg base C.Books "add_balance" ["self", "name", "amount"] 1 (sp_Books_add_balance C)) (G_Ledger_commit : DMok P w K mg base C.Ledger "commit" ["self", "operation", "books"] 1 (sp_Ledger_commit C)) : FnOk P w K mg base (L2.CX P w) 7 f fd ["self", "count"] (liftSp K (sp_Ledger_pass_days C)) :=
  fn_dataX (ws := fun W0 => (wSeq (wIfS (wOr (wNot (wTest (wCall sp_is_integer (wCons (wVar 1) wNil)))) (wNot (wTest (wChain wLe wLe (wC (.int 0)) (wVar 1) (wC (.int 1000000000000000000)))))) (wRaise (.ref C.InvalidCount) (xw W0)) wNext)
    (wSeq (wPar 2 3 (wCons (wMethI C.Ledger "first_overdraft" (sp_Ledger_first_overdraft C) (wVar 0) wNil) (wCons (wOp wAdd (wPropI C.Ledger (sp_Ledger_today C) (wVar 0)) (wVar 1)) wNil)))
    (wSeq (wIfS (wAnd (wTest (wOp wNotN (wVar 2) (wC .non))) (wTest (wOp wLe (wOp wIx (wVar 2) (wC (.int 0))) (wVar 3)))) (wRaise2 C.Overdrawn "name" "day" (wOp wIx (wVar 2) (wC (.int 1))) (wOp wIx (wVar 2) (wC (.int 0))) (xw W0)) wNext)
    (wSeq (wAsg (wMethI C.Books "copied" (sp_Books_copied C) (wFldI C.Ledger "books" (wVar 0)) wNil) (gN 4))
    (wSeq (wFor (wiSeq (wPropI C.Ledger (sp_Ledger_names C) (wVar 0))) (gN 5) (wFor (wiSeq (wMethI C.Books "payments" (sp_Books_payments C) (wFldI C.Ledger "books" (wVar 0)) (wCons (wVar 5) wNil))) (gT 4 (gCons (gN 6) (gCons (gN 7) (gCons (gN 8) (gCons (gN 9) gNil))))) (wDrop (wMethI C.Books "add_balance" (sp_Books_add_balance C) (wVar 4) (wCons (wVar 5) (wCons (wOp wMul (wVar 9) (wCall sp_days_due (wCons (wVar 7) (wCons (wVar 8) (wCons (wOp wAdd (wPropI C.Ledger (sp_Ledger_today C) (wVar 0)) (wC (.int 1))) (wCons (wVar 3) wNil)))))) wNil))))))
    (wSeq (wSetF C.Books "day_number" (wVar 4) (wVar 3))
    (wSeq (wDrop (wMethI C.Ledger "commit" (sp_Ledger_commit C) (wVar 0) (wCons (wTup (wCons (wC (.str "pass_days")) (wCons (wVar 1) wNil))) (wCons (wVar 4) wNil))))
    (wRet (wLc (wiSeq (wPropI C.Ledger (sp_Ledger_names C) (wVar 0))) (gN 5) wYes (wTup (wCons (wVar 5) (wCons (wOp wIx (wOp wDGetV (wFldI C.Books "accounts" (wVar 4)) (wVar 5)) (wC (.int 2))) wNil))) [5])))))))))) F sc_Ledger_pass_days len_Ledger_pass_days (fun cdv A outer s H E hr M0 W0 tk =>
      (dss_cons0 (ds_if0 (DT.d0 (DW.dt (dw_or (dt_not (dt_val (de_call G_is_integer (hr.mono (by decide)) (da_cons (de_var 1) da_nil)))) (dw_or1 (dt_not (dt_chainD c_le c_le de_int (de_var 1) (de_gintE B.g_MAX_DAYS))))))) (dss_one0 (ds_raise0 B.x0_InvalidCount tk)) (DSs.d0 dss_nil))
      (dss_cons0 (ds_par0 (i := 2) (j := 3) rfl sc_Ledger_pass_days.nd (DA.d0 (da_cons (de_methIn G_Ledger_first_overdraft (hr.mono (by decide)) (de_var 0)) (da_cons (de_add (de_propI G_Ledger_today (hr.mono (by decide)) (de_var 0)) (de_var 1)) da_nil))))
      (dss_cons0 (ds_if0 (DT.d0 (DW.dt (dw_and (dt_cmpD c_notN (de_var 2) de_non) (dw_and1 (dt_cmpD c_le (de_ix (de_var 2) de_int) (de_var 3)))))) (dss_one0 (ds_raise2 GX_Overdrawn tk (hr.mono (by decide)) (DE.d0 (de_ix (de_var 2) de_int)) (DE.d0 (de_ix (de_var 2) de_int)))) (DSs.d0 dss_nil))
      (dss_cons0 (DS.d0 (ds_set (i := 4) sc_Ledger_pass_days.nd (de_methIn G_Books_copied (hr.mono (by decide)) (de_fldI B.cl_Ledger B.na_Ledger_books (de_var 0)))))
      (dss_cons0 (ds_for0 (L2.passes_of rfl) (di_seq (de_propI G_Ledger_names (hr.mono (by decide)) (de_var 0))) (dg_name (i := 5) sc_Ledger_pass_days.nd) (dss_one0 (ds_for0 (L2.passes_of rfl) (di_seq (de_methI G_Books_payments (hr.mono (by decide)) (de_fldI B.cl_Ledger B.na_Ledger_books (de_var 0)) (da_cons (de_var 5) da_nil))) (dg_tup rfl (dgs_cons (dg_name (i := 6) sc_Ledger_pass_days.nd) (dgs_cons (dg_name (i := 7) sc_Ledger_pass_days.nd) (dgs_cons (dg_name (i := 8) sc_Ledger_pass_days.nd) (dgs_cons (dg_name (i := 9) sc_Ledger_pass_days.nd) dgs_nil))))) (DSs.d0 (dss_one (ds_expr (de_methI G_Books_add_balance (hr.mono (by decide)) (de_var 4) (da_cons (de_var 5) (da_cons (de_mul (de_var 9) (de_call G_days_due (hr.mono (by decide)) (da_cons (de_var 7) (da_cons (de_var 8) (da_cons (de_add (de_propI G_Ledger_today (hr.mono (by decide)) (de_var 0)) de_int) (da_cons (de_var 3) da_nil)))))) da_nil)))))))))
      (dss_cons0 (DS.d0 (ds_fld B.cl_Books B.na_Books_day_number (de_var 4) (de_var 3)))
      (dss_cons0 (DS.d0 (ds_expr (de_methI G_Ledger_commit (hr.mono (by decide)) (de_var 0) (da_cons (de_tup (da_cons de_str (da_cons (de_var 1) da_nil))) (da_cons (de_var 4) da_nil)))))
      (dss_one0 (DS.d0 (ds_ret (de_lc (own := [("name", 5)]) sc_Ledger_pass_days.nd (di_seq (de_propI G_Ledger_names (hr.mono (by decide)) (de_var 0))) (blkOk_by (N := ["self", "count", "overdraft", "last", "books", "name", "number", "period", "day", "amount"]) (sc := defScope s_Ledger_pass_days) (by decide +kernel)) (fun _ _ _ _ _ => (dg_name (i := 5) sc_Ledger_pass_days.nd)) (fun _ _ _ _ _ => dts_nil) (fun _ _ _ _ _ => (de_tup (da_cons (de_var 5) (da_cons (de_ix (de_dgetV hr.units (de_fldI B.cl_Books B.na_Books_accounts (de_var 4)) (de_var 5)) de_int) da_nil)))) (by decide))))))))))))) (fun xs cs Q XP h => pure_Ledger_pass_days K C xs cs Q XP h)
theorem sc_Ledger_undo : FnScope ["self", "operation", "books"] ["self"] (defScope s_Ledger_undo) := ⟨rfl, rfl, rfl, by decide +kernel, rfl, by decide +kernel, by decide +kernel⟩
theorem fo_Ledger_undo {f : Addr} {fd : FuncData} (F : Fun K "undo" "Ledger.undo" s_Ledger_undo f fd) (B : Bi K mg C)  : FnOk P w K mg base CX0 1 f fd ["self"] (liftSp K (sp_Ledger_undo C)) :=
  fn_dataQ F sc_Ledger_undo len_Ledger_undo (fun cdv A outer s H E hr =>
      (dss_cons (ds_if (dt_cmpD (c_eqNil hr.units) (de_fldI B.cl_Ledger B.na_Ledger_past (de_var 0)) (de_lst da_nil)) (dss_one (ds_ret de_bl)) dss_nil)
      (dss_cons (ds_asg (de_pop (de_fldI B.cl_Ledger B.na_Ledger_past (de_var 0))) (dg_tup rfl (dgs_cons (dg_name (i := 1) sc_Ledger_undo.nd) (dgs_cons (dg_name (i := 2) sc_Ledger_undo.nd) dgs_nil))))
      (dss_cons (ds_expr (de_append (de_fldI B.cl_Ledger B.na_Ledger_future (de_var 0)) (de_tup (da_cons (de_var 1) (da_cons (de_fldI B.cl_Ledger B.na_Ledger_books (de_var 0)) da_nil)))))
      (dss_cons (ds_fld B.cl_Ledger B.na_Ledger_books (de_var 0) (de_var 2))
      (dss_one (ds_ret de_bl))))))) (fun xs cs Q XP h => pure_Ledger_undo K C xs cs Q XP h)
theorem sc_Ledger_total : FnScope ["self", "names", "chosen", "name"] ["self", "names"] (defScope s_Ledger_total) := ⟨rfl, rfl, rfl, by decide +kernel, rfl, by decide +kernel, by decide +kernel⟩
theorem fo_Ledger_total {f : Addr} {fd : FuncData} (F : Fun K "total" "Ledger.total" s_Ledger_total f fd) (B : Bi K mg C) (G_Ledger_names : DPok P w K mg base C.Ledger "names" 1 (sp_Ledger_names C)) (G_Ledger_account : DMokX P w K mg base C.Ledger "account" ["self", "name"] 5 (sp_Ledger_account C)) (G_Account_balance : DPok P w K mg base C.Account "balance" 1 (sp_Account_balance C)) (G_LimitedAccount_balance : DPok P w K mg base C.LimitedAccount "balance" 1 (sp_Account_balance C)) (G_SavingsAccount_balance : DPok P w K mg base C.SavingsAccount "balance" 1 (sp_Account_balance C)) : FnR P w K mg base CX0 6 f (spStar K 1 (sp_Ledger_total C)) :=
  fn_dataS (ps := ["self"]) (pv := "names") F sc_Ledger_total (fun kV doc pm an cdv ct => StX.bind_star1 (B := fun us => bindArgs _ ⟨us, []⟩) (fun a => rfl) (fun a r rs => rfl)) (fun cdv A outer s H E hr =>
      (dss_cons (ds_set (i := 2) sc_Ledger_total.nd (de_if (dt_cmpD (c_ne hr.units) (de_var 1) (de_tup da_nil)) (de_var 1) (de_tuple B.b_tuple (da_cons (de_propI G_Ledger_names (hr.mono (by decide)) (de_var 0)) da_nil))))
      (dss_one (ds_ret (de_sum rfl B.b_sum (da_cons (de_lc (own := [("name", 3)]) sc_Ledger_total.nd (di_seq (de_var 2)) (blkOk_by (N := ["self", "names", "chosen", "name"]) (sc := defScope s_Ledger_total) (by decide +kernel)) (fun _ _ _ _ _ => (dg_name (i := 3) sc_Ledger_total.nd)) (fun _ _ _ _ _ => dts_nil) (fun _ _ _ _ _ => (de_alt (de_propI G_Account_balance (hr.mono (by decide)) (de_methI G_Ledger_account.ok0 (hr.mono (by decide)) (de_var 0) (da_cons (de_var 3) da_nil))) (de_alt (de_propI G_LimitedAccount_balance (hr.mono (by decide)) (de_methI G_Ledger_account.ok0 (hr.mono (by decide)) (de_var 0) (da_cons (de_var 3) da_nil))) (de_propI G_SavingsAccount_balance (hr.mono (by decide)) (de_methI G_Ledger_account.ok0 (hr.mono (by decide)) (de_var 0) (da_cons (de_var 3) da_nil)))))) (by decide)) da_nil)))))) (fun xs cs Q XP h => pure_Ledger_total K C xs cs Q XP h)
theorem sc_law_mix : FnScope ["_law_script", "_law_seed", "_law_mixed", "_law_cell"] ["_law_script", "_law_seed"] (defScope s_law_mix) := ⟨rfl, rfl, rfl, by decide +kernel, rfl, by decide +kernel, by decide +kernel⟩
theorem fo_law_mix {f : Addr} {fd : FuncData} (F : Fun K "_law_mix" "_law_mix" s_law_mix f fd) (B : Bi K mg C)  : FnOk P w K mg base CX0 1 f fd ["_law_script", "_law_seed"] (liftSp K (sp_law_mix C)) :=
  fn_dataQ F sc_law_mix len_law_mix (fun cdv A outer s H E hr =>
      (dss_cons (ds_set (i := 2) sc_law_mix.nd (de_var 1))
      (dss_cons (ds_for (di_seq (de_var 0)) (dg_name (i := 3) sc_law_mix.nd) (dss_one (ds_set (i := 2) sc_law_mix.nd (de_mod (de_add (de_add (de_mul (de_var 2) de_int) (de_mod (de_var 3) de_int)) de_int) de_int))))
      (dss_one (ds_ret (de_lst (da_cons (de_var 2) (da_cons (de_list B.b_list (da_cons (de_var 0) da_nil)) (da_cons de_int da_nil))))))))) (fun xs cs Q XP h => pure_law_mix K C xs cs Q XP h)
theorem sc_law_next : FnScope ["_law_h", "_law_bound", "_law_cell"] ["_law_h", "_law_bound"] (defScope s_law_next) := ⟨rfl, rfl, rfl, by decide +kernel, rfl, by decide +kernel, by decide +kernel⟩
theorem fo_law_next {f : Addr} {fd : FuncData} (F : Fun K "_law_next" "_law_next" s_law_next f fd) (B : Bi K mg C)  : FnOk P w K mg base CX0 1 f fd ["_law_h", "_law_bound"] (liftSp K (sp_law_next C)) :=
  fn_dataQ F sc_law_next len_law_next (fun cdv A outer s H E hr =>
      (dss_cons (ds_set (i := 2) sc_law_next.nd (de_ix (de_catS (de_ix (de_var 0) de_int) (de_lst (da_cons de_int da_nil))) (de_mod (de_ix (de_var 0) de_int) (de_max2 rfl B.b_max (da_cons de_int (da_cons (de_len B.b_len (da_cons (de_ix (de_var 0) de_int) da_nil)) da_nil))))))
      (dss_cons (ds_if (dt_cmpD c_ge (de_var 2) (de_pow de_int de_int)) (dss_cons (ds_asg (de_div (de_var 2) (de_var 1)) (dg_ix (de_ix (de_var 0) de_int) (de_mod (de_ix (de_var 0) de_int) (de_len B.b_len (da_cons (de_ix (de_var 0) de_int) da_nil)))))
      (dss_one (ds_ret (de_mod (de_var 2) (de_var 1))))) dss_nil)
      (dss_cons (ds_asg (de_mod (de_add (de_add (de_mul (de_ix (de_var 0) de_int) de_int) (de_mul (de_var 2) de_int)) de_int) de_int) (dg_ix (de_var 0) de_int))
      (dss_cons (ds_asg (de_add (de_ix (de_var 0) de_int) de_int) (dg_ix (de_var 0) de_int))
      (dss_one (ds_ret (de_mod (de_div (de_ix (de_var 0) de_int) de_int) (de_var 1))))))))) (fun xs cs Q XP h => pure_law_next K C xs cs Q XP h)
theorem sc_law_alike : FnScope ["_law_found", "_law_due", "_law_k"] ["_law_found", "_law_due"] (defScope s_law_alike) := ⟨rfl, rfl, rfl, by decide +kernel, rfl, by decide +kernel, by decide +kernel⟩
theorem step_law_alike {f : Addr} {fd : FuncData} (F : Fun K "_law_alike" "_law_alike" s_law_alike f fd) {k : Nat} {n : Nat} (hk : 0 ≤ k) (hm : mg "_law_alike" = some (.ref f)) (B : Bi K mg C)  (R : DOk P w K mg base CX0 "_law_alike" ["_law_found", "_law_due"] k (sp_law_alike C n)) : DOk P w K mg base CX0 "_law_alike" ["_law_found", "_law_due"] (k + 1) (sp_law_alike C (n + 1)) :=
  ⟨f, fd, fn_dataQ F sc_law_alike len_law_alike (fun cdv A outer s H E hr =>
      (dss_cons (ds_if (dt_val (de_isi .dict B.b_isinstance B.b_dict (by decide +kernel) (de_var 1))) (dss_one ds_never) dss_nil)
      (dss_cons (ds_if (dt_val (de_isi2 .tuple .list B.b_isinstance B.b_tuple B.b_list (by decide +kernel) (by decide +kernel) (de_var 1))) (dss_cons (ds_if (DW.dt (dw_or (dt_not (dt_val (de_isi2 .tuple .list B.b_isinstance B.b_tuple B.b_list (by decide +kernel) (by decide +kernel) (de_var 0)))) (dw_or1 (dt_cmpD (c_ne hr.units) (de_isi .list B.b_isinstance B.b_list (by decide +kernel) (de_var 0)) (de_isi .list B.b_isinstance B.b_list (by decide +kernel) (de_var 1)))))) (dss_one (ds_ret de_bl)) dss_nil)
      (dss_cons (ds_if (dt_cmpD (c_ne hr.units) (de_len B.b_len (da_cons (de_var 0) da_nil)) (de_len B.b_len (da_cons (de_var 1) da_nil))) (dss_one (ds_ret de_bl)) dss_nil)
      (dss_one (ds_ret (de_cmpD (c_eq hr.units) (de_lc (own := [("_law_k", 2)]) sc_law_alike.nd (di_range1 B.b_range (da_cons (de_len B.b_len (da_cons (de_var 1) da_nil)) da_nil)) (blkOk_by (N := ["_law_found", "_law_due", "_law_k"]) (sc := defScope s_law_alike) (by decide +kernel)) (fun _ _ _ _ _ => (dg_name (i := 2) sc_law_alike.nd)) (fun _ _ _ _ _ => (dts_one (dt_not (dt_val (de_call R hr (da_cons (de_ix (de_var 0) (de_var 2)) (da_cons (de_ix (de_var 1) (de_var 2)) da_nil))))))) (fun _ _ _ _ _ => (de_var 2)) (by decide)) (de_lst da_nil)))))) dss_nil)
      (dss_cons (ds_if (DW.dt (dw_or (dt_cmpD c_isN (de_var 1) de_non) (dw_or1 (dt_val (de_isi .str B.b_isinstance B.b_str (by decide +kernel) (de_var 1)))))) (dss_one (ds_ret (de_and (de_cmpD (c_eq hr.units) (de_var 0) (de_var 1)) (de_one (de_cmpD (c_eq hr.units) (de_isi .str B.b_isinstance B.b_str (by decide +kernel) (de_var 0)) (de_isi .str B.b_isinstance B.b_str (by decide +kernel) (de_var 1))))))) dss_nil)
      (dss_one (ds_ret (de_and (de_isi .int B.b_isinstance B.b_int (by decide +kernel) (de_var 0)) (de_and (de_cmpD (c_eq hr.units) (de_isi .bool B.b_isinstance B.b_bool (by decide +kernel) (de_var 0)) (de_isi .bool B.b_isinstance B.b_bool (by decide +kernel) (de_var 1))) (de_one (de_cmpD (c_eq hr.units) (de_var 0) (de_var 1))))))))))) (fun xs cs Q XP h => pure_law_alike K C n xs cs Q XP h), hm, F.kp, F.binds (ps := ["_law_found", "_law_due"]) (fun _ _ _ _ _ _ us hl => match us, hl with | [_, _], _ => rfl)⟩
theorem ok_law_alike {f : Addr} {fd : FuncData} (F : Fun K "_law_alike" "_law_alike" s_law_alike f fd) (hm : mg "_law_alike" = some (.ref f)) (B : Bi K mg C)  : DOk P w K mg base CX0 "_law_alike" ["_law_found", "_law_due"] 4 (sp_law_alike C 4) := by
  have R0 : DOk P w K mg base CX0 "_law_alike" ["_law_found", "_law_due"] 0 (sp_law_alike C 0) := ⟨f, fd, never_fn never_law_alike, hm, F.kp, F.binds (ps := ["_law_found", "_law_due"]) (fun _ _ _ _ _ _ us hl => match us, hl with | [_, _], _ => rfl)⟩
  have R1 : DOk P w K mg base CX0 "_law_alike" ["_law_found", "_law_due"] 1 (sp_law_alike C 1) := step_law_alike F (by decide) hm B  R0
  have R2 : DOk P w K mg base CX0 "_law_alike" ["_law_found", "_law_due"] 2 (sp_law_alike C 2) := step_law_alike F (by decide) hm B  R1
  have R3 : DOk P w K mg base CX0 "_law_alike" ["_law_found", "_law_due"] 3 (sp_law_alike C 3) := step_law_alike F (by decide) hm B  R2
  have R4 : DOk P w K mg base CX0 "_law_alike" ["_law_found", "_law_due"] 4 (sp_law_alike C 4) := step_law_alike F (by decide) hm B  R3
  exact R4
theorem sc_law_calendarH : FnScope ["_law_h", "_law_found", "_law_k"] ["_law_h"] (defScope s_law_calendarH) := ⟨rfl, rfl, rfl, by decide +kernel, rfl, by decide +kernel, by decide +kernel⟩
theorem fo_law_calendarH {f : Addr} {fd : FuncData} (F : Fun K "_law_calendar" "_law_calendar" s_law_calendarH f fd) (B : Bi K mg C) (G_law_next : DOk P w K mg base CX0 "_law_next" ["_law_h", "_law_bound"] 1 (sp_law_next C)) : FnOk P w K mg base CX0 2 f fd ["_law_h"] (liftSp K (sp_law_calendarH C)) :=
  fn_dataQ F sc_law_calendarH len_law_calendarH (fun cdv A outer s H E hr =>
      (dss_cons (ds_set (i := 1) sc_law_calendarH.nd (de_lst (da_cons (de_add de_int (de_call G_law_next (hr.mono (by decide)) (da_cons (de_var 0) (da_cons de_int da_nil)))) da_nil)))
      (dss_cons (ds_for (di_range1 B.b_range (da_cons (de_call G_law_next (hr.mono (by decide)) (da_cons (de_var 0) (da_cons de_int da_nil))) da_nil)) (dg_name (i := 2) sc_law_calendarH.nd) (dss_one (ds_expr (de_append (de_var 1) (de_mul (de_ix (de_var 1) (de_neg de_int)) (de_add de_int (de_call G_law_next (hr.mono (by decide)) (da_cons (de_var 0) (da_cons de_int da_nil)))))))))
      (dss_one (ds_ret (de_tuple B.b_tuple (da_cons (de_var 1) da_nil))))))) (fun xs cs Q XP h => pure_law_calendarH K C xs cs Q XP h)
theorem sc_law_filled : FnScope ["_law_h", "_law_calendar_here", "_law_moment", "_law_ledger", "_law_name", "_law_k", "_law_names", "_law_period", "_law_one", "_law_other", "_law_residue", "_law_amount"] ["_law_h", "_law_calendar_here", "_law_moment"] (defScope s_law_filled) := ⟨rfl, rfl, rfl, by decide +kernel, rfl, by decide +kernel, by decide +kernel⟩
theorem fo_law_filled {f : Addr} {fd : FuncData} (F : Fun K "_law_filled" "_law_filled" s_law_filled f fd) (B : Bi K mg C) (G_Ledger___init___1_day : DKk P w K mg base C.Ledger "Ledger" 1 ["day"] gd_Ledger___init___1_day 4 (noX (sp_Ledger___init__ C))) (G_law_next : DOk P w K mg base CX0 "_law_next" ["_law_h", "_law_bound"] 1 (sp_law_next C)) (G_Ledger_open_account : DMokX P w K mg base C.Ledger "open_account" ["self", "name", "kind", "limit", "balance"] 5 (sp_Ledger_open_account C)) (G_Ledger_names : DPok P w K mg base C.Ledger "names" 1 (sp_Ledger_names C)) (G_Ledger_add_transfer : DMokX P w K mg base C.Ledger "add_transfer" ["self", "source", "target", "period", "day", "amount"] 7 (sp_Ledger_add_transfer C)) (G_Ledger_add_order : DMokX P w K mg base C.Ledger "add_order" ["self", "name", "period", "day", "amount"] 6 (sp_Ledger_add_order C)) : FnOk P w K mg base CX0 8 f fd ["_law_h", "_law_calendar_here", "_law_moment"] (liftSp K (sp_law_filled C)) :=
  fn_dataQ F sc_law_filled len_law_filled (fun cdv A outer s H E hr =>
      (dss_cons (ds_set (i := 3) sc_law_filled.nd (de_makeK G_Ledger___init___1_day (hr.mono (by decide)) (da_cons (de_var 1) da_nil) (dkc (de_var 2) dkn)))
      (dss_cons (ds_for (di_seq (de_slL (de_lst (da_cons de_str (da_cons de_str (da_cons de_str (da_cons de_str da_nil))))) do_none (do_some (de_add de_int (de_call G_law_next (hr.mono (by decide)) (da_cons (de_var 0) (da_cons de_int da_nil))))))) (dg_name (i := 4) sc_law_filled.nd) (dss_one (ds_expr (de_methI G_Ledger_open_account.ok0 (hr.mono (by decide)) (de_var 3) (da_cons (de_var 4) (da_cons de_str (da_cons de_int (da_cons (de_sub (de_call G_law_next (hr.mono (by decide)) (da_cons (de_var 0) (da_cons de_int da_nil))) de_int) da_nil))))))))
      (dss_cons (ds_for (di_range1 B.b_range (da_cons (de_call G_law_next (hr.mono (by decide)) (da_cons (de_var 0) (da_cons de_int da_nil))) da_nil)) (dg_name (i := 5) sc_law_filled.nd) (dss_cons (ds_par (i := 6) (j := 7) rfl sc_law_filled.nd (da_cons (de_propI G_Ledger_names (hr.mono (by decide)) (de_var 3)) (da_cons (de_ix (de_var 1) (de_call G_law_next (hr.mono (by decide)) (da_cons (de_var 0) (da_cons (de_len B.b_len (da_cons (de_var 1) da_nil)) da_nil)))) da_nil)))
      (dss_cons (ds_par (i := 8) (j := 9) rfl sc_law_filled.nd (da_cons (de_ix (de_var 6) (de_call G_law_next (hr.mono (by decide)) (da_cons (de_var 0) (da_cons (de_len B.b_len (da_cons (de_var 6) da_nil)) da_nil)))) (da_cons (de_ix (de_var 6) (de_call G_law_next (hr.mono (by decide)) (da_cons (de_var 0) (da_cons (de_len B.b_len (da_cons (de_var 6) da_nil)) da_nil)))) da_nil)))
      (dss_cons (ds_par (i := 10) (j := 11) rfl sc_law_filled.nd (da_cons (de_call G_law_next (hr.mono (by decide)) (da_cons (de_var 0) (da_cons (de_var 7) da_nil))) (da_cons (de_add de_int (de_call G_law_next (hr.mono (by decide)) (da_cons (de_var 0) (da_cons (de_ix (de_lst (da_cons de_int (da_cons (de_pow de_int de_int) da_nil))) (de_div (de_call G_law_next (hr.mono (by decide)) (da_cons (de_var 0) (da_cons de_int da_nil))) de_int)) da_nil)))) da_nil)))
      (dss_one (ds_if (dt_cmpD (c_ne hr.units) (de_var 8) (de_var 9)) (dss_one (ds_expr (de_methI G_Ledger_add_transfer.ok0 (hr.mono (by decide)) (de_var 3) (da_cons (de_var 8) (da_cons (de_var 9) (da_cons (de_var 7) (da_cons (de_var 10) (da_cons (de_var 11) da_nil)))))))) (dss_one (ds_expr (de_methI G_Ledger_add_order.ok0 (hr.mono (by decide)) (de_var 3) (da_cons (de_var 8) (da_cons (de_var 7) (da_cons (de_var 10) (da_cons (de_mul (de_var 11) (de_sub de_int (de_mul de_int (de_call G_law_next (hr.mono (by decide)) (da_cons (de_var 0) (da_cons de_int da_nil)))))) da_nil)))))))))))))
      (dss_one (ds_ret (de_var 3))))))) (fun xs cs Q XP h => pure_law_filled K C xs cs Q XP h)
theorem sc_law : FnScope ["_law_script", "_law_h", "_law_turn", "_law_calendar_here", "_law_moment", "_law_ledger", "_law_first", "_law_second", "_law_before", "_law_due", "_law_k", "_law_name", "_law_worth", "_law_own", "_law_order", "_law_transfer", "_law_number", "_law_source", "_law_target", "_law_period", "_law_residue", "_law_amount", "_law_times", "_law_sign", "_law_later"] ["_law_script"] (defScope s_law) := ⟨rfl, rfl, rfl, by decide +kernel, rfl, by decide +kernel, by decide +kernel⟩
theorem fo_law {f : Addr} {fd : FuncData} (F : Fun K "law" "law" s_law f fd) (B : Bi K mg C) (G_law_mix : DOk P w K mg base CX0 "_law_mix" ["_law_script", "_law_seed"] 1 (sp_law_mix C)) (G_law_next : DOk P w K mg base CX0 "_law_next" ["_law_h", "_law_bound"] 1 (sp_law_next C)) (G_law_calendarH : DOk P w K mg base CX0 "_law_calendar" ["_law_h"] 2 (sp_law_calendarH C)) (G_law_filled : DOk P w K mg base CX0 "_law_filled" ["_law_h", "_law_calendar_here", "_law_moment"] 8 (sp_law_filled C)) (G_Ledger_names : DPok P w K mg base C.Ledger "names" 1 (sp_Ledger_names C)) (G_Ledger_account : DMokX P w K mg base C.Ledger "account" ["self", "name"] 5 (sp_Ledger_account C)) (G_Account_balance : DPok P w K mg base C.Account "balance" 1 (sp_Account_balance C)) (G_LimitedAccount_balance : DPok P w K mg base C.LimitedAccount "balance" 1 (sp_Account_balance C)) (G_SavingsAccount_balance : DPok P w K mg base C.SavingsAccount "balance" 1 (sp_Account_balance C)) (G_Ledger_orders : DPok P w K mg base C.Ledger "orders" 1 (sp_Ledger_orders C)) (G_times_dueX : DOkX P w K mg base "times_due" ["calendar", "order", "first", "last"] 5 (sp_times_dueX C)) (G_Ledger_pass_days : DMokX P w K mg base C.Ledger "pass_days" ["self", "count"] 7 (sp_Ledger_pass_days C)) (G_law_alike : DOk P w K mg base CX0 "_law_alike" ["_law_found", "_law_due"] 4 (sp_law_alike C 4)) (G_Ledger_today : DPok P w K mg base C.Ledger "today" 1 (sp_Ledger_today C)) (G_Ledger_undo : DMok P w K mg base C.Ledger "undo" ["self"] 1 (sp_Ledger_undo C)) (G_Ledger_total : DMokS P w K mg base C.Ledger "total" 1 6 (sp_Ledger_total C)) : FnOk P w K mg base CX0 9 f fd ["_law_script"] (liftSp K (sp_law C)) :=
  fn_dataQ F sc_law len_law (fun cdv A outer s H E hr =>
      (dss_cons (ds_set (i := 1) sc_law.nd (de_call G_law_mix (hr.mono (by decide)) (da_cons (de_var 0) (da_cons de_int da_nil))))
      (dss_cons (ds_for (di_range1 B.b_range (da_cons de_int da_nil)) (dg_name (i := 2) sc_law.nd) (dss_cons (ds_par (i := 3) (j := 4) rfl sc_law.nd (da_cons (de_call G_law_calendarH (hr.mono (by decide)) (da_cons (de_var 1) da_nil)) (da_cons (de_sub (de_call G_law_next (hr.mono (by decide)) (da_cons (de_var 1) (da_cons (de_pow de_int de_int) da_nil))) (de_pow de_int de_int)) da_nil)))
      (dss_cons (ds_set (i := 5) sc_law.nd (de_call G_law_filled (hr.mono (by decide)) (da_cons (de_var 1) (da_cons (de_var 3) (da_cons (de_var 4) da_nil)))))
      (dss_cons (ds_par (i := 6) (j := 7) rfl sc_law.nd (da_cons (de_call G_law_next (hr.mono (by decide)) (da_cons (de_var 1) (da_cons (de_ix (de_lst (da_cons de_int (da_cons (de_pow de_int de_int) da_nil))) (de_call G_law_next (hr.mono (by decide)) (da_cons (de_var 1) (da_cons de_int da_nil)))) da_nil))) (da_cons (de_call G_law_next (hr.mono (by decide)) (da_cons (de_var 1) (da_cons (de_ix (de_lst (da_cons de_int (da_cons (de_pow de_int de_int) da_nil))) (de_call G_law_next (hr.mono (by decide)) (da_cons (de_var 1) (da_cons de_int da_nil)))) da_nil))) da_nil)))
      (dss_cons (ds_par (i := 8) (j := 9) rfl sc_law.nd (da_cons (de_lc (own := [("_law_name", 11)]) sc_law.nd (di_seq (de_propI G_Ledger_names (hr.mono (by decide)) (de_var 5))) (blkOk_by (N := ["_law_script", "_law_h", "_law_turn", "_law_calendar_here", "_law_moment", "_law_ledger", "_law_first", "_law_second", "_law_before", "_law_due", "_law_k", "_law_name", "_law_worth", "_law_own", "_law_order", "_law_transfer", "_law_number", "_law_source", "_law_target", "_law_period", "_law_residue", "_law_amount", "_law_times", "_law_sign", "_law_later"]) (sc := defScope s_law) (by decide +kernel)) (fun _ _ _ _ _ => (dg_name (i := 11) sc_law.nd)) (fun _ _ _ _ _ => dts_nil) (fun _ _ _ _ _ => (de_alt (de_propI G_Account_balance (hr.mono (by decide)) (de_methI G_Ledger_account.ok0 (hr.mono (by decide)) (de_var 5) (da_cons (de_var 11) da_nil))) (de_alt (de_propI G_LimitedAccount_balance (hr.mono (by decide)) (de_methI G_Ledger_account.ok0 (hr.mono (by decide)) (de_var 5) (da_cons (de_var 11) da_nil))) (de_propI G_SavingsAccount_balance (hr.mono (by decide)) (de_methI G_Ledger_account.ok0 (hr.mono (by decide)) (de_var 5) (da_cons (de_var 11) da_nil)))))) (by decide)) (da_cons (de_lst da_nil) da_nil)))
      (dss_cons (ds_for (di_range1 B.b_range (da_cons (de_len B.b_len (da_cons (de_var 8) da_nil)) da_nil)) (dg_name (i := 10) sc_law.nd) (dss_cons (ds_asg (de_tup (da_cons (de_ix (de_propI G_Ledger_names (hr.mono (by decide)) (de_var 5)) (de_var 10)) (da_cons (de_ix (de_var 8) (de_var 10)) da_nil))) (dg_tup rfl (dgs_cons (dg_name (i := 11) sc_law.nd) (dgs_cons (dg_name (i := 12) sc_law.nd) dgs_nil))))
      (dss_cons (ds_setLc (i := 13) (own := [("_law_order", 14)]) sc_law.nd (di_seq (de_propI G_Ledger_orders (hr.mono (by decide)) (de_var 5))) (blkOk_by (N := ["_law_script", "_law_h", "_law_turn", "_law_calendar_here", "_law_moment", "_law_ledger", "_law_first", "_law_second", "_law_before", "_law_due", "_law_k", "_law_name", "_law_worth", "_law_own", "_law_order", "_law_transfer", "_law_number", "_law_source", "_law_target", "_law_period", "_law_residue", "_law_amount", "_law_times", "_law_sign", "_law_later"]) (sc := defScope s_law) (by decide +kernel)) (fun _ _ _ _ _ => (dg_name (i := 14) sc_law.nd)) (fun _ _ _ _ _ => (dts_one (DW.dt (dw_and (dt_cmpD (c_eq hr.units) (de_ix (de_var 14) de_int) (de_var 11)) (dw_and1 (dt_cmpD (c_eq hr.units) (de_len B.b_len (da_cons (de_var 14) da_nil)) de_int)))))) (fun _ _ _ _ _ => (de_var 14)) (by decide) (sw_true rfl rfl rfl (by decide +kernel)))
      (dss_cons (ds_for (di_seq (de_var 13)) (dg_name (i := 14) sc_law.nd) (dss_one (ds_set (i := 12) sc_law.nd (de_add (de_var 12) (de_mul (de_ix (de_var 14) de_int) (de_call G_times_dueX.ok0 (hr.mono (by decide)) (da_cons (de_var 3) (da_cons (de_slT (de_var 14) (do_some de_int) do_none) (da_cons (de_add (de_var 4) de_int) (da_cons (de_add (de_var 4) (de_var 6)) da_nil))))))))))
      (dss_cons (ds_for (di_seq (de_lc (own := [("_law_order", 14)]) sc_law.nd (di_seq (de_propI G_Ledger_orders (hr.mono (by decide)) (de_var 5))) (blkOk_by (N := ["_law_script", "_law_h", "_law_turn", "_law_calendar_here", "_law_moment", "_law_ledger", "_law_first", "_law_second", "_law_before", "_law_due", "_law_k", "_law_name", "_law_worth", "_law_own", "_law_order", "_law_transfer", "_law_number", "_law_source", "_law_target", "_law_period", "_law_residue", "_law_amount", "_law_times", "_law_sign", "_law_later"]) (sc := defScope s_law) (by decide +kernel)) (fun _ _ _ _ _ => (dg_name (i := 14) sc_law.nd)) (fun _ _ _ _ _ => (dts_one (dt_cmpD (c_eq hr.units) (de_len B.b_len (da_cons (de_var 14) da_nil)) de_int))) (fun _ _ _ _ _ => (de_var 14)) (by decide))) (dg_name (i := 15) sc_law.nd) (dss_cons (ds_asg (de_var 15) (dg_tup rfl (dgs_cons (dg_name (i := 16) sc_law.nd) (dgs_cons (dg_name (i := 17) sc_law.nd) (dgs_cons (dg_name (i := 18) sc_law.nd) (dgs_cons (dg_name (i := 19) sc_law.nd) (dgs_cons (dg_name (i := 20) sc_law.nd) (dgs_cons (dg_name (i := 21) sc_law.nd) dgs_nil))))))))
      (dss_cons (ds_set (i := 22) sc_law.nd (de_call G_times_dueX.ok0 (hr.mono (by decide)) (da_cons (de_var 3) (da_cons (de_tup (da_cons (de_var 19) (da_cons (de_var 20) (da_cons (de_var 21) da_nil)))) (da_cons (de_add (de_var 4) de_int) (da_cons (de_add (de_var 4) (de_var 6)) da_nil))))))
      (dss_cons (ds_set (i := 23) sc_law.nd (de_sub (de_int1 B.b_int (da_cons (de_cmpD (c_eq hr.units) (de_var 18) (de_var 11)) da_nil)) (de_int1 B.b_int (da_cons (de_cmpD (c_eq hr.units) (de_var 17) (de_var 11)) da_nil))))
      (dss_one (ds_set (i := 12) sc_law.nd (de_add (de_var 12) (de_mul (de_mul (de_var 21) (de_var 22)) (de_var 23)))))))))
      (dss_one (ds_expr (de_append (de_var 9) (de_tup (da_cons (de_var 11) (da_cons (de_var 12) da_nil)))))))))))
      (dss_cons (ds_if (DW.dt (dw_or (dt_not (dt_val (de_call G_law_alike (hr.mono (by decide)) (da_cons (de_methI G_Ledger_pass_days.ok0 (hr.mono (by decide)) (de_var 5) (da_cons (de_var 6) da_nil)) (da_cons (de_var 9) da_nil))))) (dw_or1 (dt_cmpD (c_ne hr.units) (de_propI G_Ledger_today (hr.mono (by decide)) (de_var 5)) (de_add (de_var 4) (de_var 6)))))) (dss_one (ds_ret de_bl)) dss_nil)
      (dss_cons (ds_set (i := 24) sc_law.nd (de_methI G_Ledger_pass_days.ok0 (hr.mono (by decide)) (de_var 5) (da_cons (de_var 7) da_nil)))
      (dss_cons (ds_expr (de_methIn G_Ledger_undo (hr.mono (by decide)) (de_var 5)))
      (dss_cons (ds_expr (de_methIn G_Ledger_undo (hr.mono (by decide)) (de_var 5)))
      (dss_cons (ds_if (DW.dt (dw_or (dt_not (dt_val (de_call G_law_alike (hr.mono (by decide)) (da_cons (de_methI G_Ledger_pass_days.ok0 (hr.mono (by decide)) (de_var 5) (da_cons (de_add (de_var 6) (de_var 7)) da_nil)) (da_cons (de_var 24) da_nil))))) (dw_or1 (dt_cmpD (c_ne hr.units) (de_propI G_Ledger_today (hr.mono (by decide)) (de_var 5)) (de_add (de_add (de_var 4) (de_var 6)) (de_var 7)))))) (dss_one (ds_ret de_bl)) dss_nil)
      (dss_cons (ds_if (dt_not (dt_val (de_call G_law_alike (hr.mono (by decide)) (da_cons (de_methSn G_Ledger_total (hr.mono (by decide)) (de_var 5)) (da_cons (de_sum rfl B.b_sum (da_cons (de_lc (own := [("_law_name", 11), ("_law_worth", 12)]) sc_law.nd (di_seq (de_var 24)) (blkOk_by (N := ["_law_script", "_law_h", "_law_turn", "_law_calendar_here", "_law_moment", "_law_ledger", "_law_first", "_law_second", "_law_before", "_law_due", "_law_k", "_law_name", "_law_worth", "_law_own", "_law_order", "_law_transfer", "_law_number", "_law_source", "_law_target", "_law_period", "_law_residue", "_law_amount", "_law_times", "_law_sign", "_law_later"]) (sc := defScope s_law) (by decide +kernel)) (fun _ _ _ _ _ => (dg_tup rfl (dgs_cons (dg_name (i := 11) sc_law.nd) (dgs_cons (dg_name (i := 12) sc_law.nd) dgs_nil)))) (fun _ _ _ _ _ => dts_nil) (fun _ _ _ _ _ => (de_var 12)) (by decide)) da_nil)) da_nil))))) (dss_one (ds_ret de_bl)) dss_nil)
      (dss_one (ds_if (DW.dt (dw_and (dt_cmpD (c_eq hr.units) (de_lc (own := [("_law_order", 14)]) sc_law.nd (di_seq (de_propI G_Ledger_orders (hr.mono (by decide)) (de_var 5))) (blkOk_by (N := ["_law_script", "_law_h", "_law_turn", "_law_calendar_here", "_law_moment", "_law_ledger", "_law_first", "_law_second", "_law_before", "_law_due", "_law_k", "_law_name", "_law_worth", "_law_own", "_law_order", "_law_transfer", "_law_number", "_law_source", "_law_target", "_law_period", "_law_residue", "_law_amount", "_law_times", "_law_sign", "_law_later"]) (sc := defScope s_law) (by decide +kernel)) (fun _ _ _ _ _ => (dg_name (i := 14) sc_law.nd)) (fun _ _ _ _ _ => (dts_one (dt_cmpD (c_eq hr.units) (de_len B.b_len (da_cons (de_var 14) da_nil)) de_int))) (fun _ _ _ _ _ => (de_var 14)) (by decide)) (de_lst da_nil)) (dw_and1 (dt_cmpD (c_ne hr.units) (de_methSn G_Ledger_total (hr.mono (by decide)) (de_var 5)) (de_sum rfl B.b_sum (da_cons (de_var 8) da_nil)))))) (dss_one (ds_ret de_bl)) dss_nil))))))))))))))
      (dss_one (ds_ret de_bl))))) (fun xs cs Q XP h => pure_law K C xs cs Q XP h)
theorem sc_XInvalidCalendar : FnScope ["self", "index"] ["self", "index"] (defScope s_XInvalidCalendar) := ⟨rfl, rfl, rfl, by decide +kernel, rfl, by decide +kernel, by decide +kernel⟩
theorem fx_InvalidCalendar {f CB : Addr} {fd : FuncData} {mc : Value} (F : Fun K "__init__" "InvalidCalendar.__init__" s_XInvalidCalendar f fd) (hm : mg "OrderError" = some (.ref CB)) (r : ClX.CRead K CB mc) (vV : PySem.W.findCls K (.ref CB) mc "__init__" = some (.val (.builtin "ValueError.__init__"))) : FnOk P w K mg base CX0 1 f fd ["self", "index"] (XKw.sp1 K "index") := by
  refine F.ok sc_XInvalidCalendar (fun vs H Q E ⟨a, C, y0, e, _⟩ => by rw [e]; rfl) fun cdv A outer s H vs Q E hr ⟨a, C, y0, e, T, hf0, ha, hq⟩ => ?_
  rw [e]
  refine ⟨_, pss_cons (ps_expr (XKw.pe_oeinit hm r vV (pa_cons (pe_var (i := 0) rfl (.inl rfl)) (pa_cons pe_str pa_nil)) (by rfl))) (pss_one (ps_ost (pe_var (i := 0) rfl (.inl rfl)) (pe_var (i := 1) rfl (.inl rfl)))), ?_⟩
  exact ⟨.ref a, rfl, a, C, [.str "invalid calendar"], rfl, by decide, T, ha, y0, rfl, .ref a, rfl, a, C, rfl, T, hf0, .inl ⟨ha, fun dx h1 h2 => hq dx h1 h2⟩⟩
theorem sc_XInvalidOrder : FnScope ["self", "index"] ["self", "index"] (defScope s_XInvalidOrder) := ⟨rfl, rfl, rfl, by decide +kernel, rfl, by decide +kernel, by decide +kernel⟩
theorem fx_InvalidOrder {f CB : Addr} {fd : FuncData} {mc : Value} (F : Fun K "__init__" "InvalidOrder.__init__" s_XInvalidOrder f fd) (hm : mg "OrderError" = some (.ref CB)) (r : ClX.CRead K CB mc) (vV : PySem.W.findCls K (.ref CB) mc "__init__" = some (.val (.builtin "ValueError.__init__"))) : FnOk P w K mg base CX0 1 f fd ["self", "index"] (XKw.sp1 K "index") := by
  refine F.ok sc_XInvalidOrder (fun vs H Q E ⟨a, C, y0, e, _⟩ => by rw [e]; rfl) fun cdv A outer s H vs Q E hr ⟨a, C, y0, e, T, hf0, ha, hq⟩ => ?_
  rw [e]
  refine ⟨_, pss_cons (ps_expr (XKw.pe_oeinit hm r vV (pa_cons (pe_var (i := 0) rfl (.inl rfl)) (pa_cons pe_str pa_nil)) (by rfl))) (pss_one (ps_ost (pe_var (i := 0) rfl (.inl rfl)) (pe_var (i := 1) rfl (.inl rfl)))), ?_⟩
  exact ⟨.ref a, rfl, a, C, [.str "invalid order"], rfl, by decide, T, ha, y0, rfl, .ref a, rfl, a, C, rfl, T, hf0, .inl ⟨ha, fun dx h1 h2 => hq dx h1 h2⟩⟩
theorem sc_XInvalidName : FnScope ["self", "name"] ["self", "name"] (defScope s_XInvalidName) := ⟨rfl, rfl, rfl, by decide +kernel, rfl, by decide +kernel, by decide +kernel⟩
theorem fx_InvalidName {f CB : Addr} {fd : FuncData} {mc : Value} (F : Fun K "__init__" "InvalidName.__init__" s_XInvalidName f fd) (hm : mg "OrderError" = some (.ref CB)) (r : ClX.CRead K CB mc) (vV : PySem.W.findCls K (.ref CB) mc "__init__" = some (.val (.builtin "ValueError.__init__"))) : FnOk P w K mg base CX0 1 f fd ["self", "name"] (XKw.sp1 K "name") := by
  refine F.ok sc_XInvalidName (fun vs H Q E ⟨a, C, y0, e, _⟩ => by rw [e]; rfl) fun cdv A outer s H vs Q E hr ⟨a, C, y0, e, T, hf0, ha, hq⟩ => ?_
  rw [e]
  refine ⟨_, pss_cons (ps_expr (XKw.pe_oeinit hm r vV (pa_cons (pe_var (i := 0) rfl (.inl rfl)) (pa_cons pe_str pa_nil)) (by rfl))) (pss_one (ps_ost (pe_var (i := 0) rfl (.inl rfl)) (pe_var (i := 1) rfl (.inl rfl)))), ?_⟩
  exact ⟨.ref a, rfl, a, C, [.str "invalid name"], rfl, by decide, T, ha, y0, rfl, .ref a, rfl, a, C, rfl, T, hf0, .inl ⟨ha, fun dx h1 h2 => hq dx h1 h2⟩⟩
theorem sc_XOverdrawn : FnScope ["self", "name", "day"] ["self", "name", "day"] (defScope s_XOverdrawn) := ⟨rfl, rfl, rfl, by decide +kernel, rfl, by decide +kernel, by decide +kernel⟩
theorem fx_Overdrawn {f CB : Addr} {fd : FuncData} {mc : Value} (F : Fun K "__init__" "Overdrawn.__init__" s_XOverdrawn f fd) (hm : mg "OrderError" = some (.ref CB)) (r : ClX.CRead K CB mc) (vV : PySem.W.findCls K (.ref CB) mc "__init__" = some (.val (.builtin "ValueError.__init__"))) : FnOk P w K mg base CX0 1 f fd ["self", "name", "day"] (XKw.sp2 K "name" "day") := by
  refine F.ok sc_XOverdrawn (fun vs H Q E ⟨a, C, y0, y1, e, _⟩ => by rw [e]; rfl) fun cdv A outer s H vs Q E hr ⟨a, C, y0, y1, e, T, hf0, hf1, ha, hq⟩ => ?_
  rw [e]
  refine ⟨_, pss_cons (ps_expr (XKw.pe_oeinit hm r vV (pa_cons (pe_var (i := 0) rfl (.inl rfl)) (pa_cons pe_str pa_nil)) (by rfl))) (pss_cons (ps_ost (pe_var (i := 0) rfl (.inl rfl)) (pe_var (i := 1) rfl (.inl rfl))) (pss_one (ps_ost (pe_var (i := 0) rfl (.inl rfl)) (pe_var (i := 2) rfl (.inl rfl))))), ?_⟩
  exact ⟨.ref a, rfl, a, C, [.str "overdrawn"], rfl, by decide, T, ha, y0, rfl, .ref a, rfl, a, C, rfl, T, hf0, .inl ⟨ha, fun dx h1 h2 => ⟨y1, rfl, .ref a, rfl, a, C, rfl, T, hf1, .inr ⟨dx, [("name", y0)], upd_same, (by rw [upd_ne h2]; exact upd_same), by simp, hq dx h1 h2⟩⟩⟩⟩
theorem sc_XUnknownAccount : FnScope ["self", "name"] ["self", "name"] (defScope s_XUnknownAccount) := ⟨rfl, rfl, rfl, by decide +kernel, rfl, by decide +kernel, by decide +kernel⟩
theorem fx_UnknownAccount {f CB : Addr} {fd : FuncData} {mc : Value} (F : Fun K "__init__" "UnknownAccount.__init__" s_XUnknownAccount f fd) (hm : mg "OrderError" = some (.ref CB)) (r : ClX.CRead K CB mc) (vV : PySem.W.findCls K (.ref CB) mc "__init__" = some (.val (.builtin "ValueError.__init__"))) : FnOk P w K mg base CX0 1 f fd ["self", "name"] (XKw.sp1 K "name") := by
  refine F.ok sc_XUnknownAccount (fun vs H Q E ⟨a, C, y0, e, _⟩ => by rw [e]; rfl) fun cdv A outer s H vs Q E hr ⟨a, C, y0, e, T, hf0, ha, hq⟩ => ?_
  rw [e]
  refine ⟨_, pss_cons (ps_expr (XKw.pe_oeinit hm r vV (pa_cons (pe_var (i := 0) rfl (.inl rfl)) (pa_cons pe_str pa_nil)) (by rfl))) (pss_one (ps_ost (pe_var (i := 0) rfl (.inl rfl)) (pe_var (i := 1) rfl (.inl rfl)))), ?_⟩
  exact ⟨.ref a, rfl, a, C, [.str "unknown account"], rfl, by decide, T, ha, y0, rfl, .ref a, rfl, a, C, rfl, T, hf0, .inl ⟨ha, fun dx h1 h2 => hq dx h1 h2⟩⟩
theorem sc_XDuplicateName : FnScope ["self", "name"] ["self", "name"] (defScope s_XDuplicateName) := ⟨rfl, rfl, rfl, by decide +kernel, rfl, by decide +kernel, by decide +kernel⟩
theorem fx_DuplicateName {f CB : Addr} {fd : FuncData} {mc : Value} (F : Fun K "__init__" "DuplicateName.__init__" s_XDuplicateName f fd) (hm : mg "OrderError" = some (.ref CB)) (r : ClX.CRead K CB mc) (vV : PySem.W.findCls K (.ref CB) mc "__init__" = some (.val (.builtin "ValueError.__init__"))) : FnOk P w K mg base CX0 1 f fd ["self", "name"] (XKw.sp1 K "name") := by
  refine F.ok sc_XDuplicateName (fun vs H Q E ⟨a, C, y0, e, _⟩ => by rw [e]; rfl) fun cdv A outer s H vs Q E hr ⟨a, C, y0, e, T, hf0, ha, hq⟩ => ?_
  rw [e]
  refine ⟨_, pss_cons (ps_expr (XKw.pe_oeinit hm r vV (pa_cons (pe_var (i := 0) rfl (.inl rfl)) (pa_cons pe_str pa_nil)) (by rfl))) (pss_one (ps_ost (pe_var (i := 0) rfl (.inl rfl)) (pe_var (i := 1) rfl (.inl rfl)))), ?_⟩
  exact ⟨.ref a, rfl, a, C, [.str "duplicate name"], rfl, by decide, T, ha, y0, rfl, .ref a, rfl, a, C, rfl, T, hf0, .inl ⟨ha, fun dx h1 h2 => hq dx h1 h2⟩⟩
end
theorem all_mk {l : PySem.W.OpenLaw} {w : World} {K : PySem.W.Frag} {h : Heap} {mg : Str → Option Value} {fa : Addr} (X : K.In h) (G : h.Ns mainGlobals mg) (hfa : mg "law" = some (.ref fa))
    {CAccount : Addr}
    {CLimitedAccount : Addr}
    {CSavingsAccount : Addr}
    {CBooks : Addr}
    {CLedger : Addr}
    {CInvalidCalendar : Addr}
    {CInvalidOrder : Addr}
    {CInvalidName : Addr}
    {COverdrawn : Addr}
    {CUnknownAccount : Addr}
    {CDuplicateName : Addr}
    {CInvalidAmount : Addr}
    {CInvalidCount : Addr}
    {CSameAccount : Addr}
    {CTooManyAccounts : Addr}
    {CTooManyOrders : Addr}
    {CUnknownKind : Addr}
    {COrderError : Addr}
    {tcvAccount_KIND : Tok}
    {tcvLimitedAccount_KIND : Tok}
    {tcvSavingsAccount_KIND : Tok}
    {f0 : Addr} {od0 an0 : Option Addr} {sl0 : Array (Option Value)} {oc0 dc0 pm0 ct0 cd0 kV0 : Value}
    {f1 : Addr} {od1 an1 : Option Addr} {sl1 : Array (Option Value)} {oc1 dc1 pm1 ct1 cd1 kV1 : Value}
    {f2 : Addr} {od2 an2 : Option Addr} {sl2 : Array (Option Value)} {oc2 dc2 pm2 ct2 cd2 kV2 : Value}
    {f3 : Addr} {od3 an3 : Option Addr} {sl3 : Array (Option Value)} {oc3 dc3 pm3 ct3 cd3 kV3 : Value}
    {f4 : Addr} {od4 an4 : Option Addr} {sl4 : Array (Option Value)} {oc4 dc4 pm4 ct4 cd4 kV4 : Value}
    {f5 : Addr} {od5 an5 : Option Addr} {sl5 : Array (Option Value)} {oc5 dc5 pm5 ct5 cd5 kV5 : Value}
    {f6 : Addr} {od6 an6 : Option Addr} {sl6 : Array (Option Value)} {oc6 dc6 pm6 ct6 cd6 kV6 : Value}
    {f7 : Addr} {od7 an7 : Option Addr} {sl7 : Array (Option Value)} {oc7 dc7 pm7 ct7 cd7 kV7 : Value}
    {f8 : Addr} {od8 an8 : Option Addr} {sl8 : Array (Option Value)} {oc8 dc8 pm8 ct8 cd8 kV8 : Value}
    {f9 : Addr} {od9 an9 : Option Addr} {sl9 : Array (Option Value)} {oc9 dc9 pm9 ct9 cd9 kV9 : Value}
    {p9 : Addr} {rs9 : List Value}
    {f10 : Addr} {od10 an10 : Option Addr} {sl10 : Array (Option Value)} {oc10 dc10 pm10 ct10 cd10 kV10 : Value}
    {f11 : Addr} {od11 an11 : Option Addr} {sl11 : Array (Option Value)} {oc11 dc11 pm11 ct11 cd11 kV11 : Value}
    {f12 : Addr} {od12 an12 : Option Addr} {sl12 : Array (Option Value)} {oc12 dc12 pm12 ct12 cd12 : Value}
    {p12 : Addr} {rs12 : List Value}
    {kd12 : Addr} {tk12_limit tk12_balance tk12_cycle : Tok}
    {f13 : Addr} {od13 an13 : Option Addr} {sl13 : Array (Option Value)} {oc13 dc13 pm13 ct13 cd13 kV13 : Value}
    {p13 : Addr} {rs13 : List Value}
    {f14 : Addr} {od14 an14 : Option Addr} {sl14 : Array (Option Value)} {oc14 dc14 pm14 ct14 cd14 kV14 : Value}
    {p14 : Addr} {rs14 : List Value}
    {f15 : Addr} {od15 an15 : Option Addr} {sl15 : Array (Option Value)} {oc15 dc15 pm15 ct15 cd15 kV15 : Value}
    {p15 : Addr} {rs15 : List Value}
    {f16 : Addr} {od16 an16 : Option Addr} {sl16 : Array (Option Value)} {oc16 dc16 pm16 ct16 cd16 kV16 : Value}
    {f17 : Addr} {od17 an17 : Option Addr} {sl17 : Array (Option Value)} {oc17 dc17 pm17 ct17 cd17 kV17 : Value}
    {f18 : Addr} {od18 an18 : Option Addr} {sl18 : Array (Option Value)} {oc18 dc18 pm18 ct18 cd18 kV18 : Value}
    {f19 : Addr} {od19 an19 : Option Addr} {sl19 : Array (Option Value)} {oc19 dc19 pm19 ct19 cd19 kV19 : Value}
    {f20 : Addr} {od20 an20 : Option Addr} {sl20 : Array (Option Value)} {oc20 dc20 pm20 ct20 cd20 kV20 : Value}
    {f21 : Addr} {od21 an21 : Option Addr} {sl21 : Array (Option Value)} {oc21 dc21 pm21 ct21 cd21 : Value}
    {kd21 : Addr} {tk21_day : Tok}
    {f22 : Addr} {od22 an22 : Option Addr} {sl22 : Array (Option Value)} {oc22 dc22 pm22 ct22 cd22 kV22 : Value}
    {p22 : Addr} {rs22 : List Value}
    {f23 : Addr} {od23 an23 : Option Addr} {sl23 : Array (Option Value)} {oc23 dc23 pm23 ct23 cd23 kV23 : Value}
    {p23 : Addr} {rs23 : List Value}
    {f24 : Addr} {od24 an24 : Option Addr} {sl24 : Array (Option Value)} {oc24 dc24 pm24 ct24 cd24 kV24 : Value}
    {p24 : Addr} {rs24 : List Value}
    {f25 : Addr} {od25 an25 : Option Addr} {sl25 : Array (Option Value)} {oc25 dc25 pm25 ct25 cd25 kV25 : Value}
    {f26 : Addr} {od26 an26 : Option Addr} {sl26 : Array (Option Value)} {oc26 dc26 pm26 ct26 cd26 kV26 : Value}
    {f27 : Addr} {od27 an27 : Option Addr} {sl27 : Array (Option Value)} {oc27 dc27 pm27 ct27 cd27 kV27 : Value}
    {f28 : Addr} {od28 an28 : Option Addr} {sl28 : Array (Option Value)} {oc28 dc28 pm28 ct28 cd28 kV28 : Value}
    {f29 : Addr} {od29 an29 : Option Addr} {sl29 : Array (Option Value)} {oc29 dc29 pm29 ct29 cd29 kV29 : Value}
    {f30 : Addr} {od30 an30 : Option Addr} {sl30 : Array (Option Value)} {oc30 dc30 pm30 ct30 cd30 kV30 : Value}
    {f31 : Addr} {od31 an31 : Option Addr} {sl31 : Array (Option Value)} {oc31 dc31 pm31 ct31 cd31 kV31 : Value}
    {f32 : Addr} {od32 an32 : Option Addr} {sl32 : Array (Option Value)} {oc32 dc32 pm32 ct32 cd32 kV32 : Value}
    {f33 : Addr} {od33 an33 : Option Addr} {sl33 : Array (Option Value)} {oc33 dc33 pm33 ct33 cd33 kV33 : Value}
    {f34 : Addr} {od34 an34 : Option Addr} {sl34 : Array (Option Value)} {oc34 dc34 pm34 ct34 cd34 kV34 : Value}
    {f35 : Addr} {od35 an35 : Option Addr} {sl35 : Array (Option Value)} {oc35 dc35 pm35 ct35 cd35 kV35 : Value}
    {f36 : Addr} {od36 an36 : Option Addr} {sl36 : Array (Option Value)} {oc36 dc36 pm36 ct36 cd36 kV36 : Value}
    {f37 : Addr} {od37 an37 : Option Addr} {sl37 : Array (Option Value)} {oc37 dc37 pm37 ct37 cd37 kV37 : Value}
    {f38 : Addr} {od38 an38 : Option Addr} {sl38 : Array (Option Value)} {oc38 dc38 pm38 ct38 cd38 kV38 : Value}
    {f39 : Addr} {od39 an39 : Option Addr} {sl39 : Array (Option Value)} {oc39 dc39 pm39 ct39 cd39 kV39 : Value}
    {f40 : Addr} {od40 an40 : Option Addr} {sl40 : Array (Option Value)} {oc40 dc40 pm40 ct40 cd40 kV40 : Value}
    {f41 : Addr} {od41 an41 : Option Addr} {sl41 : Array (Option Value)} {oc41 dc41 pm41 ct41 cd41 kV41 : Value}
    {f42 : Addr} {od42 an42 : Option Addr} {sl42 : Array (Option Value)} {oc42 dc42 pm42 ct42 cd42 kV42 : Value}
    {f43 : Addr} {od43 an43 : Option Addr} {sl43 : Array (Option Value)} {oc43 dc43 pm43 ct43 cd43 kV43 : Value}
    {f44 : Addr} {od44 an44 : Option Addr} {sl44 : Array (Option Value)} {oc44 dc44 pm44 ct44 cd44 kV44 : Value}
    {nmInvalidCalendar qInvalidCalendar : Str} {NInvalidCalendar : Addr} {bsInvalidCalendar bmInvalidCalendar subInvalidCalendar : List Value} {snInvalidCalendar : List Str} {abInvalidCalendar : Bool} {colInvalidCalendar : Option Bool} {ddInvalidCalendar : Option Addr} {kaInvalidCalendar kbInvalidCalendar kdInvalidCalendar keInvalidCalendar kgInvalidCalendar : Option Value}
    {f45 : Addr} {od45 an45 : Option Addr} {sl45 : Array (Option Value)} {oc45 dc45 pm45 ct45 cd45 kV45 : Value}
    {nmInvalidOrder qInvalidOrder : Str} {NInvalidOrder : Addr} {bsInvalidOrder bmInvalidOrder subInvalidOrder : List Value} {snInvalidOrder : List Str} {abInvalidOrder : Bool} {colInvalidOrder : Option Bool} {ddInvalidOrder : Option Addr} {kaInvalidOrder kbInvalidOrder kdInvalidOrder keInvalidOrder kgInvalidOrder : Option Value}
    {f46 : Addr} {od46 an46 : Option Addr} {sl46 : Array (Option Value)} {oc46 dc46 pm46 ct46 cd46 kV46 : Value}
    {nmInvalidName qInvalidName : Str} {NInvalidName : Addr} {bsInvalidName bmInvalidName subInvalidName : List Value} {snInvalidName : List Str} {abInvalidName : Bool} {colInvalidName : Option Bool} {ddInvalidName : Option Addr} {kaInvalidName kbInvalidName kdInvalidName keInvalidName kgInvalidName : Option Value}
    {f47 : Addr} {od47 an47 : Option Addr} {sl47 : Array (Option Value)} {oc47 dc47 pm47 ct47 cd47 kV47 : Value}
    {nmOverdrawn qOverdrawn : Str} {NOverdrawn : Addr} {bsOverdrawn bmOverdrawn subOverdrawn : List Value} {snOverdrawn : List Str} {abOverdrawn : Bool} {colOverdrawn : Option Bool} {ddOverdrawn : Option Addr} {kaOverdrawn kbOverdrawn kdOverdrawn keOverdrawn kgOverdrawn : Option Value}
    {f48 : Addr} {od48 an48 : Option Addr} {sl48 : Array (Option Value)} {oc48 dc48 pm48 ct48 cd48 kV48 : Value}
    {nmUnknownAccount qUnknownAccount : Str} {NUnknownAccount : Addr} {bsUnknownAccount bmUnknownAccount subUnknownAccount : List Value} {snUnknownAccount : List Str} {abUnknownAccount : Bool} {colUnknownAccount : Option Bool} {ddUnknownAccount : Option Addr} {kaUnknownAccount kbUnknownAccount kdUnknownAccount keUnknownAccount kgUnknownAccount : Option Value}
    {f49 : Addr} {od49 an49 : Option Addr} {sl49 : Array (Option Value)} {oc49 dc49 pm49 ct49 cd49 kV49 : Value}
    {nmDuplicateName qDuplicateName : Str} {NDuplicateName : Addr} {bsDuplicateName bmDuplicateName subDuplicateName : List Value} {snDuplicateName : List Str} {abDuplicateName : Bool} {colDuplicateName : Option Bool} {ddDuplicateName : Option Addr} {kaDuplicateName kbDuplicateName kdDuplicateName keDuplicateName kgDuplicateName : Option Value}
    {f50 : Addr} {od50 an50 : Option Addr} {sl50 : Array (Option Value)} {oc50 dc50 pm50 ct50 cd50 kV50 : Value}
    {t_LETTERS : Tok}
    {t_MAX_ACCOUNTS : Tok}
    {t_MAX_AMOUNT : Tok}
    {t_MAX_DAYS : Tok}
    {t_MAX_LETTERS : Tok}
    {t_MAX_ORDERS_ledger : Tok}
    {t_MAX_PERIOD : Tok}
    {t_MAX_PERIODS : Tok}
    (aCAccount : PySem.W.nsIn K mainGlobals "Account" = some (some (.ref CAccount)))
    (aCLimitedAccount : PySem.W.nsIn K mainGlobals "LimitedAccount" = some (some (.ref CLimitedAccount)))
    (aCSavingsAccount : PySem.W.nsIn K mainGlobals "SavingsAccount" = some (some (.ref CSavingsAccount)))
    (aCBooks : PySem.W.nsIn K mainGlobals "Books" = some (some (.ref CBooks)))
    (aCLedger : PySem.W.nsIn K mainGlobals "Ledger" = some (some (.ref CLedger)))
    (aCInvalidCalendar : PySem.W.nsIn K mainGlobals "InvalidCalendar" = some (some (.ref CInvalidCalendar)))
    (aCInvalidOrder : PySem.W.nsIn K mainGlobals "InvalidOrder" = some (some (.ref CInvalidOrder)))
    (aCInvalidName : PySem.W.nsIn K mainGlobals "InvalidName" = some (some (.ref CInvalidName)))
    (aCOverdrawn : PySem.W.nsIn K mainGlobals "Overdrawn" = some (some (.ref COverdrawn)))
    (aCUnknownAccount : PySem.W.nsIn K mainGlobals "UnknownAccount" = some (some (.ref CUnknownAccount)))
    (aCDuplicateName : PySem.W.nsIn K mainGlobals "DuplicateName" = some (some (.ref CDuplicateName)))
    (aCInvalidAmount : PySem.W.nsIn K mainGlobals "InvalidAmount" = some (some (.ref CInvalidAmount)))
    (aCInvalidCount : PySem.W.nsIn K mainGlobals "InvalidCount" = some (some (.ref CInvalidCount)))
    (aCSameAccount : PySem.W.nsIn K mainGlobals "SameAccount" = some (some (.ref CSameAccount)))
    (aCTooManyAccounts : PySem.W.nsIn K mainGlobals "TooManyAccounts" = some (some (.ref CTooManyAccounts)))
    (aCTooManyOrders : PySem.W.nsIn K mainGlobals "TooManyOrders" = some (some (.ref CTooManyOrders)))
    (aCUnknownKind : PySem.W.nsIn K mainGlobals "UnknownKind" = some (some (.ref CUnknownKind)))
    (aCOrderError : PySem.W.nsIn K mainGlobals "OrderError" = some (some (.ref COrderError)))
    (pgAccount : PySem.W.plainGet K CAccount Str.empty = true)
    (hdAccount : PySem.W.hasDictIn K CAccount = true)
    (poAccount : PySem.W.plainOver K CAccount = true)
    (saAccount : PySem.W.findIn K (.ref CAccount) "__setattr__" = some (some (.builtin "object.__setattr__")))
    (mkAccount : PySem.W.makesIn K CAccount = true)
    (kcAccount : PySem.W.keepIn K (.ref CAccount) = true)
    (pgLimitedAccount : PySem.W.plainGet K CLimitedAccount Str.empty = true)
    (hdLimitedAccount : PySem.W.hasDictIn K CLimitedAccount = true)
    (poLimitedAccount : PySem.W.plainOver K CLimitedAccount = true)
    (saLimitedAccount : PySem.W.findIn K (.ref CLimitedAccount) "__setattr__" = some (some (.builtin "object.__setattr__")))
    (mkLimitedAccount : PySem.W.makesIn K CLimitedAccount = true)
    (kcLimitedAccount : PySem.W.keepIn K (.ref CLimitedAccount) = true)
    (pgSavingsAccount : PySem.W.plainGet K CSavingsAccount Str.empty = true)
    (hdSavingsAccount : PySem.W.hasDictIn K CSavingsAccount = true)
    (poSavingsAccount : PySem.W.plainOver K CSavingsAccount = true)
    (saSavingsAccount : PySem.W.findIn K (.ref CSavingsAccount) "__setattr__" = some (some (.builtin "object.__setattr__")))
    (mkSavingsAccount : PySem.W.makesIn K CSavingsAccount = true)
    (kcSavingsAccount : PySem.W.keepIn K (.ref CSavingsAccount) = true)
    (pgBooks : PySem.W.plainGet K CBooks Str.empty = true)
    (hdBooks : PySem.W.hasDictIn K CBooks = true)
    (poBooks : PySem.W.plainOver K CBooks = true)
    (saBooks : PySem.W.findIn K (.ref CBooks) "__setattr__" = some (some (.builtin "object.__setattr__")))
    (mkBooks : PySem.W.makesIn K CBooks = true)
    (kcBooks : PySem.W.keepIn K (.ref CBooks) = true)
    (pgLedger : PySem.W.plainGet K CLedger Str.empty = true)
    (hdLedger : PySem.W.hasDictIn K CLedger = true)
    (poLedger : PySem.W.plainOver K CLedger = true)
    (saLedger : PySem.W.findIn K (.ref CLedger) "__setattr__" = some (some (.builtin "object.__setattr__")))
    (mkLedger : PySem.W.makesIn K CLedger = true)
    (kcLedger : PySem.W.keepIn K (.ref CLedger) = true)
    (naAccount_amount : PySem.W.findIn K (.ref CAccount) "amount" = some none)
    (naAccount_credit : PySem.W.findIn K (.ref CAccount) "credit" = some none)
    (naAccount_cycle : PySem.W.findIn K (.ref CAccount) "cycle" = some none)
    (naAccount_title : PySem.W.findIn K (.ref CAccount) "title" = some none)
    (naBooks_accounts : PySem.W.findIn K (.ref CBooks) "accounts" = some none)
    (naBooks_day_number : PySem.W.findIn K (.ref CBooks) "day_number" = some none)
    (naBooks_dues : PySem.W.findIn K (.ref CBooks) "dues" = some none)
    (naBooks_following : PySem.W.findIn K (.ref CBooks) "following" = some none)
    (naLedger_books : PySem.W.findIn K (.ref CLedger) "books" = some none)
    (naLedger_future : PySem.W.findIn K (.ref CLedger) "future" = some none)
    (naLedger_past : PySem.W.findIn K (.ref CLedger) "past" = some none)
    (naLedger_periods : PySem.W.findIn K (.ref CLedger) "periods" = some none)
    (naLimitedAccount_amount : PySem.W.findIn K (.ref CLimitedAccount) "amount" = some none)
    (naLimitedAccount_credit : PySem.W.findIn K (.ref CLimitedAccount) "credit" = some none)
    (naLimitedAccount_cycle : PySem.W.findIn K (.ref CLimitedAccount) "cycle" = some none)
    (naLimitedAccount_title : PySem.W.findIn K (.ref CLimitedAccount) "title" = some none)
    (naSavingsAccount_amount : PySem.W.findIn K (.ref CSavingsAccount) "amount" = some none)
    (naSavingsAccount_credit : PySem.W.findIn K (.ref CSavingsAccount) "credit" = some none)
    (naSavingsAccount_cycle : PySem.W.findIn K (.ref CSavingsAccount) "cycle" = some none)
    (naSavingsAccount_title : PySem.W.findIn K (.ref CSavingsAccount) "title" = some none)
    (rdAccount : PySem.W.readsIn K CAccount (.type "type") = true)
    (gaAccount : PySem.W.specialIn K (.ref CAccount) "__getattribute__" = some (some (.builtin "type.__getattribute__")))
    (rdLimitedAccount : PySem.W.readsIn K CLimitedAccount (.type "type") = true)
    (gaLimitedAccount : PySem.W.specialIn K (.ref CLimitedAccount) "__getattribute__" = some (some (.builtin "type.__getattribute__")))
    (rdOrderError : PySem.W.readsIn K COrderError (.type "type") = true)
    (gaOrderError : PySem.W.specialIn K (.ref COrderError) "__getattribute__" = some (some (.builtin "type.__getattribute__")))
    (rdSavingsAccount : PySem.W.readsIn K CSavingsAccount (.type "type") = true)
    (gaSavingsAccount : PySem.W.specialIn K (.ref CSavingsAccount) "__getattribute__" = some (some (.builtin "type.__getattribute__")))
    (cvAccount_KIND : PySem.W.findCls K (.ref CAccount) (.type "type") "KIND" = some (.val (.str "open" tcvAccount_KIND)))
    (cvLimitedAccount_KIND : PySem.W.findCls K (.ref CLimitedAccount) (.type "type") "KIND" = some (.val (.str "limited" tcvLimitedAccount_KIND)))
    (cvSavingsAccount_KIND : PySem.W.findCls K (.ref CSavingsAccount) (.type "type") "KIND" = some (.val (.str "savings" tcvSavingsAccount_KIND)))
    (xeInvalidAmount : PySem.W.excIn K CInvalidAmount [.type "ValueError", .type "Exception", .type "BaseException", .type "object"] "ValueError.__new__" = true)
    (xkInvalidAmount : PySem.W.keepIn K (.ref CInvalidAmount) = true)
    (xsInvalidAmount : PySem.W.subIn K (.ref CInvalidAmount) (.type "BaseException") = some true)
    (xtInvalidAmount : PySem.W.typeIn K (.ref CInvalidAmount) = some (.type "type"))
    (xeInvalidCount : PySem.W.excIn K CInvalidCount [.type "ValueError", .type "Exception", .type "BaseException", .type "object"] "ValueError.__new__" = true)
    (xkInvalidCount : PySem.W.keepIn K (.ref CInvalidCount) = true)
    (xsInvalidCount : PySem.W.subIn K (.ref CInvalidCount) (.type "BaseException") = some true)
    (xtInvalidCount : PySem.W.typeIn K (.ref CInvalidCount) = some (.type "type"))
    (xeSameAccount : PySem.W.excIn K CSameAccount [.type "ValueError", .type "Exception", .type "BaseException", .type "object"] "ValueError.__new__" = true)
    (xkSameAccount : PySem.W.keepIn K (.ref CSameAccount) = true)
    (xsSameAccount : PySem.W.subIn K (.ref CSameAccount) (.type "BaseException") = some true)
    (xtSameAccount : PySem.W.typeIn K (.ref CSameAccount) = some (.type "type"))
    (xeTooManyAccounts : PySem.W.excIn K CTooManyAccounts [.type "ValueError", .type "Exception", .type "BaseException", .type "object"] "ValueError.__new__" = true)
    (xkTooManyAccounts : PySem.W.keepIn K (.ref CTooManyAccounts) = true)
    (xsTooManyAccounts : PySem.W.subIn K (.ref CTooManyAccounts) (.type "BaseException") = some true)
    (xtTooManyAccounts : PySem.W.typeIn K (.ref CTooManyAccounts) = some (.type "type"))
    (xeTooManyOrders : PySem.W.excIn K CTooManyOrders [.type "ValueError", .type "Exception", .type "BaseException", .type "object"] "ValueError.__new__" = true)
    (xkTooManyOrders : PySem.W.keepIn K (.ref CTooManyOrders) = true)
    (xsTooManyOrders : PySem.W.subIn K (.ref CTooManyOrders) (.type "BaseException") = some true)
    (xtTooManyOrders : PySem.W.typeIn K (.ref CTooManyOrders) = some (.type "type"))
    (xeUnknownKind : PySem.W.excIn K CUnknownKind [.type "ValueError", .type "Exception", .type "BaseException", .type "object"] "ValueError.__new__" = true)
    (xkUnknownKind : PySem.W.keepIn K (.ref CUnknownKind) = true)
    (xsUnknownKind : PySem.W.subIn K (.ref CUnknownKind) (.type "BaseException") = some true)
    (xtUnknownKind : PySem.W.typeIn K (.ref CUnknownKind) = some (.type "type"))
    (a0 : PySem.W.nsIn K mainGlobals "is_integer" = some (some (.ref f0)))
    (l0 : K.lookup f0 = some ⟨oc0, od0, .func (PySem.W.fnOf "is_integer" "is_integer" (defArgs s_is_integer) (defBody s_is_integer) (defScope s_is_integer) .none kV0 dc0 pm0 an0 cd0 ct0), sl0⟩)
    (c0 : PySem.W.codeIn K cd0 "is_integer" = true)
    (k0 : PySem.W.keepIn K (.ref f0) = true)
    (a1 : PySem.W.nsIn K mainGlobals "validate_calendar" = some (some (.ref f1)))
    (l1 : K.lookup f1 = some ⟨oc1, od1, .func (PySem.W.fnOf "validate_calendar" "validate_calendar" (defArgs s_validate_calendarX) (defBody s_validate_calendarX) (defScope s_validate_calendarX) .none kV1 dc1 pm1 an1 cd1 ct1), sl1⟩)
    (c1 : PySem.W.codeIn K cd1 "validate_calendar" = true)
    (k1 : PySem.W.keepIn K (.ref f1) = true)
    (a2 : PySem.W.nsIn K mainGlobals "is_order" = some (some (.ref f2)))
    (l2 : K.lookup f2 = some ⟨oc2, od2, .func (PySem.W.fnOf "is_order" "is_order" (defArgs s_is_order) (defBody s_is_order) (defScope s_is_order) .none kV2 dc2 pm2 an2 cd2 ct2), sl2⟩)
    (c2 : PySem.W.codeIn K cd2 "is_order" = true)
    (k2 : PySem.W.keepIn K (.ref f2) = true)
    (a3 : PySem.W.nsIn K mainGlobals "first_invalid_order" = some (some (.ref f3)))
    (l3 : K.lookup f3 = some ⟨oc3, od3, .func (PySem.W.fnOf "first_invalid_order" "first_invalid_order" (defArgs s_first_invalid_order) (defBody s_first_invalid_order) (defScope s_first_invalid_order) .none kV3 dc3 pm3 an3 cd3 ct3), sl3⟩)
    (c3 : PySem.W.codeIn K cd3 "first_invalid_order" = true)
    (k3 : PySem.W.keepIn K (.ref f3) = true)
    (a4 : PySem.W.nsIn K mainGlobals "validate_orders" = some (some (.ref f4)))
    (l4 : K.lookup f4 = some ⟨oc4, od4, .func (PySem.W.fnOf "validate_orders" "validate_orders" (defArgs s_validate_ordersX) (defBody s_validate_ordersX) (defScope s_validate_ordersX) .none kV4 dc4 pm4 an4 cd4 ct4), sl4⟩)
    (c4 : PySem.W.codeIn K cd4 "validate_orders" = true)
    (k4 : PySem.W.keepIn K (.ref f4) = true)
    (a5 : PySem.W.nsIn K mainGlobals "days_due" = some (some (.ref f5)))
    (l5 : K.lookup f5 = some ⟨oc5, od5, .func (PySem.W.fnOf "days_due" "days_due" (defArgs s_days_due) (defBody s_days_due) (defScope s_days_due) .none kV5 dc5 pm5 an5 cd5 ct5), sl5⟩)
    (c5 : PySem.W.codeIn K cd5 "days_due" = true)
    (k5 : PySem.W.keepIn K (.ref f5) = true)
    (a6 : PySem.W.nsIn K mainGlobals "times_due" = some (some (.ref f6)))
    (l6 : K.lookup f6 = some ⟨oc6, od6, .func (PySem.W.fnOf "times_due" "times_due" (defArgs s_times_dueX) (defBody s_times_dueX) (defScope s_times_dueX) .none kV6 dc6 pm6 an6 cd6 ct6), sl6⟩)
    (c6 : PySem.W.codeIn K cd6 "times_due" = true)
    (k6 : PySem.W.keepIn K (.ref f6) = true)
    (a7 : PySem.W.nsIn K mainGlobals "is_amount" = some (some (.ref f7)))
    (l7 : K.lookup f7 = some ⟨oc7, od7, .func (PySem.W.fnOf "is_amount" "is_amount" (defArgs s_is_amount) (defBody s_is_amount) (defScope s_is_amount) .none kV7 dc7 pm7 an7 cd7 ct7), sl7⟩)
    (c7 : PySem.W.codeIn K cd7 "is_amount" = true)
    (k7 : PySem.W.keepIn K (.ref f7) = true)
    (a8 : PySem.W.findIn K (.ref CAccount) "__init__" = some (some (.ref f8)))
    (i8 : PySem.W.isFn K (.ref f8) = true)
    (l8 : K.lookup f8 = some ⟨oc8, od8, .func (PySem.W.fnOf "__init__" "Account.__init__" (defArgs s_Account___init__) (defBody s_Account___init__) (defScope s_Account___init__) .none kV8 dc8 pm8 an8 cd8 ct8), sl8⟩)
    (c8 : PySem.W.codeIn K cd8 "Account.__init__" = true)
    (k8 : PySem.W.keepIn K (.ref f8) = true)
    (a9 : PySem.W.findCls K (.ref CAccount) (.type "type") "is_name" = some (.get (.builtin "staticmethod.__get__") (.ref p9) .none (.ref CAccount)))
    (r9 : PySem.W.recIn K p9 "staticmethod" = some (.ref f9 :: rs9))
    (l9 : K.lookup f9 = some ⟨oc9, od9, .func (PySem.W.fnOf "is_name" "Account.is_name" (defArgs s_Account_is_name) (defBody s_Account_is_name) (defScope s_Account_is_name) .none kV9 dc9 pm9 an9 cd9 ct9), sl9⟩)
    (c9 : PySem.W.codeIn K cd9 "Account.is_name" = true)
    (k9 : PySem.W.keepIn K (.ref f9) = true)
    (a10 : PySem.W.findIn K (.ref CAccount) "allows" = some (some (.ref f10)))
    (i10 : PySem.W.isFn K (.ref f10) = true)
    (l10 : K.lookup f10 = some ⟨oc10, od10, .func (PySem.W.fnOf "allows" "Account.allows" (defArgs s_Account_allows) (defBody s_Account_allows) (defScope s_Account_allows) .none kV10 dc10 pm10 an10 cd10 ct10), sl10⟩)
    (c10 : PySem.W.codeIn K cd10 "Account.allows" = true)
    (k10 : PySem.W.keepIn K (.ref f10) = true)
    (a11 : PySem.W.findIn K (.ref CLimitedAccount) "allows" = some (some (.ref f11)))
    (i11 : PySem.W.isFn K (.ref f11) = true)
    (l11 : K.lookup f11 = some ⟨oc11, od11, .func (PySem.W.fnOf "allows" "LimitedAccount.allows" (defArgs s_LimitedAccount_allows) (defBody s_LimitedAccount_allows) (defScope s_LimitedAccount_allows) .none kV11 dc11 pm11 an11 cd11 ct11), sl11⟩)
    (c11 : PySem.W.codeIn K cd11 "LimitedAccount.allows" = true)
    (k11 : PySem.W.keepIn K (.ref f11) = true)
    (a12 : PySem.W.findCls K (.ref CAccount) (.type "type") "made" = some (.get (.builtin "classmethod.__get__") (.ref p12) .none (.ref CAccount)))
    (r12 : PySem.W.recIn K p12 "classmethod" = some (.ref f12 :: rs12))
    (n12 : PySem.W.fnIn K f12 = true)
    (l12 : K.lookup f12 = some ⟨oc12, od12, .func (PySem.W.fnOf "made" "Account.made" (defArgs s_Account_made) (defBody s_Account_made) (defScope s_Account_made) .none (.ref kd12) dc12 pm12 an12 cd12 ct12), sl12⟩)
    (kw12_limit : PySem.W.nsIn K kd12 "limit" = some (some (.int 0 tk12_limit)))
    (kw12_balance : PySem.W.nsIn K kd12 "balance" = some (some (.int 0 tk12_balance)))
    (kw12_cycle : PySem.W.nsIn K kd12 "cycle" = some (some (.int 1 tk12_cycle)))
    (c12 : PySem.W.codeIn K cd12 "Account.made" = true)
    (k12 : PySem.W.keepIn K (.ref f12) = true)
    (a13 : PySem.W.findIn K (.ref CAccount) "balance" = some (some (.ref p13)))
    (g13 : PySem.W.specialIn K (.ref p13) "__get__" = some (some (.builtin "property.__get__")))
    (t13 : PySem.W.takesIn K (.ref p13) = some true)
    (r13 : PySem.W.recIn K p13 "property" = some (.ref f13 :: rs13))
    (l13 : K.lookup f13 = some ⟨oc13, od13, .func (PySem.W.fnOf "balance" "Account.balance" (defArgs s_Account_balance) (defBody s_Account_balance) (defScope s_Account_balance) .none kV13 dc13 pm13 an13 cd13 ct13), sl13⟩)
    (c13 : PySem.W.codeIn K cd13 "Account.balance" = true)
    (k13 : PySem.W.keepIn K (.ref f13) = true)
    (a14 : PySem.W.findIn K (.ref CAccount) "floor" = some (some (.ref p14)))
    (g14 : PySem.W.specialIn K (.ref p14) "__get__" = some (some (.builtin "property.__get__")))
    (t14 : PySem.W.takesIn K (.ref p14) = some true)
    (r14 : PySem.W.recIn K p14 "property" = some (.ref f14 :: rs14))
    (l14 : K.lookup f14 = some ⟨oc14, od14, .func (PySem.W.fnOf "floor" "Account.floor" (defArgs s_Account_floor) (defBody s_Account_floor) (defScope s_Account_floor) .none kV14 dc14 pm14 an14 cd14 ct14), sl14⟩)
    (c14 : PySem.W.codeIn K cd14 "Account.floor" = true)
    (k14 : PySem.W.keepIn K (.ref f14) = true)
    (a15 : PySem.W.findIn K (.ref CLimitedAccount) "floor" = some (some (.ref p15)))
    (g15 : PySem.W.specialIn K (.ref p15) "__get__" = some (some (.builtin "property.__get__")))
    (t15 : PySem.W.takesIn K (.ref p15) = some true)
    (r15 : PySem.W.recIn K p15 "property" = some (.ref f15 :: rs15))
    (l15 : K.lookup f15 = some ⟨oc15, od15, .func (PySem.W.fnOf "floor" "LimitedAccount.floor" (defArgs s_LimitedAccount_floor) (defBody s_LimitedAccount_floor) (defScope s_LimitedAccount_floor) .none kV15 dc15 pm15 an15 cd15 ct15), sl15⟩)
    (c15 : PySem.W.codeIn K cd15 "LimitedAccount.floor" = true)
    (k15 : PySem.W.keepIn K (.ref f15) = true)
    (a16 : PySem.W.findIn K (.ref CBooks) "__init__" = some (some (.ref f16)))
    (i16 : PySem.W.isFn K (.ref f16) = true)
    (l16 : K.lookup f16 = some ⟨oc16, od16, .func (PySem.W.fnOf "__init__" "Books.__init__" (defArgs s_Books___init__) (defBody s_Books___init__) (defScope s_Books___init__) .none kV16 dc16 pm16 an16 cd16 ct16), sl16⟩)
    (c16 : PySem.W.codeIn K cd16 "Books.__init__" = true)
    (k16 : PySem.W.keepIn K (.ref f16) = true)
    (a17 : PySem.W.findIn K (.ref CBooks) "copied" = some (some (.ref f17)))
    (i17 : PySem.W.isFn K (.ref f17) = true)
    (l17 : K.lookup f17 = some ⟨oc17, od17, .func (PySem.W.fnOf "copied" "Books.copied" (defArgs s_Books_copied) (defBody s_Books_copied) (defScope s_Books_copied) .none kV17 dc17 pm17 an17 cd17 ct17), sl17⟩)
    (c17 : PySem.W.codeIn K cd17 "Books.copied" = true)
    (k17 : PySem.W.keepIn K (.ref f17) = true)
    (a18 : PySem.W.findIn K (.ref CBooks) "payments" = some (some (.ref f18)))
    (i18 : PySem.W.isFn K (.ref f18) = true)
    (l18 : K.lookup f18 = some ⟨oc18, od18, .func (PySem.W.fnOf "payments" "Books.payments" (defArgs s_Books_payments) (defBody s_Books_payments) (defScope s_Books_payments) .none kV18 dc18 pm18 an18 cd18 ct18), sl18⟩)
    (c18 : PySem.W.codeIn K cd18 "Books.payments" = true)
    (k18 : PySem.W.keepIn K (.ref f18) = true)
    (a19 : PySem.W.findIn K (.ref CBooks) "add_balance" = some (some (.ref f19)))
    (i19 : PySem.W.isFn K (.ref f19) = true)
    (l19 : K.lookup f19 = some ⟨oc19, od19, .func (PySem.W.fnOf "add_balance" "Books.add_balance" (defArgs s_Books_add_balance) (defBody s_Books_add_balance) (defScope s_Books_add_balance) .none kV19 dc19 pm19 an19 cd19 ct19), sl19⟩)
    (c19 : PySem.W.codeIn K cd19 "Books.add_balance" = true)
    (k19 : PySem.W.keepIn K (.ref f19) = true)
    (a20 : PySem.W.nsIn K mainGlobals "validate_amount" = some (some (.ref f20)))
    (l20 : K.lookup f20 = some ⟨oc20, od20, .func (PySem.W.fnOf "validate_amount" "validate_amount" (defArgs s_validate_amount) (defBody s_validate_amount) (defScope s_validate_amount) .none kV20 dc20 pm20 an20 cd20 ct20), sl20⟩)
    (c20 : PySem.W.codeIn K cd20 "validate_amount" = true)
    (k20 : PySem.W.keepIn K (.ref f20) = true)
    (a21 : PySem.W.findIn K (.ref CLedger) "__init__" = some (some (.ref f21)))
    (i21 : PySem.W.isFn K (.ref f21) = true)
    (l21 : K.lookup f21 = some ⟨oc21, od21, .func (PySem.W.fnOf "__init__" "Ledger.__init__" (defArgs s_Ledger___init__) (defBody s_Ledger___init__) (defScope s_Ledger___init__) .none (.ref kd21) dc21 pm21 an21 cd21 ct21), sl21⟩)
    (kw21_day : PySem.W.nsIn K kd21 "day" = some (some (.int 0 tk21_day)))
    (c21 : PySem.W.codeIn K cd21 "Ledger.__init__" = true)
    (k21 : PySem.W.keepIn K (.ref f21) = true)
    (a22 : PySem.W.findIn K (.ref CLedger) "today" = some (some (.ref p22)))
    (g22 : PySem.W.specialIn K (.ref p22) "__get__" = some (some (.builtin "property.__get__")))
    (t22 : PySem.W.takesIn K (.ref p22) = some true)
    (r22 : PySem.W.recIn K p22 "property" = some (.ref f22 :: rs22))
    (l22 : K.lookup f22 = some ⟨oc22, od22, .func (PySem.W.fnOf "today" "Ledger.today" (defArgs s_Ledger_today) (defBody s_Ledger_today) (defScope s_Ledger_today) .none kV22 dc22 pm22 an22 cd22 ct22), sl22⟩)
    (c22 : PySem.W.codeIn K cd22 "Ledger.today" = true)
    (k22 : PySem.W.keepIn K (.ref f22) = true)
    (a23 : PySem.W.findIn K (.ref CLedger) "names" = some (some (.ref p23)))
    (g23 : PySem.W.specialIn K (.ref p23) "__get__" = some (some (.builtin "property.__get__")))
    (t23 : PySem.W.takesIn K (.ref p23) = some true)
    (r23 : PySem.W.recIn K p23 "property" = some (.ref f23 :: rs23))
    (l23 : K.lookup f23 = some ⟨oc23, od23, .func (PySem.W.fnOf "names" "Ledger.names" (defArgs s_Ledger_names) (defBody s_Ledger_names) (defScope s_Ledger_names) .none kV23 dc23 pm23 an23 cd23 ct23), sl23⟩)
    (c23 : PySem.W.codeIn K cd23 "Ledger.names" = true)
    (k23 : PySem.W.keepIn K (.ref f23) = true)
    (a24 : PySem.W.findIn K (.ref CLedger) "orders" = some (some (.ref p24)))
    (g24 : PySem.W.specialIn K (.ref p24) "__get__" = some (some (.builtin "property.__get__")))
    (t24 : PySem.W.takesIn K (.ref p24) = some true)
    (r24 : PySem.W.recIn K p24 "property" = some (.ref f24 :: rs24))
    (l24 : K.lookup f24 = some ⟨oc24, od24, .func (PySem.W.fnOf "orders" "Ledger.orders" (defArgs s_Ledger_orders) (defBody s_Ledger_orders) (defScope s_Ledger_orders) .none kV24 dc24 pm24 an24 cd24 ct24), sl24⟩)
    (c24 : PySem.W.codeIn K cd24 "Ledger.orders" = true)
    (k24 : PySem.W.keepIn K (.ref f24) = true)
    (a25 : PySem.W.findIn K (.ref CLedger) "account_in" = some (some (.ref f25)))
    (i25 : PySem.W.isFn K (.ref f25) = true)
    (l25 : K.lookup f25 = some ⟨oc25, od25, .func (PySem.W.fnOf "account_in" "Ledger.account_in" (defArgs s_Ledger_account_in) (defBody s_Ledger_account_in) (defScope s_Ledger_account_in) .none kV25 dc25 pm25 an25 cd25 ct25), sl25⟩)
    (c25 : PySem.W.codeIn K cd25 "Ledger.account_in" = true)
    (k25 : PySem.W.keepIn K (.ref f25) = true)
    (a26 : PySem.W.findIn K (.ref CLedger) "account" = some (some (.ref f26)))
    (i26 : PySem.W.isFn K (.ref f26) = true)
    (l26 : K.lookup f26 = some ⟨oc26, od26, .func (PySem.W.fnOf "account" "Ledger.account" (defArgs s_Ledger_account) (defBody s_Ledger_account) (defScope s_Ledger_account) .none kV26 dc26 pm26 an26 cd26 ct26), sl26⟩)
    (c26 : PySem.W.codeIn K cd26 "Ledger.account" = true)
    (k26 : PySem.W.keepIn K (.ref f26) = true)
    (a27 : PySem.W.findIn K (.ref CLedger) "commit" = some (some (.ref f27)))
    (i27 : PySem.W.isFn K (.ref f27) = true)
    (l27 : K.lookup f27 = some ⟨oc27, od27, .func (PySem.W.fnOf "commit" "Ledger.commit" (defArgs s_Ledger_commit) (defBody s_Ledger_commit) (defScope s_Ledger_commit) .none kV27 dc27 pm27 an27 cd27 ct27), sl27⟩)
    (c27 : PySem.W.codeIn K cd27 "Ledger.commit" = true)
    (k27 : PySem.W.keepIn K (.ref f27) = true)
    (a28 : PySem.W.findIn K (.ref CLedger) "open_books" = some (some (.ref f28)))
    (i28 : PySem.W.isFn K (.ref f28) = true)
    (l28 : K.lookup f28 = some ⟨oc28, od28, .func (PySem.W.fnOf "open_books" "Ledger.open_books" (defArgs s_Ledger_open_books) (defBody s_Ledger_open_books) (defScope s_Ledger_open_books) .none kV28 dc28 pm28 an28 cd28 ct28), sl28⟩)
    (c28 : PySem.W.codeIn K cd28 "Ledger.open_books" = true)
    (k28 : PySem.W.keepIn K (.ref f28) = true)
    (a29 : PySem.W.findIn K (.ref CLedger) "open_account" = some (some (.ref f29)))
    (i29 : PySem.W.isFn K (.ref f29) = true)
    (l29 : K.lookup f29 = some ⟨oc29, od29, .func (PySem.W.fnOf "open_account" "Ledger.open_account" (defArgs s_Ledger_open_account) (defBody s_Ledger_open_account) (defScope s_Ledger_open_account) .none kV29 dc29 pm29 an29 cd29 ct29), sl29⟩)
    (c29 : PySem.W.codeIn K cd29 "Ledger.open_account" = true)
    (k29 : PySem.W.keepIn K (.ref f29) = true)
    (a30 : PySem.W.findIn K (.ref CLedger) "add_item" = some (some (.ref f30)))
    (i30 : PySem.W.isFn K (.ref f30) = true)
    (l30 : K.lookup f30 = some ⟨oc30, od30, .func (PySem.W.fnOf "add_item" "Ledger.add_item" (defArgs s_Ledger_add_item) (defBody s_Ledger_add_item) (defScope s_Ledger_add_item) .none kV30 dc30 pm30 an30 cd30 ct30), sl30⟩)
    (c30 : PySem.W.codeIn K cd30 "Ledger.add_item" = true)
    (k30 : PySem.W.keepIn K (.ref f30) = true)
    (a31 : PySem.W.findIn K (.ref CLedger) "validate_parties" = some (some (.ref f31)))
    (i31 : PySem.W.isFn K (.ref f31) = true)
    (l31 : K.lookup f31 = some ⟨oc31, od31, .func (PySem.W.fnOf "validate_parties" "Ledger.validate_parties" (defArgs s_Ledger_validate_parties) (defBody s_Ledger_validate_parties) (defScope s_Ledger_validate_parties) .none kV31 dc31 pm31 an31 cd31 ct31), sl31⟩)
    (c31 : PySem.W.codeIn K cd31 "Ledger.validate_parties" = true)
    (k31 : PySem.W.keepIn K (.ref f31) = true)
    (a32 : PySem.W.findIn K (.ref CLedger) "validate_item" = some (some (.ref f32)))
    (i32 : PySem.W.isFn K (.ref f32) = true)
    (l32 : K.lookup f32 = some ⟨oc32, od32, .func (PySem.W.fnOf "validate_item" "Ledger.validate_item" (defArgs s_Ledger_validate_item) (defBody s_Ledger_validate_item) (defScope s_Ledger_validate_item) .none kV32 dc32 pm32 an32 cd32 ct32), sl32⟩)
    (c32 : PySem.W.codeIn K cd32 "Ledger.validate_item" = true)
    (k32 : PySem.W.keepIn K (.ref f32) = true)
    (a33 : PySem.W.findIn K (.ref CLedger) "add_order" = some (some (.ref f33)))
    (i33 : PySem.W.isFn K (.ref f33) = true)
    (l33 : K.lookup f33 = some ⟨oc33, od33, .func (PySem.W.fnOf "add_order" "Ledger.add_order" (defArgs s_Ledger_add_order) (defBody s_Ledger_add_order) (defScope s_Ledger_add_order) .none kV33 dc33 pm33 an33 cd33 ct33), sl33⟩)
    (c33 : PySem.W.codeIn K cd33 "Ledger.add_order" = true)
    (k33 : PySem.W.keepIn K (.ref f33) = true)
    (a34 : PySem.W.findIn K (.ref CLedger) "add_transfer" = some (some (.ref f34)))
    (i34 : PySem.W.isFn K (.ref f34) = true)
    (l34 : K.lookup f34 = some ⟨oc34, od34, .func (PySem.W.fnOf "add_transfer" "Ledger.add_transfer" (defArgs s_Ledger_add_transfer) (defBody s_Ledger_add_transfer) (defScope s_Ledger_add_transfer) .none kV34 dc34 pm34 an34 cd34 ct34), sl34⟩)
    (c34 : PySem.W.codeIn K cd34 "Ledger.add_transfer" = true)
    (k34 : PySem.W.keepIn K (.ref f34) = true)
    (a35 : PySem.W.findIn K (.ref CLedger) "first_overdraft" = some (some (.ref f35)))
    (i35 : PySem.W.isFn K (.ref f35) = true)
    (l35 : K.lookup f35 = some ⟨oc35, od35, .func (PySem.W.fnOf "first_overdraft" "Ledger.first_overdraft" (defArgs s_Ledger_first_overdraft) (defBody s_Ledger_first_overdraft) (defScope s_Ledger_first_overdraft) .none kV35 dc35 pm35 an35 cd35 ct35), sl35⟩)
    (c35 : PySem.W.codeIn K cd35 "Ledger.first_overdraft" = true)
    (k35 : PySem.W.keepIn K (.ref f35) = true)
    (a36 : PySem.W.findIn K (.ref CLedger) "pass_days" = some (some (.ref f36)))
    (i36 : PySem.W.isFn K (.ref f36) = true)
    (l36 : K.lookup f36 = some ⟨oc36, od36, .func (PySem.W.fnOf "pass_days" "Ledger.pass_days" (defArgs s_Ledger_pass_days) (defBody s_Ledger_pass_days) (defScope s_Ledger_pass_days) .none kV36 dc36 pm36 an36 cd36 ct36), sl36⟩)
    (c36 : PySem.W.codeIn K cd36 "Ledger.pass_days" = true)
    (k36 : PySem.W.keepIn K (.ref f36) = true)
    (a37 : PySem.W.findIn K (.ref CLedger) "undo" = some (some (.ref f37)))
    (i37 : PySem.W.isFn K (.ref f37) = true)
    (l37 : K.lookup f37 = some ⟨oc37, od37, .func (PySem.W.fnOf "undo" "Ledger.undo" (defArgs s_Ledger_undo) (defBody s_Ledger_undo) (defScope s_Ledger_undo) .none kV37 dc37 pm37 an37 cd37 ct37), sl37⟩)
    (c37 : PySem.W.codeIn K cd37 "Ledger.undo" = true)
    (k37 : PySem.W.keepIn K (.ref f37) = true)
    (a38 : PySem.W.findIn K (.ref CLedger) "total" = some (some (.ref f38)))
    (i38 : PySem.W.isFn K (.ref f38) = true)
    (l38 : K.lookup f38 = some ⟨oc38, od38, .func (PySem.W.fnOf "total" "Ledger.total" (defArgs s_Ledger_total) (defBody s_Ledger_total) (defScope s_Ledger_total) .none kV38 dc38 pm38 an38 cd38 ct38), sl38⟩)
    (c38 : PySem.W.codeIn K cd38 "Ledger.total" = true)
    (k38 : PySem.W.keepIn K (.ref f38) = true)
    (a39 : PySem.W.nsIn K mainGlobals "_law_mix" = some (some (.ref f39)))
    (l39 : K.lookup f39 = some ⟨oc39, od39, .func (PySem.W.fnOf "_law_mix" "_law_mix" (defArgs s_law_mix) (defBody s_law_mix) (defScope s_law_mix) .none kV39 dc39 pm39 an39 cd39 ct39), sl39⟩)
    (c39 : PySem.W.codeIn K cd39 "_law_mix" = true)
    (k39 : PySem.W.keepIn K (.ref f39) = true)
    (a40 : PySem.W.nsIn K mainGlobals "_law_next" = some (some (.ref f40)))
    (l40 : K.lookup f40 = some ⟨oc40, od40, .func (PySem.W.fnOf "_law_next" "_law_next" (defArgs s_law_next) (defBody s_law_next) (defScope s_law_next) .none kV40 dc40 pm40 an40 cd40 ct40), sl40⟩)
    (c40 : PySem.W.codeIn K cd40 "_law_next" = true)
    (k40 : PySem.W.keepIn K (.ref f40) = true)
    (a41 : PySem.W.nsIn K mainGlobals "_law_alike" = some (some (.ref f41)))
    (l41 : K.lookup f41 = some ⟨oc41, od41, .func (PySem.W.fnOf "_law_alike" "_law_alike" (defArgs s_law_alike) (defBody s_law_alike) (defScope s_law_alike) .none kV41 dc41 pm41 an41 cd41 ct41), sl41⟩)
    (c41 : PySem.W.codeIn K cd41 "_law_alike" = true)
    (k41 : PySem.W.keepIn K (.ref f41) = true)
    (a42 : PySem.W.nsIn K mainGlobals "_law_calendar" = some (some (.ref f42)))
    (l42 : K.lookup f42 = some ⟨oc42, od42, .func (PySem.W.fnOf "_law_calendar" "_law_calendar" (defArgs s_law_calendarH) (defBody s_law_calendarH) (defScope s_law_calendarH) .none kV42 dc42 pm42 an42 cd42 ct42), sl42⟩)
    (c42 : PySem.W.codeIn K cd42 "_law_calendar" = true)
    (k42 : PySem.W.keepIn K (.ref f42) = true)
    (a43 : PySem.W.nsIn K mainGlobals "_law_filled" = some (some (.ref f43)))
    (l43 : K.lookup f43 = some ⟨oc43, od43, .func (PySem.W.fnOf "_law_filled" "_law_filled" (defArgs s_law_filled) (defBody s_law_filled) (defScope s_law_filled) .none kV43 dc43 pm43 an43 cd43 ct43), sl43⟩)
    (c43 : PySem.W.codeIn K cd43 "_law_filled" = true)
    (k43 : PySem.W.keepIn K (.ref f43) = true)
    (a44 : PySem.W.nsIn K mainGlobals "law" = some (some (.ref f44)))
    (l44 : K.lookup f44 = some ⟨oc44, od44, .func (PySem.W.fnOf "law" "law" (defArgs s_law) (defBody s_law) (defScope s_law) .none kV44 dc44 pm44 an44 cd44 ct44), sl44⟩)
    (c44 : PySem.W.codeIn K cd44 "law" = true)
    (k44 : PySem.W.keepIn K (.ref f44) = true)
    (hLimitedAccount___init__ : PySem.W.findIn K (.ref CLimitedAccount) "__init__" = some (some (.ref f8)))
    (hSavingsAccount___init__ : PySem.W.findIn K (.ref CSavingsAccount) "__init__" = some (some (.ref f8)))
    (hSavingsAccount_allows : PySem.W.findIn K (.ref CSavingsAccount) "allows" = some (some (.ref f11)))
    (hSavingsAccount_floor : PySem.W.findIn K (.ref CSavingsAccount) "floor" = some (some (.ref p15)))
    (hLimitedAccount_balance : PySem.W.findIn K (.ref CLimitedAccount) "balance" = some (some (.ref p13)))
    (hSavingsAccount_balance : PySem.W.findIn K (.ref CSavingsAccount) "balance" = some (some (.ref p13)))
    (xlInvalidCalendar : K.lookup CInvalidCalendar = some (excClassObj nmInvalidCalendar qInvalidCalendar CInvalidCalendar NInvalidCalendar bsInvalidCalendar bmInvalidCalendar true snInvalidCalendar subInvalidCalendar abInvalidCalendar colInvalidCalendar ddInvalidCalendar kaInvalidCalendar kbInvalidCalendar kdInvalidCalendar keInvalidCalendar kgInvalidCalendar "ValueError.__new__"))
    (xmInvalidCalendar : PySem.HandSPX.refsVE bmInvalidCalendar = true)
    (xsaInvalidCalendar : PySem.W.findIn K (.ref CInvalidCalendar) "__setattr__" = some (some (.builtin "object.__setattr__")))
    (xsbInvalidCalendar : PySem.W.subIn K (.ref CInvalidCalendar) (.type "BaseException") = some true)
    (xtyInvalidCalendar : PySem.W.typeIn K (.ref CInvalidCalendar) = some (.type "type"))
    (xkpInvalidCalendar : PySem.W.keepIn K (.ref CInvalidCalendar) = true)
    (xnaInvalidCalendar_index : PySem.W.findIn K (.ref CInvalidCalendar) "index" = some none)
    (a45 : PySem.W.findIn K (.ref CInvalidCalendar) "__init__" = some (some (.ref f45)))
    (y45 : PySem.W.typeIn K (.ref f45) = some (.type "function"))
    (l45 : K.lookup f45 = some ⟨oc45, od45, .func (PySem.W.fnOf "__init__" "InvalidCalendar.__init__" (defArgs s_XInvalidCalendar) (defBody s_XInvalidCalendar) (defScope s_XInvalidCalendar) .none kV45 dc45 pm45 an45 cd45 ct45), sl45⟩)
    (c45 : PySem.W.codeIn K cd45 "InvalidCalendar.__init__" = true)
    (k45 : PySem.W.keepIn K (.ref f45) = true)
    (xlInvalidOrder : K.lookup CInvalidOrder = some (excClassObj nmInvalidOrder qInvalidOrder CInvalidOrder NInvalidOrder bsInvalidOrder bmInvalidOrder true snInvalidOrder subInvalidOrder abInvalidOrder colInvalidOrder ddInvalidOrder kaInvalidOrder kbInvalidOrder kdInvalidOrder keInvalidOrder kgInvalidOrder "ValueError.__new__"))
    (xmInvalidOrder : PySem.HandSPX.refsVE bmInvalidOrder = true)
    (xsaInvalidOrder : PySem.W.findIn K (.ref CInvalidOrder) "__setattr__" = some (some (.builtin "object.__setattr__")))
    (xsbInvalidOrder : PySem.W.subIn K (.ref CInvalidOrder) (.type "BaseException") = some true)
    (xtyInvalidOrder : PySem.W.typeIn K (.ref CInvalidOrder) = some (.type "type"))
    (xkpInvalidOrder : PySem.W.keepIn K (.ref CInvalidOrder) = true)
    (xnaInvalidOrder_index : PySem.W.findIn K (.ref CInvalidOrder) "index" = some none)
    (a46 : PySem.W.findIn K (.ref CInvalidOrder) "__init__" = some (some (.ref f46)))
    (y46 : PySem.W.typeIn K (.ref f46) = some (.type "function"))
    (l46 : K.lookup f46 = some ⟨oc46, od46, .func (PySem.W.fnOf "__init__" "InvalidOrder.__init__" (defArgs s_XInvalidOrder) (defBody s_XInvalidOrder) (defScope s_XInvalidOrder) .none kV46 dc46 pm46 an46 cd46 ct46), sl46⟩)
    (c46 : PySem.W.codeIn K cd46 "InvalidOrder.__init__" = true)
    (k46 : PySem.W.keepIn K (.ref f46) = true)
    (xlInvalidName : K.lookup CInvalidName = some (excClassObj nmInvalidName qInvalidName CInvalidName NInvalidName bsInvalidName bmInvalidName true snInvalidName subInvalidName abInvalidName colInvalidName ddInvalidName kaInvalidName kbInvalidName kdInvalidName keInvalidName kgInvalidName "ValueError.__new__"))
    (xmInvalidName : PySem.HandSPX.refsVE bmInvalidName = true)
    (xsaInvalidName : PySem.W.findIn K (.ref CInvalidName) "__setattr__" = some (some (.builtin "object.__setattr__")))
    (xsbInvalidName : PySem.W.subIn K (.ref CInvalidName) (.type "BaseException") = some true)
    (xtyInvalidName : PySem.W.typeIn K (.ref CInvalidName) = some (.type "type"))
    (xkpInvalidName : PySem.W.keepIn K (.ref CInvalidName) = true)
    (xnaInvalidName_name : PySem.W.findIn K (.ref CInvalidName) "name" = some none)
    (a47 : PySem.W.findIn K (.ref CInvalidName) "__init__" = some (some (.ref f47)))
    (y47 : PySem.W.typeIn K (.ref f47) = some (.type "function"))
    (l47 : K.lookup f47 = some ⟨oc47, od47, .func (PySem.W.fnOf "__init__" "InvalidName.__init__" (defArgs s_XInvalidName) (defBody s_XInvalidName) (defScope s_XInvalidName) .none kV47 dc47 pm47 an47 cd47 ct47), sl47⟩)
    (c47 : PySem.W.codeIn K cd47 "InvalidName.__init__" = true)
    (k47 : PySem.W.keepIn K (.ref f47) = true)
    (xlOverdrawn : K.lookup COverdrawn = some (excClassObj nmOverdrawn qOverdrawn COverdrawn NOverdrawn bsOverdrawn bmOverdrawn true snOverdrawn subOverdrawn abOverdrawn colOverdrawn ddOverdrawn kaOverdrawn kbOverdrawn kdOverdrawn keOverdrawn kgOverdrawn "ValueError.__new__"))
    (xmOverdrawn : PySem.HandSPX.refsVE bmOverdrawn = true)
    (xsaOverdrawn : PySem.W.findIn K (.ref COverdrawn) "__setattr__" = some (some (.builtin "object.__setattr__")))
    (xsbOverdrawn : PySem.W.subIn K (.ref COverdrawn) (.type "BaseException") = some true)
    (xtyOverdrawn : PySem.W.typeIn K (.ref COverdrawn) = some (.type "type"))
    (xkpOverdrawn : PySem.W.keepIn K (.ref COverdrawn) = true)
    (xnaOverdrawn_name : PySem.W.findIn K (.ref COverdrawn) "name" = some none)
    (xnaOverdrawn_day : PySem.W.findIn K (.ref COverdrawn) "day" = some none)
    (a48 : PySem.W.findIn K (.ref COverdrawn) "__init__" = some (some (.ref f48)))
    (y48 : PySem.W.typeIn K (.ref f48) = some (.type "function"))
    (l48 : K.lookup f48 = some ⟨oc48, od48, .func (PySem.W.fnOf "__init__" "Overdrawn.__init__" (defArgs s_XOverdrawn) (defBody s_XOverdrawn) (defScope s_XOverdrawn) .none kV48 dc48 pm48 an48 cd48 ct48), sl48⟩)
    (c48 : PySem.W.codeIn K cd48 "Overdrawn.__init__" = true)
    (k48 : PySem.W.keepIn K (.ref f48) = true)
    (xlUnknownAccount : K.lookup CUnknownAccount = some (excClassObj nmUnknownAccount qUnknownAccount CUnknownAccount NUnknownAccount bsUnknownAccount bmUnknownAccount true snUnknownAccount subUnknownAccount abUnknownAccount colUnknownAccount ddUnknownAccount kaUnknownAccount kbUnknownAccount kdUnknownAccount keUnknownAccount kgUnknownAccount "ValueError.__new__"))
    (xmUnknownAccount : PySem.HandSPX.refsVE bmUnknownAccount = true)
    (xsaUnknownAccount : PySem.W.findIn K (.ref CUnknownAccount) "__setattr__" = some (some (.builtin "object.__setattr__")))
    (xsbUnknownAccount : PySem.W.subIn K (.ref CUnknownAccount) (.type "BaseException") = some true)
    (xtyUnknownAccount : PySem.W.typeIn K (.ref CUnknownAccount) = some (.type "type"))
    (xkpUnknownAccount : PySem.W.keepIn K (.ref CUnknownAccount) = true)
    (xnaUnknownAccount_name : PySem.W.findIn K (.ref CUnknownAccount) "name" = some none)
    (a49 : PySem.W.findIn K (.ref CUnknownAccount) "__init__" = some (some (.ref f49)))
    (y49 : PySem.W.typeIn K (.ref f49) = some (.type "function"))
    (l49 : K.lookup f49 = some ⟨oc49, od49, .func (PySem.W.fnOf "__init__" "UnknownAccount.__init__" (defArgs s_XUnknownAccount) (defBody s_XUnknownAccount) (defScope s_XUnknownAccount) .none kV49 dc49 pm49 an49 cd49 ct49), sl49⟩)
    (c49 : PySem.W.codeIn K cd49 "UnknownAccount.__init__" = true)
    (k49 : PySem.W.keepIn K (.ref f49) = true)
    (xlDuplicateName : K.lookup CDuplicateName = some (excClassObj nmDuplicateName qDuplicateName CDuplicateName NDuplicateName bsDuplicateName bmDuplicateName true snDuplicateName subDuplicateName abDuplicateName colDuplicateName ddDuplicateName kaDuplicateName kbDuplicateName kdDuplicateName keDuplicateName kgDuplicateName "ValueError.__new__"))
    (xmDuplicateName : PySem.HandSPX.refsVE bmDuplicateName = true)
    (xsaDuplicateName : PySem.W.findIn K (.ref CDuplicateName) "__setattr__" = some (some (.builtin "object.__setattr__")))
    (xsbDuplicateName : PySem.W.subIn K (.ref CDuplicateName) (.type "BaseException") = some true)
    (xtyDuplicateName : PySem.W.typeIn K (.ref CDuplicateName) = some (.type "type"))
    (xkpDuplicateName : PySem.W.keepIn K (.ref CDuplicateName) = true)
    (xnaDuplicateName_name : PySem.W.findIn K (.ref CDuplicateName) "name" = some none)
    (a50 : PySem.W.findIn K (.ref CDuplicateName) "__init__" = some (some (.ref f50)))
    (y50 : PySem.W.typeIn K (.ref f50) = some (.type "function"))
    (l50 : K.lookup f50 = some ⟨oc50, od50, .func (PySem.W.fnOf "__init__" "DuplicateName.__init__" (defArgs s_XDuplicateName) (defBody s_XDuplicateName) (defScope s_XDuplicateName) .none kV50 dc50 pm50 an50 cd50 ct50), sl50⟩)
    (c50 : PySem.W.codeIn K cd50 "DuplicateName.__init__" = true)
    (k50 : PySem.W.keepIn K (.ref f50) = true)
    (oei : PySem.W.findCls K (.ref COrderError) (.type "type") "__init__" = some (.val (.builtin "ValueError.__init__")))
    (z_all : PySem.W.nsIn K mainGlobals "all" = some none)
    (z_bool : PySem.W.nsIn K mainGlobals "bool" = some none)
    (z_dict : PySem.W.nsIn K mainGlobals "dict" = some none)
    (z_enumerate : PySem.W.nsIn K mainGlobals "enumerate" = some none)
    (z_int : PySem.W.nsIn K mainGlobals "int" = some none)
    (z_isinstance : PySem.W.nsIn K mainGlobals "isinstance" = some none)
    (z_len : PySem.W.nsIn K mainGlobals "len" = some none)
    (z_list : PySem.W.nsIn K mainGlobals "list" = some none)
    (z_max : PySem.W.nsIn K mainGlobals "max" = some none)
    (z_min : PySem.W.nsIn K mainGlobals "min" = some none)
    (z_range : PySem.W.nsIn K mainGlobals "range" = some none)
    (z_sorted : PySem.W.nsIn K mainGlobals "sorted" = some none)
    (z_str : PySem.W.nsIn K mainGlobals "str" = some none)
    (z_sum : PySem.W.nsIn K mainGlobals "sum" = some none)
    (z_tuple : PySem.W.nsIn K mainGlobals "tuple" = some none)
    (y_LETTERS : PySem.W.nsIn K mainGlobals "LETTERS" = some (some (.str "abcdefghijklmnopqrstuvwxyz" t_LETTERS)))
    (y_MAX_ACCOUNTS : PySem.W.nsIn K mainGlobals "MAX_ACCOUNTS" = some (some (.int 20 t_MAX_ACCOUNTS)))
    (y_MAX_AMOUNT : PySem.W.nsIn K mainGlobals "MAX_AMOUNT" = some (some (.int 1000000000000000000 t_MAX_AMOUNT)))
    (y_MAX_DAYS : PySem.W.nsIn K mainGlobals "MAX_DAYS" = some (some (.int 1000000000000000000 t_MAX_DAYS)))
    (y_MAX_LETTERS : PySem.W.nsIn K mainGlobals "MAX_LETTERS" = some (some (.int 8 t_MAX_LETTERS)))
    (y_MAX_ORDERS_ledger : PySem.W.nsIn K mainGlobals "MAX_ORDERS_ledger" = some (some (.int 60 t_MAX_ORDERS_ledger)))
    (y_MAX_PERIOD : PySem.W.nsIn K mainGlobals "MAX_PERIOD" = some (some (.int 400 t_MAX_PERIOD)))
    (y_MAX_PERIODS : PySem.W.nsIn K mainGlobals "MAX_PERIODS" = some (some (.int 5 t_MAX_PERIODS)))
    (kf0 : exmB K CUnknownKind COverdrawn false = true)
    (kf1 : exmB K CInvalidName COverdrawn false = true)
    (kf2 : exmB K CInvalidAmount COverdrawn false = true)
    (kf3 : exmB K COverdrawn COverdrawn true = true)
    : ∃ fd : FuncData, (∀ (s : Shared) (v : Value), BindsTo s fd ⟨[v], []⟩ [("_law_script", v)]) ∧ ∀ base : Heap, K.In base → base.Ns mainGlobals mg → FnOk l.prog w K mg base CX0 9 fa fd ["_law_script"] (spLaw K) := by
  have e := hfa.symm.trans (PySem.W.mg_of X G a44)
  cases e
  have B : Bi K mg { Account := CAccount, LimitedAccount := CLimitedAccount, SavingsAccount := CSavingsAccount, Books := CBooks, Ledger := CLedger, InvalidCalendar := CInvalidCalendar, InvalidOrder := CInvalidOrder, InvalidName := CInvalidName, Overdrawn := COverdrawn, UnknownAccount := CUnknownAccount, DuplicateName := CDuplicateName, InvalidAmount := CInvalidAmount, InvalidCount := CInvalidCount, SameAccount := CSameAccount, TooManyAccounts := CTooManyAccounts, TooManyOrders := CTooManyOrders, UnknownKind := CUnknownKind, OrderError := COrderError : CE } := ⟨PySem.W.mg_none_of X G z_all, PySem.W.mg_none_of X G z_bool, PySem.W.mg_none_of X G z_dict, PySem.W.mg_none_of X G z_enumerate, PySem.W.mg_none_of X G z_int, PySem.W.mg_none_of X G z_isinstance, PySem.W.mg_none_of X G z_len, PySem.W.mg_none_of X G z_list, PySem.W.mg_none_of X G z_max, PySem.W.mg_none_of X G z_min, PySem.W.mg_none_of X G z_range, PySem.W.mg_none_of X G z_sorted, PySem.W.mg_none_of X G z_str, PySem.W.mg_none_of X G z_sum, PySem.W.mg_none_of X G z_tuple, ⟨_, PySem.W.mg_of X G y_LETTERS⟩, ⟨_, PySem.W.mg_of X G y_MAX_ACCOUNTS⟩, ⟨_, PySem.W.mg_of X G y_MAX_AMOUNT⟩, ⟨_, PySem.W.mg_of X G y_MAX_DAYS⟩, ⟨_, PySem.W.mg_of X G y_MAX_LETTERS⟩, ⟨_, PySem.W.mg_of X G y_MAX_ORDERS_ledger⟩, ⟨_, PySem.W.mg_of X G y_MAX_PERIOD⟩, ⟨_, PySem.W.mg_of X G y_MAX_PERIODS⟩, ⟨pgAccount, hdAccount, poAccount, saAccount⟩, ⟨pgLimitedAccount, hdLimitedAccount, poLimitedAccount, saLimitedAccount⟩, ⟨pgSavingsAccount, hdSavingsAccount, poSavingsAccount, saSavingsAccount⟩, ⟨pgBooks, hdBooks, poBooks, saBooks⟩, ⟨pgLedger, hdLedger, poLedger, saLedger⟩, naAccount_amount, naAccount_credit, naAccount_cycle, naAccount_title, naBooks_accounts, naBooks_day_number, naBooks_dues, naBooks_following, naLedger_books, naLedger_future, naLedger_past, naLedger_periods, naLimitedAccount_amount, naLimitedAccount_credit, naLimitedAccount_cycle, naLimitedAccount_title, naSavingsAccount_amount, naSavingsAccount_credit, naSavingsAccount_cycle, naSavingsAccount_title, ⟨PySem.W.mg_of X G aCAccount, _, _, ⟨rdAccount, gaAccount⟩, ⟨cvAccount_KIND, ⟨_, rfl⟩⟩⟩, ⟨PySem.W.mg_of X G aCLimitedAccount, _, _, ⟨rdLimitedAccount, gaLimitedAccount⟩, ⟨cvLimitedAccount_KIND, ⟨_, rfl⟩⟩⟩, ⟨PySem.W.mg_of X G aCSavingsAccount, _, _, ⟨rdSavingsAccount, gaSavingsAccount⟩, ⟨cvSavingsAccount_KIND, ⟨_, rfl⟩⟩⟩, PySem.W.mg_of X G aCOverdrawn, ⟨PySem.W.mg_of X G aCInvalidAmount, ⟨_, PySem.F.excBase_ValueError, xeInvalidAmount⟩, xkInvalidAmount, xsInvalidAmount, xtInvalidAmount⟩, ⟨PySem.W.mg_of X G aCInvalidCount, ⟨_, PySem.F.excBase_ValueError, xeInvalidCount⟩, xkInvalidCount, xsInvalidCount, xtInvalidCount⟩, ⟨PySem.W.mg_of X G aCSameAccount, ⟨_, PySem.F.excBase_ValueError, xeSameAccount⟩, xkSameAccount, xsSameAccount, xtSameAccount⟩, ⟨PySem.W.mg_of X G aCTooManyAccounts, ⟨_, PySem.F.excBase_ValueError, xeTooManyAccounts⟩, xkTooManyAccounts, xsTooManyAccounts, xtTooManyAccounts⟩, ⟨PySem.W.mg_of X G aCTooManyOrders, ⟨_, PySem.F.excBase_ValueError, xeTooManyOrders⟩, xkTooManyOrders, xsTooManyOrders, xtTooManyOrders⟩, ⟨PySem.W.mg_of X G aCUnknownKind, ⟨_, PySem.F.excBase_ValueError, xeUnknownKind⟩, xkUnknownKind, xsUnknownKind, xtUnknownKind⟩, ⟨kf0, kf1, kf2, kf3⟩⟩
  refine ⟨PySem.W.fnOf "law" "law" (defArgs s_law) (defBody s_law) (defScope s_law) .none kV44 dc44 pm44 an44 cd44 ct44, fun s v => .of_eq rfl, fun base _ _ => ?_⟩
  have GX_InvalidCalendar : Xc1 l.prog w K mg base "InvalidCalendar" CInvalidCalendar "index" := ⟨⟨⟨_, _, _, _, _, _, _, _, _, _, _, _, _, _, _, xlInvalidCalendar, xmInvalidCalendar⟩, xsaInvalidCalendar, xsbInvalidCalendar, xtyInvalidCalendar, xkpInvalidCalendar⟩, PySem.W.mg_of X G aCInvalidCalendar, xnaInvalidCalendar_index, _, _, a45, y45, fx_InvalidCalendar (fun_mk (st := s_XInvalidCalendar) l45 c45 k45) (PySem.W.mg_of X G aCOrderError) ⟨rdOrderError, gaOrderError⟩ oei, ⟨fun s us ws _ l1 l2 => match us, ws, l1, l2 with | [_], [_], _, _ => .of_eq rfl, fun r1 r2 => r1.append r2⟩⟩
  have GX_InvalidOrder : Xc1 l.prog w K mg base "InvalidOrder" CInvalidOrder "index" := ⟨⟨⟨_, _, _, _, _, _, _, _, _, _, _, _, _, _, _, xlInvalidOrder, xmInvalidOrder⟩, xsaInvalidOrder, xsbInvalidOrder, xtyInvalidOrder, xkpInvalidOrder⟩, PySem.W.mg_of X G aCInvalidOrder, xnaInvalidOrder_index, _, _, a46, y46, fx_InvalidOrder (fun_mk (st := s_XInvalidOrder) l46 c46 k46) (PySem.W.mg_of X G aCOrderError) ⟨rdOrderError, gaOrderError⟩ oei, ⟨fun s us ws _ l1 l2 => match us, ws, l1, l2 with | [_], [_], _, _ => .of_eq rfl, fun r1 r2 => r1.append r2⟩⟩
  have GX_InvalidName : Xc1 l.prog w K mg base "InvalidName" CInvalidName "name" := ⟨⟨⟨_, _, _, _, _, _, _, _, _, _, _, _, _, _, _, xlInvalidName, xmInvalidName⟩, xsaInvalidName, xsbInvalidName, xtyInvalidName, xkpInvalidName⟩, PySem.W.mg_of X G aCInvalidName, xnaInvalidName_name, _, _, a47, y47, fx_InvalidName (fun_mk (st := s_XInvalidName) l47 c47 k47) (PySem.W.mg_of X G aCOrderError) ⟨rdOrderError, gaOrderError⟩ oei, ⟨fun s us ws _ l1 l2 => match us, ws, l1, l2 with | [_], [_], _, _ => .of_eq rfl, fun r1 r2 => r1.append r2⟩⟩
  have GX_Overdrawn : Xc2 l.prog w K mg base "Overdrawn" COverdrawn "name" "day" := ⟨⟨⟨_, _, _, _, _, _, _, _, _, _, _, _, _, _, _, xlOverdrawn, xmOverdrawn⟩, xsaOverdrawn, xsbOverdrawn, xtyOverdrawn, xkpOverdrawn⟩, PySem.W.mg_of X G aCOverdrawn, xnaOverdrawn_name, xnaOverdrawn_day, _, _, a48, y48, fx_Overdrawn (fun_mk (st := s_XOverdrawn) l48 c48 k48) (PySem.W.mg_of X G aCOrderError) ⟨rdOrderError, gaOrderError⟩ oei, ⟨fun s us ws _ l1 l2 => match us, ws, l1, l2 with | [_], [_, _], _, _ => .of_eq rfl, fun r1 r2 => r1.append r2⟩⟩
  have GX_UnknownAccount : Xc1 l.prog w K mg base "UnknownAccount" CUnknownAccount "name" := ⟨⟨⟨_, _, _, _, _, _, _, _, _, _, _, _, _, _, _, xlUnknownAccount, xmUnknownAccount⟩, xsaUnknownAccount, xsbUnknownAccount, xtyUnknownAccount, xkpUnknownAccount⟩, PySem.W.mg_of X G aCUnknownAccount, xnaUnknownAccount_name, _, _, a49, y49, fx_UnknownAccount (fun_mk (st := s_XUnknownAccount) l49 c49 k49) (PySem.W.mg_of X G aCOrderError) ⟨rdOrderError, gaOrderError⟩ oei, ⟨fun s us ws _ l1 l2 => match us, ws, l1, l2 with | [_], [_], _, _ => .of_eq rfl, fun r1 r2 => r1.append r2⟩⟩
  have GX_DuplicateName : Xc1 l.prog w K mg base "DuplicateName" CDuplicateName "name" := ⟨⟨⟨_, _, _, _, _, _, _, _, _, _, _, _, _, _, _, xlDuplicateName, xmDuplicateName⟩, xsaDuplicateName, xsbDuplicateName, xtyDuplicateName, xkpDuplicateName⟩, PySem.W.mg_of X G aCDuplicateName, xnaDuplicateName_name, _, _, a50, y50, fx_DuplicateName (fun_mk (st := s_XDuplicateName) l50 c50 k50) (PySem.W.mg_of X G aCOrderError) ⟨rdOrderError, gaOrderError⟩ oei, ⟨fun s us ws _ l1 l2 => match us, ws, l1, l2 with | [_], [_], _, _ => .of_eq rfl, fun r1 r2 => r1.append r2⟩⟩
  have O_is_integer := fo_is_integer (P := l.prog) (w := w) (base := base) (C := { Account := CAccount, LimitedAccount := CLimitedAccount, SavingsAccount := CSavingsAccount, Books := CBooks, Ledger := CLedger, InvalidCalendar := CInvalidCalendar, InvalidOrder := CInvalidOrder, InvalidName := CInvalidName, Overdrawn := COverdrawn, UnknownAccount := CUnknownAccount, DuplicateName := CDuplicateName, InvalidAmount := CInvalidAmount, InvalidCount := CInvalidCount, SameAccount := CSameAccount, TooManyAccounts := CTooManyAccounts, TooManyOrders := CTooManyOrders, UnknownKind := CUnknownKind, OrderError := COrderError : CE }) (fun_mk (st := s_is_integer) l0 c0 k0) B 
  have G_is_integer : DOk l.prog w K mg base CX0 "is_integer" ["value"] 1 sp_is_integer := ⟨_, _, O_is_integer, PySem.W.mg_of X G a0, k0, ((fun_mk (st := s_is_integer) l0 c0 k0 : Fun K _ _ _ _ _).binds (ps := ["value"]) (fun _ _ _ _ _ _ us hl => match us, hl with | [_], _ => rfl))⟩
  have O_validate_calendarX := fo_validate_calendarX (P := l.prog) (w := w) (base := base) (C := { Account := CAccount, LimitedAccount := CLimitedAccount, SavingsAccount := CSavingsAccount, Books := CBooks, Ledger := CLedger, InvalidCalendar := CInvalidCalendar, InvalidOrder := CInvalidOrder, InvalidName := CInvalidName, Overdrawn := COverdrawn, UnknownAccount := CUnknownAccount, DuplicateName := CDuplicateName, InvalidAmount := CInvalidAmount, InvalidCount := CInvalidCount, SameAccount := CSameAccount, TooManyAccounts := CTooManyAccounts, TooManyOrders := CTooManyOrders, UnknownKind := CUnknownKind, OrderError := COrderError : CE }) (fun_mk (st := s_validate_calendarX) l1 c1 k1) B GX_InvalidCalendar G_is_integer
  have G_validate_calendarX : DOkX l.prog w K mg base "validate_calendar" ["calendar"] 3 (sp_validate_calendarX { Account := CAccount, LimitedAccount := CLimitedAccount, SavingsAccount := CSavingsAccount, Books := CBooks, Ledger := CLedger, InvalidCalendar := CInvalidCalendar, InvalidOrder := CInvalidOrder, InvalidName := CInvalidName, Overdrawn := COverdrawn, UnknownAccount := CUnknownAccount, DuplicateName := CDuplicateName, InvalidAmount := CInvalidAmount, InvalidCount := CInvalidCount, SameAccount := CSameAccount, TooManyAccounts := CTooManyAccounts, TooManyOrders := CTooManyOrders, UnknownKind := CUnknownKind, OrderError := COrderError : CE }) := ⟨_, _, O_validate_calendarX, PySem.W.mg_of X G a1, k1, ((fun_mk (st := s_validate_calendarX) l1 c1 k1 : Fun K _ _ _ _ _).binds (ps := ["calendar"]) (fun _ _ _ _ _ _ us hl => match us, hl with | [_], _ => rfl))⟩
  have O_is_order := fo_is_order (P := l.prog) (w := w) (base := base) (C := { Account := CAccount, LimitedAccount := CLimitedAccount, SavingsAccount := CSavingsAccount, Books := CBooks, Ledger := CLedger, InvalidCalendar := CInvalidCalendar, InvalidOrder := CInvalidOrder, InvalidName := CInvalidName, Overdrawn := COverdrawn, UnknownAccount := CUnknownAccount, DuplicateName := CDuplicateName, InvalidAmount := CInvalidAmount, InvalidCount := CInvalidCount, SameAccount := CSameAccount, TooManyAccounts := CTooManyAccounts, TooManyOrders := CTooManyOrders, UnknownKind := CUnknownKind, OrderError := COrderError : CE }) (fun_mk (st := s_is_order) l2 c2 k2) B G_is_integer
  have G_is_order : DOk l.prog w K mg base CX0 "is_order" ["calendar", "order"] 2 sp_is_order := ⟨_, _, O_is_order, PySem.W.mg_of X G a2, k2, ((fun_mk (st := s_is_order) l2 c2 k2 : Fun K _ _ _ _ _).binds (ps := ["calendar", "order"]) (fun _ _ _ _ _ _ us hl => match us, hl with | [_, _], _ => rfl))⟩
  have O_first_invalid_order := fo_first_invalid_order (P := l.prog) (w := w) (base := base) (C := { Account := CAccount, LimitedAccount := CLimitedAccount, SavingsAccount := CSavingsAccount, Books := CBooks, Ledger := CLedger, InvalidCalendar := CInvalidCalendar, InvalidOrder := CInvalidOrder, InvalidName := CInvalidName, Overdrawn := COverdrawn, UnknownAccount := CUnknownAccount, DuplicateName := CDuplicateName, InvalidAmount := CInvalidAmount, InvalidCount := CInvalidCount, SameAccount := CSameAccount, TooManyAccounts := CTooManyAccounts, TooManyOrders := CTooManyOrders, UnknownKind := CUnknownKind, OrderError := COrderError : CE }) (fun_mk (st := s_first_invalid_order) l3 c3 k3) B G_is_order
  have G_first_invalid_order : DOk l.prog w K mg base CX0 "first_invalid_order" ["calendar", "orders"] 3 sp_first_invalid_order := ⟨_, _, O_first_invalid_order, PySem.W.mg_of X G a3, k3, ((fun_mk (st := s_first_invalid_order) l3 c3 k3 : Fun K _ _ _ _ _).binds (ps := ["calendar", "orders"]) (fun _ _ _ _ _ _ us hl => match us, hl with | [_, _], _ => rfl))⟩
  have O_validate_ordersX := fo_validate_ordersX (P := l.prog) (w := w) (base := base) (C := { Account := CAccount, LimitedAccount := CLimitedAccount, SavingsAccount := CSavingsAccount, Books := CBooks, Ledger := CLedger, InvalidCalendar := CInvalidCalendar, InvalidOrder := CInvalidOrder, InvalidName := CInvalidName, Overdrawn := COverdrawn, UnknownAccount := CUnknownAccount, DuplicateName := CDuplicateName, InvalidAmount := CInvalidAmount, InvalidCount := CInvalidCount, SameAccount := CSameAccount, TooManyAccounts := CTooManyAccounts, TooManyOrders := CTooManyOrders, UnknownKind := CUnknownKind, OrderError := COrderError : CE }) (fun_mk (st := s_validate_ordersX) l4 c4 k4) B G_validate_calendarX G_first_invalid_order GX_InvalidOrder
  have G_validate_ordersX : DOkX l.prog w K mg base "validate_orders" ["calendar", "orders"] 4 (sp_validate_ordersX { Account := CAccount, LimitedAccount := CLimitedAccount, SavingsAccount := CSavingsAccount, Books := CBooks, Ledger := CLedger, InvalidCalendar := CInvalidCalendar, InvalidOrder := CInvalidOrder, InvalidName := CInvalidName, Overdrawn := COverdrawn, UnknownAccount := CUnknownAccount, DuplicateName := CDuplicateName, InvalidAmount := CInvalidAmount, InvalidCount := CInvalidCount, SameAccount := CSameAccount, TooManyAccounts := CTooManyAccounts, TooManyOrders := CTooManyOrders, UnknownKind := CUnknownKind, OrderError := COrderError : CE }) := ⟨_, _, O_validate_ordersX, PySem.W.mg_of X G a4, k4, ((fun_mk (st := s_validate_ordersX) l4 c4 k4 : Fun K _ _ _ _ _).binds (ps := ["calendar", "orders"]) (fun _ _ _ _ _ _ us hl => match us, hl with | [_, _], _ => rfl))⟩
  have O_days_due := fo_days_due (P := l.prog) (w := w) (base := base) (C := { Account := CAccount, LimitedAccount := CLimitedAccount, SavingsAccount := CSavingsAccount, Books := CBooks, Ledger := CLedger, InvalidCalendar := CInvalidCalendar, InvalidOrder := CInvalidOrder, InvalidName := CInvalidName, Overdrawn := COverdrawn, UnknownAccount := CUnknownAccount, DuplicateName := CDuplicateName, InvalidAmount := CInvalidAmount, InvalidCount := CInvalidCount, SameAccount := CSameAccount, TooManyAccounts := CTooManyAccounts, TooManyOrders := CTooManyOrders, UnknownKind := CUnknownKind, OrderError := COrderError : CE }) (fun_mk (st := s_days_due) l5 c5 k5) B 
  have G_days_due : DOk l.prog w K mg base CX0 "days_due" ["period", "day", "first", "last"] 1 sp_days_due := ⟨_, _, O_days_due, PySem.W.mg_of X G a5, k5, ((fun_mk (st := s_days_due) l5 c5 k5 : Fun K _ _ _ _ _).binds (ps := ["period", "day", "first", "last"]) (fun _ _ _ _ _ _ us hl => match us, hl with | [_, _, _, _], _ => rfl))⟩
  have O_times_dueX := fo_times_dueX (P := l.prog) (w := w) (base := base) (C := { Account := CAccount, LimitedAccount := CLimitedAccount, SavingsAccount := CSavingsAccount, Books := CBooks, Ledger := CLedger, InvalidCalendar := CInvalidCalendar, InvalidOrder := CInvalidOrder, InvalidName := CInvalidName, Overdrawn := COverdrawn, UnknownAccount := CUnknownAccount, DuplicateName := CDuplicateName, InvalidAmount := CInvalidAmount, InvalidCount := CInvalidCount, SameAccount := CSameAccount, TooManyAccounts := CTooManyAccounts, TooManyOrders := CTooManyOrders, UnknownKind := CUnknownKind, OrderError := COrderError : CE }) (fun_mk (st := s_times_dueX) l6 c6 k6) B G_validate_ordersX G_days_due
  have G_times_dueX : DOkX l.prog w K mg base "times_due" ["calendar", "order", "first", "last"] 5 (sp_times_dueX { Account := CAccount, LimitedAccount := CLimitedAccount, SavingsAccount := CSavingsAccount, Books := CBooks, Ledger := CLedger, InvalidCalendar := CInvalidCalendar, InvalidOrder := CInvalidOrder, InvalidName := CInvalidName, Overdrawn := COverdrawn, UnknownAccount := CUnknownAccount, DuplicateName := CDuplicateName, InvalidAmount := CInvalidAmount, InvalidCount := CInvalidCount, SameAccount := CSameAccount, TooManyAccounts := CTooManyAccounts, TooManyOrders := CTooManyOrders, UnknownKind := CUnknownKind, OrderError := COrderError : CE }) := ⟨_, _, O_times_dueX, PySem.W.mg_of X G a6, k6, ((fun_mk (st := s_times_dueX) l6 c6 k6 : Fun K _ _ _ _ _).binds (ps := ["calendar", "order", "first", "last"]) (fun _ _ _ _ _ _ us hl => match us, hl with | [_, _, _, _], _ => rfl))⟩
  have O_is_amount := fo_is_amount (P := l.prog) (w := w) (base := base) (C := { Account := CAccount, LimitedAccount := CLimitedAccount, SavingsAccount := CSavingsAccount, Books := CBooks, Ledger := CLedger, InvalidCalendar := CInvalidCalendar, InvalidOrder := CInvalidOrder, InvalidName := CInvalidName, Overdrawn := COverdrawn, UnknownAccount := CUnknownAccount, DuplicateName := CDuplicateName, InvalidAmount := CInvalidAmount, InvalidCount := CInvalidCount, SameAccount := CSameAccount, TooManyAccounts := CTooManyAccounts, TooManyOrders := CTooManyOrders, UnknownKind := CUnknownKind, OrderError := COrderError : CE }) (fun_mk (st := s_is_amount) l7 c7 k7) B G_is_integer
  have G_is_amount : DOk l.prog w K mg base CX0 "is_amount" ["amount", "low", "high"] 2 (sp_is_amount { Account := CAccount, LimitedAccount := CLimitedAccount, SavingsAccount := CSavingsAccount, Books := CBooks, Ledger := CLedger, InvalidCalendar := CInvalidCalendar, InvalidOrder := CInvalidOrder, InvalidName := CInvalidName, Overdrawn := COverdrawn, UnknownAccount := CUnknownAccount, DuplicateName := CDuplicateName, InvalidAmount := CInvalidAmount, InvalidCount := CInvalidCount, SameAccount := CSameAccount, TooManyAccounts := CTooManyAccounts, TooManyOrders := CTooManyOrders, UnknownKind := CUnknownKind, OrderError := COrderError : CE }) := ⟨_, _, O_is_amount, PySem.W.mg_of X G a7, k7, ((fun_mk (st := s_is_amount) l7 c7 k7 : Fun K _ _ _ _ _).binds (ps := ["amount", "low", "high"]) (fun _ _ _ _ _ _ us hl => match us, hl with | [_, _, _], _ => rfl))⟩
  have O_Account___init__ := fo_Account___init__ (P := l.prog) (w := w) (base := base) (C := { Account := CAccount, LimitedAccount := CLimitedAccount, SavingsAccount := CSavingsAccount, Books := CBooks, Ledger := CLedger, InvalidCalendar := CInvalidCalendar, InvalidOrder := CInvalidOrder, InvalidName := CInvalidName, Overdrawn := COverdrawn, UnknownAccount := CUnknownAccount, DuplicateName := CDuplicateName, InvalidAmount := CInvalidAmount, InvalidCount := CInvalidCount, SameAccount := CSameAccount, TooManyAccounts := CTooManyAccounts, TooManyOrders := CTooManyOrders, UnknownKind := CUnknownKind, OrderError := COrderError : CE }) (fun_mk (st := s_Account___init__) l8 c8 k8) B 
  have G_LimitedAccount___init__ : DKok l.prog w K mg base CLimitedAccount "LimitedAccount" ["self", "name", "limit", "amount", "cycle"] 1 (sp_Account___init__ { Account := CAccount, LimitedAccount := CLimitedAccount, SavingsAccount := CSavingsAccount, Books := CBooks, Ledger := CLedger, InvalidCalendar := CInvalidCalendar, InvalidOrder := CInvalidOrder, InvalidName := CInvalidName, Overdrawn := COverdrawn, UnknownAccount := CUnknownAccount, DuplicateName := CDuplicateName, InvalidAmount := CInvalidAmount, InvalidCount := CInvalidCount, SameAccount := CSameAccount, TooManyAccounts := CTooManyAccounts, TooManyOrders := CTooManyOrders, UnknownKind := CUnknownKind, OrderError := COrderError : CE }) := ⟨_, _, ⟨mkLimitedAccount, hLimitedAccount___init__, i8, kcLimitedAccount⟩, O_Account___init__, ((fun_mk (st := s_Account___init__) l8 c8 k8 : Fun K _ _ _ _ _).binds (ps := ["self", "name", "limit", "amount", "cycle"]) (fun _ _ _ _ _ _ us hl => match us, hl with | [_, _, _, _, _], _ => rfl)), PySem.W.mg_of X G aCLimitedAccount⟩
  have G_SavingsAccount___init__ : DKok l.prog w K mg base CSavingsAccount "SavingsAccount" ["self", "name", "limit", "amount", "cycle"] 1 (sp_Account___init__ { Account := CAccount, LimitedAccount := CLimitedAccount, SavingsAccount := CSavingsAccount, Books := CBooks, Ledger := CLedger, InvalidCalendar := CInvalidCalendar, InvalidOrder := CInvalidOrder, InvalidName := CInvalidName, Overdrawn := COverdrawn, UnknownAccount := CUnknownAccount, DuplicateName := CDuplicateName, InvalidAmount := CInvalidAmount, InvalidCount := CInvalidCount, SameAccount := CSameAccount, TooManyAccounts := CTooManyAccounts, TooManyOrders := CTooManyOrders, UnknownKind := CUnknownKind, OrderError := COrderError : CE }) := ⟨_, _, ⟨mkSavingsAccount, hSavingsAccount___init__, i8, kcSavingsAccount⟩, O_Account___init__, ((fun_mk (st := s_Account___init__) l8 c8 k8 : Fun K _ _ _ _ _).binds (ps := ["self", "name", "limit", "amount", "cycle"]) (fun _ _ _ _ _ _ us hl => match us, hl with | [_, _, _, _, _], _ => rfl)), PySem.W.mg_of X G aCSavingsAccount⟩
  have G_Account___init__ : DKok l.prog w K mg base CAccount "Account" ["self", "name", "limit", "amount", "cycle"] 1 (sp_Account___init__ { Account := CAccount, LimitedAccount := CLimitedAccount, SavingsAccount := CSavingsAccount, Books := CBooks, Ledger := CLedger, InvalidCalendar := CInvalidCalendar, InvalidOrder := CInvalidOrder, InvalidName := CInvalidName, Overdrawn := COverdrawn, UnknownAccount := CUnknownAccount, DuplicateName := CDuplicateName, InvalidAmount := CInvalidAmount, InvalidCount := CInvalidCount, SameAccount := CSameAccount, TooManyAccounts := CTooManyAccounts, TooManyOrders := CTooManyOrders, UnknownKind := CUnknownKind, OrderError := COrderError : CE }) := ⟨_, _, ⟨mkAccount, a8, i8, kcAccount⟩, O_Account___init__, ((fun_mk (st := s_Account___init__) l8 c8 k8 : Fun K _ _ _ _ _).binds (ps := ["self", "name", "limit", "amount", "cycle"]) (fun _ _ _ _ _ _ us hl => match us, hl with | [_, _, _, _, _], _ => rfl)), PySem.W.mg_of X G aCAccount⟩
  have O_Account_is_name := fo_Account_is_name (P := l.prog) (w := w) (base := base) (C := { Account := CAccount, LimitedAccount := CLimitedAccount, SavingsAccount := CSavingsAccount, Books := CBooks, Ledger := CLedger, InvalidCalendar := CInvalidCalendar, InvalidOrder := CInvalidOrder, InvalidName := CInvalidName, Overdrawn := COverdrawn, UnknownAccount := CUnknownAccount, DuplicateName := CDuplicateName, InvalidAmount := CInvalidAmount, InvalidCount := CInvalidCount, SameAccount := CSameAccount, TooManyAccounts := CTooManyAccounts, TooManyOrders := CTooManyOrders, UnknownKind := CUnknownKind, OrderError := COrderError : CE }) (fun_mk (st := s_Account_is_name) l9 c9 k9) B 
  have G_Account_is_name : DStok l.prog w K mg base "Account" CAccount "is_name" ["name"] 1 (sp_Account_is_name { Account := CAccount, LimitedAccount := CLimitedAccount, SavingsAccount := CSavingsAccount, Books := CBooks, Ledger := CLedger, InvalidCalendar := CInvalidCalendar, InvalidOrder := CInvalidOrder, InvalidName := CInvalidName, Overdrawn := COverdrawn, UnknownAccount := CUnknownAccount, DuplicateName := CDuplicateName, InvalidAmount := CInvalidAmount, InvalidCount := CInvalidCount, SameAccount := CSameAccount, TooManyAccounts := CTooManyAccounts, TooManyOrders := CTooManyOrders, UnknownKind := CUnknownKind, OrderError := COrderError : CE }) := ⟨p9, _, _, _, O_Account_is_name, PySem.W.mg_of X G aCAccount, ⟨rdAccount, gaAccount⟩, a9, ⟨_, r9⟩, k9, ((fun_mk (st := s_Account_is_name) l9 c9 k9 : Fun K _ _ _ _ _).binds (ps := ["name"]) (fun _ _ _ _ _ _ us hl => match us, hl with | [_], _ => rfl))⟩
  have O_Account_allows := fo_Account_allows (P := l.prog) (w := w) (base := base) (C := { Account := CAccount, LimitedAccount := CLimitedAccount, SavingsAccount := CSavingsAccount, Books := CBooks, Ledger := CLedger, InvalidCalendar := CInvalidCalendar, InvalidOrder := CInvalidOrder, InvalidName := CInvalidName, Overdrawn := COverdrawn, UnknownAccount := CUnknownAccount, DuplicateName := CDuplicateName, InvalidAmount := CInvalidAmount, InvalidCount := CInvalidCount, SameAccount := CSameAccount, TooManyAccounts := CTooManyAccounts, TooManyOrders := CTooManyOrders, UnknownKind := CUnknownKind, OrderError := COrderError : CE }) (fun_mk (st := s_Account_allows) l10 c10 k10) B 
  have G_Account_allows : DMok l.prog w K mg base CAccount "allows" ["self", "amount"] 1 (sp_Account_allows { Account := CAccount, LimitedAccount := CLimitedAccount, SavingsAccount := CSavingsAccount, Books := CBooks, Ledger := CLedger, InvalidCalendar := CInvalidCalendar, InvalidOrder := CInvalidOrder, InvalidName := CInvalidName, Overdrawn := COverdrawn, UnknownAccount := CUnknownAccount, DuplicateName := CDuplicateName, InvalidAmount := CInvalidAmount, InvalidCount := CInvalidCount, SameAccount := CSameAccount, TooManyAccounts := CTooManyAccounts, TooManyOrders := CTooManyOrders, UnknownKind := CUnknownKind, OrderError := COrderError : CE }) := ⟨_, _, O_Account_allows, ⟨pgAccount, hdAccount, poAccount, saAccount⟩, ⟨a10, i10, k10⟩, ((fun_mk (st := s_Account_allows) l10 c10 k10 : Fun K _ _ _ _ _).binds (ps := ["self", "amount"]) (fun _ _ _ _ _ _ us hl => match us, hl with | [_, _], _ => rfl))⟩
  have O_LimitedAccount_allows := fo_LimitedAccount_allows (P := l.prog) (w := w) (base := base) (C := { Account := CAccount, LimitedAccount := CLimitedAccount, SavingsAccount := CSavingsAccount, Books := CBooks, Ledger := CLedger, InvalidCalendar := CInvalidCalendar, InvalidOrder := CInvalidOrder, InvalidName := CInvalidName, Overdrawn := COverdrawn, UnknownAccount := CUnknownAccount, DuplicateName := CDuplicateName, InvalidAmount := CInvalidAmount, InvalidCount := CInvalidCount, SameAccount := CSameAccount, TooManyAccounts := CTooManyAccounts, TooManyOrders := CTooManyOrders, UnknownKind := CUnknownKind, OrderError := COrderError : CE }) (fun_mk (st := s_LimitedAccount_allows) l11 c11 k11) B 
  have G_LimitedAccount_allows : DMok l.prog w K mg base CLimitedAccount "allows" ["self", "amount"] 1 (sp_LimitedAccount_allows { Account := CAccount, LimitedAccount := CLimitedAccount, SavingsAccount := CSavingsAccount, Books := CBooks, Ledger := CLedger, InvalidCalendar := CInvalidCalendar, InvalidOrder := CInvalidOrder, InvalidName := CInvalidName, Overdrawn := COverdrawn, UnknownAccount := CUnknownAccount, DuplicateName := CDuplicateName, InvalidAmount := CInvalidAmount, InvalidCount := CInvalidCount, SameAccount := CSameAccount, TooManyAccounts := CTooManyAccounts, TooManyOrders := CTooManyOrders, UnknownKind := CUnknownKind, OrderError := COrderError : CE }) := ⟨_, _, O_LimitedAccount_allows, ⟨pgLimitedAccount, hdLimitedAccount, poLimitedAccount, saLimitedAccount⟩, ⟨a11, i11, k11⟩, ((fun_mk (st := s_LimitedAccount_allows) l11 c11 k11 : Fun K _ _ _ _ _).binds (ps := ["self", "amount"]) (fun _ _ _ _ _ _ us hl => match us, hl with | [_, _], _ => rfl))⟩
  have G_SavingsAccount_allows : DMok l.prog w K mg base CSavingsAccount "allows" ["self", "amount"] 1 (sp_LimitedAccount_allows { Account := CAccount, LimitedAccount := CLimitedAccount, SavingsAccount := CSavingsAccount, Books := CBooks, Ledger := CLedger, InvalidCalendar := CInvalidCalendar, InvalidOrder := CInvalidOrder, InvalidName := CInvalidName, Overdrawn := COverdrawn, UnknownAccount := CUnknownAccount, DuplicateName := CDuplicateName, InvalidAmount := CInvalidAmount, InvalidCount := CInvalidCount, SameAccount := CSameAccount, TooManyAccounts := CTooManyAccounts, TooManyOrders := CTooManyOrders, UnknownKind := CUnknownKind, OrderError := COrderError : CE }) := ⟨_, _, O_LimitedAccount_allows, ⟨pgSavingsAccount, hdSavingsAccount, poSavingsAccount, saSavingsAccount⟩, ⟨hSavingsAccount_allows, i11, k11⟩, ((fun_mk (st := s_LimitedAccount_allows) l11 c11 k11 : Fun K _ _ _ _ _).binds (ps := ["self", "amount"]) (fun _ _ _ _ _ _ us hl => match us, hl with | [_, _], _ => rfl))⟩
  have O_Account_made := fo_Account_made (P := l.prog) (w := w) (base := base) (C := { Account := CAccount, LimitedAccount := CLimitedAccount, SavingsAccount := CSavingsAccount, Books := CBooks, Ledger := CLedger, InvalidCalendar := CInvalidCalendar, InvalidOrder := CInvalidOrder, InvalidName := CInvalidName, Overdrawn := COverdrawn, UnknownAccount := CUnknownAccount, DuplicateName := CDuplicateName, InvalidAmount := CInvalidAmount, InvalidCount := CInvalidCount, SameAccount := CSameAccount, TooManyAccounts := CTooManyAccounts, TooManyOrders := CTooManyOrders, UnknownKind := CUnknownKind, OrderError := COrderError : CE }) (fun_mk (st := s_Account_made) l12 c12 k12) B G_Account_is_name GX_InvalidName G_is_amount G_LimitedAccount___init__ G_SavingsAccount___init__ G_Account___init__ G_Account_allows G_LimitedAccount_allows G_SavingsAccount_allows GX_Overdrawn
  have G_Account_made_2_limit_balance_cycle : DCok (L2.CX l.prog w) l.prog w K mg base "Account" CAccount "made" 2 ["limit", "balance", "cycle"] gd_Account_made_2_limit_balance_cycle 3 (sp_Account_made { Account := CAccount, LimitedAccount := CLimitedAccount, SavingsAccount := CSavingsAccount, Books := CBooks, Ledger := CLedger, InvalidCalendar := CInvalidCalendar, InvalidOrder := CInvalidOrder, InvalidName := CInvalidName, Overdrawn := COverdrawn, UnknownAccount := CUnknownAccount, DuplicateName := CDuplicateName, InvalidAmount := CInvalidAmount, InvalidCount := CInvalidCount, SameAccount := CSameAccount, TooManyAccounts := CTooManyAccounts, TooManyOrders := CTooManyOrders, UnknownKind := CUnknownKind, OrderError := COrderError : CE }) := ⟨p12, _, _, _, _, _, _, O_Account_made, PySem.W.mg_of X G aCAccount, ⟨rdAccount, gaAccount⟩, ⟨a12, ⟨_, r12⟩, n12⟩, ⟨fun s us ws _ l1 l2 => match us, ws, l1, l2 with | [_, _, _], [_, _, _], _, _ => .of_eq rfl, fun r1 r2 => r1.append r2⟩, fun M vs xs zs ys h1 h2 _ _ => Paired.app h1 h2⟩
  have O_Account_balance := fo_Account_balance (P := l.prog) (w := w) (base := base) (C := { Account := CAccount, LimitedAccount := CLimitedAccount, SavingsAccount := CSavingsAccount, Books := CBooks, Ledger := CLedger, InvalidCalendar := CInvalidCalendar, InvalidOrder := CInvalidOrder, InvalidName := CInvalidName, Overdrawn := COverdrawn, UnknownAccount := CUnknownAccount, DuplicateName := CDuplicateName, InvalidAmount := CInvalidAmount, InvalidCount := CInvalidCount, SameAccount := CSameAccount, TooManyAccounts := CTooManyAccounts, TooManyOrders := CTooManyOrders, UnknownKind := CUnknownKind, OrderError := COrderError : CE }) (fun_mk (st := s_Account_balance) l13 c13 k13) B 
  have G_Account_balance : DPok l.prog w K mg base CAccount "balance" 1 (sp_Account_balance { Account := CAccount, LimitedAccount := CLimitedAccount, SavingsAccount := CSavingsAccount, Books := CBooks, Ledger := CLedger, InvalidCalendar := CInvalidCalendar, InvalidOrder := CInvalidOrder, InvalidName := CInvalidName, Overdrawn := COverdrawn, UnknownAccount := CUnknownAccount, DuplicateName := CDuplicateName, InvalidAmount := CInvalidAmount, InvalidCount := CInvalidCount, SameAccount := CSameAccount, TooManyAccounts := CTooManyAccounts, TooManyOrders := CTooManyOrders, UnknownKind := CUnknownKind, OrderError := COrderError : CE }) := ⟨_, _, p13, _, O_Account_balance, ⟨pgAccount, hdAccount, poAccount, saAccount⟩, ⟨a13, g13, t13, _, r13⟩, ((fun_mk (st := s_Account_balance) l13 c13 k13 : Fun K _ _ _ _ _).binds (ps := ["self"]) (fun _ _ _ _ _ _ us hl => match us, hl with | [_], _ => rfl))⟩
  have G_LimitedAccount_balance : DPok l.prog w K mg base CLimitedAccount "balance" 1 (sp_Account_balance { Account := CAccount, LimitedAccount := CLimitedAccount, SavingsAccount := CSavingsAccount, Books := CBooks, Ledger := CLedger, InvalidCalendar := CInvalidCalendar, InvalidOrder := CInvalidOrder, InvalidName := CInvalidName, Overdrawn := COverdrawn, UnknownAccount := CUnknownAccount, DuplicateName := CDuplicateName, InvalidAmount := CInvalidAmount, InvalidCount := CInvalidCount, SameAccount := CSameAccount, TooManyAccounts := CTooManyAccounts, TooManyOrders := CTooManyOrders, UnknownKind := CUnknownKind, OrderError := COrderError : CE }) := ⟨_, _, p13, _, O_Account_balance, ⟨pgLimitedAccount, hdLimitedAccount, poLimitedAccount, saLimitedAccount⟩, ⟨hLimitedAccount_balance, g13, t13, _, r13⟩, ((fun_mk (st := s_Account_balance) l13 c13 k13 : Fun K _ _ _ _ _).binds (ps := ["self"]) (fun _ _ _ _ _ _ us hl => match us, hl with | [_], _ => rfl))⟩
  have G_SavingsAccount_balance : DPok l.prog w K mg base CSavingsAccount "balance" 1 (sp_Account_balance { Account := CAccount, LimitedAccount := CLimitedAccount, SavingsAccount := CSavingsAccount, Books := CBooks, Ledger := CLedger, InvalidCalendar := CInvalidCalendar, InvalidOrder := CInvalidOrder, InvalidName := CInvalidName, Overdrawn := COverdrawn, UnknownAccount := CUnknownAccount, DuplicateName := CDuplicateName, InvalidAmount := CInvalidAmount, InvalidCount := CInvalidCount, SameAccount := CSameAccount, TooManyAccounts := CTooManyAccounts, TooManyOrders := CTooManyOrders, UnknownKind := CUnknownKind, OrderError := COrderError : CE }) := ⟨_, _, p13, _, O_Account_balance, ⟨pgSavingsAccount, hdSavingsAccount, poSavingsAccount, saSavingsAccount⟩, ⟨hSavingsAccount_balance, g13, t13, _, r13⟩, ((fun_mk (st := s_Account_balance) l13 c13 k13 : Fun K _ _ _ _ _).binds (ps := ["self"]) (fun _ _ _ _ _ _ us hl => match us, hl with | [_], _ => rfl))⟩
  have O_Account_floor := fo_Account_floor (P := l.prog) (w := w) (base := base) (C := { Account := CAccount, LimitedAccount := CLimitedAccount, SavingsAccount := CSavingsAccount, Books := CBooks, Ledger := CLedger, InvalidCalendar := CInvalidCalendar, InvalidOrder := CInvalidOrder, InvalidName := CInvalidName, Overdrawn := COverdrawn, UnknownAccount := CUnknownAccount, DuplicateName := CDuplicateName, InvalidAmount := CInvalidAmount, InvalidCount := CInvalidCount, SameAccount := CSameAccount, TooManyAccounts := CTooManyAccounts, TooManyOrders := CTooManyOrders, UnknownKind := CUnknownKind, OrderError := COrderError : CE }) (fun_mk (st := s_Account_floor) l14 c14 k14) B 
  have G_Account_floor : DPok l.prog w K mg base CAccount "floor" 1 (sp_Account_floor { Account := CAccount, LimitedAccount := CLimitedAccount, SavingsAccount := CSavingsAccount, Books := CBooks, Ledger := CLedger, InvalidCalendar := CInvalidCalendar, InvalidOrder := CInvalidOrder, InvalidName := CInvalidName, Overdrawn := COverdrawn, UnknownAccount := CUnknownAccount, DuplicateName := CDuplicateName, InvalidAmount := CInvalidAmount, InvalidCount := CInvalidCount, SameAccount := CSameAccount, TooManyAccounts := CTooManyAccounts, TooManyOrders := CTooManyOrders, UnknownKind := CUnknownKind, OrderError := COrderError : CE }) := ⟨_, _, p14, _, O_Account_floor, ⟨pgAccount, hdAccount, poAccount, saAccount⟩, ⟨a14, g14, t14, _, r14⟩, ((fun_mk (st := s_Account_floor) l14 c14 k14 : Fun K _ _ _ _ _).binds (ps := ["self"]) (fun _ _ _ _ _ _ us hl => match us, hl with | [_], _ => rfl))⟩
  have O_LimitedAccount_floor := fo_LimitedAccount_floor (P := l.prog) (w := w) (base := base) (C := { Account := CAccount, LimitedAccount := CLimitedAccount, SavingsAccount := CSavingsAccount, Books := CBooks, Ledger := CLedger, InvalidCalendar := CInvalidCalendar, InvalidOrder := CInvalidOrder, InvalidName := CInvalidName, Overdrawn := COverdrawn, UnknownAccount := CUnknownAccount, DuplicateName := CDuplicateName, InvalidAmount := CInvalidAmount, InvalidCount := CInvalidCount, SameAccount := CSameAccount, TooManyAccounts := CTooManyAccounts, TooManyOrders := CTooManyOrders, UnknownKind := CUnknownKind, OrderError := COrderError : CE }) (fun_mk (st := s_LimitedAccount_floor) l15 c15 k15) B 
  have G_LimitedAccount_floor : DPok l.prog w K mg base CLimitedAccount "floor" 1 (sp_LimitedAccount_floor { Account := CAccount, LimitedAccount := CLimitedAccount, SavingsAccount := CSavingsAccount, Books := CBooks, Ledger := CLedger, InvalidCalendar := CInvalidCalendar, InvalidOrder := CInvalidOrder, InvalidName := CInvalidName, Overdrawn := COverdrawn, UnknownAccount := CUnknownAccount, DuplicateName := CDuplicateName, InvalidAmount := CInvalidAmount, InvalidCount := CInvalidCount, SameAccount := CSameAccount, TooManyAccounts := CTooManyAccounts, TooManyOrders := CTooManyOrders, UnknownKind := CUnknownKind, OrderError := COrderError : CE }) := ⟨_, _, p15, _, O_LimitedAccount_floor, ⟨pgLimitedAccount, hdLimitedAccount, poLimitedAccount, saLimitedAccount⟩, ⟨a15, g15, t15, _, r15⟩, ((fun_mk (st := s_LimitedAccount_floor) l15 c15 k15 : Fun K _ _ _ _ _).binds (ps := ["self"]) (fun _ _ _ _ _ _ us hl => match us, hl with | [_], _ => rfl))⟩
  have G_SavingsAccount_floor : DPok l.prog w K mg base CSavingsAccount "floor" 1 (sp_LimitedAccount_floor { Account := CAccount, LimitedAccount := CLimitedAccount, SavingsAccount := CSavingsAccount, Books := CBooks, Ledger := CLedger, InvalidCalendar := CInvalidCalendar, InvalidOrder := CInvalidOrder, InvalidName := CInvalidName, Overdrawn := COverdrawn, UnknownAccount := CUnknownAccount, DuplicateName := CDuplicateName, InvalidAmount := CInvalidAmount, InvalidCount := CInvalidCount, SameAccount := CSameAccount, TooManyAccounts := CTooManyAccounts, TooManyOrders := CTooManyOrders, UnknownKind := CUnknownKind, OrderError := COrderError : CE }) := ⟨_, _, p15, _, O_LimitedAccount_floor, ⟨pgSavingsAccount, hdSavingsAccount, poSavingsAccount, saSavingsAccount⟩, ⟨hSavingsAccount_floor, g15, t15, _, r15⟩, ((fun_mk (st := s_LimitedAccount_floor) l15 c15 k15 : Fun K _ _ _ _ _).binds (ps := ["self"]) (fun _ _ _ _ _ _ us hl => match us, hl with | [_], _ => rfl))⟩
  have O_Books___init__ := fo_Books___init__ (P := l.prog) (w := w) (base := base) (C := { Account := CAccount, LimitedAccount := CLimitedAccount, SavingsAccount := CSavingsAccount, Books := CBooks, Ledger := CLedger, InvalidCalendar := CInvalidCalendar, InvalidOrder := CInvalidOrder, InvalidName := CInvalidName, Overdrawn := COverdrawn, UnknownAccount := CUnknownAccount, DuplicateName := CDuplicateName, InvalidAmount := CInvalidAmount, InvalidCount := CInvalidCount, SameAccount := CSameAccount, TooManyAccounts := CTooManyAccounts, TooManyOrders := CTooManyOrders, UnknownKind := CUnknownKind, OrderError := COrderError : CE }) (fun_mk (st := s_Books___init__) l16 c16 k16) B 
  have G_Books___init__ : DKok l.prog w K mg base CBooks "Books" ["self", "day", "accounts", "dues", "following"] 1 (sp_Books___init__ { Account := CAccount, LimitedAccount := CLimitedAccount, SavingsAccount := CSavingsAccount, Books := CBooks, Ledger := CLedger, InvalidCalendar := CInvalidCalendar, InvalidOrder := CInvalidOrder, InvalidName := CInvalidName, Overdrawn := COverdrawn, UnknownAccount := CUnknownAccount, DuplicateName := CDuplicateName, InvalidAmount := CInvalidAmount, InvalidCount := CInvalidCount, SameAccount := CSameAccount, TooManyAccounts := CTooManyAccounts, TooManyOrders := CTooManyOrders, UnknownKind := CUnknownKind, OrderError := COrderError : CE }) := ⟨_, _, ⟨mkBooks, a16, i16, kcBooks⟩, O_Books___init__, ((fun_mk (st := s_Books___init__) l16 c16 k16 : Fun K _ _ _ _ _).binds (ps := ["self", "day", "accounts", "dues", "following"]) (fun _ _ _ _ _ _ us hl => match us, hl with | [_, _, _, _, _], _ => rfl)), PySem.W.mg_of X G aCBooks⟩
  have O_Books_copied := fo_Books_copied (P := l.prog) (w := w) (base := base) (C := { Account := CAccount, LimitedAccount := CLimitedAccount, SavingsAccount := CSavingsAccount, Books := CBooks, Ledger := CLedger, InvalidCalendar := CInvalidCalendar, InvalidOrder := CInvalidOrder, InvalidName := CInvalidName, Overdrawn := COverdrawn, UnknownAccount := CUnknownAccount, DuplicateName := CDuplicateName, InvalidAmount := CInvalidAmount, InvalidCount := CInvalidCount, SameAccount := CSameAccount, TooManyAccounts := CTooManyAccounts, TooManyOrders := CTooManyOrders, UnknownKind := CUnknownKind, OrderError := COrderError : CE }) (fun_mk (st := s_Books_copied) l17 c17 k17) B G_Books___init__
  have G_Books_copied : DMok l.prog w K mg base CBooks "copied" ["self"] 3 (sp_Books_copied { Account := CAccount, LimitedAccount := CLimitedAccount, SavingsAccount := CSavingsAccount, Books := CBooks, Ledger := CLedger, InvalidCalendar := CInvalidCalendar, InvalidOrder := CInvalidOrder, InvalidName := CInvalidName, Overdrawn := COverdrawn, UnknownAccount := CUnknownAccount, DuplicateName := CDuplicateName, InvalidAmount := CInvalidAmount, InvalidCount := CInvalidCount, SameAccount := CSameAccount, TooManyAccounts := CTooManyAccounts, TooManyOrders := CTooManyOrders, UnknownKind := CUnknownKind, OrderError := COrderError : CE }) := ⟨_, _, O_Books_copied, ⟨pgBooks, hdBooks, poBooks, saBooks⟩, ⟨a17, i17, k17⟩, ((fun_mk (st := s_Books_copied) l17 c17 k17 : Fun K _ _ _ _ _).binds (ps := ["self"]) (fun _ _ _ _ _ _ us hl => match us, hl with | [_], _ => rfl))⟩
  have O_Books_payments := fo_Books_payments (P := l.prog) (w := w) (base := base) (C := { Account := CAccount, LimitedAccount := CLimitedAccount, SavingsAccount := CSavingsAccount, Books := CBooks, Ledger := CLedger, InvalidCalendar := CInvalidCalendar, InvalidOrder := CInvalidOrder, InvalidName := CInvalidName, Overdrawn := COverdrawn, UnknownAccount := CUnknownAccount, DuplicateName := CDuplicateName, InvalidAmount := CInvalidAmount, InvalidCount := CInvalidCount, SameAccount := CSameAccount, TooManyAccounts := CTooManyAccounts, TooManyOrders := CTooManyOrders, UnknownKind := CUnknownKind, OrderError := COrderError : CE }) (fun_mk (st := s_Books_payments) l18 c18 k18) B 
  have G_Books_payments : DMok l.prog w K mg base CBooks "payments" ["self", "name"] 1 (sp_Books_payments { Account := CAccount, LimitedAccount := CLimitedAccount, SavingsAccount := CSavingsAccount, Books := CBooks, Ledger := CLedger, InvalidCalendar := CInvalidCalendar, InvalidOrder := CInvalidOrder, InvalidName := CInvalidName, Overdrawn := COverdrawn, UnknownAccount := CUnknownAccount, DuplicateName := CDuplicateName, InvalidAmount := CInvalidAmount, InvalidCount := CInvalidCount, SameAccount := CSameAccount, TooManyAccounts := CTooManyAccounts, TooManyOrders := CTooManyOrders, UnknownKind := CUnknownKind, OrderError := COrderError : CE }) := ⟨_, _, O_Books_payments, ⟨pgBooks, hdBooks, poBooks, saBooks⟩, ⟨a18, i18, k18⟩, ((fun_mk (st := s_Books_payments) l18 c18 k18 : Fun K _ _ _ _ _).binds (ps := ["self", "name"]) (fun _ _ _ _ _ _ us hl => match us, hl with | [_, _], _ => rfl))⟩
  have O_Books_add_balance := fo_Books_add_balance (P := l.prog) (w := w) (base := base) (C := { Account := CAccount, LimitedAccount := CLimitedAccount, SavingsAccount := CSavingsAccount, Books := CBooks, Ledger := CLedger, InvalidCalendar := CInvalidCalendar, InvalidOrder := CInvalidOrder, InvalidName := CInvalidName, Overdrawn := COverdrawn, UnknownAccount := CUnknownAccount, DuplicateName := CDuplicateName, InvalidAmount := CInvalidAmount, InvalidCount := CInvalidCount, SameAccount := CSameAccount, TooManyAccounts := CTooManyAccounts, TooManyOrders := CTooManyOrders, UnknownKind := CUnknownKind, OrderError := COrderError : CE }) (fun_mk (st := s_Books_add_balance) l19 c19 k19) B 
  have G_Books_add_balance : DMok l.prog w K mg base CBooks "add_balance" ["self", "name", "amount"] 1 (sp_Books_add_balance { Account := CAccount, LimitedAccount := CLimitedAccount, SavingsAccount := CSavingsAccount, Books := CBooks, Ledger := CLedger, InvalidCalendar := CInvalidCalendar, InvalidOrder := CInvalidOrder, InvalidName := CInvalidName, Overdrawn := COverdrawn, UnknownAccount := CUnknownAccount, DuplicateName := CDuplicateName, InvalidAmount := CInvalidAmount, InvalidCount := CInvalidCount, SameAccount := CSameAccount, TooManyAccounts := CTooManyAccounts, TooManyOrders := CTooManyOrders, UnknownKind := CUnknownKind, OrderError := COrderError : CE }) := ⟨_, _, O_Books_add_balance, ⟨pgBooks, hdBooks, poBooks, saBooks⟩, ⟨a19, i19, k19⟩, ((fun_mk (st := s_Books_add_balance) l19 c19 k19 : Fun K _ _ _ _ _).binds (ps := ["self", "name", "amount"]) (fun _ _ _ _ _ _ us hl => match us, hl with | [_, _, _], _ => rfl))⟩
  have O_validate_amount := fo_validate_amount (P := l.prog) (w := w) (base := base) (C := { Account := CAccount, LimitedAccount := CLimitedAccount, SavingsAccount := CSavingsAccount, Books := CBooks, Ledger := CLedger, InvalidCalendar := CInvalidCalendar, InvalidOrder := CInvalidOrder, InvalidName := CInvalidName, Overdrawn := COverdrawn, UnknownAccount := CUnknownAccount, DuplicateName := CDuplicateName, InvalidAmount := CInvalidAmount, InvalidCount := CInvalidCount, SameAccount := CSameAccount, TooManyAccounts := CTooManyAccounts, TooManyOrders := CTooManyOrders, UnknownKind := CUnknownKind, OrderError := COrderError : CE }) (fun_mk (st := s_validate_amount) l20 c20 k20) B G_is_amount
  have G_validate_amount : DOkX l.prog w K mg base "validate_amount" ["amount", "low", "high"] 3 (sp_validate_amount { Account := CAccount, LimitedAccount := CLimitedAccount, SavingsAccount := CSavingsAccount, Books := CBooks, Ledger := CLedger, InvalidCalendar := CInvalidCalendar, InvalidOrder := CInvalidOrder, InvalidName := CInvalidName, Overdrawn := COverdrawn, UnknownAccount := CUnknownAccount, DuplicateName := CDuplicateName, InvalidAmount := CInvalidAmount, InvalidCount := CInvalidCount, SameAccount := CSameAccount, TooManyAccounts := CTooManyAccounts, TooManyOrders := CTooManyOrders, UnknownKind := CUnknownKind, OrderError := COrderError : CE }) := ⟨_, _, O_validate_amount, PySem.W.mg_of X G a20, k20, ((fun_mk (st := s_validate_amount) l20 c20 k20 : Fun K _ _ _ _ _).binds (ps := ["amount", "low", "high"]) (fun _ _ _ _ _ _ us hl => match us, hl with | [_, _, _], _ => rfl))⟩
  have O_Ledger___init__ := fo_Ledger___init__ (P := l.prog) (w := w) (base := base) (C := { Account := CAccount, LimitedAccount := CLimitedAccount, SavingsAccount := CSavingsAccount, Books := CBooks, Ledger := CLedger, InvalidCalendar := CInvalidCalendar, InvalidOrder := CInvalidOrder, InvalidName := CInvalidName, Overdrawn := COverdrawn, UnknownAccount := CUnknownAccount, DuplicateName := CDuplicateName, InvalidAmount := CInvalidAmount, InvalidCount := CInvalidCount, SameAccount := CSameAccount, TooManyAccounts := CTooManyAccounts, TooManyOrders := CTooManyOrders, UnknownKind := CUnknownKind, OrderError := COrderError : CE }) (fun_mk (st := s_Ledger___init__) l21 c21 k21) B G_validate_calendarX G_Books___init__
  have G_Ledger___init___1_day : DKk l.prog w K mg base CLedger "Ledger" 1 ["day"] gd_Ledger___init___1_day 4 (noX (sp_Ledger___init__ { Account := CAccount, LimitedAccount := CLimitedAccount, SavingsAccount := CSavingsAccount, Books := CBooks, Ledger := CLedger, InvalidCalendar := CInvalidCalendar, InvalidOrder := CInvalidOrder, InvalidName := CInvalidName, Overdrawn := COverdrawn, UnknownAccount := CUnknownAccount, DuplicateName := CDuplicateName, InvalidAmount := CInvalidAmount, InvalidCount := CInvalidCount, SameAccount := CSameAccount, TooManyAccounts := CTooManyAccounts, TooManyOrders := CTooManyOrders, UnknownKind := CUnknownKind, OrderError := COrderError : CE })) := ⟨_, _, _, _, _, ⟨mkLedger, a21, i21, kcLedger⟩, FnOk.ok0 O_Ledger___init__, ⟨fun s us ws _ l1 l2 => match us, ws, l1, l2 with | [_, _], [_], _, _ => .of_eq rfl, fun r1 r2 => r1.append r2⟩, PySem.W.mg_of X G aCLedger, fun M vs xs zs ys h1 h2 _ _ => Paired.app h1 h2⟩
  have O_Ledger_today := fo_Ledger_today (P := l.prog) (w := w) (base := base) (C := { Account := CAccount, LimitedAccount := CLimitedAccount, SavingsAccount := CSavingsAccount, Books := CBooks, Ledger := CLedger, InvalidCalendar := CInvalidCalendar, InvalidOrder := CInvalidOrder, InvalidName := CInvalidName, Overdrawn := COverdrawn, UnknownAccount := CUnknownAccount, DuplicateName := CDuplicateName, InvalidAmount := CInvalidAmount, InvalidCount := CInvalidCount, SameAccount := CSameAccount, TooManyAccounts := CTooManyAccounts, TooManyOrders := CTooManyOrders, UnknownKind := CUnknownKind, OrderError := COrderError : CE }) (fun_mk (st := s_Ledger_today) l22 c22 k22) B 
  have G_Ledger_today : DPok l.prog w K mg base CLedger "today" 1 (sp_Ledger_today { Account := CAccount, LimitedAccount := CLimitedAccount, SavingsAccount := CSavingsAccount, Books := CBooks, Ledger := CLedger, InvalidCalendar := CInvalidCalendar, InvalidOrder := CInvalidOrder, InvalidName := CInvalidName, Overdrawn := COverdrawn, UnknownAccount := CUnknownAccount, DuplicateName := CDuplicateName, InvalidAmount := CInvalidAmount, InvalidCount := CInvalidCount, SameAccount := CSameAccount, TooManyAccounts := CTooManyAccounts, TooManyOrders := CTooManyOrders, UnknownKind := CUnknownKind, OrderError := COrderError : CE }) := ⟨_, _, p22, _, O_Ledger_today, ⟨pgLedger, hdLedger, poLedger, saLedger⟩, ⟨a22, g22, t22, _, r22⟩, ((fun_mk (st := s_Ledger_today) l22 c22 k22 : Fun K _ _ _ _ _).binds (ps := ["self"]) (fun _ _ _ _ _ _ us hl => match us, hl with | [_], _ => rfl))⟩
  have O_Ledger_names := fo_Ledger_names (P := l.prog) (w := w) (base := base) (C := { Account := CAccount, LimitedAccount := CLimitedAccount, SavingsAccount := CSavingsAccount, Books := CBooks, Ledger := CLedger, InvalidCalendar := CInvalidCalendar, InvalidOrder := CInvalidOrder, InvalidName := CInvalidName, Overdrawn := COverdrawn, UnknownAccount := CUnknownAccount, DuplicateName := CDuplicateName, InvalidAmount := CInvalidAmount, InvalidCount := CInvalidCount, SameAccount := CSameAccount, TooManyAccounts := CTooManyAccounts, TooManyOrders := CTooManyOrders, UnknownKind := CUnknownKind, OrderError := COrderError : CE }) (fun_mk (st := s_Ledger_names) l23 c23 k23) B 
  have G_Ledger_names : DPok l.prog w K mg base CLedger "names" 1 (sp_Ledger_names { Account := CAccount, LimitedAccount := CLimitedAccount, SavingsAccount := CSavingsAccount, Books := CBooks, Ledger := CLedger, InvalidCalendar := CInvalidCalendar, InvalidOrder := CInvalidOrder, InvalidName := CInvalidName, Overdrawn := COverdrawn, UnknownAccount := CUnknownAccount, DuplicateName := CDuplicateName, InvalidAmount := CInvalidAmount, InvalidCount := CInvalidCount, SameAccount := CSameAccount, TooManyAccounts := CTooManyAccounts, TooManyOrders := CTooManyOrders, UnknownKind := CUnknownKind, OrderError := COrderError : CE }) := ⟨_, _, p23, _, O_Ledger_names, ⟨pgLedger, hdLedger, poLedger, saLedger⟩, ⟨a23, g23, t23, _, r23⟩, ((fun_mk (st := s_Ledger_names) l23 c23 k23 : Fun K _ _ _ _ _).binds (ps := ["self"]) (fun _ _ _ _ _ _ us hl => match us, hl with | [_], _ => rfl))⟩
  have O_Ledger_orders := fo_Ledger_orders (P := l.prog) (w := w) (base := base) (C := { Account := CAccount, LimitedAccount := CLimitedAccount, SavingsAccount := CSavingsAccount, Books := CBooks, Ledger := CLedger, InvalidCalendar := CInvalidCalendar, InvalidOrder := CInvalidOrder, InvalidName := CInvalidName, Overdrawn := COverdrawn, UnknownAccount := CUnknownAccount, DuplicateName := CDuplicateName, InvalidAmount := CInvalidAmount, InvalidCount := CInvalidCount, SameAccount := CSameAccount, TooManyAccounts := CTooManyAccounts, TooManyOrders := CTooManyOrders, UnknownKind := CUnknownKind, OrderError := COrderError : CE }) (fun_mk (st := s_Ledger_orders) l24 c24 k24) B 
  have G_Ledger_orders : DPok l.prog w K mg base CLedger "orders" 1 (sp_Ledger_orders { Account := CAccount, LimitedAccount := CLimitedAccount, SavingsAccount := CSavingsAccount, Books := CBooks, Ledger := CLedger, InvalidCalendar := CInvalidCalendar, InvalidOrder := CInvalidOrder, InvalidName := CInvalidName, Overdrawn := COverdrawn, UnknownAccount := CUnknownAccount, DuplicateName := CDuplicateName, InvalidAmount := CInvalidAmount, InvalidCount := CInvalidCount, SameAccount := CSameAccount, TooManyAccounts := CTooManyAccounts, TooManyOrders := CTooManyOrders, UnknownKind := CUnknownKind, OrderError := COrderError : CE }) := ⟨_, _, p24, _, O_Ledger_orders, ⟨pgLedger, hdLedger, poLedger, saLedger⟩, ⟨a24, g24, t24, _, r24⟩, ((fun_mk (st := s_Ledger_orders) l24 c24 k24 : Fun K _ _ _ _ _).binds (ps := ["self"]) (fun _ _ _ _ _ _ us hl => match us, hl with | [_], _ => rfl))⟩
  have O_Ledger_account_in := fo_Ledger_account_in (P := l.prog) (w := w) (base := base) (C := { Account := CAccount, LimitedAccount := CLimitedAccount, SavingsAccount := CSavingsAccount, Books := CBooks, Ledger := CLedger, InvalidCalendar := CInvalidCalendar, InvalidOrder := CInvalidOrder, InvalidName := CInvalidName, Overdrawn := COverdrawn, UnknownAccount := CUnknownAccount, DuplicateName := CDuplicateName, InvalidAmount := CInvalidAmount, InvalidCount := CInvalidCount, SameAccount := CSameAccount, TooManyAccounts := CTooManyAccounts, TooManyOrders := CTooManyOrders, UnknownKind := CUnknownKind, OrderError := COrderError : CE }) (fun_mk (st := s_Ledger_account_in) l25 c25 k25) B GX_UnknownAccount G_Account_made_2_limit_balance_cycle
  have G_Ledger_account_in : DMokX l.prog w K mg base CLedger "account_in" ["self", "books", "name"] 4 (sp_Ledger_account_in { Account := CAccount, LimitedAccount := CLimitedAccount, SavingsAccount := CSavingsAccount, Books := CBooks, Ledger := CLedger, InvalidCalendar := CInvalidCalendar, InvalidOrder := CInvalidOrder, InvalidName := CInvalidName, Overdrawn := COverdrawn, UnknownAccount := CUnknownAccount, DuplicateName := CDuplicateName, InvalidAmount := CInvalidAmount, InvalidCount := CInvalidCount, SameAccount := CSameAccount, TooManyAccounts := CTooManyAccounts, TooManyOrders := CTooManyOrders, UnknownKind := CUnknownKind, OrderError := COrderError : CE }) := ⟨_, _, O_Ledger_account_in, ⟨pgLedger, hdLedger, poLedger, saLedger⟩, ⟨a25, i25, k25⟩, ((fun_mk (st := s_Ledger_account_in) l25 c25 k25 : Fun K _ _ _ _ _).binds (ps := ["self", "books", "name"]) (fun _ _ _ _ _ _ us hl => match us, hl with | [_, _, _], _ => rfl))⟩
  have O_Ledger_account := fo_Ledger_account (P := l.prog) (w := w) (base := base) (C := { Account := CAccount, LimitedAccount := CLimitedAccount, SavingsAccount := CSavingsAccount, Books := CBooks, Ledger := CLedger, InvalidCalendar := CInvalidCalendar, InvalidOrder := CInvalidOrder, InvalidName := CInvalidName, Overdrawn := COverdrawn, UnknownAccount := CUnknownAccount, DuplicateName := CDuplicateName, InvalidAmount := CInvalidAmount, InvalidCount := CInvalidCount, SameAccount := CSameAccount, TooManyAccounts := CTooManyAccounts, TooManyOrders := CTooManyOrders, UnknownKind := CUnknownKind, OrderError := COrderError : CE }) (fun_mk (st := s_Ledger_account) l26 c26 k26) B G_Ledger_account_in
  have G_Ledger_account : DMokX l.prog w K mg base CLedger "account" ["self", "name"] 5 (sp_Ledger_account { Account := CAccount, LimitedAccount := CLimitedAccount, SavingsAccount := CSavingsAccount, Books := CBooks, Ledger := CLedger, InvalidCalendar := CInvalidCalendar, InvalidOrder := CInvalidOrder, InvalidName := CInvalidName, Overdrawn := COverdrawn, UnknownAccount := CUnknownAccount, DuplicateName := CDuplicateName, InvalidAmount := CInvalidAmount, InvalidCount := CInvalidCount, SameAccount := CSameAccount, TooManyAccounts := CTooManyAccounts, TooManyOrders := CTooManyOrders, UnknownKind := CUnknownKind, OrderError := COrderError : CE }) := ⟨_, _, O_Ledger_account, ⟨pgLedger, hdLedger, poLedger, saLedger⟩, ⟨a26, i26, k26⟩, ((fun_mk (st := s_Ledger_account) l26 c26 k26 : Fun K _ _ _ _ _).binds (ps := ["self", "name"]) (fun _ _ _ _ _ _ us hl => match us, hl with | [_, _], _ => rfl))⟩
  have O_Ledger_commit := fo_Ledger_commit (P := l.prog) (w := w) (base := base) (C := { Account := CAccount, LimitedAccount := CLimitedAccount, SavingsAccount := CSavingsAccount, Books := CBooks, Ledger := CLedger, InvalidCalendar := CInvalidCalendar, InvalidOrder := CInvalidOrder, InvalidName := CInvalidName, Overdrawn := COverdrawn, UnknownAccount := CUnknownAccount, DuplicateName := CDuplicateName, InvalidAmount := CInvalidAmount, InvalidCount := CInvalidCount, SameAccount := CSameAccount, TooManyAccounts := CTooManyAccounts, TooManyOrders := CTooManyOrders, UnknownKind := CUnknownKind, OrderError := COrderError : CE }) (fun_mk (st := s_Ledger_commit) l27 c27 k27) B 
  have G_Ledger_commit : DMok l.prog w K mg base CLedger "commit" ["self", "operation", "books"] 1 (sp_Ledger_commit { Account := CAccount, LimitedAccount := CLimitedAccount, SavingsAccount := CSavingsAccount, Books := CBooks, Ledger := CLedger, InvalidCalendar := CInvalidCalendar, InvalidOrder := CInvalidOrder, InvalidName := CInvalidName, Overdrawn := COverdrawn, UnknownAccount := CUnknownAccount, DuplicateName := CDuplicateName, InvalidAmount := CInvalidAmount, InvalidCount := CInvalidCount, SameAccount := CSameAccount, TooManyAccounts := CTooManyAccounts, TooManyOrders := CTooManyOrders, UnknownKind := CUnknownKind, OrderError := COrderError : CE }) := ⟨_, _, O_Ledger_commit, ⟨pgLedger, hdLedger, poLedger, saLedger⟩, ⟨a27, i27, k27⟩, ((fun_mk (st := s_Ledger_commit) l27 c27 k27 : Fun K _ _ _ _ _).binds (ps := ["self", "operation", "books"]) (fun _ _ _ _ _ _ us hl => match us, hl with | [_, _, _], _ => rfl))⟩
  have O_Ledger_open_books := fo_Ledger_open_books (P := l.prog) (w := w) (base := base) (C := { Account := CAccount, LimitedAccount := CLimitedAccount, SavingsAccount := CSavingsAccount, Books := CBooks, Ledger := CLedger, InvalidCalendar := CInvalidCalendar, InvalidOrder := CInvalidOrder, InvalidName := CInvalidName, Overdrawn := COverdrawn, UnknownAccount := CUnknownAccount, DuplicateName := CDuplicateName, InvalidAmount := CInvalidAmount, InvalidCount := CInvalidCount, SameAccount := CSameAccount, TooManyAccounts := CTooManyAccounts, TooManyOrders := CTooManyOrders, UnknownKind := CUnknownKind, OrderError := COrderError : CE }) (fun_mk (st := s_Ledger_open_books) l28 c28 k28) B GX_DuplicateName G_Account_made_2_limit_balance_cycle G_validate_amount
  have G_Ledger_open_books : DMokX l.prog w K mg base CLedger "open_books" ["self", "books", "name", "kind", "limit", "balance"] 4 (sp_Ledger_open_books { Account := CAccount, LimitedAccount := CLimitedAccount, SavingsAccount := CSavingsAccount, Books := CBooks, Ledger := CLedger, InvalidCalendar := CInvalidCalendar, InvalidOrder := CInvalidOrder, InvalidName := CInvalidName, Overdrawn := COverdrawn, UnknownAccount := CUnknownAccount, DuplicateName := CDuplicateName, InvalidAmount := CInvalidAmount, InvalidCount := CInvalidCount, SameAccount := CSameAccount, TooManyAccounts := CTooManyAccounts, TooManyOrders := CTooManyOrders, UnknownKind := CUnknownKind, OrderError := COrderError : CE }) := ⟨_, _, O_Ledger_open_books, ⟨pgLedger, hdLedger, poLedger, saLedger⟩, ⟨a28, i28, k28⟩, ((fun_mk (st := s_Ledger_open_books) l28 c28 k28 : Fun K _ _ _ _ _).binds (ps := ["self", "books", "name", "kind", "limit", "balance"]) (fun _ _ _ _ _ _ us hl => match us, hl with | [_, _, _, _, _, _], _ => rfl))⟩
  have O_Ledger_open_account := fo_Ledger_open_account (P := l.prog) (w := w) (base := base) (C := { Account := CAccount, LimitedAccount := CLimitedAccount, SavingsAccount := CSavingsAccount, Books := CBooks, Ledger := CLedger, InvalidCalendar := CInvalidCalendar, InvalidOrder := CInvalidOrder, InvalidName := CInvalidName, Overdrawn := COverdrawn, UnknownAccount := CUnknownAccount, DuplicateName := CDuplicateName, InvalidAmount := CInvalidAmount, InvalidCount := CInvalidCount, SameAccount := CSameAccount, TooManyAccounts := CTooManyAccounts, TooManyOrders := CTooManyOrders, UnknownKind := CUnknownKind, OrderError := COrderError : CE }) (fun_mk (st := s_Ledger_open_account) l29 c29 k29) B G_Books_copied G_Ledger_open_books G_Ledger_commit
  have G_Ledger_open_account : DMokX l.prog w K mg base CLedger "open_account" ["self", "name", "kind", "limit", "balance"] 5 (sp_Ledger_open_account { Account := CAccount, LimitedAccount := CLimitedAccount, SavingsAccount := CSavingsAccount, Books := CBooks, Ledger := CLedger, InvalidCalendar := CInvalidCalendar, InvalidOrder := CInvalidOrder, InvalidName := CInvalidName, Overdrawn := COverdrawn, UnknownAccount := CUnknownAccount, DuplicateName := CDuplicateName, InvalidAmount := CInvalidAmount, InvalidCount := CInvalidCount, SameAccount := CSameAccount, TooManyAccounts := CTooManyAccounts, TooManyOrders := CTooManyOrders, UnknownKind := CUnknownKind, OrderError := COrderError : CE }) := ⟨_, _, O_Ledger_open_account, ⟨pgLedger, hdLedger, poLedger, saLedger⟩, ⟨a29, i29, k29⟩, ((fun_mk (st := s_Ledger_open_account) l29 c29 k29 : Fun K _ _ _ _ _).binds (ps := ["self", "name", "kind", "limit", "balance"]) (fun _ _ _ _ _ _ us hl => match us, hl with | [_, _, _, _, _], _ => rfl))⟩
  have O_Ledger_add_item := fo_Ledger_add_item (P := l.prog) (w := w) (base := base) (C := { Account := CAccount, LimitedAccount := CLimitedAccount, SavingsAccount := CSavingsAccount, Books := CBooks, Ledger := CLedger, InvalidCalendar := CInvalidCalendar, InvalidOrder := CInvalidOrder, InvalidName := CInvalidName, Overdrawn := COverdrawn, UnknownAccount := CUnknownAccount, DuplicateName := CDuplicateName, InvalidAmount := CInvalidAmount, InvalidCount := CInvalidCount, SameAccount := CSameAccount, TooManyAccounts := CTooManyAccounts, TooManyOrders := CTooManyOrders, UnknownKind := CUnknownKind, OrderError := COrderError : CE }) (fun_mk (st := s_Ledger_add_item) l30 c30 k30) B G_Ledger_account_in G_validate_ordersX G_Books_payments
  have G_Ledger_add_item : DMokX l.prog w K mg base CLedger "add_item" ["self", "books", "parts"] 5 (sp_Ledger_add_item { Account := CAccount, LimitedAccount := CLimitedAccount, SavingsAccount := CSavingsAccount, Books := CBooks, Ledger := CLedger, InvalidCalendar := CInvalidCalendar, InvalidOrder := CInvalidOrder, InvalidName := CInvalidName, Overdrawn := COverdrawn, UnknownAccount := CUnknownAccount, DuplicateName := CDuplicateName, InvalidAmount := CInvalidAmount, InvalidCount := CInvalidCount, SameAccount := CSameAccount, TooManyAccounts := CTooManyAccounts, TooManyOrders := CTooManyOrders, UnknownKind := CUnknownKind, OrderError := COrderError : CE }) := ⟨_, _, O_Ledger_add_item, ⟨pgLedger, hdLedger, poLedger, saLedger⟩, ⟨a30, i30, k30⟩, ((fun_mk (st := s_Ledger_add_item) l30 c30 k30 : Fun K _ _ _ _ _).binds (ps := ["self", "books", "parts"]) (fun _ _ _ _ _ _ us hl => match us, hl with | [_, _, _], _ => rfl))⟩
  have O_Ledger_validate_parties := fo_Ledger_validate_parties (P := l.prog) (w := w) (base := base) (C := { Account := CAccount, LimitedAccount := CLimitedAccount, SavingsAccount := CSavingsAccount, Books := CBooks, Ledger := CLedger, InvalidCalendar := CInvalidCalendar, InvalidOrder := CInvalidOrder, InvalidName := CInvalidName, Overdrawn := COverdrawn, UnknownAccount := CUnknownAccount, DuplicateName := CDuplicateName, InvalidAmount := CInvalidAmount, InvalidCount := CInvalidCount, SameAccount := CSameAccount, TooManyAccounts := CTooManyAccounts, TooManyOrders := CTooManyOrders, UnknownKind := CUnknownKind, OrderError := COrderError : CE }) (fun_mk (st := s_Ledger_validate_parties) l31 c31 k31) B G_Ledger_account
  have G_Ledger_validate_parties : DMokX l.prog w K mg base CLedger "validate_parties" ["self", "names"] 6 (sp_Ledger_validate_parties { Account := CAccount, LimitedAccount := CLimitedAccount, SavingsAccount := CSavingsAccount, Books := CBooks, Ledger := CLedger, InvalidCalendar := CInvalidCalendar, InvalidOrder := CInvalidOrder, InvalidName := CInvalidName, Overdrawn := COverdrawn, UnknownAccount := CUnknownAccount, DuplicateName := CDuplicateName, InvalidAmount := CInvalidAmount, InvalidCount := CInvalidCount, SameAccount := CSameAccount, TooManyAccounts := CTooManyAccounts, TooManyOrders := CTooManyOrders, UnknownKind := CUnknownKind, OrderError := COrderError : CE }) := ⟨_, _, O_Ledger_validate_parties, ⟨pgLedger, hdLedger, poLedger, saLedger⟩, ⟨a31, i31, k31⟩, ((fun_mk (st := s_Ledger_validate_parties) l31 c31 k31 : Fun K _ _ _ _ _).binds (ps := ["self", "names"]) (fun _ _ _ _ _ _ us hl => match us, hl with | [_, _], _ => rfl))⟩
  have O_Ledger_validate_item := fo_Ledger_validate_item (P := l.prog) (w := w) (base := base) (C := { Account := CAccount, LimitedAccount := CLimitedAccount, SavingsAccount := CSavingsAccount, Books := CBooks, Ledger := CLedger, InvalidCalendar := CInvalidCalendar, InvalidOrder := CInvalidOrder, InvalidName := CInvalidName, Overdrawn := COverdrawn, UnknownAccount := CUnknownAccount, DuplicateName := CDuplicateName, InvalidAmount := CInvalidAmount, InvalidCount := CInvalidCount, SameAccount := CSameAccount, TooManyAccounts := CTooManyAccounts, TooManyOrders := CTooManyOrders, UnknownKind := CUnknownKind, OrderError := COrderError : CE }) (fun_mk (st := s_Ledger_validate_item) l32 c32 k32) B G_validate_amount
  have G_Ledger_validate_item : DMokX l.prog w K mg base CLedger "validate_item" ["self", "parties", "amount"] 4 (sp_Ledger_validate_item { Account := CAccount, LimitedAccount := CLimitedAccount, SavingsAccount := CSavingsAccount, Books := CBooks, Ledger := CLedger, InvalidCalendar := CInvalidCalendar, InvalidOrder := CInvalidOrder, InvalidName := CInvalidName, Overdrawn := COverdrawn, UnknownAccount := CUnknownAccount, DuplicateName := CDuplicateName, InvalidAmount := CInvalidAmount, InvalidCount := CInvalidCount, SameAccount := CSameAccount, TooManyAccounts := CTooManyAccounts, TooManyOrders := CTooManyOrders, UnknownKind := CUnknownKind, OrderError := COrderError : CE }) := ⟨_, _, O_Ledger_validate_item, ⟨pgLedger, hdLedger, poLedger, saLedger⟩, ⟨a32, i32, k32⟩, ((fun_mk (st := s_Ledger_validate_item) l32 c32 k32 : Fun K _ _ _ _ _).binds (ps := ["self", "parties", "amount"]) (fun _ _ _ _ _ _ us hl => match us, hl with | [_, _, _], _ => rfl))⟩
  have O_Ledger_add_order := fo_Ledger_add_order (P := l.prog) (w := w) (base := base) (C := { Account := CAccount, LimitedAccount := CLimitedAccount, SavingsAccount := CSavingsAccount, Books := CBooks, Ledger := CLedger, InvalidCalendar := CInvalidCalendar, InvalidOrder := CInvalidOrder, InvalidName := CInvalidName, Overdrawn := COverdrawn, UnknownAccount := CUnknownAccount, DuplicateName := CDuplicateName, InvalidAmount := CInvalidAmount, InvalidCount := CInvalidCount, SameAccount := CSameAccount, TooManyAccounts := CTooManyAccounts, TooManyOrders := CTooManyOrders, UnknownKind := CUnknownKind, OrderError := COrderError : CE }) (fun_mk (st := s_Ledger_add_order) l33 c33 k33) B G_Books_copied G_Ledger_account G_Ledger_validate_item G_Ledger_add_item G_Ledger_commit
  have G_Ledger_add_order : DMokX l.prog w K mg base CLedger "add_order" ["self", "name", "period", "day", "amount"] 6 (sp_Ledger_add_order { Account := CAccount, LimitedAccount := CLimitedAccount, SavingsAccount := CSavingsAccount, Books := CBooks, Ledger := CLedger, InvalidCalendar := CInvalidCalendar, InvalidOrder := CInvalidOrder, InvalidName := CInvalidName, Overdrawn := COverdrawn, UnknownAccount := CUnknownAccount, DuplicateName := CDuplicateName, InvalidAmount := CInvalidAmount, InvalidCount := CInvalidCount, SameAccount := CSameAccount, TooManyAccounts := CTooManyAccounts, TooManyOrders := CTooManyOrders, UnknownKind := CUnknownKind, OrderError := COrderError : CE }) := ⟨_, _, O_Ledger_add_order, ⟨pgLedger, hdLedger, poLedger, saLedger⟩, ⟨a33, i33, k33⟩, ((fun_mk (st := s_Ledger_add_order) l33 c33 k33 : Fun K _ _ _ _ _).binds (ps := ["self", "name", "period", "day", "amount"]) (fun _ _ _ _ _ _ us hl => match us, hl with | [_, _, _, _, _], _ => rfl))⟩
  have O_Ledger_add_transfer := fo_Ledger_add_transfer (P := l.prog) (w := w) (base := base) (C := { Account := CAccount, LimitedAccount := CLimitedAccount, SavingsAccount := CSavingsAccount, Books := CBooks, Ledger := CLedger, InvalidCalendar := CInvalidCalendar, InvalidOrder := CInvalidOrder, InvalidName := CInvalidName, Overdrawn := COverdrawn, UnknownAccount := CUnknownAccount, DuplicateName := CDuplicateName, InvalidAmount := CInvalidAmount, InvalidCount := CInvalidCount, SameAccount := CSameAccount, TooManyAccounts := CTooManyAccounts, TooManyOrders := CTooManyOrders, UnknownKind := CUnknownKind, OrderError := COrderError : CE }) (fun_mk (st := s_Ledger_add_transfer) l34 c34 k34) B G_Books_copied G_Ledger_validate_parties G_Ledger_validate_item G_Ledger_add_item G_Ledger_commit
  have G_Ledger_add_transfer : DMokX l.prog w K mg base CLedger "add_transfer" ["self", "source", "target", "period", "day", "amount"] 7 (sp_Ledger_add_transfer { Account := CAccount, LimitedAccount := CLimitedAccount, SavingsAccount := CSavingsAccount, Books := CBooks, Ledger := CLedger, InvalidCalendar := CInvalidCalendar, InvalidOrder := CInvalidOrder, InvalidName := CInvalidName, Overdrawn := COverdrawn, UnknownAccount := CUnknownAccount, DuplicateName := CDuplicateName, InvalidAmount := CInvalidAmount, InvalidCount := CInvalidCount, SameAccount := CSameAccount, TooManyAccounts := CTooManyAccounts, TooManyOrders := CTooManyOrders, UnknownKind := CUnknownKind, OrderError := COrderError : CE }) := ⟨_, _, O_Ledger_add_transfer, ⟨pgLedger, hdLedger, poLedger, saLedger⟩, ⟨a34, i34, k34⟩, ((fun_mk (st := s_Ledger_add_transfer) l34 c34 k34 : Fun K _ _ _ _ _).binds (ps := ["self", "source", "target", "period", "day", "amount"]) (fun _ _ _ _ _ _ us hl => match us, hl with | [_, _, _, _, _, _], _ => rfl))⟩
  have O_Ledger_first_overdraft := fo_Ledger_first_overdraft (P := l.prog) (w := w) (base := base) (C := { Account := CAccount, LimitedAccount := CLimitedAccount, SavingsAccount := CSavingsAccount, Books := CBooks, Ledger := CLedger, InvalidCalendar := CInvalidCalendar, InvalidOrder := CInvalidOrder, InvalidName := CInvalidName, Overdrawn := COverdrawn, UnknownAccount := CUnknownAccount, DuplicateName := CDuplicateName, InvalidAmount := CInvalidAmount, InvalidCount := CInvalidCount, SameAccount := CSameAccount, TooManyAccounts := CTooManyAccounts, TooManyOrders := CTooManyOrders, UnknownKind := CUnknownKind, OrderError := COrderError : CE }) (fun_mk (st := s_Ledger_first_overdraft) l35 c35 k35) B G_Ledger_names G_Ledger_account G_Account_floor G_LimitedAccount_floor G_SavingsAccount_floor
  have G_Ledger_first_overdraft : DMok l.prog w K mg base CLedger "first_overdraft" ["self"] 6 (sp_Ledger_first_overdraft { Account := CAccount, LimitedAccount := CLimitedAccount, SavingsAccount := CSavingsAccount, Books := CBooks, Ledger := CLedger, InvalidCalendar := CInvalidCalendar, InvalidOrder := CInvalidOrder, InvalidName := CInvalidName, Overdrawn := COverdrawn, UnknownAccount := CUnknownAccount, DuplicateName := CDuplicateName, InvalidAmount := CInvalidAmount, InvalidCount := CInvalidCount, SameAccount := CSameAccount, TooManyAccounts := CTooManyAccounts, TooManyOrders := CTooManyOrders, UnknownKind := CUnknownKind, OrderError := COrderError : CE }) := ⟨_, _, O_Ledger_first_overdraft, ⟨pgLedger, hdLedger, poLedger, saLedger⟩, ⟨a35, i35, k35⟩, ((fun_mk (st := s_Ledger_first_overdraft) l35 c35 k35 : Fun K _ _ _ _ _).binds (ps := ["self"]) (fun _ _ _ _ _ _ us hl => match us, hl with | [_], _ => rfl))⟩
  have O_Ledger_pass_days := fo_Ledger_pass_days (P := l.prog) (w := w) (base := base) (C := { Account := CAccount, LimitedAccount := CLimitedAccount, SavingsAccount := CSavingsAccount, Books := CBooks, Ledger := CLedger, InvalidCalendar := CInvalidCalendar, InvalidOrder := CInvalidOrder, InvalidName := CInvalidName, Overdrawn := COverdrawn, UnknownAccount := CUnknownAccount, DuplicateName := CDuplicateName, InvalidAmount := CInvalidAmount, InvalidCount := CInvalidCount, SameAccount := CSameAccount, TooManyAccounts := CTooManyAccounts, TooManyOrders := CTooManyOrders, UnknownKind := CUnknownKind, OrderError := COrderError : CE }) (fun_mk (st := s_Ledger_pass_days) l36 c36 k36) B G_is_integer G_Ledger_today G_Ledger_first_overdraft GX_Overdrawn G_Books_copied G_Ledger_names G_Books_payments G_days_due G_Books_add_balance G_Ledger_commit
  have G_Ledger_pass_days : DMokX l.prog w K mg base CLedger "pass_days" ["self", "count"] 7 (sp_Ledger_pass_days { Account := CAccount, LimitedAccount := CLimitedAccount, SavingsAccount := CSavingsAccount, Books := CBooks, Ledger := CLedger, InvalidCalendar := CInvalidCalendar, InvalidOrder := CInvalidOrder, InvalidName := CInvalidName, Overdrawn := COverdrawn, UnknownAccount := CUnknownAccount, DuplicateName := CDuplicateName, InvalidAmount := CInvalidAmount, InvalidCount := CInvalidCount, SameAccount := CSameAccount, TooManyAccounts := CTooManyAccounts, TooManyOrders := CTooManyOrders, UnknownKind := CUnknownKind, OrderError := COrderError : CE }) := ⟨_, _, O_Ledger_pass_days, ⟨pgLedger, hdLedger, poLedger, saLedger⟩, ⟨a36, i36, k36⟩, ((fun_mk (st := s_Ledger_pass_days) l36 c36 k36 : Fun K _ _ _ _ _).binds (ps := ["self", "count"]) (fun _ _ _ _ _ _ us hl => match us, hl with | [_, _], _ => rfl))⟩
  have O_Ledger_undo := fo_Ledger_undo (P := l.prog) (w := w) (base := base) (C := { Account := CAccount, LimitedAccount := CLimitedAccount, SavingsAccount := CSavingsAccount, Books := CBooks, Ledger := CLedger, InvalidCalendar := CInvalidCalendar, InvalidOrder := CInvalidOrder, InvalidName := CInvalidName, Overdrawn := COverdrawn, UnknownAccount := CUnknownAccount, DuplicateName := CDuplicateName, InvalidAmount := CInvalidAmount, InvalidCount := CInvalidCount, SameAccount := CSameAccount, TooManyAccounts := CTooManyAccounts, TooManyOrders := CTooManyOrders, UnknownKind := CUnknownKind, OrderError := COrderError : CE }) (fun_mk (st := s_Ledger_undo) l37 c37 k37) B 
  have G_Ledger_undo : DMok l.prog w K mg base CLedger "undo" ["self"] 1 (sp_Ledger_undo { Account := CAccount, LimitedAccount := CLimitedAccount, SavingsAccount := CSavingsAccount, Books := CBooks, Ledger := CLedger, InvalidCalendar := CInvalidCalendar, InvalidOrder := CInvalidOrder, InvalidName := CInvalidName, Overdrawn := COverdrawn, UnknownAccount := CUnknownAccount, DuplicateName := CDuplicateName, InvalidAmount := CInvalidAmount, InvalidCount := CInvalidCount, SameAccount := CSameAccount, TooManyAccounts := CTooManyAccounts, TooManyOrders := CTooManyOrders, UnknownKind := CUnknownKind, OrderError := COrderError : CE }) := ⟨_, _, O_Ledger_undo, ⟨pgLedger, hdLedger, poLedger, saLedger⟩, ⟨a37, i37, k37⟩, ((fun_mk (st := s_Ledger_undo) l37 c37 k37 : Fun K _ _ _ _ _).binds (ps := ["self"]) (fun _ _ _ _ _ _ us hl => match us, hl with | [_], _ => rfl))⟩
  have O_Ledger_total := fo_Ledger_total (P := l.prog) (w := w) (base := base) (C := { Account := CAccount, LimitedAccount := CLimitedAccount, SavingsAccount := CSavingsAccount, Books := CBooks, Ledger := CLedger, InvalidCalendar := CInvalidCalendar, InvalidOrder := CInvalidOrder, InvalidName := CInvalidName, Overdrawn := COverdrawn, UnknownAccount := CUnknownAccount, DuplicateName := CDuplicateName, InvalidAmount := CInvalidAmount, InvalidCount := CInvalidCount, SameAccount := CSameAccount, TooManyAccounts := CTooManyAccounts, TooManyOrders := CTooManyOrders, UnknownKind := CUnknownKind, OrderError := COrderError : CE }) (fun_mk (st := s_Ledger_total) l38 c38 k38) B G_Ledger_names G_Ledger_account G_Account_balance G_LimitedAccount_balance G_SavingsAccount_balance
  have G_Ledger_total : DMokS l.prog w K mg base CLedger "total" 1 6 (sp_Ledger_total { Account := CAccount, LimitedAccount := CLimitedAccount, SavingsAccount := CSavingsAccount, Books := CBooks, Ledger := CLedger, InvalidCalendar := CInvalidCalendar, InvalidOrder := CInvalidOrder, InvalidName := CInvalidName, Overdrawn := COverdrawn, UnknownAccount := CUnknownAccount, DuplicateName := CDuplicateName, InvalidAmount := CInvalidAmount, InvalidCount := CInvalidCount, SameAccount := CSameAccount, TooManyAccounts := CTooManyAccounts, TooManyOrders := CTooManyOrders, UnknownKind := CUnknownKind, OrderError := COrderError : CE }) := ⟨_, O_Ledger_total, ⟨pgLedger, hdLedger, poLedger, saLedger⟩, ⟨a38, i38, k38⟩⟩
  have O_law_mix := fo_law_mix (P := l.prog) (w := w) (base := base) (C := { Account := CAccount, LimitedAccount := CLimitedAccount, SavingsAccount := CSavingsAccount, Books := CBooks, Ledger := CLedger, InvalidCalendar := CInvalidCalendar, InvalidOrder := CInvalidOrder, InvalidName := CInvalidName, Overdrawn := COverdrawn, UnknownAccount := CUnknownAccount, DuplicateName := CDuplicateName, InvalidAmount := CInvalidAmount, InvalidCount := CInvalidCount, SameAccount := CSameAccount, TooManyAccounts := CTooManyAccounts, TooManyOrders := CTooManyOrders, UnknownKind := CUnknownKind, OrderError := COrderError : CE }) (fun_mk (st := s_law_mix) l39 c39 k39) B 
  have G_law_mix : DOk l.prog w K mg base CX0 "_law_mix" ["_law_script", "_law_seed"] 1 (sp_law_mix { Account := CAccount, LimitedAccount := CLimitedAccount, SavingsAccount := CSavingsAccount, Books := CBooks, Ledger := CLedger, InvalidCalendar := CInvalidCalendar, InvalidOrder := CInvalidOrder, InvalidName := CInvalidName, Overdrawn := COverdrawn, UnknownAccount := CUnknownAccount, DuplicateName := CDuplicateName, InvalidAmount := CInvalidAmount, InvalidCount := CInvalidCount, SameAccount := CSameAccount, TooManyAccounts := CTooManyAccounts, TooManyOrders := CTooManyOrders, UnknownKind := CUnknownKind, OrderError := COrderError : CE }) := ⟨_, _, O_law_mix, PySem.W.mg_of X G a39, k39, ((fun_mk (st := s_law_mix) l39 c39 k39 : Fun K _ _ _ _ _).binds (ps := ["_law_script", "_law_seed"]) (fun _ _ _ _ _ _ us hl => match us, hl with | [_, _], _ => rfl))⟩
  have O_law_next := fo_law_next (P := l.prog) (w := w) (base := base) (C := { Account := CAccount, LimitedAccount := CLimitedAccount, SavingsAccount := CSavingsAccount, Books := CBooks, Ledger := CLedger, InvalidCalendar := CInvalidCalendar, InvalidOrder := CInvalidOrder, InvalidName := CInvalidName, Overdrawn := COverdrawn, UnknownAccount := CUnknownAccount, DuplicateName := CDuplicateName, InvalidAmount := CInvalidAmount, InvalidCount := CInvalidCount, SameAccount := CSameAccount, TooManyAccounts := CTooManyAccounts, TooManyOrders := CTooManyOrders, UnknownKind := CUnknownKind, OrderError := COrderError : CE }) (fun_mk (st := s_law_next) l40 c40 k40) B 
  have G_law_next : DOk l.prog w K mg base CX0 "_law_next" ["_law_h", "_law_bound"] 1 (sp_law_next { Account := CAccount, LimitedAccount := CLimitedAccount, SavingsAccount := CSavingsAccount, Books := CBooks, Ledger := CLedger, InvalidCalendar := CInvalidCalendar, InvalidOrder := CInvalidOrder, InvalidName := CInvalidName, Overdrawn := COverdrawn, UnknownAccount := CUnknownAccount, DuplicateName := CDuplicateName, InvalidAmount := CInvalidAmount, InvalidCount := CInvalidCount, SameAccount := CSameAccount, TooManyAccounts := CTooManyAccounts, TooManyOrders := CTooManyOrders, UnknownKind := CUnknownKind, OrderError := COrderError : CE }) := ⟨_, _, O_law_next, PySem.W.mg_of X G a40, k40, ((fun_mk (st := s_law_next) l40 c40 k40 : Fun K _ _ _ _ _).binds (ps := ["_law_h", "_law_bound"]) (fun _ _ _ _ _ _ us hl => match us, hl with | [_, _], _ => rfl))⟩
  have G_law_alike := ok_law_alike (P := l.prog) (w := w) (base := base) (C := { Account := CAccount, LimitedAccount := CLimitedAccount, SavingsAccount := CSavingsAccount, Books := CBooks, Ledger := CLedger, InvalidCalendar := CInvalidCalendar, InvalidOrder := CInvalidOrder, InvalidName := CInvalidName, Overdrawn := COverdrawn, UnknownAccount := CUnknownAccount, DuplicateName := CDuplicateName, InvalidAmount := CInvalidAmount, InvalidCount := CInvalidCount, SameAccount := CSameAccount, TooManyAccounts := CTooManyAccounts, TooManyOrders := CTooManyOrders, UnknownKind := CUnknownKind, OrderError := COrderError : CE }) (fun_mk (st := s_law_alike) l41 c41 k41) (PySem.W.mg_of X G a41) B 
  have O_law_calendarH := fo_law_calendarH (P := l.prog) (w := w) (base := base) (C := { Account := CAccount, LimitedAccount := CLimitedAccount, SavingsAccount := CSavingsAccount, Books := CBooks, Ledger := CLedger, InvalidCalendar := CInvalidCalendar, InvalidOrder := CInvalidOrder, InvalidName := CInvalidName, Overdrawn := COverdrawn, UnknownAccount := CUnknownAccount, DuplicateName := CDuplicateName, InvalidAmount := CInvalidAmount, InvalidCount := CInvalidCount, SameAccount := CSameAccount, TooManyAccounts := CTooManyAccounts, TooManyOrders := CTooManyOrders, UnknownKind := CUnknownKind, OrderError := COrderError : CE }) (fun_mk (st := s_law_calendarH) l42 c42 k42) B G_law_next
  have G_law_calendarH : DOk l.prog w K mg base CX0 "_law_calendar" ["_law_h"] 2 (sp_law_calendarH { Account := CAccount, LimitedAccount := CLimitedAccount, SavingsAccount := CSavingsAccount, Books := CBooks, Ledger := CLedger, InvalidCalendar := CInvalidCalendar, InvalidOrder := CInvalidOrder, InvalidName := CInvalidName, Overdrawn := COverdrawn, UnknownAccount := CUnknownAccount, DuplicateName := CDuplicateName, InvalidAmount := CInvalidAmount, InvalidCount := CInvalidCount, SameAccount := CSameAccount, TooManyAccounts := CTooManyAccounts, TooManyOrders := CTooManyOrders, UnknownKind := CUnknownKind, OrderError := COrderError : CE }) := ⟨_, _, O_law_calendarH, PySem.W.mg_of X G a42, k42, ((fun_mk (st := s_law_calendarH) l42 c42 k42 : Fun K _ _ _ _ _).binds (ps := ["_law_h"]) (fun _ _ _ _ _ _ us hl => match us, hl with | [_], _ => rfl))⟩
  have O_law_filled := fo_law_filled (P := l.prog) (w := w) (base := base) (C := { Account := CAccount, LimitedAccount := CLimitedAccount, SavingsAccount := CSavingsAccount, Books := CBooks, Ledger := CLedger, InvalidCalendar := CInvalidCalendar, InvalidOrder := CInvalidOrder, InvalidName := CInvalidName, Overdrawn := COverdrawn, UnknownAccount := CUnknownAccount, DuplicateName := CDuplicateName, InvalidAmount := CInvalidAmount, InvalidCount := CInvalidCount, SameAccount := CSameAccount, TooManyAccounts := CTooManyAccounts, TooManyOrders := CTooManyOrders, UnknownKind := CUnknownKind, OrderError := COrderError : CE }) (fun_mk (st := s_law_filled) l43 c43 k43) B G_Ledger___init___1_day G_law_next G_Ledger_open_account G_Ledger_names G_Ledger_add_transfer G_Ledger_add_order
  have G_law_filled : DOk l.prog w K mg base CX0 "_law_filled" ["_law_h", "_law_calendar_here", "_law_moment"] 8 (sp_law_filled { Account := CAccount, LimitedAccount := CLimitedAccount, SavingsAccount := CSavingsAccount, Books := CBooks, Ledger := CLedger, InvalidCalendar := CInvalidCalendar, InvalidOrder := CInvalidOrder, InvalidName := CInvalidName, Overdrawn := COverdrawn, UnknownAccount := CUnknownAccount, DuplicateName := CDuplicateName, InvalidAmount := CInvalidAmount, InvalidCount := CInvalidCount, SameAccount := CSameAccount, TooManyAccounts := CTooManyAccounts, TooManyOrders := CTooManyOrders, UnknownKind := CUnknownKind, OrderError := COrderError : CE }) := ⟨_, _, O_law_filled, PySem.W.mg_of X G a43, k43, ((fun_mk (st := s_law_filled) l43 c43 k43 : Fun K _ _ _ _ _).binds (ps := ["_law_h", "_law_calendar_here", "_law_moment"]) (fun _ _ _ _ _ _ us hl => match us, hl with | [_, _, _], _ => rfl))⟩
  exact (fo_law (fun_mk (st := s_law) l44 c44 k44) B G_law_mix G_law_next G_law_calendarH G_law_filled G_Ledger_names G_Ledger_account G_Account_balance G_LimitedAccount_balance G_SavingsAccount_balance G_Ledger_orders G_times_dueX G_Ledger_pass_days G_law_alike G_Ledger_today G_Ledger_undo G_Ledger_total).imp (law_imp fun ns cs Q XP hl q => law_start _ ns cs Q XP hl q)
theorem all_mk2 {l : PySem.W.OpenLaw} {w : World} {K : PySem.W.Frag} {h : Heap} {mg : Str → Option Value} {fa : Addr} (X : K.In h) (G : h.Ns mainGlobals mg) (hfa : mg "law" = some (.ref fa)) (SY : HM.Says Head.fb Head.fn K) : ∃ fd : FuncData, (∀ (s : Shared) (v : Value), BindsTo s fd ⟨[v], []⟩ [("_law_script", v)]) ∧ ∀ base : Heap, K.In base → base.Ns mainGlobals mg → FnOk l.prog w K mg base CX0 9 fa fd ["_law_script"] (spLaw K) := by
  have SB0 : (Head.fb0 K).all id = true := SY.fact 0
  have SB1 : (Head.fb1 K).all id = true := SY.fact 1
  have SB2 : (Head.fb2 K).all id = true := SY.fact 2
  have SB3 : (Head.fb3 K).all id = true := SY.fact 3
  have SB4 : (Head.fb4 K).all id = true := SY.fact 4
  have SB5 : (Head.fb5 K).all id = true := SY.fact 5
  have SB6 : (Head.fb6 K).all id = true := SY.fact 6
  have SB7 : (Head.fb7 K).all id = true := SY.fact 7
  have SB8 : (Head.fb8 K).all id = true := SY.fact 8
  have SB9 : (Head.fb9 K).all id = true := SY.fact 9
  have SB10 : (Head.fb10 K).all id = true := SY.fact 10
  have SB11 : (Head.fb11 K).all id = true := SY.fact 11
  have SB12 : (Head.fb12 K).all id = true := SY.fact 12
  have SB13 : (Head.fb13 K).all id = true := SY.fact 13
  have SB14 : (Head.fb14 K).all id = true := SY.fact 14
  have SB15 : (Head.fb15 K).all id = true := SY.fact 15
  have SB16 : (Head.fb16 K).all id = true := SY.fact 16
  have SB17 : (Head.fb17 K).all id = true := SY.fact 17
  have SB18 : (Head.fb18 K).all id = true := SY.fact 18
  obtain ⟨tcvAccount_KIND, cvAccount_KIND⟩ := HM.isStrC_ok (HM.at_ SB15 0)
  obtain ⟨tcvLimitedAccount_KIND, cvLimitedAccount_KIND⟩ := HM.isStrC_ok (HM.at_ SB15 1)
  obtain ⟨tcvSavingsAccount_KIND, cvSavingsAccount_KIND⟩ := HM.isStrC_ok (HM.at_ SB15 2)
  obtain ⟨oc0, od0, sl0, kV0, dc0, pm0, an0, cd0, ct0, l0, c0⟩ := HM.fn_ok (SY.def_ 0) (HM.at_ SB15 3)
  obtain ⟨oc1, od1, sl1, kV1, dc1, pm1, an1, cd1, ct1, l1, c1⟩ := HM.fn_ok (SY.def_ 1) (HM.at_ SB15 4)
  obtain ⟨oc2, od2, sl2, kV2, dc2, pm2, an2, cd2, ct2, l2, c2⟩ := HM.fn_ok (SY.def_ 2) (HM.at_ SB15 5)
  obtain ⟨oc3, od3, sl3, kV3, dc3, pm3, an3, cd3, ct3, l3, c3⟩ := HM.fn_ok (SY.def_ 3) (HM.at_ SB15 6)
  obtain ⟨oc4, od4, sl4, kV4, dc4, pm4, an4, cd4, ct4, l4, c4⟩ := HM.fn_ok (SY.def_ 4) (HM.at_ SB15 7)
  obtain ⟨oc5, od5, sl5, kV5, dc5, pm5, an5, cd5, ct5, l5, c5⟩ := HM.fn_ok (SY.def_ 5) (HM.at_ SB15 8)
  obtain ⟨oc6, od6, sl6, kV6, dc6, pm6, an6, cd6, ct6, l6, c6⟩ := HM.fn_ok (SY.def_ 6) (HM.at_ SB15 9)
  obtain ⟨oc7, od7, sl7, kV7, dc7, pm7, an7, cd7, ct7, l7, c7⟩ := HM.fn_ok (SY.def_ 7) (HM.at_ SB15 10)
  obtain ⟨oc8, od8, sl8, kV8, dc8, pm8, an8, cd8, ct8, l8, c8⟩ := HM.fn_ok (SY.def_ 8) (HM.at_ SB15 11)
  obtain ⟨rs9, r9⟩ := HM.isRec_ok (HM.at_ SB15 12)
  obtain ⟨oc9, od9, sl9, kV9, dc9, pm9, an9, cd9, ct9, l9, c9⟩ := HM.fn_ok (SY.def_ 9) (HM.at_ SB15 13)
  obtain ⟨oc10, od10, sl10, kV10, dc10, pm10, an10, cd10, ct10, l10, c10⟩ := HM.fn_ok (SY.def_ 10) (HM.at_ SB15 14)
  obtain ⟨oc11, od11, sl11, kV11, dc11, pm11, an11, cd11, ct11, l11, c11⟩ := HM.fn_ok (SY.def_ 11) (HM.at_ SB15 15)
  obtain ⟨rs12, r12⟩ := HM.isRec_ok (HM.at_ SB15 16)
  obtain ⟨oc12, od12, sl12, kV12, dc12, pm12, an12, cd12, ct12, l12, c12⟩ := HM.fn_ok (SY.def_ 12) (HM.at_ SB15 17)
  obtain ⟨kd12, rfl, kwx12⟩ := HM.kw_ok l12 (HM.at_ SB15 18)
  obtain ⟨tk12_limit, kw12_limit⟩ := kwx12 ("limit", 0) (by simp)
  obtain ⟨tk12_balance, kw12_balance⟩ := kwx12 ("balance", 0) (by simp)
  obtain ⟨tk12_cycle, kw12_cycle⟩ := kwx12 ("cycle", 1) (by simp)
  obtain ⟨rs13, r13⟩ := HM.isRec_ok (HM.at_ SB15 19)
  obtain ⟨oc13, od13, sl13, kV13, dc13, pm13, an13, cd13, ct13, l13, c13⟩ := HM.fn_ok (SY.def_ 13) (HM.at_ SB16 0)
  obtain ⟨rs14, r14⟩ := HM.isRec_ok (HM.at_ SB16 1)
  obtain ⟨oc14, od14, sl14, kV14, dc14, pm14, an14, cd14, ct14, l14, c14⟩ := HM.fn_ok (SY.def_ 14) (HM.at_ SB16 2)
  obtain ⟨rs15, r15⟩ := HM.isRec_ok (HM.at_ SB16 3)
  obtain ⟨oc15, od15, sl15, kV15, dc15, pm15, an15, cd15, ct15, l15, c15⟩ := HM.fn_ok (SY.def_ 15) (HM.at_ SB16 4)
  obtain ⟨oc16, od16, sl16, kV16, dc16, pm16, an16, cd16, ct16, l16, c16⟩ := HM.fn_ok (SY.def_ 16) (HM.at_ SB16 5)
  obtain ⟨oc17, od17, sl17, kV17, dc17, pm17, an17, cd17, ct17, l17, c17⟩ := HM.fn_ok (SY.def_ 17) (HM.at_ SB16 6)
  obtain ⟨oc18, od18, sl18, kV18, dc18, pm18, an18, cd18, ct18, l18, c18⟩ := HM.fn_ok (SY.def_ 18) (HM.at_ SB16 7)
  obtain ⟨oc19, od19, sl19, kV19, dc19, pm19, an19, cd19, ct19, l19, c19⟩ := HM.fn_ok (SY.def_ 19) (HM.at_ SB16 8)
  obtain ⟨oc20, od20, sl20, kV20, dc20, pm20, an20, cd20, ct20, l20, c20⟩ := HM.fn_ok (SY.def_ 20) (HM.at_ SB16 9)
  obtain ⟨oc21, od21, sl21, kV21, dc21, pm21, an21, cd21, ct21, l21, c21⟩ := HM.fn_ok (SY.def_ 21) (HM.at_ SB16 10)
  obtain ⟨kd21, rfl, kwx21⟩ := HM.kw_ok l21 (HM.at_ SB16 11)
  obtain ⟨tk21_day, kw21_day⟩ := kwx21 ("day", 0) (by simp)
  obtain ⟨rs22, r22⟩ := HM.isRec_ok (HM.at_ SB16 12)
  obtain ⟨oc22, od22, sl22, kV22, dc22, pm22, an22, cd22, ct22, l22, c22⟩ := HM.fn_ok (SY.def_ 22) (HM.at_ SB16 13)
  obtain ⟨rs23, r23⟩ := HM.isRec_ok (HM.at_ SB16 14)
  obtain ⟨oc23, od23, sl23, kV23, dc23, pm23, an23, cd23, ct23, l23, c23⟩ := HM.fn_ok (SY.def_ 23) (HM.at_ SB16 15)
  obtain ⟨rs24, r24⟩ := HM.isRec_ok (HM.at_ SB16 16)
  obtain ⟨oc24, od24, sl24, kV24, dc24, pm24, an24, cd24, ct24, l24, c24⟩ := HM.fn_ok (SY.def_ 24) (HM.at_ SB16 17)
  obtain ⟨oc25, od25, sl25, kV25, dc25, pm25, an25, cd25, ct25, l25, c25⟩ := HM.fn_ok (SY.def_ 25) (HM.at_ SB16 18)
  obtain ⟨oc26, od26, sl26, kV26, dc26, pm26, an26, cd26, ct26, l26, c26⟩ := HM.fn_ok (SY.def_ 26) (HM.at_ SB16 19)
  obtain ⟨oc27, od27, sl27, kV27, dc27, pm27, an27, cd27, ct27, l27, c27⟩ := HM.fn_ok (SY.def_ 27) (HM.at_ SB17 0)
  obtain ⟨oc28, od28, sl28, kV28, dc28, pm28, an28, cd28, ct28, l28, c28⟩ := HM.fn_ok (SY.def_ 28) (HM.at_ SB17 1)
  obtain ⟨oc29, od29, sl29, kV29, dc29, pm29, an29, cd29, ct29, l29, c29⟩ := HM.fn_ok (SY.def_ 29) (HM.at_ SB17 2)
  obtain ⟨oc30, od30, sl30, kV30, dc30, pm30, an30, cd30, ct30, l30, c30⟩ := HM.fn_ok (SY.def_ 30) (HM.at_ SB17 3)
  obtain ⟨oc31, od31, sl31, kV31, dc31, pm31, an31, cd31, ct31, l31, c31⟩ := HM.fn_ok (SY.def_ 31) (HM.at_ SB17 4)
  obtain ⟨oc32, od32, sl32, kV32, dc32, pm32, an32, cd32, ct32, l32, c32⟩ := HM.fn_ok (SY.def_ 32) (HM.at_ SB17 5)
  obtain ⟨oc33, od33, sl33, kV33, dc33, pm33, an33, cd33, ct33, l33, c33⟩ := HM.fn_ok (SY.def_ 33) (HM.at_ SB17 6)
  obtain ⟨oc34, od34, sl34, kV34, dc34, pm34, an34, cd34, ct34, l34, c34⟩ := HM.fn_ok (SY.def_ 34) (HM.at_ SB17 7)
  obtain ⟨oc35, od35, sl35, kV35, dc35, pm35, an35, cd35, ct35, l35, c35⟩ := HM.fn_ok (SY.def_ 35) (HM.at_ SB17 8)
  obtain ⟨oc36, od36, sl36, kV36, dc36, pm36, an36, cd36, ct36, l36, c36⟩ := HM.fn_ok (SY.def_ 36) (HM.at_ SB17 9)
  obtain ⟨oc37, od37, sl37, kV37, dc37, pm37, an37, cd37, ct37, l37, c37⟩ := HM.fn_ok (SY.def_ 37) (HM.at_ SB17 10)
  obtain ⟨oc38, od38, sl38, kV38, dc38, pm38, an38, cd38, ct38, l38, c38⟩ := HM.fn_ok (SY.def_ 38) (HM.at_ SB17 11)
  obtain ⟨oc39, od39, sl39, kV39, dc39, pm39, an39, cd39, ct39, l39, c39⟩ := HM.fn_ok (SY.def_ 39) (HM.at_ SB17 12)
  obtain ⟨oc40, od40, sl40, kV40, dc40, pm40, an40, cd40, ct40, l40, c40⟩ := HM.fn_ok (SY.def_ 40) (HM.at_ SB17 13)
  obtain ⟨oc41, od41, sl41, kV41, dc41, pm41, an41, cd41, ct41, l41, c41⟩ := HM.fn_ok (SY.def_ 41) (HM.at_ SB17 14)
  obtain ⟨oc42, od42, sl42, kV42, dc42, pm42, an42, cd42, ct42, l42, c42⟩ := HM.fn_ok (SY.def_ 42) (HM.at_ SB17 15)
  obtain ⟨oc43, od43, sl43, kV43, dc43, pm43, an43, cd43, ct43, l43, c43⟩ := HM.fn_ok (SY.def_ 43) (HM.at_ SB17 16)
  obtain ⟨oc44, od44, sl44, kV44, dc44, pm44, an44, cd44, ct44, l44, c44⟩ := HM.fn_ok (SY.def_ 44) (HM.at_ SB17 17)
  obtain ⟨nmInvalidCalendar, qInvalidCalendar, NInvalidCalendar, bsInvalidCalendar, bmInvalidCalendar, snInvalidCalendar, subInvalidCalendar, abInvalidCalendar, colInvalidCalendar, ddInvalidCalendar, kaInvalidCalendar, kbInvalidCalendar, kdInvalidCalendar, keInvalidCalendar, kgInvalidCalendar, xlInvalidCalendar, xmInvalidCalendar⟩ := HM.ex_ok (HM.at_ SB17 18)
  obtain ⟨oc45, od45, sl45, kV45, dc45, pm45, an45, cd45, ct45, l45, c45⟩ := HM.fn_ok (SY.def_ 45) (HM.at_ SB17 19)
  obtain ⟨nmInvalidOrder, qInvalidOrder, NInvalidOrder, bsInvalidOrder, bmInvalidOrder, snInvalidOrder, subInvalidOrder, abInvalidOrder, colInvalidOrder, ddInvalidOrder, kaInvalidOrder, kbInvalidOrder, kdInvalidOrder, keInvalidOrder, kgInvalidOrder, xlInvalidOrder, xmInvalidOrder⟩ := HM.ex_ok (HM.at_ SB18 0)
  obtain ⟨oc46, od46, sl46, kV46, dc46, pm46, an46, cd46, ct46, l46, c46⟩ := HM.fn_ok (SY.def_ 46) (HM.at_ SB18 1)
  obtain ⟨nmInvalidName, qInvalidName, NInvalidName, bsInvalidName, bmInvalidName, snInvalidName, subInvalidName, abInvalidName, colInvalidName, ddInvalidName, kaInvalidName, kbInvalidName, kdInvalidName, keInvalidName, kgInvalidName, xlInvalidName, xmInvalidName⟩ := HM.ex_ok (HM.at_ SB18 2)
  obtain ⟨oc47, od47, sl47, kV47, dc47, pm47, an47, cd47, ct47, l47, c47⟩ := HM.fn_ok (SY.def_ 47) (HM.at_ SB18 3)
  obtain ⟨nmOverdrawn, qOverdrawn, NOverdrawn, bsOverdrawn, bmOverdrawn, snOverdrawn, subOverdrawn, abOverdrawn, colOverdrawn, ddOverdrawn, kaOverdrawn, kbOverdrawn, kdOverdrawn, keOverdrawn, kgOverdrawn, xlOverdrawn, xmOverdrawn⟩ := HM.ex_ok (HM.at_ SB18 4)
  obtain ⟨oc48, od48, sl48, kV48, dc48, pm48, an48, cd48, ct48, l48, c48⟩ := HM.fn_ok (SY.def_ 48) (HM.at_ SB18 5)
  obtain ⟨nmUnknownAccount, qUnknownAccount, NUnknownAccount, bsUnknownAccount, bmUnknownAccount, snUnknownAccount, subUnknownAccount, abUnknownAccount, colUnknownAccount, ddUnknownAccount, kaUnknownAccount, kbUnknownAccount, kdUnknownAccount, keUnknownAccount, kgUnknownAccount, xlUnknownAccount, xmUnknownAccount⟩ := HM.ex_ok (HM.at_ SB18 6)
  obtain ⟨oc49, od49, sl49, kV49, dc49, pm49, an49, cd49, ct49, l49, c49⟩ := HM.fn_ok (SY.def_ 49) (HM.at_ SB18 7)
  obtain ⟨nmDuplicateName, qDuplicateName, NDuplicateName, bsDuplicateName, bmDuplicateName, snDuplicateName, subDuplicateName, abDuplicateName, colDuplicateName, ddDuplicateName, kaDuplicateName, kbDuplicateName, kdDuplicateName, keDuplicateName, kgDuplicateName, xlDuplicateName, xmDuplicateName⟩ := HM.ex_ok (HM.at_ SB18 8)
  obtain ⟨oc50, od50, sl50, kV50, dc50, pm50, an50, cd50, ct50, l50, c50⟩ := HM.fn_ok (SY.def_ 50) (HM.at_ SB18 9)
  obtain ⟨t_LETTERS, y_LETTERS⟩ := HM.isStr_ok (HM.at_ SB18 10)
  obtain ⟨t_MAX_ACCOUNTS, y_MAX_ACCOUNTS⟩ := HM.isInt_ok (HM.at_ SB18 11)
  obtain ⟨t_MAX_AMOUNT, y_MAX_AMOUNT⟩ := HM.isInt_ok (HM.at_ SB18 12)
  obtain ⟨t_MAX_DAYS, y_MAX_DAYS⟩ := HM.isInt_ok (HM.at_ SB18 13)
  obtain ⟨t_MAX_LETTERS, y_MAX_LETTERS⟩ := HM.isInt_ok (HM.at_ SB18 14)
  obtain ⟨t_MAX_ORDERS_ledger, y_MAX_ORDERS_ledger⟩ := HM.isInt_ok (HM.at_ SB18 15)
  obtain ⟨t_MAX_PERIOD, y_MAX_PERIOD⟩ := HM.isInt_ok (HM.at_ SB18 16)
  obtain ⟨t_MAX_PERIODS, y_MAX_PERIODS⟩ := HM.isInt_ok (HM.at_ SB18 17)
  exact all_mk X G hfa (of_decide_eq_true (HM.at_ SB0 0)) (of_decide_eq_true (HM.at_ SB0 1)) (of_decide_eq_true (HM.at_ SB0 2)) (of_decide_eq_true (HM.at_ SB0 3)) (of_decide_eq_true (HM.at_ SB0 4)) (of_decide_eq_true (HM.at_ SB0 5)) (of_decide_eq_true (HM.at_ SB0 6)) (of_decide_eq_true (HM.at_ SB0 7)) (of_decide_eq_true (HM.at_ SB0 8)) (of_decide_eq_true (HM.at_ SB0 9)) (of_decide_eq_true (HM.at_ SB0 10)) (of_decide_eq_true (HM.at_ SB0 11)) (of_decide_eq_true (HM.at_ SB0 12)) (of_decide_eq_true (HM.at_ SB0 13)) (of_decide_eq_true (HM.at_ SB0 14)) (of_decide_eq_true (HM.at_ SB0 15)) (of_decide_eq_true (HM.at_ SB0 16)) (of_decide_eq_true (HM.at_ SB0 17)) (HM.at_ SB0 18) (HM.at_ SB0 19) (HM.at_ SB1 0) (of_decide_eq_true (HM.at_ SB1 1)) (HM.at_ SB1 2) (HM.at_ SB1 3) (HM.at_ SB1 4) (HM.at_ SB1 5) (HM.at_ SB1 6) (of_decide_eq_true (HM.at_ SB1 7)) (HM.at_ SB1 8) (HM.at_ SB1 9) (HM.at_ SB1 10) (HM.at_ SB1 11) (HM.at_ SB1 12) (of_decide_eq_true (HM.at_ SB1 13)) (HM.at_ SB1 14) (HM.at_ SB1 15) (HM.at_ SB1 16) (HM.at_ SB1 17) (HM.at_ SB1 18) (of_decide_eq_true (HM.at_ SB1 19)) (HM.at_ SB2 0) (HM.at_ SB2 1) (HM.at_ SB2 2) (HM.at_ SB2 3) (HM.at_ SB2 4) (of_decide_eq_true (HM.at_ SB2 5)) (HM.at_ SB2 6) (HM.at_ SB2 7) (of_decide_eq_true (HM.at_ SB2 8)) (of_decide_eq_true (HM.at_ SB2 9)) (of_decide_eq_true (HM.at_ SB2 10)) (of_decide_eq_true (HM.at_ SB2 11)) (of_decide_eq_true (HM.at_ SB2 12)) (of_decide_eq_true (HM.at_ SB2 13)) (of_decide_eq_true (HM.at_ SB2 14)) (of_decide_eq_true (HM.at_ SB2 15)) (of_decide_eq_true (HM.at_ SB2 16)) (of_decide_eq_true (HM.at_ SB2 17)) (of_decide_eq_true (HM.at_ SB2 18)) (of_decide_eq_true (HM.at_ SB2 19)) (of_decide_eq_true (HM.at_ SB3 0)) (of_decide_eq_true (HM.at_ SB3 1)) (of_decide_eq_true (HM.at_ SB3 2)) (of_decide_eq_true (HM.at_ SB3 3)) (of_decide_eq_true (HM.at_ SB3 4)) (of_decide_eq_true (HM.at_ SB3 5)) (of_decide_eq_true (HM.at_ SB3 6)) (of_decide_eq_true (HM.at_ SB3 7)) (HM.at_ SB3 8) (of_decide_eq_true (HM.at_ SB3 9)) (HM.at_ SB3 10) (of_decide_eq_true (HM.at_ SB3 11)) (HM.at_ SB3 12) (of_decide_eq_true (HM.at_ SB3 13)) (HM.at_ SB3 14) (of_decide_eq_true (HM.at_ SB3 15)) cvAccount_KIND cvLimitedAccount_KIND cvSavingsAccount_KIND (HM.at_ SB3 16) (HM.at_ SB3 17) (of_decide_eq_true (HM.at_ SB3 18)) (of_decide_eq_true (HM.at_ SB3 19)) (HM.at_ SB4 0) (HM.at_ SB4 1) (of_decide_eq_true (HM.at_ SB4 2)) (of_decide_eq_true (HM.at_ SB4 3)) (HM.at_ SB4 4) (HM.at_ SB4 5) (of_decide_eq_true (HM.at_ SB4 6)) (of_decide_eq_true (HM.at_ SB4 7)) (HM.at_ SB4 8) (HM.at_ SB4 9) (of_decide_eq_true (HM.at_ SB4 10)) (of_decide_eq_true (HM.at_ SB4 11)) (HM.at_ SB4 12) (HM.at_ SB4 13) (of_decide_eq_true (HM.at_ SB4 14)) (of_decide_eq_true (HM.at_ SB4 15)) (HM.at_ SB4 16) (HM.at_ SB4 17) (of_decide_eq_true (HM.at_ SB4 18)) (of_decide_eq_true (HM.at_ SB4 19)) (of_decide_eq_true (HM.at_ SB5 0)) l0 c0 (HM.at_ SB5 1) (of_decide_eq_true (HM.at_ SB5 2)) l1 c1 (HM.at_ SB5 3) (of_decide_eq_true (HM.at_ SB5 4)) l2 c2 (HM.at_ SB5 5) (of_decide_eq_true (HM.at_ SB5 6)) l3 c3 (HM.at_ SB5 7) (of_decide_eq_true (HM.at_ SB5 8)) l4 c4 (HM.at_ SB5 9) (of_decide_eq_true (HM.at_ SB5 10)) l5 c5 (HM.at_ SB5 11) (of_decide_eq_true (HM.at_ SB5 12)) l6 c6 (HM.at_ SB5 13) (of_decide_eq_true (HM.at_ SB5 14)) l7 c7 (HM.at_ SB5 15) (of_decide_eq_true (HM.at_ SB5 16)) (HM.at_ SB5 17) l8 c8 (HM.at_ SB5 18) (HM.isGet_ok (HM.at_ SB5 19)) r9 l9 c9 (HM.at_ SB6 0) (of_decide_eq_true (HM.at_ SB6 1)) (HM.at_ SB6 2) l10 c10 (HM.at_ SB6 3) (of_decide_eq_true (HM.at_ SB6 4)) (HM.at_ SB6 5) l11 c11 (HM.at_ SB6 6) (HM.isGet_ok (HM.at_ SB6 7)) r12 (HM.at_ SB6 8) l12 kw12_limit kw12_balance kw12_cycle c12 (HM.at_ SB6 9) (of_decide_eq_true (HM.at_ SB6 10)) (of_decide_eq_true (HM.at_ SB6 11)) (of_decide_eq_true (HM.at_ SB6 12)) r13 l13 c13 (HM.at_ SB6 13) (of_decide_eq_true (HM.at_ SB6 14)) (of_decide_eq_true (HM.at_ SB6 15)) (of_decide_eq_true (HM.at_ SB6 16)) r14 l14 c14 (HM.at_ SB6 17) (of_decide_eq_true (HM.at_ SB6 18)) (of_decide_eq_true (HM.at_ SB6 19)) (of_decide_eq_true (HM.at_ SB7 0)) r15 l15 c15 (HM.at_ SB7 1) (of_decide_eq_true (HM.at_ SB7 2)) (HM.at_ SB7 3) l16 c16 (HM.at_ SB7 4) (of_decide_eq_true (HM.at_ SB7 5)) (HM.at_ SB7 6) l17 c17 (HM.at_ SB7 7) (of_decide_eq_true (HM.at_ SB7 8)) (HM.at_ SB7 9) l18 c18 (HM.at_ SB7 10) (of_decide_eq_true (HM.at_ SB7 11)) (HM.at_ SB7 12) l19 c19 (HM.at_ SB7 13) (of_decide_eq_true (HM.at_ SB7 14)) l20 c20 (HM.at_ SB7 15) (of_decide_eq_true (HM.at_ SB7 16)) (HM.at_ SB7 17) l21 kw21_day c21 (HM.at_ SB7 18) (of_decide_eq_true (HM.at_ SB7 19)) (of_decide_eq_true (HM.at_ SB8 0)) (of_decide_eq_true (HM.at_ SB8 1)) r22 l22 c22 (HM.at_ SB8 2) (of_decide_eq_true (HM.at_ SB8 3)) (of_decide_eq_true (HM.at_ SB8 4)) (of_decide_eq_true (HM.at_ SB8 5)) r23 l23 c23 (HM.at_ SB8 6) (of_decide_eq_true (HM.at_ SB8 7)) (of_decide_eq_true (HM.at_ SB8 8)) (of_decide_eq_true (HM.at_ SB8 9)) r24 l24 c24 (HM.at_ SB8 10) (of_decide_eq_true (HM.at_ SB8 11)) (HM.at_ SB8 12) l25 c25 (HM.at_ SB8 13) (of_decide_eq_true (HM.at_ SB8 14)) (HM.at_ SB8 15) l26 c26 (HM.at_ SB8 16) (of_decide_eq_true (HM.at_ SB8 17)) (HM.at_ SB8 18) l27 c27 (HM.at_ SB8 19) (of_decide_eq_true (HM.at_ SB9 0)) (HM.at_ SB9 1) l28 c28 (HM.at_ SB9 2) (of_decide_eq_true (HM.at_ SB9 3)) (HM.at_ SB9 4) l29 c29 (HM.at_ SB9 5) (of_decide_eq_true (HM.at_ SB9 6)) (HM.at_ SB9 7) l30 c30 (HM.at_ SB9 8) (of_decide_eq_true (HM.at_ SB9 9)) (HM.at_ SB9 10) l31 c31 (HM.at_ SB9 11) (of_decide_eq_true (HM.at_ SB9 12)) (HM.at_ SB9 13) l32 c32 (HM.at_ SB9 14) (of_decide_eq_true (HM.at_ SB9 15)) (HM.at_ SB9 16) l33 c33 (HM.at_ SB9 17) (of_decide_eq_true (HM.at_ SB9 18)) (HM.at_ SB9 19) l34 c34 (HM.at_ SB10 0) (of_decide_eq_true (HM.at_ SB10 1)) (HM.at_ SB10 2) l35 c35 (HM.at_ SB10 3) (of_decide_eq_true (HM.at_ SB10 4)) (HM.at_ SB10 5) l36 c36 (HM.at_ SB10 6) (of_decide_eq_true (HM.at_ SB10 7)) (HM.at_ SB10 8) l37 c37 (HM.at_ SB10 9) (of_decide_eq_true (HM.at_ SB10 10)) (HM.at_ SB10 11) l38 c38 (HM.at_ SB10 12) (of_decide_eq_true (HM.at_ SB10 13)) l39 c39 (HM.at_ SB10 14) (of_decide_eq_true (HM.at_ SB10 15)) l40 c40 (HM.at_ SB10 16) (of_decide_eq_true (HM.at_ SB10 17)) l41 c41 (HM.at_ SB10 18) (of_decide_eq_true (HM.at_ SB10 19)) l42 c42 (HM.at_ SB11 0) (of_decide_eq_true (HM.at_ SB11 1)) l43 c43 (HM.at_ SB11 2) (of_decide_eq_true (HM.at_ SB11 3)) l44 c44 (HM.at_ SB11 4) (of_decide_eq_true (HM.at_ SB11 5)) (of_decide_eq_true (HM.at_ SB11 6)) (of_decide_eq_true (HM.at_ SB11 7)) (of_decide_eq_true (HM.at_ SB11 8)) (of_decide_eq_true (HM.at_ SB11 9)) (of_decide_eq_true (HM.at_ SB11 10)) xlInvalidCalendar xmInvalidCalendar (of_decide_eq_true (HM.at_ SB11 11)) (of_decide_eq_true (HM.at_ SB11 12)) (of_decide_eq_true (HM.at_ SB11 13)) (HM.at_ SB11 14) (of_decide_eq_true (HM.at_ SB11 15)) (of_decide_eq_true (HM.at_ SB11 16)) (of_decide_eq_true (HM.at_ SB11 17)) l45 c45 (HM.at_ SB11 18) xlInvalidOrder xmInvalidOrder (of_decide_eq_true (HM.at_ SB11 19)) (of_decide_eq_true (HM.at_ SB12 0)) (of_decide_eq_true (HM.at_ SB12 1)) (HM.at_ SB12 2) (of_decide_eq_true (HM.at_ SB12 3)) (of_decide_eq_true (HM.at_ SB12 4)) (of_decide_eq_true (HM.at_ SB12 5)) l46 c46 (HM.at_ SB12 6) xlInvalidName xmInvalidName (of_decide_eq_true (HM.at_ SB12 7)) (of_decide_eq_true (HM.at_ SB12 8)) (of_decide_eq_true (HM.at_ SB12 9)) (HM.at_ SB12 10) (of_decide_eq_true (HM.at_ SB12 11)) (of_decide_eq_true (HM.at_ SB12 12)) (of_decide_eq_true (HM.at_ SB12 13)) l47 c47 (HM.at_ SB12 14) xlOverdrawn xmOverdrawn (of_decide_eq_true (HM.at_ SB12 15)) (of_decide_eq_true (HM.at_ SB12 16)) (of_decide_eq_true (HM.at_ SB12 17)) (HM.at_ SB12 18) (of_decide_eq_true (HM.at_ SB12 19)) (of_decide_eq_true (HM.at_ SB13 0)) (of_decide_eq_true (HM.at_ SB13 1)) (of_decide_eq_true (HM.at_ SB13 2)) l48 c48 (HM.at_ SB13 3) xlUnknownAccount xmUnknownAccount (of_decide_eq_true (HM.at_ SB13 4)) (of_decide_eq_true (HM.at_ SB13 5)) (of_decide_eq_true (HM.at_ SB13 6)) (HM.at_ SB13 7) (of_decide_eq_true (HM.at_ SB13 8)) (of_decide_eq_true (HM.at_ SB13 9)) (of_decide_eq_true (HM.at_ SB13 10)) l49 c49 (HM.at_ SB13 11) xlDuplicateName xmDuplicateName (of_decide_eq_true (HM.at_ SB13 12)) (of_decide_eq_true (HM.at_ SB13 13)) (of_decide_eq_true (HM.at_ SB13 14)) (HM.at_ SB13 15) (of_decide_eq_true (HM.at_ SB13 16)) (of_decide_eq_true (HM.at_ SB13 17)) (of_decide_eq_true (HM.at_ SB13 18)) l50 c50 (HM.at_ SB13 19) (HM.isBC_ok (HM.at_ SB14 0)) (of_decide_eq_true (HM.at_ SB14 1)) (of_decide_eq_true (HM.at_ SB14 2)) (of_decide_eq_true (HM.at_ SB14 3)) (of_decide_eq_true (HM.at_ SB14 4)) (of_decide_eq_true (HM.at_ SB14 5)) (of_decide_eq_true (HM.at_ SB14 6)) (of_decide_eq_true (HM.at_ SB14 7)) (of_decide_eq_true (HM.at_ SB14 8)) (of_decide_eq_true (HM.at_ SB14 9)) (of_decide_eq_true (HM.at_ SB14 10)) (of_decide_eq_true (HM.at_ SB14 11)) (of_decide_eq_true (HM.at_ SB14 12)) (of_decide_eq_true (HM.at_ SB14 13)) (of_decide_eq_true (HM.at_ SB14 14)) (of_decide_eq_true (HM.at_ SB14 15)) y_LETTERS y_MAX_ACCOUNTS y_MAX_AMOUNT y_MAX_DAYS y_MAX_LETTERS y_MAX_ORDERS_ledger y_MAX_PERIOD y_MAX_PERIODS (HM.at_ SB14 16) (HM.at_ SB14 17) (HM.at_ SB14 18) (HM.at_ SB14 19)
end Law
open PySem PySem.W PyProof.Rows
set_option maxRecDepth 100000 in
set_option maxHeartbeats 0 in
theorem PySem.Challenge.cw_standingorders_k44_whole_days_add_up_holds : PySem.Challenge.rw_standingorders_k44_whole_days_add_up.Holds := by
  w_on; o_law
  refine HandSHeadRun.head_any (r := Head.R) (q := PySem.W.view Head.R.prog Head.places) (H := HM.hook Head.fb Head.fn) (ob := HM.ob Head.fb Head.fn) (M := 20000) (loose := Head.names) (d := HandSHeadRun.topDef Head.R.prog 75) (kwd := []) HM.ob_eq
    (by kernel_rfl) (fun s => by kernel_rfl) Head.run (by kernel_rfl) (by kernel_rfl) (by kernel_rfl) (by rfl) (by first | assumption | decide +kernel) (by decide +kernel) ⟨rfl, rfl, rfl, rfl, rfl, by decide +kernel⟩ ?hw ?hc
  case hw => w_witness2
  case hc =>
    refine L2.walk_ofE (l := PySem.Challenge.rw_standingorders_k44_whole_days_add_up) (n := 63) (k := 9) (x := "_law_script") (CX := L2.CX0) rfl (by decide) (by kernel_rfl) ⟨rfl, by decide, by decide⟩ ?F (fun _ _ _ _ z => z)
    intro w mg fa h Y G hmg0
    obtain ⟨K, KX, SY⟩ := Y
    have hmg : mg ("law" : PySem.Str) = some (.ref fa) := by
      have e : (HandSHeadRun.topDef Head.R.prog 75).name = ("law" : PySem.Str) := by kernel_rfl
      rw [← e]
      exact hmg0
    obtain ⟨fd, hb, hF⟩ := Law.all_mk2 (l := PySem.Challenge.rw_standingorders_k44_whole_days_add_up) (w := w) KX G hmg SY
    exact ⟨K, fd, DL.spLaw K, KX, hb, fun H a ns hl _ hS => ⟨a, ns, rfl, hS, hl, fun _ => rfl⟩, hF⟩
