import PyProof.Rows.All
import Wide.All
import OpenK.AllK
import Wide.FinOn
import HandS.ForMost
import HandS.IsInst
import HandS.Wide
import HandS.Flow
import HandS.Walk
import HandS.Lambda
import KE.GoesMore
import KE.GoesEnum
import KE.SortData
import HandS.Style
import HandS.TupAny
import HandS.TupSets
import HandS.GenList
import HandS.Dict
import HandS.Iter
import HandS.Sort
import HandS.SortInts
import PyProof.MinMaxWalk
import PyProof.WalkInts
import PyProof.AutoSeq1
import HandS.More
import HandS.Conv
import KE.KDictSum
import HandS.JoinGen
import PyProof.SumWalkG
import HandS.EndOwn
import KE.KNestM
import PySem.Challenge.RW_standingorders_k03_balances_day_by_day
set_option Elab.async false
set_option linter.all false
set_option maxRecDepth 100000
set_option maxHeartbeats 4000000
/-! The data layer: a def's body read over plain data; mutable objects are cells. -/
namespace DL
open PySem L2
abbrev Frag := PySem.W.Frag
/-- what a Python value is worth, whatever its addresses -/
inductive Dat where
  | non
  | bl (b : Bool)
  | int (i : Int)
  | str (x : Str)
  | lst (xs : List Dat)
  | tup (xs : List Dat)
  | obj (C : Addr) (fs : List (Str × Dat))
mutual
inductive Dr (K : Frag) (M : Hp) : V → Dat → Prop
  | non : Dr K M .non .non
  | bl (b : Bool) : Dr K M (.bl b) (.bl b)
  | int (i : Int) : Dr K M (.int i) (.int i)
  | str (x : Str) : Dr K M (.str x) (.str x)
  | lst {a : Addr} {xs : List V} {ds : List Dat} : SqL K M a xs → DrAll K M xs ds → Dr K M (.ref a) (.lst ds)
  | tup {a : Addr} {xs : List V} {ds : List Dat} : SqT K M a xs → DrAll K M xs ds → Dr K M (.ref a) (.tup ds)
  | obj {a C dx : Addr} {fs : List (Str × V)} {ds : List (Str × Dat)} : M a = some (.ins C dx fs) → DrF K M fs ds → Dr K M (.ref a) (.obj C ds)
inductive DrAll (K : Frag) (M : Hp) : List V → List Dat → Prop
  | nil : DrAll K M [] []
  | cons {v : V} {vs : List V} {d : Dat} {ds : List Dat} : Dr K M v d → DrAll K M vs ds → DrAll K M (v :: vs) (d :: ds)
inductive DrF (K : Frag) (M : Hp) : List (Str × V) → List (Str × Dat) → Prop
  | nil : DrF K M [] []
  | cons {f : Str} {v : V} {vs : List (Str × V)} {d : Dat} {ds : List (Str × Dat)} : Dr K M v d → DrF K M vs ds → DrF K M ((f, v) :: vs) ((f, d) :: ds)
end
theorem sqL_mono {K : Frag} {M M' : Hp} (s : Same M M') {a : Addr} {xs : List V} (h : SqL K M a xs) : SqL K M' a xs := s.seq h
theorem sqT_mono {K : Frag} {M M' : Hp} (s : Same M M') {a : Addr} {xs : List V} (h : SqT K M a xs) : SqT K M' a xs := by
  rcases h with (h | ⟨o, h⟩) | h
  · exact .inl (.inl (s _ _ h))
  · exact .inl (.inr ⟨o, s _ _ h⟩)
  · exact .inr h
section
variable {K : Frag} {M M' : Hp}
mutual
theorem Dr.mono (s : Same M M') : ∀ {v : V} {d : Dat}, Dr K M v d → Dr K M' v d
  | _, _, .non => .non
  | _, _, .bl b => .bl b
  | _, _, .int i => .int i
  | _, _, .str x => .str x
  | _, _, .lst h k => .lst (sqL_mono s h) (DrAll.mono s k)
  | _, _, .tup h k => .tup (sqT_mono s h) (DrAll.mono s k)
  | _, _, .obj h k => .obj (s _ _ h) (DrF.mono s k)
theorem DrAll.mono (s : Same M M') : ∀ {v : List V} {d : List Dat}, DrAll K M v d → DrAll K M' v d
  | _, _, .nil => .nil
  | _, _, .cons h k => .cons (Dr.mono s h) (DrAll.mono s k)
theorem DrF.mono (s : Same M M') : ∀ {v : List (Str × V)} {d : List (Str × Dat)}, DrF K M v d → DrF K M' v d
  | _, _, .nil => .nil
  | _, _, .cons h k => .cons (Dr.mono s h) (DrF.mono s k)
end
theorem DrAll.length : ∀ {vs : List V} {ds : List Dat}, DrAll K M vs ds → vs.length = ds.length
  | _, _, .nil => rfl
  | _, _, .cons _ k => congrArg Nat.succ k.length
theorem DrAll.get : ∀ {vs : List V} {ds : List Dat} {i : Nat} {d : Dat}, DrAll K M vs ds → ds[i]? = some d → ∃ v, vs[i]? = some v ∧ Dr K M v d
  | _, _, 0, _, .cons h _, e => by cases e; exact ⟨_, rfl, h⟩
  | _, _, n + 1, _, .cons _ k, e => k.get (i := n) e
  | _, _, _, _, .nil, e => by cases e
theorem DrAll.getV : ∀ {vs : List V} {ds : List Dat} {i : Nat} {v : V}, DrAll K M vs ds → vs[i]? = some v → ∃ d, ds[i]? = some d ∧ Dr K M v d
  | _, _, 0, _, .cons h _, e => by cases e; exact ⟨_, rfl, h⟩
  | _, _, n + 1, _, .cons _ k, e => k.getV (i := n) e
  | _, _, _, _, .nil, e => by cases e
end
/-- a value at hand: plain data, or the value itself (a cell's address, a class ..) -/
inductive Vl where
  | dat (d : Dat)
  | raw (v : V)
abbrev Vl.cell (a : Addr) : Vl := .raw (.ref a)
abbrev Vl.int (i : Int) : Vl := .dat (.int i)
abbrev Vl.bl (b : Bool) : Vl := .dat (.bl b)
abbrev Vl.non : Vl := .dat .non
def RV (K : Frag) (M : Hp) (v : V) : Vl → Prop
  | .dat d => Dr K M v d
  | .raw u => v = u
theorem RV.mono {K : Frag} {M M' : Hp} (s : Same M M') {v : V} {x : Vl} (h : RV K M v x) : RV K M' v x := by
  cases x with
  | dat d => exact Dr.mono s h
  | raw u => exact h
/-- what a mutable object holds -/
inductive CO where
  | lst (xs : List Vl)
  | dk (kvs : List (Key × Vl))
  | dt (kvs : List (List Key × Vl))
  | ins (C : Addr) (fs : List (Str × Vl))
  | lk (o : Obj) (u : HO) (kvs : List (Key × Vl))
  | tg
  | tl (q : Str)
abbrev Cells := Addr → Option CO
def Cells.put (cs : Cells) (a : Addr) (c : CO) : Cells := fun b => if b = a then some c else cs b
def Cells.del (cs : Cells) (a : Addr) : Cells := fun b => if b = a then none else cs b
theorem Cells.put_same {cs : Cells} {a : Addr} {c : CO} : cs.put a c a = some c := by simp [Cells.put]
theorem Cells.put_ne {cs : Cells} {a b : Addr} {c : CO} (h : b ≠ a) : cs.put a c b = cs b := by simp [Cells.put, h]
theorem Cells.put_put {cs : Cells} {a : Addr} {c c' : CO} : (cs.put a c).put a c' = cs.put a c' := by
  funext b; simp only [Cells.put]; split <;> rfl
theorem Cells.del_put {cs : Cells} {a : Addr} {c : CO} (h : cs a = none) : (cs.put a c).del a = cs := by
  funext b; simp only [Cells.put, Cells.del]; split
  · rename_i e; rw [e, h]
  · rfl
theorem Cells.put_comm {cs : Cells} {a b : Addr} {c d : CO} (h : a ≠ b) : (cs.put a c).put b d = (cs.put b d).put a c := by
  funext x; simp only [Cells.put]
  by_cases e : x = a
  · subst e; simp [h]
  · by_cases e2 : x = b
    · subst e2; simp [e]
    · simp [e, e2]
theorem Cells.put_self {cs : Cells} {a : Addr} {c : CO} (h : cs a = some c) : cs.put a c = cs := by
  funext b; simp only [Cells.put]; split
  · rename_i e; rw [e, h]
  · rfl
def LkRep (K : Frag) (M : Hp) (ys : List (Key × Vl)) : HO → Prop
  | .dK xs => Paired (fun (p : Key × V) (q : Key × Vl) => p.1 = q.1 ∧ RV K M p.2 q.2) xs ys
  | _ => False
def CRep (K : Frag) (M : Hp) (a : Addr) : HO → CO → Prop
  | .lst xs, .lst ys => Paired (RV K M) xs ys
  | .dK xs, .dk ys => Paired (fun (p : Key × V) (q : Key × Vl) => p.1 = q.1 ∧ RV K M p.2 q.2) xs ys
  | .dT xs, .dt ys => Paired (fun (p : List Key × V) (q : List Key × Vl) => p.1 = q.1 ∧ RV K M p.2 q.2) xs ys
  | .frz o u, .lk o' u' ys => o = o' ∧ u = u' ∧ LkRep K M ys u
  | .tbl ps, .tg => TriplesOk ps.toList
  | .tbl ps, .tl q => TriplesOk ps.toList ∧ ∀ (pos : Pos) (cv : Value), codeAmong pos ps.toList = some cv → ∃ c, cv = .ref c ∧ M c = some (LamX.CodeO c q)
  | .ins C dx fs, .ins C' gs => C = C' ∧ Paired (fun (p : Str × V) (q : Str × Vl) => p.1 = q.1 ∧ RV K M p.2 q.2) fs gs
  | _, _ => False
theorem paired_mono {α β : Type} {R R' : α → β → Prop} (h : ∀ a b, R a b → R' a b) : ∀ {xs : List α} {ys : List β}, Paired R xs ys → Paired R' xs ys
  | _, _, .nil => .nil
  | _, _, .cons a k => .cons (h _ _ a) (paired_mono h k)
theorem CRep.mono {K : Frag} {M M' : Hp} {a : Addr} (s : Same M M') : ∀ {o : HO} {c : CO}, CRep K M a o c → CRep K M' a o c := by
  intro o c h
  cases o <;> cases c <;> try exact h.elim
  · exact paired_mono (fun _ _ q => q.mono s) h
  · exact paired_mono (fun _ _ q => ⟨q.1, q.2.mono s⟩) h
  · exact paired_mono (fun _ _ q => ⟨q.1, q.2.mono s⟩) h
  · exact ⟨h.1, paired_mono (fun _ _ q => ⟨q.1, q.2.mono s⟩) h.2⟩
  · rename_i u _ _ _
    refine ⟨h.1, h.2.1, ?_⟩
    have h2 := h.2.2
    cases u <;> first | exact (show False from h2).elim | exact paired_mono (fun _ _ q => ⟨q.1, q.2.mono s⟩) h2
  · exact h
  · exact ⟨h.1, fun pos cv hc => let ⟨c, e, q⟩ := h.2 pos cv hc; ⟨c, e, s _ _ q⟩⟩
/-- M: what never changes; cs: the cells -/
structure Ok (K : Frag) (M H : Hp) (cs : Cells) : Prop where
  ex : Same M H
  cell : ∀ a c, cs a = some c → M a = none ∧ ∃ o, H a = some o ∧ CRep K M a o c
abbrev DEnv := List (Option Vl)
structure Rho (K : Frag) (M : Hp) (σ : St) (ρ : DEnv) : Prop where
  len : σ.length = ρ.length
  at_ : ∀ (i : Nat) (x : Vl), ρ[i]? = some (some x) → ∃ v, σ[i]? = some (some v) ∧ RV K M v x
theorem Rho.mono {K : Frag} {M M' : Hp} {σ : St} {ρ : DEnv} (s : Same M M') (h : Rho K M σ ρ) : Rho K M' σ ρ :=
  ⟨h.len, fun i x e => let ⟨v, q, r⟩ := h.at_ i x e; ⟨v, q, r.mono s⟩⟩
theorem Rho.set {K : Frag} {M : Hp} {σ : St} {ρ : DEnv} (h : Rho K M σ ρ) {i : Nat} {v : V} {x : Vl} (r : RV K M v x) : Rho K M (σ.set i (some v)) (ρ.set i (some x)) := by
  refine ⟨by rw [List.length_set, List.length_set, h.len], fun j y e => ?_⟩
  by_cases hj : i = j
  · subst hj
    by_cases hl : i < ρ.length
    · rw [List.getElem?_set_self hl] at e
      cases e
      exact ⟨v, by rw [List.getElem?_set_self (by rw [h.len]; exact hl)], r⟩
    · rw [List.getElem?_eq_none (by rw [List.length_set]; omega)] at e
      cases e
  · rw [List.getElem?_set_ne hj] at e
    obtain ⟨u, q, s⟩ := h.at_ j y e
    exact ⟨u, by rw [List.getElem?_set_ne hj]; exact q, s⟩
/-- the continuation at the level of data is one at the level of heaps -/
def Kont (K : Frag) (M : Hp) (P : Vl → Cells → Prop) (Q : VK) : Prop := ∀ v x M' H' cs', Same M M' → Ok K M' H' cs' → RV K M' v x → P x cs' → Q v H'
theorem Kont.mono {K : Frag} {M M' : Hp} {P : Vl → Cells → Prop} {Q : VK} (s : Same M M') (k : Kont K M P Q) : Kont K M' P Q := fun v x M2 H2 cs2 s2 o r p => k v x M2 H2 cs2 (s.trans s2) o r p
def KontT (K : Frag) (M : Hp) (P : Bool → Cells → Prop) (Q : Bool → Hp → Prop) : Prop := ∀ b M' H' cs', Same M M' → Ok K M' H' cs' → P b cs' → Q b H'
def KontA (K : Frag) (M : Hp) (P : List Vl → Cells → Prop) (Q : List V → Hp → Prop) : Prop := ∀ vs xs M' H' cs', Same M M' → Ok K M' H' cs' → Paired (RV K M') vs xs → P xs cs' → Q vs H'
def KontS (K : Frag) (M : Hp) (P : DEnv → Cells → Prop) (Q : St → Hp → Prop) : Prop := ∀ σ' ρ' M' H' cs', Same M M' → Ok K M' H' cs' → Rho K M' σ' ρ' → P ρ' cs' → Q σ' H'
theorem KontT.mono {K : Frag} {M M' : Hp} {P : Bool → Cells → Prop} {Q : Bool → Hp → Prop} (s : Same M M') (k : KontT K M P Q) : KontT K M' P Q := fun b M2 H2 cs2 s2 o p => k b M2 H2 cs2 (s.trans s2) o p
theorem KontA.mono {K : Frag} {M M' : Hp} {P : List Vl → Cells → Prop} {Q : List V → Hp → Prop} (s : Same M M') (k : KontA K M P Q) : KontA K M' P Q := fun v x M2 H2 cs2 s2 o r p => k v x M2 H2 cs2 (s.trans s2) o r p
theorem KontS.mono {K : Frag} {M M' : Hp} {P : DEnv → Cells → Prop} {Q : St → Hp → Prop} (s : Same M M') (k : KontS K M P Q) : KontS K M' P Q := fun v x M2 H2 cs2 s2 o r p => k v x M2 H2 cs2 (s.trans s2) o r p
abbrev WE := DEnv → Cells → (Vl → Cells → Prop) → Prop
abbrev WT := DEnv → Cells → (Bool → Cells → Prop) → Prop
abbrev WA := DEnv → Cells → (List Vl → Cells → Prop) → Prop
structure DEnds where
  nx : DEnv → Cells → Prop
  rt : Vl → Cells → Prop
  bk : DEnv → Cells → Prop := fun _ _ => False
  ct : DEnv → Cells → Prop := fun _ _ => False
abbrev WS := DEnds → DEnv → Cells → Prop
structure EndsOk (K : Frag) (M : Hp) (D : DEnds) (E : Ends) : Prop where
  nx : KontS K M D.nx E.nx
  rt : Kont K M D.rt E.rt
  bk : KontS K M D.bk E.bk
  ct : KontS K M D.ct E.ct
theorem EndsOk.mono {K : Frag} {M M' : Hp} {D : DEnds} {E : Ends} (s : Same M M') (k : EndsOk K M D E) : EndsOk K M' D E := ⟨k.nx.mono s, k.rt.mono s, k.bk.mono s, k.ct.mono s⟩
def lift (K : Frag) (w : WE) : TE := fun σ H Q => ∃ M ρ cs P, Ok K M H cs ∧ Rho K M σ ρ ∧ w ρ cs P ∧ Kont K M P Q
def liftT (K : Frag) (w : WT) : TT := fun σ H Q => ∃ M ρ cs P, Ok K M H cs ∧ Rho K M σ ρ ∧ w ρ cs P ∧ KontT K M P Q
def liftA (K : Frag) (w : WA) : TA := fun σ H Q => ∃ M ρ cs P, Ok K M H cs ∧ Rho K M σ ρ ∧ w ρ cs P ∧ KontA K M P Q
def liftS (K : Frag) (w : WS) : TS := fun E σ H => ∃ M ρ cs D, Ok K M H cs ∧ Rho K M σ ρ ∧ w D ρ cs ∧ EndsOk K M D E
def DE (X : Cx) (e : Expr) (w : WE) : Prop := PE X e (lift X.K w)
def DT (X : Cx) (e : Expr) (w : WT) : Prop := PT X e (liftT X.K w)
def DW (X : Cx) (e : Expr) (w : WT) : Prop := PW X e (liftT X.K w)
def DA (X : Cx) (es : List Expr) (w : WA) : Prop := PA X es (liftA X.K w)
def DS (X : Cx) (st : Stmt) (w : WS) : Prop := PS X st (liftS X.K w)
def DSs (X : Cx) (st : List Stmt) (w : WS) : Prop := PSs X st (liftS X.K w)
section
variable {X : Cx}
theorem pe_imp {e : Expr} {t t' : TE} (h : PE X e t) (m : ∀ σ H Q, t' σ H Q → t σ H Q) : PE X e t' := ⟨fun pins s σ H Q I q => h.run pins s σ H Q I (m σ H Q q)⟩
theorem pt_imp {e : Expr} {t t' : TT} (h : PT X e t) (m : ∀ σ H Q, t' σ H Q → t σ H Q) : PT X e t' := ⟨fun pins s σ H Q I q => h.run pins s σ H Q I (m σ H Q q)⟩
theorem pw_imp {e : Expr} {t t' : TT} (h : PW X e t) (m : ∀ σ H Q, t' σ H Q → t σ H Q) : PW X e t' := ⟨fun w pins s σ H Q I q => h.run w pins s σ H Q I (m σ H Q q)⟩
theorem pa_imp {e : List Expr} {t t' : TA} (h : PA X e t) (m : ∀ σ H Q, t' σ H Q → t σ H Q) : PA X e t' := ⟨fun pos pins s σ H Q I q => h.run pos pins s σ H Q I (m σ H Q q)⟩
theorem ps_imp {e : Stmt} {t t' : TS} (h : PS X e t) (m : ∀ D σ H, t' D σ H → t D σ H) : PS X e t' := ⟨fun pins s σ H D I q => h.run pins s σ H D I (m D σ H q)⟩
theorem pss_imp {e : List Stmt} {t t' : TS} (h : PSs X e t) (m : ∀ D σ H, t' D σ H → t D σ H) : PSs X e t' := ⟨fun pins s σ H D I q => h.run pins s σ H D I (m D σ H q)⟩
end
end DL
set_option maxRecDepth 100000
set_option maxHeartbeats 4000000
namespace DL
open PySem L2
/-! ### heaps -/
section
variable {K : Frag} {M H : Hp} {cs : Cells}
theorem Ok.free (o : Ok K M H cs) {p : Addr} (h : H p = none) : M p = none := o.ex.free h
theorem Ok.freeC (o : Ok K M H cs) {p : Addr} (h : H p = none) : cs p = none := by
  cases e : cs p with
  | none => rfl
  | some c =>
    obtain ⟨_, u, q, _⟩ := o.cell p c e
    rw [q] at h; cases h
theorem same_upd {p : Addr} {u : HO} (h : M p = none) : Same M (upd M p u) := fun b o e => by
  rw [upd_ne (ne_of_none e h)]; exact e
/-- a new object that will never change -/
theorem Ok.newM (o : Ok K M H cs) {p : Addr} (h : H p = none) (u : HO) : Same M (upd M p u) ∧ Ok K (upd M p u) (upd H p u) cs := by
  have s := same_upd (M := M) (u := u) (o.free h)
  refine ⟨s, fun b ob e => ?_, fun a c e => ?_⟩
  · by_cases hb : b = p
    · rw [hb] at e ⊢; rw [upd_same] at e ⊢; exact e
    · rw [upd_ne hb] at e ⊢; exact o.ex b ob e
  · obtain ⟨m, ob, q, r⟩ := o.cell a c e
    have na : a ≠ p := ne_of_none q h
    exact ⟨by rw [upd_ne na]; exact m, ob, by rw [upd_ne na]; exact q, r.mono s⟩
/-- a new cell -/
theorem Ok.newC (o : Ok K M H cs) {p : Addr} (h : H p = none) {u : HO} {c : CO} (r : CRep K M p u c) : Ok K M (upd H p u) (cs.put p c) := by
  refine ⟨fun b ob e => ?_, fun a c' e => ?_⟩
  · rw [upd_ne (ne_of_none (o.ex b ob e) h)]; exact o.ex b ob e
  · by_cases ha : a = p
    · subst ha
      rw [Cells.put_same] at e; cases e
      exact ⟨o.free h, u, upd_same, r⟩
    · rw [Cells.put_ne ha] at e
      obtain ⟨m, ob, q, z⟩ := o.cell a c' e
      exact ⟨m, ob, by rw [upd_ne ha]; exact q, z⟩
/-- a cell is changed -/
theorem Ok.setC (o : Ok K M H cs) {p : Addr} {c0 : CO} (h : cs p = some c0) {u : HO} {c : CO} (r : CRep K M p u c) : Ok K M (upd H p u) (cs.put p c) := by
  obtain ⟨m0, _⟩ := o.cell p c0 h
  refine ⟨fun b ob e => ?_, fun a c' e => ?_⟩
  · rw [upd_ne (ne_of_none e m0)]; exact o.ex b ob e
  · by_cases ha : a = p
    · subst ha
      rw [Cells.put_same] at e; cases e
      exact ⟨m0, u, upd_same, r⟩
    · rw [Cells.put_ne ha] at e
      obtain ⟨m, ob, q, z⟩ := o.cell a c' e
      exact ⟨m, ob, by rw [upd_ne ha]; exact q, z⟩
theorem Ok.sub (o : Ok K M H cs) {cs' : Cells} (h : ∀ a c, cs' a = some c → cs a = some c) : Ok K M H cs' := ⟨o.ex, fun a c e => o.cell a c (h a c e)⟩
theorem Ok.seqL (o : Ok K M H cs) {a : Addr} {xs : List V} (h : SqL K M a xs) : SqL K H a xs := sqL_mono o.ex h
theorem Ok.seqT (o : Ok K M H cs) {a : Addr} {xs : List V} (h : SqT K M a xs) : SqT K H a xs := sqT_mono o.ex h
theorem DrAll.paired : ∀ {vs : List V} {ds : List Dat}, DrAll K M vs ds → Paired (RV K M) vs (ds.map .dat)
  | _, _, .nil => .nil
  | _, _, .cons h k => .cons h k.paired
theorem DrAll.of_paired : ∀ {vs : List V} {ds : List Dat}, Paired (RV K M) vs (ds.map .dat) → DrAll K M vs ds
  | [], [], .nil => .nil
  | _ :: _, _ :: _, .cons h k => .cons h (DrAll.of_paired k)
theorem Paired.len {α β : Type} {R : α → β → Prop} : ∀ {xs : List α} {ys : List β}, Paired R xs ys → xs.length = ys.length
  | _, _, .nil => rfl
  | _, _, .cons _ k => congrArg Nat.succ (Paired.len k)
theorem Paired.getR {α β : Type} {R : α → β → Prop} : ∀ {xs : List α} {ys : List β} {i : Nat} {y : β}, Paired R xs ys → ys[i]? = some y → ∃ x, xs[i]? = some x ∧ R x y
  | _, _, 0, _, .cons h _, e => by cases e; exact ⟨_, rfl, h⟩
  | _, _, n + 1, _, .cons _ k, e => Paired.getR (i := n) k e
  | _, _, _, _, .nil, e => by cases e
theorem Paired.getL {α β : Type} {R : α → β → Prop} : ∀ {xs : List α} {ys : List β} {i : Nat} {x : α}, Paired R xs ys → xs[i]? = some x → ∃ y, ys[i]? = some y ∧ R x y
  | _, _, 0, _, .cons h _, e => by cases e; exact ⟨_, rfl, h⟩
  | _, _, n + 1, _, .cons _ k, e => Paired.getL (i := n) k e
  | _, _, _, _, .nil, e => by cases e
theorem Paired.app {α β : Type} {R : α → β → Prop} : ∀ {xs : List α} {ys : List β} {xs' : List α} {ys' : List β}, Paired R xs ys → Paired R xs' ys' → Paired R (xs ++ xs') (ys ++ ys')
  | _, _, _, _, .nil, k => k
  | _, _, _, _, .cons h t, k => .cons h (Paired.app t k)
theorem Paired.set {α β : Type} {R : α → β → Prop} : ∀ {xs : List α} {ys : List β} {i : Nat} {x : α} {y : β}, Paired R xs ys → R x y → Paired R (xs.set i x) (ys.set i y)
  | _, _, 0, _, _, .cons _ k, r => .cons r k
  | _, _, n + 1, _, _, .cons h k, r => .cons h (Paired.set (i := n) k r)
  | _, _, _, _, _, .nil, _ => .nil
end
/-! ### the values that a sequence holds: list (true) or tuple (false) -/
def coSeq : Option CO → Option (Bool × List Vl)
  | some (.lst xs) => some (true, xs)
  | _ => none
def seqD (cs : Cells) : Vl → Option (Bool × List Vl)
  | .dat (.lst ds) => some (true, ds.map .dat)
  | .dat (.tup ds) => some (false, ds.map .dat)
  | .raw (.ref a) => coSeq (cs a)
  | _ => none
theorem rv_dat {K : Frag} {M : Hp} {v : V} {d : Dat} (h : Dr K M v d) : RV K M v (.dat d) := h
theorem rv_raw {K : Frag} {M : Hp} {v : V} : RV K M v (.raw v) := rfl
section
variable {K : Frag} {M H : Hp} {cs : Cells} {v : V} {x : Vl} {xs : List Vl}
theorem seqD_list (o : Ok K M H cs) (r : RV K M v x) (h : seqD cs x = some (true, xs)) : ∃ a vs, v = .ref a ∧ SqL K H a vs ∧ Paired (RV K M) vs xs := by
  match x, r, h with
  | .dat (.lst ds), r, h =>
    cases h
    cases (show Dr K M v (.lst ds) from r) with
    | lst q k => exact ⟨_, _, rfl, o.seqL q, k.paired⟩
  | .dat (.tup ds), r, h => exact nomatch (show some (false, _) = some (true, _) from h)
  | .raw (.ref a), r, h =>
    cases (show v = .ref a from r)
    have h : coSeq (cs a) = some _ := h
    cases e : cs a with
    | none => rw [e] at h; cases h
    | some c =>
      rw [e] at h
      cases c with
      | lst ys =>
        cases h
        obtain ⟨_, u, q, z⟩ := o.cell a _ e
        cases u <;> try exact (show False from z).elim
        exact ⟨a, _, rfl, .inl (.inl q), z⟩
      | _ => cases h
theorem seqD_tup (o : Ok K M H cs) (r : RV K M v x) (h : seqD cs x = some (false, xs)) : ∃ a vs, v = .ref a ∧ SqT K H a vs ∧ Paired (RV K M) vs xs := by
  match x, r, h with
  | .dat (.lst ds), r, h => exact nomatch (show some (true, _) = some (false, _) from h)
  | .dat (.tup ds), r, h =>
    cases h
    cases (show Dr K M v (.tup ds) from r) with
    | tup q k => exact ⟨_, _, rfl, o.seqT q, k.paired⟩
  | .raw (.ref a), r, h =>
    have h : coSeq (cs a) = some _ := h
    cases e : cs a with
    | none => rw [e] at h; cases h
    | some c =>
      rw [e] at h
      cases c <;> cases h
theorem seqD_any (o : Ok K M H cs) (r : RV K M v x) {b : Bool} (h : seqD cs x = some (b, xs)) : ∃ a vs, v = .ref a ∧ (SqL K H a vs ∨ SqT K H a vs) ∧ Paired (RV K M) vs xs := by
  cases b with
  | true => obtain ⟨a, vs, e, q, p⟩ := seqD_list o r h; exact ⟨a, vs, e, .inl q, p⟩
  | false => obtain ⟨a, vs, e, q, p⟩ := seqD_tup o r h; exact ⟨a, vs, e, .inr q, p⟩
end
/-! ### expressions -/
abbrev W2 := Vl → Vl → Cells → (Vl → Cells → Prop) → Prop
abbrev W1 := Vl → Cells → (Vl → Cells → Prop) → Prop
abbrev WN := List Vl → Cells → (Vl → Cells → Prop) → Prop
def wVar (i : Nat) : WE := fun ρ cs P => ∃ x, ρ[i]? = some (some x) ∧ P x cs
def wC (d : Dat) : WE := fun _ cs P => P (.dat d) cs
def wRaw (v : V) : WE := fun _ cs P => P (.raw v) cs
def wOp (r : W2) (wa wb : WE) : WE := fun ρ cs P => wa ρ cs fun x cs1 => wb ρ cs1 fun y cs2 => r x y cs2 P
def wUn (r : W1) (wa : WE) : WE := fun ρ cs P => wa ρ cs fun x cs1 => r x cs1 P
def wNil : WA := fun _ cs P => P [] cs
def wCons (wa : WE) (wr : WA) : WA := fun ρ cs P => wa ρ cs fun x cs1 => wr ρ cs1 fun xs cs2 => P (x :: xs) cs2
def wFn (r : WN) (wa : WA) : WE := fun ρ cs P => wa ρ cs fun xs cs1 => r xs cs1 P
def wTest (we : WE) : WT := fun ρ cs P => we ρ cs fun x cs1 => ∃ k, x = .dat (.bl k) ∧ P k cs1
def wNot (w : WT) : WT := fun ρ cs P => w ρ cs fun b cs1 => P (!b) cs1
def wAnd (w u : WT) : WT := fun ρ cs P => w ρ cs fun b cs1 => if b = true then u ρ cs1 P else P false cs1
def wOr (w u : WT) : WT := fun ρ cs P => w ρ cs fun b cs1 => if b = true then P true cs1 else u ρ cs1 P
def wAndV (w u : WE) : WE := fun ρ cs P => w ρ cs fun x cs1 => ∃ b, x = .dat (.bl b) ∧ if b = true then u ρ cs1 P else P (.dat (.bl false)) cs1
def wOrV (w u : WE) : WE := fun ρ cs P => w ρ cs fun x cs1 => ∃ b, x = .dat (.bl b) ∧ if b = true then P (.dat (.bl true)) cs1 else u ρ cs1 P
def wNotV (w : WE) : WE := fun ρ cs P => w ρ cs fun x cs1 => ∃ b, x = .dat (.bl b) ∧ P (.dat (.bl (!b))) cs1
def wIf (w : WT) (wa wb : WE) : WE := fun ρ cs P => w ρ cs fun b cs1 => if b = true then wa ρ cs1 P else wb ρ cs1 P
def wChain (r r' : W2) (wa wb wc : WE) : WE := fun ρ cs P => wa ρ cs fun x cs1 => wb ρ cs1 fun y cs2 => r x y cs2 fun z cs3 => ∃ k, z = .dat (.bl k) ∧
  if k = true then wc ρ cs3 fun u cs4 => r' y u cs4 P else P (.dat (.bl false)) cs3
def R2Ok (K : Frag) (r : R2) (w : W2) : Prop := ∀ M H cs x y a b P Q, Ok K M H cs → RV K M x a → RV K M y b → w a b cs P → Kont K M P Q → r x y H Q
def R1Ok (K : Frag) (r : V → Hp → VK → Prop) (w : W1) : Prop := ∀ M H cs x a P Q, Ok K M H cs → RV K M x a → w a cs P → Kont K M P Q → r x H Q
def RNOk (K : Frag) (r : List V → Hp → VK → Prop) (w : WN) : Prop := ∀ M H cs xs as P Q, Ok K M H cs → Paired (RV K M) xs as → w as cs P → Kont K M P Q → r xs H Q
theorem inv_int {K : Frag} {M : Hp} {v : V} {i : Int} (h : RV K M v (.dat (.int i))) : v = .int i := by
  cases (show Dr K M v (.int i) from h); rfl
theorem inv_bl {K : Frag} {M : Hp} {v : V} {i : Bool} (h : RV K M v (.dat (.bl i))) : v = .bl i := by
  cases (show Dr K M v (.bl i) from h); rfl
theorem inv_non {K : Frag} {M : Hp} {v : V} (h : RV K M v (.dat .non)) : v = .non := by
  cases (show Dr K M v .non from h); rfl
theorem inv_str {K : Frag} {M : Hp} {v : V} {x : Str} (h : RV K M v (.dat (.str x))) : v = .str x := by
  cases (show Dr K M v (.str x) from h); rfl
section
variable {X : Cx} {a b c e : Expr} {es : List Expr} {wa wb wc we : WE} {w u : WT} {wr : WA} {pos : Pos}
theorem de_var (i : Nat) {x : Str} (hN : X.N[i]? = some x := by rfl) (hv : Vis X.env.scope x := by first | exact Or.inl rfl | exact Or.inr (Or.inl rfl) | exact Or.inr (Or.inr rfl)) (hd : (x == ("__debug__" : Str)) = false := by decide)
    (hcd : (x == ("__classdict__" : Str)) = false := by decide) : DE X (.Name x pos) (wVar i) :=
  pe_imp (pv i hN hv hd hcd) fun σ H Q ⟨M, ρ, cs, P, o, r, ⟨x, ex, p⟩, k⟩ => let ⟨v, ev, rv⟩ := r.at_ i x ex; ⟨v, ev, k v x M H cs (Same.refl _) o rv p⟩
theorem de_c {v : V} {d : Dat} (h : PE X e (tC v)) (hd : ∀ M, Dr X.K M v d) : DE X e (wC d) :=
  pe_imp h fun σ H Q ⟨M, ρ, cs, P, o, r, p, k⟩ => k _ _ M H cs (Same.refl _) o (rv_dat (hd M)) p
theorem de_raw {v : V} (h : PE X e (tC v)) : DE X e (wRaw v) :=
  pe_imp h fun σ H Q ⟨M, ρ, cs, P, o, r, p, k⟩ => k _ _ M H cs (Same.refl _) o rv_raw p
theorem de_int {i : Int} {j : Nat} : DE X (.Constant (.int i) j pos) (wC (.int i)) := de_c pe_int fun _ => .int i
theorem de_bl {b : Bool} {j : Nat} : DE X (.Constant (.bool b) j pos) (wC (.bl b)) := de_c pe_bl fun _ => .bl b
theorem de_non {j : Nat} : DE X (.Constant .none j pos) (wC .non) := de_c pe_non fun _ => .non
theorem de_str {x : Str} {j : Nat} : DE X (.Constant (.str x) j pos) (wC (.str x)) := de_c pe_str fun _ => .str x
theorem de_gint {x : Str} {i : Int} {t : Tok} (hm : X.mg x = some (.int i t)) (hg : Gl X x := by rfl) (hd : (x == ("__debug__" : Str)) = false := by decide) : DE X (.Name x pos) (wC (.int i)) :=
  de_c (v := .int i) (pe_glob hg hm ⟨t, rfl⟩ hd) fun _ => .int i
/-- two parts, from the left -/
theorem lift2 {K : Frag} {r : R2} {w2 : W2} (hr : R2Ok K r w2) {σ : St} {H : Hp} {Q : VK} (h : lift K (wOp w2 wa wb) σ H Q) : tOp r (lift K wa) (lift K wb) σ H Q := by
  obtain ⟨M, ρ, cs, P, o, r0, p, k⟩ := h
  refine ⟨M, ρ, cs, _, o, r0, p, fun v x M1 H1 cs1 s1 o1 r1 p1 => ?_⟩
  refine ⟨M1, ρ, cs1, _, o1, r0.mono s1, p1, fun v2 y M2 H2 cs2 s2 o2 r2 p2 => ?_⟩
  exact hr M2 H2 cs2 v v2 x y P Q o2 (r1.mono s2) r2 p2 (k.mono (s1.trans s2))
theorem de_op {op : Operator} {r : R2} {w2 : W2} (ho : OpR X (binaryOp op) r) (hr : R2Ok X.K r w2) (ha : DE X a wa) (hb : DE X b wb) : DE X (.BinOp a op b pos) (wOp w2 wa wb) := pe_imp (pe_op ho ha hb) fun _ _ _ h => lift2 hr h
theorem de_un {op : UnaryOp} {r : V → Hp → VK → Prop} {w1 : W1} (ho : UnR X (unaryOp op) r) (hr : R1Ok X.K r w1) (ha : DE X a wa) : DE X (.UnaryOp op a pos) (wUn w1 wa) :=
  pe_imp (pe_un ho ha) fun σ H Q ⟨M, ρ, cs, P, o, r0, p, k⟩ => ⟨M, ρ, cs, _, o, r0, p, fun v x M1 H1 cs1 s1 o1 r1 p1 => hr M1 H1 cs1 v x P Q o1 r1 p1 (k.mono s1)⟩
theorem de_cmp {op : CmpOp} {r : R2} {w2 : W2} (ho : OpR X (compareOp op) r) (hr : R2Ok X.K r w2) (ha : DE X a wa) (hb : DE X b wb) (hm : behindInMarks op b = false) : DE X (.Compare a [op] [b] pos) (wOp w2 wa wb) := pe_imp (pe_cmpR ho ha hb hm) fun _ _ _ h => lift2 hr h
theorem dt_cmp {op : CmpOp} {r : R2} {w2 : W2} (ho : OpR X (compareOp op) r) (hr : R2Ok X.K r w2) (ha : DE X a wa) (hb : DE X b wb) (hm : behindInMarks op b = false) : DT X (.Compare a [op] [b] pos) (wTest (wOp w2 wa wb)) :=
  pt_imp (pt_cmpR ho ha hb hm) fun σ H Q ⟨M, ρ, cs, P, o, r0, p, k⟩ => lift2 hr ⟨M, ρ, cs, _, o, r0, p, fun v x M1 H1 cs1 s1 o1 r1 ⟨q, ex, p1⟩ => by
    subst ex
    exact ⟨q, inv_bl r1, k q M1 H1 cs1 s1 o1 p1⟩⟩
theorem liftChain {K : Frag} {r r' : R2} {w2 w2' : W2} (hr : R2Ok K r w2) (hr' : R2Ok K r' w2') {σ : St} {H : Hp} {Q : VK} (h : lift K (wChain w2 w2' wa wb wc) σ H Q) : tChain r r' (lift K wa) (lift K wb) (lift K wc) σ H Q := by
  obtain ⟨M, ρ, cs, P, o, r0, p, k⟩ := h
  refine ⟨M, ρ, cs, _, o, r0, p, fun v x M1 H1 cs1 s1 o1 r1 p1 => ?_⟩
  refine ⟨M1, ρ, cs1, _, o1, r0.mono s1, p1, fun v2 y M2 H2 cs2 s2 o2 r2 p2 => ?_⟩
  refine hr M2 H2 cs2 v v2 x y _ _ o2 (r1.mono s2) r2 p2 fun z zz M3 H3 cs3 s3 o3 r3 ⟨kk, ez, p3⟩ => ?_
  subst ez
  refine ⟨kk, inv_bl r3, ?_⟩
  have s123 := s1.trans (s2.trans s3)
  cases kk with
  | true =>
    refine iteT ?_
    have p3' : wc ρ cs3 fun u cs4 => w2' y u cs4 P := by simpa using p3
    exact ⟨M3, ρ, cs3, _, o3, r0.mono s123, p3', fun v4 y4 M4 H4 cs4 s4 o4 r4 p4 => hr' M4 H4 cs4 v2 v4 y y4 P Q o4 (r2.mono (s3.trans s4)) r4 p4 (k.mono (s123.trans s4))⟩
  | false =>
    refine iteF ?_
    exact k _ _ M3 H3 cs3 s123 o3 (rv_dat (.bl false)) (by simpa using p3)
theorem de_chain {op op' : CmpOp} {r r' : R2} {w2 w2' : W2} (ho : OpR X (compareOp op) r) (hr : R2Ok X.K r w2) (ho' : OpR X (compareOp op') r') (hr' : R2Ok X.K r' w2') (ha : DE X a wa) (hb : DE X b wb) (hc : DE X c wc)
    (hm : lastMarks [op, op'] [b, c] = false := by with_unfolding_all rfl) : DE X (.Compare a [op, op'] [b, c] pos) (wChain w2 w2' wa wb wc) := pe_imp (pe_chain ho ho' ha hb hc hm) fun _ _ _ h => liftChain hr hr' h
theorem dt_chain {op op' : CmpOp} {r r' : R2} {w2 w2' : W2} (ho : OpR X (compareOp op) r) (hr : R2Ok X.K r w2) (ho' : OpR X (compareOp op') r') (hr' : R2Ok X.K r' w2') (ha : DE X a wa) (hb : DE X b wb) (hc : DE X c wc)
    (hm : lastMarks [op, op'] [b, c] = false := by with_unfolding_all rfl) : DT X (.Compare a [op, op'] [b, c] pos) (wTest (wChain w2 w2' wa wb wc)) :=
  pt_imp (pt_chain ho ho' ha hb hc hm) fun σ H Q ⟨M, ρ, cs, P, o, r0, p, k⟩ => liftChain hr hr' ⟨M, ρ, cs, _, o, r0, p, fun v x M1 H1 cs1 s1 o1 r1 ⟨q, ex, p1⟩ => by
    subst ex
    exact ⟨q, inv_bl r1, k q M1 H1 cs1 s1 o1 p1⟩⟩
theorem dt_val (h : DE X e we) (he : ∀ whole, isTrue e X.env whole = (do let v ← whole; standAt e.pos; holding [v] (truthy v)) := by intro _; rfl) : DT X e (wTest we) :=
  pt_imp (pt_val h he) fun σ H Q ⟨M, ρ, cs, P, o, r0, p, k⟩ => ⟨M, ρ, cs, _, o, r0, p, fun v x M1 H1 cs1 s1 o1 r1 ⟨q, ex, p1⟩ => by
    subst ex
    exact ⟨q, inv_bl r1, k q M1 H1 cs1 s1 o1 p1⟩⟩
theorem dt_not (h : DT X a w) : DT X (.UnaryOp .Not a pos) (wNot w) :=
  pt_imp (pt_not h) fun σ H Q ⟨M, ρ, cs, P, o, r0, p, k⟩ => ⟨M, ρ, cs, _, o, r0, p, fun b M1 H1 cs1 s1 o1 p1 => k (!b) M1 H1 cs1 s1 o1 p1⟩
theorem dw_and1 (h : DT X a w) : DW X (.BoolOp .And [a] pos) w := pw_and1 h
theorem dw_or1 (h : DT X a w) : DW X (.BoolOp .Or [a] pos) w := pw_or1 h
theorem DW.dt (h : DW X e w) : DT X e w := PW.pt h
theorem dw_and {rest : List Expr} (ha : DT X a w) (hb : DW X (.BoolOp .And (b :: rest) pos) u) : DW X (.BoolOp .And (a :: b :: rest) pos) (wAnd w u) :=
  pw_imp (pw_and ha hb) fun σ H Q ⟨M, ρ, cs, P, o, r0, p, k⟩ => ⟨M, ρ, cs, _, o, r0, p, fun b M1 H1 cs1 s1 o1 p1 => by
    cases b with
    | true => exact iteT ⟨M1, ρ, cs1, P, o1, r0.mono s1, by simpa using p1, k.mono s1⟩
    | false => exact iteF (k false M1 H1 cs1 s1 o1 (by simpa using p1))⟩
theorem dw_or {rest : List Expr} (ha : DT X a w) (hb : DW X (.BoolOp .Or (b :: rest) pos) u) : DW X (.BoolOp .Or (a :: b :: rest) pos) (wOr w u) :=
  pw_imp (pw_or ha hb) fun σ H Q ⟨M, ρ, cs, P, o, r0, p, k⟩ => ⟨M, ρ, cs, _, o, r0, p, fun b M1 H1 cs1 s1 o1 p1 => by
    cases b with
    | true => exact iteT (k true M1 H1 cs1 s1 o1 (by simpa using p1))
    | false => exact iteF ⟨M1, ρ, cs1, P, o1, r0.mono s1, by simpa using p1, k.mono s1⟩⟩
theorem de_one {op : BoolOp} (h : DE X a wa) : DE X (.BoolOp op [a] pos) wa := pe_one h
theorem de_and {rest : List Expr} (ha : DE X a wa) (hb : DE X (.BoolOp .And (b :: rest) pos) wb) : DE X (.BoolOp .And (a :: b :: rest) pos) (wAndV wa wb) :=
  pe_imp (pe_and ha hb) fun σ H Q ⟨M, ρ, cs, P, o, r0, p, k⟩ => ⟨M, ρ, cs, _, o, r0, p, fun v x M1 H1 cs1 s1 o1 r1 ⟨q, ex, p1⟩ => by
    subst ex
    refine ⟨q, inv_bl r1, ?_⟩
    cases q with
    | true => exact iteT ⟨M1, ρ, cs1, P, o1, r0.mono s1, by simpa using p1, k.mono s1⟩
    | false => exact iteF (k _ _ M1 H1 cs1 s1 o1 (rv_dat (.bl false)) (by simpa using p1))⟩
theorem de_or {rest : List Expr} (ha : DE X a wa) (hb : DE X (.BoolOp .Or (b :: rest) pos) wb) : DE X (.BoolOp .Or (a :: b :: rest) pos) (wOrV wa wb) :=
  pe_imp (pe_or ha hb) fun σ H Q ⟨M, ρ, cs, P, o, r0, p, k⟩ => ⟨M, ρ, cs, _, o, r0, p, fun v x M1 H1 cs1 s1 o1 r1 ⟨q, ex, p1⟩ => by
    subst ex
    refine ⟨q, inv_bl r1, ?_⟩
    cases q with
    | true => exact iteT (k _ _ M1 H1 cs1 s1 o1 (rv_dat (.bl true)) (by simpa using p1))
    | false => exact iteF ⟨M1, ρ, cs1, P, o1, r0.mono s1, by simpa using p1, k.mono s1⟩⟩
theorem de_not (ha : DE X a wa) : DE X (.UnaryOp .Not a pos) (wNotV wa) :=
  pe_imp (pe_not ha) fun σ H Q ⟨M, ρ, cs, P, o, r0, p, k⟩ => ⟨M, ρ, cs, _, o, r0, p, fun v x M1 H1 cs1 s1 o1 r1 ⟨q, ex, p1⟩ => by
    subst ex
    exact ⟨q, inv_bl r1, k _ _ M1 H1 cs1 s1 o1 (rv_dat (.bl _)) p1⟩⟩
theorem de_if (hc : DT X c w) (ha : DE X a wa) (hb : DE X b wb) : DE X (.IfExp c a b pos) (wIf w wa wb) :=
  pe_imp (pe_ifExp hc ha hb) fun σ H Q ⟨M, ρ, cs, P, o, r0, p, k⟩ => ⟨M, ρ, cs, _, o, r0, p, fun b M1 H1 cs1 s1 o1 p1 => by
    cases b with
    | true => exact iteT ⟨M1, ρ, cs1, P, o1, r0.mono s1, by simpa using p1, k.mono s1⟩
    | false => exact iteF ⟨M1, ρ, cs1, P, o1, r0.mono s1, by simpa using p1, k.mono s1⟩⟩
theorem da_nil : DA X [] wNil := pa_imp pa_nil fun σ H Q ⟨M, ρ, cs, P, o, r0, p, k⟩ => k [] [] M H cs (Same.refl _) o .nil p
end
end DL
set_option maxRecDepth 100000
set_option maxHeartbeats 4000000
namespace DL
open PySem L2
/-! ### operators on ints -/
def wI (C : Int → Int → Prop) (g : Int → Int → Dat) : W2 := fun x y cs P => ∃ i j, x = .dat (.int i) ∧ y = .dat (.int j) ∧ C i j ∧ P (.dat (g i j)) cs
def wI0 (g : Int → Int → Dat) : W2 := fun x y cs P => ∃ i j, x = .dat (.int i) ∧ y = .dat (.int j) ∧ P (.dat (g i j)) cs
theorem r2_I {K : Frag} {C : Int → Int → Prop} {f : Int → Int → V} {g : Int → Int → Dat} (h : ∀ M i j, Dr K M (f i j) (g i j)) : R2Ok K (rI C f) (wI C g) :=
  fun M H cs x y a b P Q o rx ry ⟨i, j, ea, eb, c, p⟩ k => by
    subst ea eb
    exact ⟨i, j, inv_int rx, inv_int ry, c, k _ _ M H cs (Same.refl _) o (rv_dat (h M i j)) p⟩
theorem r2_I0 {K : Frag} {f : Int → Int → V} {g : Int → Int → Dat} (h : ∀ M i j, Dr K M (f i j) (g i j)) : R2Ok K (rI0 f) (wI0 g) :=
  fun M H cs x y a b P Q o rx ry ⟨i, j, ea, eb, p⟩ k => by
    subst ea eb
    exact ⟨i, j, inv_int rx, inv_int ry, k _ _ M H cs (Same.refl _) o (rv_dat (h M i j)) p⟩
abbrev wAdd : W2 := wI0 fun i j => .int (i + j)
abbrev wSub : W2 := wI0 fun i j => .int (i - j)
abbrev wMul : W2 := wI CMul fun i j => .int (i * j)
abbrev wDiv : W2 := wI CDivW fun i j => .int (i / j)
abbrev wMod : W2 := wI (fun _ j => 0 < j) fun i j => .int (i % j)
abbrev wPow : W2 := wI CPow fun i j => .int (i ^ j.toNat)
abbrev wLt : W2 := wI0 fun i j => .bl (decide (i < j))
abbrev wLe : W2 := wI0 fun i j => .bl (decide (i ≤ j))
abbrev wGt : W2 := wI0 fun i j => .bl (decide (j < i))
abbrev wGe : W2 := wI0 fun i j => .bl (decide (j ≤ i))
def wNeg : W1 := fun x cs P => ∃ i, x = .dat (.int i) ∧ P (.dat (.int (-i))) cs
section
variable {X : Cx} {a b c e : Expr} {es : List Expr} {wa wb wc we : WE} {w u : WT} {wr : WA} {pos : Pos}
theorem de_add (ha : DE X a wa) (hb : DE X b wb) : DE X (.BinOp a .Add b pos) (wOp wAdd wa wb) := de_op op_add (r2_I0 fun _ _ _ => .int _) ha hb
theorem de_sub (ha : DE X a wa) (hb : DE X b wb) : DE X (.BinOp a .Sub b pos) (wOp wSub wa wb) := de_op op_sub (r2_I0 fun _ _ _ => .int _) ha hb
theorem de_mul (ha : DE X a wa) (hb : DE X b wb) : DE X (.BinOp a .Mult b pos) (wOp wMul wa wb) := de_op op_mul (r2_I fun _ _ _ => .int _) ha hb
theorem de_div (ha : DE X a wa) (hb : DE X b wb) : DE X (.BinOp a .FloorDiv b pos) (wOp wDiv wa wb) := de_op op_fdivW (r2_I fun _ _ _ => .int _) ha hb
theorem de_mod (ha : DE X a wa) (hb : DE X b wb) : DE X (.BinOp a .Mod b pos) (wOp wMod wa wb) := de_op op_mod (r2_I fun _ _ _ => .int _) ha hb
theorem de_pow (ha : DE X a wa) (hb : DE X b wb) : DE X (.BinOp a .Pow b pos) (wOp wPow wa wb) := de_op op_pow (r2_I fun _ _ _ => .int _) ha hb
theorem de_neg (ha : DE X a wa) : DE X (.UnaryOp .USub a pos) (wUn wNeg wa) := de_un un_neg (fun M H cs x a P Q o rx ⟨i, ea, p⟩ k => by
  subst ea
  exact ⟨i, inv_int rx, k _ _ M H cs (Same.refl _) o (rv_dat (.int _)) p⟩) ha
/-- the four comparisons of ints: the operator's rule with its data -/
structure CmpD (X : Cx) (op : CmpOp) (w2 : W2) : Prop where
  ex : ∃ r, OpR X (compareOp op) r ∧ R2Ok X.K r w2
  nm : op ≠ .In ∧ op ≠ .NotIn
theorem c_lt : CmpD X .Lt wLt := ⟨⟨_, op_lt, r2_I0 fun _ _ _ => .bl _⟩, by decide⟩
theorem c_le : CmpD X .LtE wLe := ⟨⟨_, op_le, r2_I0 fun _ _ _ => .bl _⟩, by decide⟩
theorem c_gt : CmpD X .Gt wGt := ⟨⟨_, op_gt, r2_I0 fun _ _ _ => .bl _⟩, by decide⟩
theorem c_ge : CmpD X .GtE wGe := ⟨⟨_, op_ge, r2_I0 fun _ _ _ => .bl _⟩, by decide⟩
theorem de_cmpD {op : CmpOp} {w2 : W2} (h : CmpD X op w2) (ha : DE X a wa) (hb : DE X b wb) : DE X (.Compare a [op] [b] pos) (wOp w2 wa wb) := by
  obtain ⟨⟨r, ho, hr⟩, m1, m2⟩ := h
  exact de_cmp ho hr ha hb (nomark b m1 m2)
theorem dt_cmpD {op : CmpOp} {w2 : W2} (h : CmpD X op w2) (ha : DE X a wa) (hb : DE X b wb) : DT X (.Compare a [op] [b] pos) (wTest (wOp w2 wa wb)) := by
  obtain ⟨⟨r, ho, hr⟩, m1, m2⟩ := h
  exact dt_cmp ho hr ha hb (nomark b m1 m2)
theorem dt_chainD {op op' : CmpOp} {w2 w2' : W2} (h : CmpD X op w2) (h' : CmpD X op' w2') (ha : DE X a wa) (hb : DE X b wb) (hc : DE X c wc) (hm : lastMarks [op, op'] [b, c] = false := by with_unfolding_all rfl) : DT X (.Compare a [op, op'] [b, c] pos) (wTest (wChain w2 w2' wa wb wc)) := by
  obtain ⟨⟨r, ho, hr⟩, _⟩ := h
  obtain ⟨⟨r', ho', hr'⟩, _⟩ := h'
  exact dt_chain ho hr ho' hr' ha hb hc hm
theorem de_chainD {op op' : CmpOp} {w2 w2' : W2} (h : CmpD X op w2) (h' : CmpD X op' w2') (ha : DE X a wa) (hb : DE X b wb) (hc : DE X c wc) (hm : lastMarks [op, op'] [b, c] = false := by with_unfolding_all rfl) : DE X (.Compare a [op, op'] [b, c] pos) (wChain w2 w2' wa wb wc) := by
  obtain ⟨⟨r, ho, hr⟩, _⟩ := h
  obtain ⟨⟨r', ho', hr'⟩, _⟩ := h'
  exact de_chain ho hr ho' hr' ha hb hc hm
/-! ### is None -/
def isNon : Vl → Bool
  | .dat .non => true
  | .raw .non => true
  | _ => false
theorem isNon_ok {K : Frag} {M : Hp} {v : V} {x : Vl} (r : RV K M v x) : decide (v = .non) = isNon x := by
  cases x with
  | dat d => cases (show Dr K M v d from r) <;> rfl
  | raw u =>
    cases (show v = u from r)
    cases v <;> rfl
def wIsN : W2 := fun x y cs P => y = .dat .non ∧ P (.dat (.bl (isNon x))) cs
def wNotN : W2 := fun x y cs P => y = .dat .non ∧ P (.dat (.bl (!isNon x))) cs
theorem c_isN : CmpD X .Is wIsN := ⟨⟨_, op_isN, fun M H cs x y a b P Q o rx ry ⟨e, p⟩ k => by
  subst e
  refine ⟨inv_non ry, ?_⟩
  rw [isNon_ok rx]
  exact k _ _ M H cs (Same.refl _) o (rv_dat (.bl _)) p⟩, by decide⟩
theorem c_notN : CmpD X .IsNot wNotN := ⟨⟨_, op_notN, fun M H cs x y a b P Q o rx ry ⟨e, p⟩ k => by
  subst e
  refine ⟨inv_non ry, ?_⟩
  rw [isNon_ok rx]
  exact k _ _ M H cs (Same.refl _) o (rv_dat (.bl _)) p⟩, by decide⟩
/-! ### == and != of data -/
mutual
def Dat.py : Dat → Option PyData
  | .non => some .none
  | .bl b => some (.bool b)
  | .int i => some (.int i)
  | .str x => some (.str x)
  | .lst xs => (Dat.pys xs).map .list
  | .tup xs => (Dat.pys xs).map .tuple
  | .obj _ _ => none
def Dat.pys : List Dat → Option (List PyData)
  | [] => some []
  | d :: ds => match Dat.py d, Dat.pys ds with
    | some p, some ps => some (p :: ps)
    | _, _ => none
end
mutual
theorem Dr.dp {K : Frag} {M : Hp} : ∀ (d : Dat) {v : V} {p : PyData}, Dr K M v d → d.py = some p → Dp K M v p
  | .non, _, _, h, e => by cases h; cases e; exact .non
  | .bl b, _, _, h, e => by cases h; cases e; exact .bl b
  | .int i, _, _, h, e => by cases h; cases e; exact .int i
  | .str x, _, _, h, e => by cases h; cases e; exact .str x
  | .lst xs, _, _, h, e => by
    cases h with
    | lst q k =>
      unfold Dat.py at e
      obtain ⟨ps, e1, rfl⟩ := Option.map_eq_some_iff.mp e
      exact .lst q (DrAll.dp xs k e1)
  | .tup xs, _, _, h, e => by
    cases h with
    | tup q k =>
      unfold Dat.py at e
      obtain ⟨ps, e1, rfl⟩ := Option.map_eq_some_iff.mp e
      exact .tup q (DrAll.dp xs k e1)
  | .obj _ _, _, _, _, e => by cases e
theorem DrAll.dp {K : Frag} {M : Hp} : ∀ (ds : List Dat) {vs : List V} {ps : List PyData}, DrAll K M vs ds → Dat.pys ds = some ps → DpAll K M vs ps
  | [], _, _, h, e => by cases h; cases e; exact .nil
  | d :: ds, _, _, h, e => by
    cases h with
    | cons h k =>
      unfold Dat.pys at e
      split at e
      · rename_i p ps e1 e2
        cases e
        exact .cons (Dr.dp d h e1) (DrAll.dp ds k e2)
      · cases e
end
mutual
theorem dp_mono {K : Frag} {M M' : Hp} (s : Same M M') : ∀ {v : V} {d : PyData}, Dp K M v d → Dp K M' v d
  | _, _, .non => .non
  | _, _, .bl b => .bl b
  | _, _, .int i => .int i
  | _, _, .str x => .str x
  | _, _, .lst h k => .lst (sqL_mono s h) (dpAll_mono s k)
  | _, _, .tup h k => .tup (sqT_mono s h) (dpAll_mono s k)
theorem dpAll_mono {K : Frag} {M M' : Hp} (s : Same M M') : ∀ {v : List V} {d : List PyData}, DpAll K M v d → DpAll K M' v d
  | _, _, .nil => .nil
  | _, _, .cons h k => .cons (dp_mono s h) (dpAll_mono s k)
end
/-- the data that stands behind a value, a cell's list too -/
def allDat : List Vl → Option (List Dat)
  | [] => some []
  | .dat d :: r => (allDat r).map (d :: ·)
  | _ => none
def coDat : Option CO → Option Dat
  | some (.lst xs) => (allDat xs).map .lst
  | _ => none
def seen (cs : Cells) : Vl → Option Dat
  | .dat d => some d
  | .raw (.ref a) => coDat (cs a)
  | _ => none
theorem allDat_eq : ∀ {xs : List Vl} {ds : List Dat}, allDat xs = some ds → xs = ds.map .dat
  | [], _, h => by cases h; rfl
  | .dat d :: r, _, h => by
    unfold allDat at h
    obtain ⟨es, e1, rfl⟩ := Option.map_eq_some_iff.mp h
    rw [allDat_eq e1]; rfl
  | .raw _ :: _, _, h => by cases h
theorem allDat_map : ∀ (ds : List Dat), allDat (ds.map .dat) = some ds
  | [] => rfl
  | d :: ds => by show (allDat (ds.map .dat)).map (d :: ·) = _; rw [allDat_map ds]; rfl
theorem seen_dp {K : Frag} {M H : Hp} {cs : Cells} {v : V} {x : Vl} {d : Dat} {p : PyData} (o : Ok K M H cs) (r : RV K M v x) (h : seen cs x = some d) (e : d.py = some p) : Dp K H v p := by
  match x, r, h with
  | .dat d', r, h =>
    cases h
    exact dp_mono o.ex (Dr.dp _ r e)
  | .raw (.ref a), r, h =>
    cases (show v = .ref a from r)
    have h : coDat (cs a) = some d := h
    cases q : cs a with
    | none => rw [q] at h; cases h
    | some c =>
      rw [q] at h
      cases c with
      | lst ys =>
        obtain ⟨es, e1, rfl⟩ := Option.map_eq_some_iff.mp (show (allDat ys).map Dat.lst = some d from h)
        obtain ⟨_, u, hu, z⟩ := o.cell a _ q
        cases u <;> try exact (show False from z).elim
        rw [allDat_eq e1] at z
        unfold Dat.py at e
        obtain ⟨ps, e2, rfl⟩ := Option.map_eq_some_iff.mp e
        exact .lst (.inl (.inl hu)) (dpAll_mono o.ex (DrAll.dp _ (DrAll.of_paired z) e2))
      | _ => cases h
def wEqD (neg : Bool) : W2 := fun x y cs P => ∃ d e p q, seen cs x = some d ∧ seen cs y = some e ∧ d.py = some p ∧ e.py = some q ∧ SeqAt.shaped p = true ∧ SeqAt.shaped q = true ∧ P (.dat (.bl (if neg then !PyData.eqv p q else PyData.eqv p q))) cs
theorem c_eq (hu : X.A.units + 64 < cLine) : CmpD X .Eq (wEqD false) := ⟨⟨_, op_eqD hu, fun M H cs x y a b P Q o rx ry ⟨d, e, p, q, h1, h2, h3, h4, s1, s2, h⟩ k =>
  ⟨p, q, seen_dp o rx h1 h3, seen_dp o ry h2 h4, s1, s2, k _ _ M H cs (Same.refl _) o (rv_dat (.bl _)) (by simpa using h)⟩⟩, by decide⟩
theorem c_ne (hu : X.A.units + 64 < cLine) : CmpD X .NotEq (wEqD true) := ⟨⟨_, op_neD hu, fun M H cs x y a b P Q o rx ry ⟨d, e, p, q, h1, h2, h3, h4, s1, s2, h⟩ k =>
  ⟨p, q, seen_dp o rx h1 h3, seen_dp o ry h2 h4, s1, s2, k _ _ M H cs (Same.refl _) o (rv_dat (.bl _)) (by simpa using h)⟩⟩, by decide⟩
/-! ### x in a sequence of flat things -/
def flatD : Vl → Option V
  | .dat .non => some .non
  | .dat (.bl b) => some (.bl b)
  | .dat (.int i) => some (.int i)
  | .dat (.str x) => some (.str x)
  | _ => none
def flatsD : List Vl → Option (List V)
  | [] => some []
  | x :: r => match flatD x, flatsD r with
    | some v, some vs => some (v :: vs)
    | _, _ => none
theorem flatD_ok {K : Frag} {M : Hp} {v u : V} {x : Vl} (r : RV K M v x) (h : flatD x = some u) : v = u ∧ flatV u = true := by
  match x, r, h with
  | .dat .non, r, h => cases h; exact ⟨inv_non r, rfl⟩
  | .dat (.bl b), r, h => cases h; exact ⟨inv_bl r, rfl⟩
  | .dat (.int i), r, h => cases h; exact ⟨inv_int r, rfl⟩
  | .dat (.str s), r, h => cases h; exact ⟨inv_str r, rfl⟩
theorem flatsD_ok {K : Frag} {M : Hp} : ∀ {vs us : List V} {xs : List Vl}, Paired (RV K M) vs xs → flatsD xs = some us → vs = us ∧ us.all flatV = true
  | _, _, _, .nil, h => by cases h; exact ⟨rfl, rfl⟩
  | _, _, _, .cons r k, h => by
    unfold flatsD at h
    split at h
    · rename_i v vs e1 e2
      cases h
      obtain ⟨h1, h2⟩ := flatD_ok r e1
      obtain ⟨h3, h4⟩ := flatsD_ok k e2
      exact ⟨by rw [h1, h3], by rw [List.all_cons, h2, h4]; rfl⟩
    · cases h
def wIn (neg : Bool) : W2 := fun x y cs P => ∃ b ys u us, seqD cs y = some (b, ys) ∧ flatD x = some u ∧ flatsD ys = some us ∧ P (.dat (.bl (if neg then !inV u us else inV u us))) cs
theorem r2_in {K : Frag} {neg : Bool} : R2Ok K (rIn K neg) (wIn neg) := fun M H cs x y a b P Q o rx ry ⟨bb, ys, u, us, h1, h2, h3, p⟩ k => by
  obtain ⟨ad, vs, e, q, pr⟩ := seqD_any o ry h1
  obtain ⟨e2, f2⟩ := flatD_ok rx h2
  obtain ⟨e3, f3⟩ := flatsD_ok pr h3
  subst e e2 e3
  exact ⟨ad, vs, rfl, q, f2, f3, k _ _ M H cs (Same.refl _) o (rv_dat (.bl _)) p⟩
theorem de_in (ha : DE X a wa) (hb : DE X b wb) (hm : behindInMarks .In b = false := by rfl) : DE X (.Compare a [.In] [b] pos) (wOp (wIn false) wa wb) := de_cmp op_in_seq r2_in ha hb hm
theorem dt_in (ha : DE X a wa) (hb : DE X b wb) (hm : behindInMarks .In b = false := by rfl) : DT X (.Compare a [.In] [b] pos) (wTest (wOp (wIn false) wa wb)) := dt_cmp op_in_seq r2_in ha hb hm
theorem de_notin (ha : DE X a wa) (hb : DE X b wb) (hm : behindInMarks .NotIn b = false := by rfl) : DE X (.Compare a [.NotIn] [b] pos) (wOp (wIn true) wa wb) := de_cmp op_notIn_seq r2_in ha hb hm
theorem dt_notin (ha : DE X a wa) (hb : DE X b wb) (hm : behindInMarks .NotIn b = false := by rfl) : DT X (.Compare a [.NotIn] [b] pos) (wTest (wOp (wIn true) wa wb)) := dt_cmp op_notIn_seq r2_in ha hb hm
/-! ### arguments, tuples, lists -/
theorem da_cons (ha : DE X e we) (hr : DA X es wr) (hs : starEach (e :: es) X.env = (false, eval e X.env) :: starEach es X.env := by rfl) : DA X (e :: es) (wCons we wr) :=
  pa_imp (pa_cons ha hr hs) fun σ H Q ⟨M, ρ, cs, P, o, r0, p, k⟩ => ⟨M, ρ, cs, _, o, r0, p, fun v x M1 H1 cs1 s1 o1 r1 p1 =>
    ⟨M1, ρ, cs1, _, o1, r0.mono s1, p1, fun vs xs M2 H2 cs2 s2 o2 r2 p2 => k _ _ M2 H2 cs2 (s1.trans s2) o2 (.cons (r1.mono s2) r2) p2⟩⟩
/-- a new tuple: data alone -/
def wTup (wa : WA) : WE := fun ρ cs P => wa ρ cs fun xs cs1 => ∃ ds, allDat xs = some ds ∧ ds.length ≤ 16777216 ∧ P (.dat (.tup ds)) cs1
/-- a new list: a cell, or data for ever -/
def newL (xs : List Vl) (cs : Cells) (P : Vl → Cells → Prop) : Prop := (∀ p, cs p = none → P (.cell p) (cs.put p (.lst xs))) ∨ ∃ ds, allDat xs = some ds ∧ P (.dat (.lst ds)) cs
def wLst (wa : WA) : WE := fun ρ cs P => wa ρ cs fun xs cs1 => xs.length ≤ 16777216 ∧ newL xs cs1 P
theorem size_line {n : Nat} (h : n ≤ 16777216) : n ≤ sizeLine := by rw [sizeLine_eq]; exact h
theorem newT_ok {K : Frag} {M H : Hp} {cs : Cells} {P : Vl → Cells → Prop} {Q : VK} {vs : List V} {ds : List Dat} (o : Ok K M H cs) (r : Paired (RV K M) vs (ds.map .dat)) (p : P (.dat (.tup ds)) cs) (k : Kont K M P Q) : ∀ q, H q = none → Q (.ref q) (upd H q (.tup vs)) := fun q hq => by
  obtain ⟨s, o'⟩ := o.newM hq (.tup vs)
  exact k _ _ _ _ cs s o' (rv_dat (.tup (.inl (.inl upd_same)) ((DrAll.of_paired r).mono s))) p
theorem newL_ok {K : Frag} {M H : Hp} {cs : Cells} {P : Vl → Cells → Prop} {Q : VK} {vs : List V} {xs : List Vl} (o : Ok K M H cs) (r : Paired (RV K M) vs xs) (p : newL xs cs P) (k : Kont K M P Q) : ∀ q, H q = none → Q (.ref q) (upd H q (.lst vs)) := fun q hq => by
  rcases p with p | ⟨ds, e, p⟩
  · exact k _ _ M _ _ (Same.refl _) (o.newC hq (c := .lst xs) r) rv_raw (p q (o.freeC hq))
  · obtain ⟨s, o'⟩ := o.newM hq (.lst vs)
    rw [allDat_eq e] at r
    exact k _ _ _ _ cs s o' (rv_dat (.lst (.inl (.inl upd_same)) ((DrAll.of_paired r).mono s))) p
theorem de_tup {x1 : Nat} (h : DA X es wr) : DE X (.Tuple es x1 pos) (wTup wr) :=
  pe_imp (pe_tup h) fun σ H Q ⟨M, ρ, cs, P, o, r0, p, k⟩ => ⟨M, ρ, cs, _, o, r0, p, fun vs xs M1 H1 cs1 s1 o1 r1 ⟨ds, e, hz, p1⟩ => by
    have e' := allDat_eq e
    subst e'
    exact ⟨by rw [Paired.len r1, List.length_map]; exact size_line hz, newT_ok o1 r1 p1 (k.mono s1)⟩⟩
theorem de_lst (h : DA X es wr) : DE X (.List es pos) (wLst wr) :=
  pe_imp (pe_lst h) fun σ H Q ⟨M, ρ, cs, P, o, r0, p, k⟩ => ⟨M, ρ, cs, _, o, r0, p, fun vs xs M1 H1 cs1 s1 o1 r1 ⟨hz, p1⟩ =>
    ⟨by rw [Paired.len r1]; exact size_line hz, newL_ok o1 r1 p1 (k.mono s1)⟩⟩
/-! ### items -/
theorem paired_atI {K : Frag} {M : Hp} {vs : List V} {xs : List Vl} {i : Int} {x : Vl} (r : Paired (RV K M) vs xs) (h : atI xs i = some x) : ∃ v, atI vs i = some v ∧ RV K M v x := by
  unfold atI at h ⊢
  rw [Paired.len r]
  cases e : ixN xs.length i with
  | none => rw [e] at h; cases h
  | some j =>
    rw [e] at h
    exact Paired.getR r h
/-- x[i] of a list or a tuple -/
def wIx : W2 := fun x y cs P => ∃ b xs i z, seqD cs x = some (b, xs) ∧ y = .dat (.int i) ∧ atI xs i = some z ∧ P z cs
theorem r2_ix {K : Frag} : R2Ok K (rIx K) wIx := fun M H cs x y a b P Q o rx ry ⟨bb, xs, i, z, h1, ey, h2, p⟩ k => by
  subst ey
  cases bb with
  | true =>
    obtain ⟨ad, vs, e, q, pr⟩ := seqD_list o rx h1
    obtain ⟨v, hv, rv⟩ := paired_atI pr h2
    exact .inl ⟨ad, vs, i, v, e, inv_int ry, q, hv, k _ _ M H cs (Same.refl _) o rv p⟩
  | false =>
    obtain ⟨ad, vs, e, q, pr⟩ := seqD_tup o rx h1
    obtain ⟨v, hv, rv⟩ := paired_atI pr h2
    exact .inr (.inl ⟨ad, vs, i, v, e, inv_int ry, q, hv, k _ _ M H cs (Same.refl _) o rv p⟩)
theorem de_ix (ha : DE X a wa) (hb : DE X b wb) (hs : PlainIx b := by exact fun _ _ => rfl) : DE X (.Subscript a b pos) (wOp wIx wa wb) := pe_imp (pe_ix ix_seq ha hb hs) fun _ _ _ h => lift2 r2_ix h
/-! ### built-ins by name -/
theorem liftN {K : Frag} {r : List V → Hp → VK → Prop} {wn : WN} (hr : RNOk K r wn) {σ : St} {H : Hp} {Q : VK} (h : lift K (wFn wn wr) σ H Q) : tCB r (liftA K wr) σ H Q := by
  obtain ⟨M, ρ, cs, P, o, r0, p, k⟩ := h
  exact ⟨M, ρ, cs, _, o, r0, p, fun vs xs M1 H1 cs1 s1 o1 r1 p1 => hr M1 H1 cs1 vs xs P Q o1 r1 p1 (k.mono s1)⟩
theorem de_callB {x : Str} {id : String} {r : List V → Hp → VK → Prop} {wn : WN} {p : Pos} (hc : CallR X (.builtin id) r) (hr : RNOk X.K r wn) (hm : X.mg x = none) (hv : bootBuiltins x = some (.builtin id)) (ha : DA X (e :: es) wr) (hg : Gl X x := by rfl) (hn : x ≠ "__name__" := by decide) (hdb : (x == ("__debug__" : Str)) = false := by decide)
    (he : starEach (e :: es) X.env = (false, eval e X.env) :: starEach es X.env := by rfl) (hpl : (backTo pos (starEach es X.env)).any (·.1) = false := by rfl) : DE X (.Call (.Name x p) (e :: es) [] pos) (wFn wn wr) :=
  pe_imp (pe_callB hc hg hm hv ha hn hdb he hpl) fun _ _ _ h => liftN hr h
theorem de_callTy {x : Str} {T : String} {r : List V → Hp → VK → Prop} {wn : WN} {p : Pos} (hc : CallR X (.type T) r) (hr : RNOk X.K r wn) (hm : X.mg x = none) (hv : bootBuiltins x = some (.type T)) (ha : DA X (e :: es) wr) (hg : Gl X x := by rfl) (hn : x ≠ "__name__" := by decide) (hdb : (x == ("__debug__" : Str)) = false := by decide)
    (he : starEach (e :: es) X.env = (false, eval e X.env) :: starEach es X.env := by rfl) (hpl : (backTo pos (starEach es X.env)).any (·.1) = false := by rfl) : DE X (.Call (.Name x p) (e :: es) [] pos) (wFn wn wr) :=
  pe_imp (pe_callTy hc hg hm hv ha hn hdb he hpl) fun _ _ _ h => liftN hr h
def wLen : WN := fun xs cs P => ∃ x b ys, xs = [x] ∧ seqD cs x = some (b, ys) ∧ P (.dat (.int (ys.length : Int))) cs
theorem rn_len {K : Frag} : RNOk K (fun xs H Q => ∃ p ys, xs = [.ref p] ∧ (SqL K H p ys ∨ SqT K H p ys) ∧ Q (.int ys.length) H) wLen := fun M H cs xs as P Q o r ⟨x, b, ys, e, h, p⟩ k => by
  subst e
  cases r with
  | cons r1 rr =>
    cases rr
    obtain ⟨ad, vs, e, q, pr⟩ := seqD_any o r1 h
    subst e
    exact ⟨ad, vs, rfl, q, by rw [Paired.len pr]; exact k _ _ M H cs (Same.refl _) o (rv_dat (.int _)) p⟩
theorem de_len {p : Pos} (hm : X.mg "len" = none) (ha : DA X [e] wr) (hg : Gl X "len" := by rfl) (he : starEach [e] X.env = (false, eval e X.env) :: starEach [] X.env := by rfl) (hpl : (backTo pos (starEach [] X.env)).any (·.1) = false := by rfl) :
    DE X (.Call (.Name "len" p) [e] [] pos) (wFn wLen wr) := de_callB call_len_seq rn_len hm PySem.boot_len ha hg (by decide) (by decide) he hpl
def wMax2 : WN := fun xs cs P => ∃ i j, xs = [.dat (.int i), .dat (.int j)] ∧ P (.dat (.int (if j > i then j else i))) cs
def wMin2 : WN := fun xs cs P => ∃ i j, xs = [.dat (.int i), .dat (.int j)] ∧ P (.dat (.int (if j < i then j else i))) cs
theorem rn_II {K : Frag} {f : Int → Int → Int} : RNOk K (fun xs H Q => ∃ i j, xs = [.int i, .int j] ∧ Q (.int (f i j)) H) (fun xs cs P => ∃ i j, xs = [.dat (.int i), .dat (.int j)] ∧ P (.dat (.int (f i j))) cs) := fun M H cs xs as P Q o r ⟨i, j, e, p⟩ k => by
  subst e
  cases r with
  | cons r1 rr =>
    cases rr with
    | cons r2 rr =>
      cases rr
      exact ⟨i, j, by rw [inv_int r1, inv_int r2], k _ _ M H cs (Same.refl _) o (rv_dat (.int _)) p⟩
theorem de_max2 {p : Pos} {a b : Expr} (hc : X.calm = true) (hm : X.mg "max" = none) (ha : DA X [a, b] wr) (hg : Gl X "max" := by rfl) (he : starEach [a, b] X.env = (false, eval a X.env) :: starEach [b] X.env := by rfl) (hpl : (backTo pos (starEach [b] X.env)).any (·.1) = false := by rfl) :
    DE X (.Call (.Name "max" p) [a, b] [] pos) (wFn wMax2 wr) := de_callB (call_max2 hc) rn_II hm (by decide +kernel) ha hg (by decide) (by decide) he hpl
theorem de_min2 {p : Pos} {a b : Expr} (hc : X.calm = true) (hm : X.mg "min" = none) (ha : DA X [a, b] wr) (hg : Gl X "min" := by rfl) (he : starEach [a, b] X.env = (false, eval a X.env) :: starEach [b] X.env := by rfl) (hpl : (backTo pos (starEach [b] X.env)).any (·.1) = false := by rfl) :
    DE X (.Call (.Name "min" p) [a, b] [] pos) (wFn wMin2 wr) := de_callB (call_min2 hc) rn_II hm (by decide +kernel) ha hg (by decide) (by decide) he hpl
/-- tuple(x) -/
def wTuple : WN := fun xs cs P => ∃ x b ys ds, xs = [x] ∧ seqD cs x = some (b, ys) ∧ allDat ys = some ds ∧ P (.dat (.tup ds)) cs
theorem rn_tuple {K : Frag} : RNOk K (fun xs H Q => ∃ p ys, xs = [.ref p] ∧ ((SqL K H p ys ∧ ∀ l, H l = none → Q (.ref l) (upd H l (.tup ys))) ∨ (SqT K H p ys ∧ Q (.ref p) H))) wTuple := fun M H cs xs as P Q o r ⟨x, b, ys, ds, e, h, hd, p⟩ k => by
  subst e
  cases r with
  | cons r1 rr =>
    cases rr
    have hy := allDat_eq hd
    subst hy
    cases b with
    | true =>
      obtain ⟨ad, vs, e, q, pr⟩ := seqD_list o r1 h
      subst e
      exact ⟨ad, vs, rfl, .inl ⟨q, newT_ok o pr p k⟩⟩
    | false =>
      obtain ⟨ad, vs, e, q, pr⟩ := seqD_tup o r1 h
      subst e
      refine ⟨ad, vs, rfl, .inr ⟨q, ?_⟩⟩
      have hx : x = .dat (.tup ds) := by
        match x, h with
        | .dat (.tup es), h =>
          have h' : es.map Vl.dat = ds.map Vl.dat := by
            have := (Option.some.inj h)
            exact (Prod.mk.inj this).2
          have : es = ds := by
            have z := allDat_map es
            rw [h', allDat_map] at z
            exact (Option.some.inj z).symm
          rw [this]
        | .dat (.lst es), h => exact nomatch (show some (true, _) = some (false, _) from h)
        | .raw (.ref a), h =>
          have h : coSeq (cs a) = some (false, ds.map Vl.dat) := h
          cases q : cs a with
          | none => rw [q] at h; cases h
          | some c => rw [q] at h; cases c <;> cases h
      subst hx
      exact k _ _ M H cs (Same.refl _) o r1 p
theorem de_tuple {p : Pos} (hm : X.mg "tuple" = none) (ha : DA X [e] wr) (hg : Gl X "tuple" := by rfl) (he : starEach [e] X.env = (false, eval e X.env) :: starEach [] X.env := by rfl) (hpl : (backTo pos (starEach [] X.env)).any (·.1) = false := by rfl) :
    DE X (.Call (.Name "tuple" p) [e] [] pos) (wFn wTuple wr) := de_callTy call_tuple_of rn_tuple hm (by decide +kernel) ha hg (by decide) (by decide) he hpl
/-- list(x) -/
def wListOf : WN := fun xs cs P => ∃ x b ys, xs = [x] ∧ seqD cs x = some (b, ys) ∧ newL ys cs P
theorem rn_list {K : Frag} : RNOk K (fun xs H Q => ∃ p ys, xs = [.ref p] ∧ (SqL K H p ys ∨ SqT K H p ys) ∧ ∀ l, H l = none → Q (.ref l) (upd H l (.lst ys))) wListOf := fun M H cs xs as P Q o r ⟨x, b, ys, e, h, p⟩ k => by
  subst e
  cases r with
  | cons r1 rr =>
    cases rr
    obtain ⟨ad, vs, e, q, pr⟩ := seqD_any o r1 h
    subst e
    exact ⟨ad, vs, rfl, q, newL_ok o pr p k⟩
theorem de_list {p : Pos} (hm : X.mg "list" = none) (ha : DA X [e] wr) (hg : Gl X "list" := by rfl) (he : starEach [e] X.env = (false, eval e X.env) :: starEach [] X.env := by rfl) (hpl : (backTo pos (starEach [] X.env)).any (·.1) = false := by rfl) :
    DE X (.Call (.Name "list" p) [e] [] pos) (wFn wListOf wr) := de_callTy call_list_of rn_list hm (by decide +kernel) ha hg (by decide) (by decide) he hpl
end
end DL
set_option maxRecDepth 100000
set_option maxHeartbeats 4000000
namespace DL
open PySem L2
/-! ### statements -/
def wNext : WS := fun D ρ cs => D.nx ρ cs
def wSeq (w u : WS) : WS := fun D ρ cs => w { D with nx := u D } ρ cs
def wRet (we : WE) : WS := fun D ρ cs => we ρ cs D.rt
def wRetN : WS := fun D _ cs => D.rt (.dat .non) cs
def wDrop (we : WE) : WS := fun D ρ cs => we ρ cs fun _ cs1 => D.nx ρ cs1
def wIfS (c : WT) (w u : WS) : WS := fun D ρ cs => c ρ cs fun b cs1 => if b = true then w D ρ cs1 else u D ρ cs1
def wBrk : WS := fun D ρ cs => D.bk ρ cs
def wCont : WS := fun D ρ cs => D.ct ρ cs
def wNever : WS := fun _ _ _ => False
abbrev WG := Vl → DEnv → Cells → (DEnv → Cells → Prop) → Prop
abbrev WGs := List Vl → DEnv → Cells → (DEnv → Cells → Prop) → Prop
/-- js: the slots that a target may set -/
def KontG (K : Frag) (M : Hp) (js : List Nat) (σ : St) (P : DEnv → Cells → Prop) (Q : St → Hp → Prop) : Prop :=
  ∀ σ' ρ' M' H' cs', Same M M' → Ok K M' H' cs' → Rho K M' σ' ρ' → σ'.length = σ.length → (∀ i, i ∉ js → σ'[i]? = σ[i]?) → P ρ' cs' → Q σ' H'
def liftG (K : Frag) (js : List Nat) (g : WG) : TG := fun v σ H Q => ∃ M ρ cs x P, Ok K M H cs ∧ Rho K M σ ρ ∧ RV K M v x ∧ g x ρ cs P ∧ KontG K M js σ P Q
def liftGs (K : Frag) (js : List Nat) (g : WGs) : TGs := fun vs σ H Q => ∃ M ρ cs xs P, Ok K M H cs ∧ Rho K M σ ρ ∧ Paired (RV K M) vs xs ∧ g xs ρ cs P ∧ KontG K M js σ P Q
def DG (X : Cx) (js : List Nat) (tg : Expr) (g : WG) : Prop := PG X tg (liftG X.K js g)
def DGs (X : Cx) (js : List Nat) (tg : List Expr) (g : WGs) : Prop := PGs X tg (liftGs X.K js g)
def gN (i : Nat) : WG := fun x ρ cs P => P (ρ.set i (some x)) cs
def gNil : WGs := fun xs ρ cs P => xs = [] ∧ P ρ cs
def gCons (g : WG) (gs : WGs) : WGs := fun xs ρ cs P => ∃ x r, xs = x :: r ∧ g x ρ cs fun ρ1 cs1 => gs r ρ1 cs1 P
def gT (n : Nat) (gs : WGs) : WG := fun x ρ cs P => ∃ xs, seqD cs x = some (false, xs) ∧ xs.length = n ∧ gs xs ρ cs P
/-- xs[i] = v, a cell's list -/
def gIx (wo wi : WE) : WG := fun v ρ cs P => wo ρ cs fun o cs1 => wi ρ cs1 fun i cs2 => ∃ a xs k j, o = .cell a ∧ i = .dat (.int k) ∧ cs2 a = some (.lst xs) ∧ ixN xs.length k = some j ∧ P ρ (cs2.put a (.lst (xs.set j v)))
def wAsg (we : WE) (g : WG) : WS := fun D ρ cs => we ρ cs fun x cs1 => g x ρ cs1 D.nx
def wAug (i : Nat) (we : WE) (f : Int → Int → Int) : WS := fun D ρ cs => ∃ a, ρ[i]? = some (some (.dat (.int a))) ∧ we ρ cs fun y cs1 => ∃ b, y = .dat (.int b) ∧ D.nx (ρ.set i (some (.dat (.int (f a b))))) cs1
def wPar (i j : Nat) (wa : WA) : WS := fun D ρ cs => wa ρ cs fun xs cs1 => ∃ x y, xs = [x, y] ∧ D.nx ((ρ.set i (some x)).set j (some y)) cs1
theorem pg_imp {X : Cx} {e : Expr} {t t' : TG} (h : PG X e t) (m : ∀ v σ H Q, t' v σ H Q → t v σ H Q) : PG X e t' := ⟨fun pins s σ H v u Q I r q => h.run pins s σ H v u Q I r (m v σ H Q q)⟩
theorem pgs_imp {X : Cx} {e : List Expr} {t t' : TGs} (h : PGs X e t) (m : ∀ v σ H Q, t' v σ H Q → t v σ H Q) : PGs X e t' := ⟨fun pins s σ H v u Q I r q => h.run pins s σ H v u Q I r (m v σ H Q q)⟩
theorem pi_imp {X : Cx} {tg e : Expr} {t t' : TI} (h : PI X tg e t) (m : ∀ σ H R, t' σ H R → t σ H R) : PI X tg e t' := ⟨fun pins s σ H R I q => h.run pins s σ H R I (m σ H R q)⟩
theorem pi_or {X : Cx} {tg e : Expr} {t t' : TI} (h : PI X tg e t) (h' : PI X tg e t') : PI X tg e (fun σ H R => t σ H R ∨ t' σ H R) := ⟨fun pins s σ H R I q => by
  rcases q with q | q
  · exact h.run pins s σ H R I q
  · exact h'.run pins s σ H R I q⟩
section
variable {X : Cx} {a b c e : Expr} {es : List Expr} {wa wb wc we : WE} {w u : WT} {wr : WA} {pos : Pos} {st : Stmt} {sts : List Stmt} {ws wt : WS}
theorem dss_nil : DSs X [] wNext := pss_imp pss_nil fun E σ H ⟨M, ρ, cs, D, o, r, h, e⟩ => e.nx σ ρ M H cs (Same.refl _) o r h
theorem dss_cons (h1 : DS X st ws) (h2 : DSs X sts wt) : DSs X (st :: sts) (wSeq ws wt) :=
  pss_imp (pss_cons h1 h2) fun E σ H ⟨M, ρ, cs, D, o, r, h, e⟩ => ⟨M, ρ, cs, _, o, r, h, ⟨fun σ' ρ' M' H' cs' s o' r' p => ⟨M', ρ', cs', D, o', r', p, e.mono s⟩, e.rt, e.bk, e.ct⟩⟩
theorem dss_one (h1 : DS X st ws) : DSs X [st] ws := pss_one h1
theorem ds_pass : DS X (.Pass pos) wNext := ps_imp ps_pass fun E σ H ⟨M, ρ, cs, D, o, r, h, e⟩ => e.nx σ ρ M H cs (Same.refl _) o r h
theorem ds_brk : DS X (.Break pos) wBrk := ps_imp ps_break fun E σ H ⟨M, ρ, cs, D, o, r, h, e⟩ => e.bk σ ρ M H cs (Same.refl _) o r h
theorem ds_cont : DS X (.Continue pos) wCont := ps_imp ps_continue fun E σ H ⟨M, ρ, cs, D, o, r, h, e⟩ => e.ct σ ρ M H cs (Same.refl _) o r h
theorem ds_never : DS X st wNever := ps_imp ps_never fun E σ H ⟨M, ρ, cs, D, o, r, h, e⟩ => h
theorem dss_never : DSs X sts wNever := pss_imp pss_never fun E σ H ⟨M, ρ, cs, D, o, r, h, e⟩ => h
theorem ds_ret (h : DE X e we) : DS X (.Return (some e) pos) (wRet we) := ps_imp (ps_ret h) fun E σ H ⟨M, ρ, cs, D, o, r, h, e⟩ => ⟨M, ρ, cs, _, o, r, h, e.rt⟩
theorem ds_retN : DS X (.Return none pos) wRetN := ps_imp ps_retN fun E σ H ⟨M, ρ, cs, D, o, r, h, e⟩ => e.rt _ _ M H cs (Same.refl _) o (rv_dat .non) h
theorem ds_expr (h : DE X e we) (hs : swapsWith e none pos.line X.env = pure false := by rfl) : DS X (.Expr e pos) (wDrop we) :=
  ps_imp (ps_expr h hs) fun E σ H ⟨M, ρ, cs, D, o, r, h, e⟩ => ⟨M, ρ, cs, _, o, r, h, fun v x M' H' cs' s o' _ p => e.nx σ ρ M' H' cs' s o' (r.mono s) p⟩
theorem ds_if {sa sb : List Stmt} (hc : DT X c w) (ha : DSs X sa ws) (hb : DSs X sb wt) : DS X (.If c sa sb pos) (wIfS w ws wt) :=
  ps_imp (ps_if hc ha hb) fun E σ H ⟨M, ρ, cs, D, o, r, h, e⟩ => ⟨M, ρ, cs, _, o, r, h, fun b M' H' cs' s o' p => by
    cases b with
    | true => exact iteT ⟨M', ρ, cs', D, o', r.mono s, by simpa using p, e.mono s⟩
    | false => exact iteF ⟨M', ρ, cs', D, o', r.mono s, by simpa using p, e.mono s⟩⟩
theorem dg_name {i : Nat} {x : Str} (hN : X.N.Nodup) (hi : X.N[i]? = some x := by rfl) (hx : Loc X.env.scope x := by first | exact Or.inl rfl | exact Or.inr rfl) (hf : X.fn x = true ∨ X.env.scope.names.lookup x = some .local := by first | exact .inl rfl | exact .inr rfl | assumption) : DG X [i] (.Name x pos) (gN i) :=
  pg_imp (pg_name hN hi hx hf) fun v σ H Q ⟨M, ρ, cs, x, P, o, r, rv, p, k⟩ => k _ _ M H cs (Same.refl _) o (r.set rv) (by rw [List.length_set]) (fun j hj => by rw [List.getElem?_set_ne (by intro z; exact hj (by simp [z]))]) p
theorem dgs_nil : DGs X [] [] gNil := pgs_imp pgs_nil fun v σ H Q ⟨M, ρ, cs, xs, P, o, r, rv, ⟨e, p⟩, k⟩ => by
  subst e
  cases rv
  exact ⟨rfl, k _ _ M H cs (Same.refl _) o r rfl (fun _ _ => rfl) p⟩
theorem dgs_cons {js js' : List Nat} {g : WG} {gs : WGs} (h1 : DG X js e g) (h2 : DGs X js' es gs) (hs : (assignEach (e :: es) X.env).map (·.2) = assign e X.env :: (assignEach es X.env).map (·.2) := by rfl) : DGs X (js ++ js') (e :: es) (gCons g gs) :=
  pgs_imp (pgs_cons h1 h2 hs) fun vs σ H Q ⟨M, ρ, cs, xs, P, o, r, rv, ⟨x, rest, ex, p⟩, k⟩ => by
    subst ex
    cases rv with
    | cons r1 rr =>
      refine ⟨_, _, rfl, M, ρ, cs, x, _, o, r, r1, p, fun σ' ρ' M' H' cs' s o' r' hl hj p' => ?_⟩
      refine ⟨M', ρ', cs', rest, _, o', r', paired_mono (fun _ _ q => q.mono s) rr, p', fun σ2 ρ2 M2 H2 cs2 s2 o2 r2 hl2 hj2 p2 => ?_⟩
      exact k σ2 ρ2 M2 H2 cs2 (s.trans s2) o2 r2 (hl2.trans hl) (fun i hi => by rw [hj2 i (fun z => hi (List.mem_append.mpr (.inr z))), hj i (fun z => hi (List.mem_append.mpr (.inl z)))]) p2
theorem dg_tup {js : List Nat} {gs : WGs} {n k : Nat} (hc : X.calm = true) (h : DGs X js es gs) (hn : (assignEach es X.env).length = n := by rfl) (hst : (assignEach es X.env).findIdx? (·.1) = none := by rfl) : DG X js (.Tuple es k pos) (gT n gs) :=
  pg_imp (pg_tup hc h hn hst) fun v σ H Q ⟨M, ρ, cs, x, P, o, r, rv, ⟨xs, hx, hl, p⟩, k⟩ => by
    obtain ⟨ad, vs, ev, q, pr⟩ := seqD_tup o rv hx
    exact ⟨ad, vs, ev, q, (Paired.len pr).trans hl, M, ρ, cs, xs, P, o, r, pr, p, k⟩
theorem paired_set {K : Frag} {M : Hp} {vs : List V} {xs : List Vl} {j : Nat} {v : V} {x : Vl} (h : Paired (RV K M) vs xs) (r : RV K M v x) : Paired (RV K M) (vs.set j v) (xs.set j x) := Paired.set h r
theorem dg_ix (ho : DE X a wa) (hi : DE X b wb)
    (ha : ∀ v, assign (.Subscript a b pos) X.env v = (do
      let ov ← holding [v] (eval a X.env)
      let iv ← holding [v, ov] (eval b X.env)
      standAt pos
      holding [v, ov, iv] (setItem ov iv v)
      release [v, ov, iv] []) := by intros; rfl) : DG X [] (.Subscript a b pos) (gIx wa wb) :=
  pg_imp (pg_sub ho hi set_list ha) fun v σ H Q ⟨M, ρ, cs, x, P, o, r, rv, p, k⟩ => by
    refine ⟨M, ρ, cs, _, o, r, p, fun v1 x1 M1 H1 cs1 s1 o1 r1 p1 => ?_⟩
    refine ⟨M1, ρ, cs1, _, o1, r.mono s1, p1, fun v2 x2 M2 H2 cs2 s2 o2 r2 ⟨ad, xs, kk, j, e1, e2, hc, hj, p2⟩ => ?_⟩
    subst e1 e2
    obtain ⟨m0, ob, hob, cr⟩ := o2.cell ad _ hc
    cases ob <;> try exact (show False from cr).elim
    rename_i ys
    have cr : Paired (RV X.K M2) ys xs := cr
    have e1 : v1 = .ref ad := r1
    refine ⟨ad, ys, kk, j, e1, inv_int r2, hob, by rw [Paired.len cr]; exact hj, ?_⟩
    exact k σ ρ M2 _ _ (s1.trans s2) (o2.setC hc (c := .lst (xs.set j x)) (paired_set cr (rv.mono (s1.trans s2)))) (r.mono (s1.trans s2)) rfl (fun _ _ => rfl) p2
theorem ds_asg {js : List Nat} {tg : Expr} {g : WG} (he : DE X e we) (hg : DG X js tg g) (hs : swapsWithSole [tg] e pos.line X.env = pure false := by rfl) (hw : swappedStores [tg] e X.env = pure none := by rfl)
    (h1 : (assignEach [tg] X.env).map (·.2) = [assign tg X.env] := by rfl) : DS X (.Assign [tg] e pos) (wAsg we g) :=
  ps_imp (ps_asg he hg hs hw h1) fun E σ H ⟨M, ρ, cs, D, o, r, h, e⟩ => ⟨M, ρ, cs, _, o, r, h, fun v x M' H' cs' s o' rv p =>
    ⟨M', ρ, cs', x, _, o', r.mono s, rv, p, fun σ2 ρ2 M2 H2 cs2 s2 o2 r2 _ _ p2 => e.nx σ2 ρ2 M2 H2 cs2 (s.trans s2) o2 r2 p2⟩⟩
theorem ds_set {i : Nat} {x : Str} {pos' : Pos} (hN : X.N.Nodup) (he : DE X e we) (hi : X.N[i]? = some x := by rfl) (hx : Loc X.env.scope x := by first | exact Or.inl rfl | exact Or.inr rfl) (hs : swapsWith e (some (.Name x pos')) pos.line X.env = pure false := by rfl) (hf : X.fn x = true ∨ X.env.scope.names.lookup x = some .local := by first | exact .inl rfl | exact .inr rfl | assumption) :
    DS X (.Assign [.Name x pos'] e pos) (wAsg we (gN i)) :=
  ps_imp (ps_set hN hi hx he hs hf) fun E σ H ⟨M, ρ, cs, D, o, r, h, e⟩ => ⟨M, ρ, cs, _, o, r, h, fun v x M' H' cs' s o' rv p => e.nx _ _ M' H' cs' s o' ((r.mono s).set rv) p⟩
theorem ds_aug {i : Nat} {x : Str} {pos' : Pos} {op : Operator} {f : Int → Int → Int} (hN : X.N.Nodup) (he : DE X e we) (ho : PIp X op (ipI f)) (hi : X.N[i]? = some x := by rfl) (hx : Loc X.env.scope x := by first | exact Or.inl rfl | exact Or.inr rfl) (hf : X.fn x = true ∨ X.env.scope.names.lookup x = some .local := by first | exact .inl rfl | exact .inr rfl | assumption) :
    DS X (.AugAssign (.Name x pos') op e pos) (wAug i we f) :=
  ps_imp (ps_aug hN hi hx he ho hf) fun E σ H ⟨M, ρ, cs, D, o, r, ⟨n, hn, h⟩, e⟩ => by
    obtain ⟨v, hv, rv⟩ := r.at_ i _ hn
    rw [inv_int rv] at hv
    refine ⟨_, hv, M, ρ, cs, _, o, r, h, fun y yy M' H' cs' s o' ry ⟨m, em, p⟩ => ?_⟩
    subst em
    exact ⟨n, m, rfl, inv_int ry, e.nx _ _ M' H' cs' s o' ((r.mono s).set (rv_dat (.int _))) p⟩
theorem ds_par {i j : Nat} {x y : Str} {px py pt pt2 : Pos} {kt k2 : Nat} (hc : X.calm = true) (hN : X.N.Nodup) (ha : DA X [a, b] wr) (hi : X.N[i]? = some x := by rfl) (hj : X.N[j]? = some y := by rfl) (hij : i ≠ j := by decide)
    (hx : X.env.scope.names.lookup x = some .local := by rfl) (hy : X.env.scope.names.lookup y = some .local := by rfl)
    (hw : swappedStores [.Tuple [.Name x px, .Name y py] kt pt] (.Tuple [a, b] k2 pt2) X.env = pure (some [x, y]) := by rfl)
    (hs : swapsWithSole [.Tuple [.Name x px, .Name y py] kt pt] (.Tuple [a, b] k2 pt2) pos.line X.env = pure false := by rfl) :
    DS X (.Assign [.Tuple [.Name x px, .Name y py] kt pt] (.Tuple [a, b] k2 pt2) pos) (wPar i j wr) :=
  ps_imp (ps_par hc hN hi hj hij hx hy ha hw hs) fun E σ H ⟨M, ρ, cs, D, o, r, h, e⟩ => ⟨M, ρ, cs, _, o, r, h, fun vs xs M' H' cs' s o' rv ⟨x1, y1, ex, p⟩ => by
    subst ex
    cases rv with
    | cons r1 rr =>
      cases rr with
      | cons r2 rr =>
        cases rr
        exact ⟨_, _, rfl, e.nx _ _ M' H' cs' s o' (((r.mono s).set r1).set r2) p⟩⟩
end
/-! ### what is walked -/
structure ItOk (K : Frag) (M0 : Hp) (J : It) (items : List Vl) (G : Cells → Prop) : Prop where
  go : ∀ i M H cs, Same M0 M → Ok K M H cs → G cs → i < items.length → J.go i H
  stop : ∀ M H cs, Same M0 M → Ok K M H cs → G cs → J.stop items.length H
  yld : ∀ i M H cs v H', Same M0 M → Ok K M H cs → G cs → J.yld i H v H' → i < items.length → ∃ M' x, items[i]? = some x ∧ Same M M' ∧ Ok K M' H' cs ∧ RV K M' v x
abbrev WI := DEnv → Cells → (List Vl → (Cells → Prop) → Cells → Prop) → Prop
def liftI (K : Frag) (wi : WI) : TI := fun σ H R => ∃ M ρ cs P, Ok K M H cs ∧ Rho K M σ ρ ∧ wi ρ cs P ∧ ∀ J items G M' H' cs', Same M M' → Ok K M' H' cs' → ItOk K M' J items G → P items G cs' → R J H'
def DI (X : Cx) (tg e : Expr) (wi : WI) : Prop := PI X tg e (liftI X.K wi)
def wFor (wi : WI) (g : WG) (wb : WS) : WS := fun D ρ cs => wi ρ cs fun items G cs1 => ∃ Inv : Nat → DEnv → Cells → Prop, Inv 0 ρ cs1 ∧ (∀ i ρ' cs', i ≤ items.length → Inv i ρ' cs' → G cs') ∧
  (∀ i x ρ' cs', items[i]? = some x → Inv i ρ' cs' → g x ρ' cs' fun ρ2 cs2 => wb { D with nx := Inv (i + 1), ct := Inv (i + 1), bk := D.nx } ρ2 cs2) ∧ ∀ ρ' cs', Inv items.length ρ' cs' → D.nx ρ' cs'
theorem ds_for {X : Cx} {tg iter : Expr} {body : List Stmt} {pos : Pos} {js : List Nat} {wi : WI} {g : WG} {wb : WS} (hi : DI X tg iter wi) (hg : DG X js tg g) (hb : DSs X body wb) (hc : X.calm = true := by rfl) (hp : PassesOwn (model X.prog X.w) X.A X.env X.xe := by exact PassesOwn.never)
    (hs : ∀ x, foldedSetIterable iter X.env x = pure x := by intro _; rfl) : DS X (.For tg iter body [] pos) (wFor wi g wb) :=
  ps_imp (ps_for hp hc hi hg hb hs) fun E σ H ⟨M, ρ, cs, D, o, r, h, e⟩ => by
    refine ⟨M, ρ, cs, _, o, r, h, fun J items G M1 H1 cs1 s1 o1 it ⟨Iv, i0, iG, turn, fin⟩ => ?_⟩
    refine ⟨fun i m σ' H' => m = items.length - i ∧ i ≤ items.length ∧ ∃ M' ρ' cs', Same M1 M' ∧ Ok X.K M' H' cs' ∧ Rho X.K M' σ' ρ' ∧ Iv i ρ' cs', ⟨items.length, by simp, Nat.zero_le _, M1, ρ, cs1, Same.refl _, o1, r.mono s1, i0⟩, ?_⟩
    rintro i m σ' H' ⟨rfl, hi, M', ρ', cs', s', o', r', inv⟩
    have g' := iG i ρ' cs' hi inv
    by_cases hlt : i < items.length
    · refine .inr ⟨it.go i M' H' cs' s' o' g' hlt, fun σ2 H2 => i + 1 ≤ items.length ∧ ∃ M2 ρ2 cs2, Same M1 M2 ∧ Ok X.K M2 H2 cs2 ∧ Rho X.K M2 σ2 ρ2 ∧ Iv (i + 1) ρ2 cs2, fun σ2 H2 q => ⟨_, by omega, rfl, q.1, q.2⟩, fun v H2 y => ?_⟩
      obtain ⟨M2, x, ex, s2, o2, rv⟩ := it.yld i M' H' cs' v H2 s' o' g' y hlt
      refine ⟨M2, ρ', cs', x, _, o2, r'.mono s2, rv, turn i x ρ' cs' ex inv, fun σ3 ρ3 M3 H3 cs3 s3 o3 r3 _ _ p3 => ?_⟩
      refine ⟨M3, ρ3, cs3, _, o3, r3, p3, ⟨fun σ4 ρ4 M4 H4 cs4 s4 o4 r4 p4 => ?_, e.rt.mono (s1.trans (s'.trans (s2.trans s3))), ?_, fun σ4 ρ4 M4 H4 cs4 s4 o4 r4 p4 => ?_⟩⟩
      · exact ⟨hlt, M4, ρ4, cs4, s'.trans (s2.trans (s3.trans s4)), o4, r4, p4⟩
      · exact e.nx.mono (s1.trans (s'.trans (s2.trans s3)))
      · exact ⟨hlt, M4, ρ4, cs4, s'.trans (s2.trans (s3.trans s4)), o4, r4, p4⟩
    · have ei : i = items.length := by omega
      subst ei
      exact .inl ⟨it.stop M' H' cs' s' o' g', e.nx σ' ρ' M' H' cs' (s1.trans s') o' r' (fin ρ' cs' inv)⟩
/-- a list or a tuple -/
def iSeq (K : Frag) (tl : TE) : TI := fun σ H R => tl σ H fun x H1 => (∃ a, x = .ref a ∧ (∃ xs, SqL K H1 a xs) ∧ R (Itl K a) H1) ∨ ∃ a, x = .ref a ∧ (∃ xs, SqT K H1 a xs) ∧ R (Itt K a) H1
theorem pi_seq {X : Cx} {tg l : Expr} {tl : TE} (hl : PE X l tl) : PI X tg l (iSeq X.K tl) := by
  refine ⟨fun pins s σ H R I h => ?_⟩
  refine thn (hl.run pins s σ H _ I h) fun v s1 ⟨x, H1, I1, r1, q1⟩ => ?_
  rcases q1 with ⟨a, e, ⟨xs, hq⟩, q⟩ | ⟨a, e, ⟨xs, hq⟩, q⟩
  · subst e
    cases r1
    obtain ⟨its, rv, p, hz⟩ := I1.list hq
    refine wpAny_pyIter_list p.isList ?_
    refine ⟨s1.heap.objs.size, [s1.heap.objs.size], _, _, H1, rfl, I1.kept (t' := s1.toks) fun b o e => Heap.get?_push_of_some _ e, turn_list a _, ⟨_, Heap.get?_push_size _ rfl, rfl, rfl⟩, fun b hb => ?_, q⟩
    have e : b = s1.heap.objs.size := by simpa using hb
    subst e
    exact I1.fpOk (Nat.le_refl _) (I1.hok.fresh (Nat.le_refl _))
  · subst e
    cases r1
    obtain ⟨its, rv, p, hz⟩ := I1.tuple hq
    refine wpAny_pyIter_tuple (show s1.heap.IsTuple a its.toArray from p) ?_
    refine ⟨s1.heap.objs.size, [s1.heap.objs.size], _, _, H1, rfl, I1.kept (t' := s1.toks) fun b o e => Heap.get?_push_of_some _ e, turn_tuple a _, ⟨_, Heap.get?_push_size _ rfl, rfl, rfl⟩, fun b hb => ?_, q⟩
    have e : b = s1.heap.objs.size := by simpa using hb
    subst e
    exact I1.fpOk (Nat.le_refl _) (I1.hok.fresh (Nat.le_refl _))
def wiSeq (we : WE) : WI := fun ρ cs P => we ρ cs fun x cs1 => ∃ b xs, seqD cs1 x = some (b, xs) ∧ P xs (fun cs' => seqD cs' x = some (b, xs)) cs1
section
variable {K : Frag} {M0 : Hp} {x : Vl} {xs : List Vl} {a : Addr}
theorem it_list (r : RV K M0 (.ref a) x) : ItOk K M0 (Itl K a) xs (fun cs' => seqD cs' x = some (true, xs)) := by
  refine ⟨fun i M2 H2 cs2 s2 o2 g2 hi => ?_, fun M2 H2 cs2 s2 o2 g2 => ?_, fun i M2 H2 cs2 v2 H3 s2 o2 g2 y hi => ?_⟩
  all_goals
    obtain ⟨a2, vs2, ea2, q2, pr2⟩ := seqD_list o2 (r.mono s2) g2
    cases ea2
  · have hl := Paired.len pr2
    exact ⟨vs2, vs2[i]'(by omega), q2, by simp [show i < vs2.length by omega]⟩
  · exact ⟨vs2, q2, by rw [Paired.len pr2]; exact Nat.le_refl _⟩
  · obtain ⟨e1, e2⟩ := y
    subst e1
    obtain ⟨x2, hx2, rx2⟩ := Paired.getL pr2 (e2 vs2 q2)
    exact ⟨M2, x2, hx2, Same.refl _, o2, rx2⟩
theorem it_tup (r : RV K M0 (.ref a) x) : ItOk K M0 (Itt K a) xs (fun cs' => seqD cs' x = some (false, xs)) := by
  refine ⟨fun i M2 H2 cs2 s2 o2 g2 hi => ?_, fun M2 H2 cs2 s2 o2 g2 => ?_, fun i M2 H2 cs2 v2 H3 s2 o2 g2 y hi => ?_⟩
  all_goals
    obtain ⟨a2, vs2, ea2, q2, pr2⟩ := seqD_tup o2 (r.mono s2) g2
    cases ea2
  · have hl := Paired.len pr2
    exact ⟨vs2, vs2[i]'(by omega), q2, by simp [show i < vs2.length by omega]⟩
  · exact ⟨vs2, q2, by rw [Paired.len pr2]; exact Nat.le_refl _⟩
  · obtain ⟨e1, e2⟩ := y
    subst e1
    obtain ⟨x2, hx2, rx2⟩ := Paired.getL pr2 (e2 vs2 q2)
    exact ⟨M2, x2, hx2, Same.refl _, o2, rx2⟩
end
theorem di_seq {X : Cx} {tg e : Expr} {we : WE} (h : DE X e we) : DI X tg e (wiSeq we) :=
  pi_imp (pi_seq h) fun σ H R ⟨M, ρ, cs, P, o, r, p, k⟩ => by
    refine ⟨M, ρ, cs, _, o, r, p, fun v x M1 H1 cs1 s1 o1 r1 ⟨b, xs, hx, p1⟩ => ?_⟩
    cases b with
    | true =>
      obtain ⟨a, vs, ea, q, pr⟩ := seqD_list o1 r1 hx
      subst ea
      exact .inl ⟨a, rfl, ⟨vs, q⟩, k _ xs _ M1 H1 cs1 s1 o1 (it_list r1) p1⟩
    | false =>
      obtain ⟨a, vs, ea, q, pr⟩ := seqD_tup o1 r1 hx
      subst ea
      exact .inr ⟨a, rfl, ⟨vs, q⟩, k _ xs _ M1 H1 cs1 s1 o1 (it_tup r1) p1⟩
/-! ### ranges -/
def rangeD (lo c : Int) (n : Nat) : List Vl := (List.range n).map fun (i : Nat) => .dat (.int (lo + (i : Int) * c))
theorem rangeD_len {lo c : Int} {n : Nat} : (rangeD lo c n).length = n := by simp [rangeD]
theorem rangeD_get {lo c : Int} {n i : Nat} (h : i < n) : (rangeD lo c n)[i]? = some (.dat (.int (lo + (i : Int) * c))) := by
  simp [rangeD, h]
theorem rangeD_at {lo c : Int} {n i : Nat} {x : Vl} (h : (rangeD lo c n)[i]? = some x) : i < n ∧ x = .dat (.int (lo + (i : Int) * c)) := by
  have hl := (List.getElem?_eq_some_iff.mp h).1
  rw [rangeD_len] at hl
  rw [rangeD_get hl] at h
  cases h
  exact ⟨hl, rfl⟩
theorem it_range {K : Frag} {M0 : Hp} {lo : Int} {n : Nat} : ItOk K M0 (Itr lo n) (rangeD lo 1 n) (fun _ => True) := by
  refine ⟨fun i M2 H2 cs2 s2 o2 g2 hi => ?_, fun M2 H2 cs2 s2 o2 g2 => ?_, fun i M2 H2 cs2 v2 H3 s2 o2 g2 y hi => ?_⟩
  · rw [rangeD_len] at hi; exact hi
  · rw [rangeD_len]; exact Nat.le_refl _
  · rw [rangeD_len] at hi
    obtain ⟨e1, e2⟩ := y
    subst e1 e2
    exact ⟨M2, _, rangeD_get hi, Same.refl _, o2, by rw [Int.mul_one]; exact rv_dat (.int _)⟩
theorem it_rangeC {K : Frag} {M0 : Hp} {lo c : Int} {n : Nat} : ItOk K M0 (Itc lo c n) (rangeD lo c n) (fun _ => True) := by
  refine ⟨fun i M2 H2 cs2 s2 o2 g2 hi => ?_, fun M2 H2 cs2 s2 o2 g2 => ?_, fun i M2 H2 cs2 v2 H3 s2 o2 g2 y hi => ?_⟩
  · rw [rangeD_len] at hi; exact hi
  · rw [rangeD_len]; exact Nat.le_refl _
  · rw [rangeD_len] at hi
    obtain ⟨e1, e2⟩ := y
    subst e1 e2
    exact ⟨M2, _, rangeD_get hi, Same.refl _, o2, rv_dat (.int _)⟩
def wiRng1 (wa : WA) : WI := fun ρ cs P => wa ρ cs fun xs cs1 => ∃ j : Int, xs = [.dat (.int j)] ∧ -(2 ^ 62) ≤ j ∧ j < 2 ^ 62 ∧ P (rangeD 0 1 j.toNat) (fun _ => True) cs1
def wiRng2 (wa : WA) : WI := fun ρ cs P => wa ρ cs fun xs cs1 => ∃ i j : Int, xs = [.dat (.int i), .dat (.int j)] ∧ (-(2 ^ 62) ≤ i ∧ i < 2 ^ 62 ∧ -(2 ^ 62) ≤ j ∧ j < 2 ^ 62) ∧ P (rangeD i 1 (j - i).toNat) (fun _ => True) cs1
def wiRng3 (wa : WA) : WI := fun ρ cs P => wa ρ cs fun xs cs1 => ∃ (i j c : Int) (n : Nat), xs = [.dat (.int i), .dat (.int j), .dat (.int c)] ∧ RgC i j c n ∧ P (rangeD i c n) (fun _ => True) cs1
section
variable {X : Cx} {tg a b c : Expr} {wa : WA} {p pos : Pos}
theorem di_range1 (hm : X.mg "range" = none) (ha : DA X [a] wa) (hg : Gl X "range" := by rfl) (hs : starEach [a] X.env = [(false, eval a X.env)] := by rfl) : DI X tg (.Call (.Name "range" p) [a] [] pos) (wiRng1 wa) :=
  pi_imp (pi_range1 hg hm ha hs) fun σ H R ⟨M, ρ, cs, P, o, r, p, k⟩ => ⟨M, ρ, cs, _, o, r, p, fun v x M1 H1 cs1 s1 o1 r1 ⟨j, ej, h1, h2, p1⟩ => by
    subst ej
    cases r1 with
    | cons r1 rr =>
      cases rr
      exact ⟨j, by rw [inv_int r1], h1, h2, k _ _ _ M1 H1 cs1 s1 o1 it_range p1⟩⟩
theorem di_range2 (hm : X.mg "range" = none) (ha : DA X [a, b] wa) (hg : Gl X "range" := by rfl) (hs : starEach [a, b] X.env = [(false, eval a X.env), (false, eval b X.env)] := by rfl) (hs2 : starEach [b] X.env = [(false, eval b X.env)] := by rfl) : DI X tg (.Call (.Name "range" p) [a, b] [] pos) (wiRng2 wa) :=
  pi_imp (pi_range2 hg hm ha hs hs2) fun σ H R ⟨M, ρ, cs, P, o, r, p, k⟩ => ⟨M, ρ, cs, _, o, r, p, fun v x M1 H1 cs1 s1 o1 r1 ⟨i, j, ej, h1, p1⟩ => by
    subst ej
    cases r1 with
    | cons r1 rr =>
      cases rr with
      | cons r2 rr =>
        cases rr
        exact ⟨i, j, by rw [inv_int r1, inv_int r2], h1, k _ _ _ M1 H1 cs1 s1 o1 it_range p1⟩⟩
theorem di_range3 (hm : X.mg "range" = none) (ha : DA X [a, b, c] wa) (hg : Gl X "range" := by rfl) (hs : starEach [a, b, c] X.env = (false, eval a X.env) :: starEach [b, c] X.env := by rfl) (hpl : (backTo pos (starEach [b, c] X.env)).any (·.1) = false := by rfl) : DI X tg (.Call (.Name "range" p) [a, b, c] [] pos) (wiRng3 wa) :=
  pi_imp (pi_range3 hg hm ha hs hpl) fun σ H R ⟨M, ρ, cs, P, o, r, p, k⟩ => ⟨M, ρ, cs, _, o, r, p, fun v x M1 H1 cs1 s1 o1 r1 ⟨i, j, cc, n, ej, h1, p1⟩ => by
    subst ej
    cases r1 with
    | cons r1 rr =>
      cases rr with
      | cons r2 rr =>
        cases rr with
        | cons r3 rr =>
          cases rr
          exact ⟨i, j, cc, n, by rw [inv_int r1, inv_int r2, inv_int r3], h1, k _ _ _ M1 H1 cs1 s1 o1 it_rangeC p1⟩⟩
end
end DL
set_option maxRecDepth 100000
set_option maxHeartbeats 4000000
namespace PySem
set_option maxHeartbeats 4000000 in
theorem dl_enum_newB {v : Value} {o : Obj} {H : Heap → Prop} (B : Begins v o H) :
    Meets (Builtin.«enumerate.__new__» ⟨[.type "enumerate", v], []⟩) (fun _ R s => H s.heap ∧
      R (.ok (.ret (.ref (s.heap.push o).objs.size))) { s with heap := (s.heap.push o).push { cls := .type "enumerate", data := .fields #[.none, .bool false, .ref s.heap.objs.size, rawInt 0, .none, .none] } }) :=
  .of_wp fun prog w A R s h => by
    obtain ⟨hp, g, d, tk, os⟩ := s; obtain ⟨h1, h⟩ := h
    have hsub := sub_enumerate
    have q1 : ∀ {A' : Around} {E : Value → Shared → Prop} {Q : Value → Shared → Prop}, Q (.ref hp.objs.size) ⟨hp.push o, g, d, tk, os⟩ → wpAny (model prog w) A' (pyIter v) Q E ⟨hp, g, d, tk, os⟩ :=
      fun q => B.iter prog w _ _ ⟨hp, g, d, tk, os⟩ _ h1 q
    wp_walk using q1
    refine wpAny_stack_any fun st => wpAny_pure ?_
    split
    · rename_i c _ _ _ _ _
      cases (c == Value.type "enumerate")
      · wp_walk using q1
        exact ⟨_, rfl, h⟩
      · wp_walk using q1
        exact ⟨_, rfl, h⟩
    · wp_walk using q1
      exact ⟨_, rfl, h⟩
theorem dl_enum_begins {prog : Program} {w : World} {A : Around} {E : Value → Shared → Prop} {s : Shared} {v : Value} {o : Obj} {H : Heap → Prop} {Q : Value → Shared → Prop} (B : Begins v o H) (h1 : H s.heap)
    (h : ∀ h', IsEnum h' (s.heap.objs.size + 1) s.heap.objs.size 0 .none → h'.get? s.heap.objs.size = some o → h'.objs.size = s.heap.objs.size + 2 →
      (∀ b o, s.heap.get? b = some o → h'.get? b = some o) → Q (.ref (s.heap.objs.size + 1)) { s with heap := h' }) :
    wpAny (model prog w) A (call (.type "enumerate") [v]) Q E s := by
  refine callType_new F.called_enumerate (by decide) (F.typeCall_enumerate_1 _) (F.newCall_enumerate_1 _) (fun obj => F.args_object_init_2 obj _) F.entry_enumerate_new
    (dl_enum_newB B) ⟨h1, ?_⟩
  have hz : (s.heap.push o).objs.size = s.heap.objs.size + 1 := Heap.size_push ..
  show _ ∧ _
  rw [hz]
  have he : IsEnum ((s.heap.push o).push { cls := .type "enumerate", data := .fields #[.none, .bool false, .ref s.heap.objs.size, rawInt 0, .none, .none] }) (s.heap.objs.size + 1) s.heap.objs.size 0 .none := by
    have := Heap.get?_push_size (s.heap.push o) (o := { cls := .type "enumerate", data := .fields #[.none, .bool false, .ref s.heap.objs.size, rawInt 0, .none, .none] }) rfl
    rw [hz] at this; exact this
  refine ⟨⟨_, he, rfl⟩, h _ he (Heap.get?_push_of_some _ (Heap.get?_push_size _ B.free)) (by rw [Heap.size_push, hz]) fun b o x => Heap.get?_push_of_some _ (Heap.get?_push_of_some _ x)⟩
end PySem
namespace DL
open PySem L2
/-- the tuple at a, each item in a new pair -/
def IteT (K : Frag) (a : Addr) : It :=
  ⟨fun i H => ∃ (xs : List V) (x : V), SqT K H a xs ∧ xs[i]? = some x, fun i H v H' => ∃ T x, v = .ref T ∧ H T = none ∧ H' = upd H T (.tup [.int (i : Nat), x]) ∧ ∀ xs, SqT K H a xs → xs[i]? = some x, fun i H => ∃ xs : List V, SqT K H a xs ∧ xs.length ≤ i⟩
theorem dl_tuple_inj {X : Cx} {pins : List (Addr × Obj)} {σ : St} {H : Hp} {s : Shared} (I : L2.Inv X pins σ H s) {a : Addr} {xs ys : List V} (h1 : SqT X.K H a xs) (h2 : SqT X.K H a ys) : xs = ys := by
  exact I.tuple_inj h1 h2
theorem turn_enumT {P : Program} {w : World} {K : Frag} {elts : List Expr} {kk : Nat} {tpos : Pos} (a e it : Addr) :
    Turn P w K (.Tuple elts kk tpos) (IteT K a) [e, it] e (fun i h => (∃ old, IsEnum h e it ((i : Nat) : Int) old) ∧ h.IsTupleIter it a i ∧ e ≠ it) where
  mem := by simp
  obj := fun i h st b hb => by
    obtain ⟨⟨old, he⟩, ⟨o, ho, hc, hd⟩, _⟩ := st
    have e' : b = e ∨ b = it := by simpa using hb
    rcases e' with z | z
    · rw [z]; exact ⟨_, he, fun v q => nomatch q⟩
    · rw [z]; exact ⟨o, ho, fun v q => by rw [hd] at q; cases q⟩
  keep := fun i h h' st k => let ⟨⟨old, he⟩, hi, hne⟩ := st; ⟨⟨old, k e (by simp) _ he⟩, hi.at fun o q => k it (by simp) o q, hne⟩
  item := by
    intro X hP hw hK hc i pins s σ H E I hf st hg
    subst hP hw hK
    obtain ⟨⟨old, he⟩, hit, hne⟩ := st
    obtain ⟨xs, x, hq, hx⟩ := hg
    obtain ⟨its, rv, p, hz⟩ := I.tuple hq
    obtain ⟨u, hu, ru⟩ := rv.get hx
    have p' : s.heap.IsTuple a its.toArray := p
    have hel : e < s.heap.objs.size := Heap.lt_size he
    have hil : it < s.heap.objs.size := by obtain ⟨_, q, _⟩ := hit; exact Heap.lt_size q
    have hai : a ≠ it := fun z => by
      obtain ⟨o1, q1, c1, _⟩ := p'
      obtain ⟨o2, q2, c2, _⟩ := hit
      rw [z, q2] at q1; cases q1; rw [c2] at c1; exact absurd (Value.type.inj c1) (by decide)
    have hae : e ≠ a := fun z => by
      obtain ⟨o1, q1, c1, _⟩ := p'
      have he' : s.heap.get? e = some _ := he
      rw [← z, he'] at q1; cases q1; exact absurd (Value.type.inj c1) (by decide)
    have hisz : i < its.toArray.size := by
      have := (List.getElem?_eq_some_iff.mp hu).1
      simpa using this
    have D := Draws.tuple (prog := X.prog) (w := X.w) (A := X.A.in1) (show X.A.in1.handled = none from I.ok.hd hc) it a hai its.toArray
    refine wpAny_pyNext_enum_itemD D he ⟨hit, p'⟩ hisz hne (by simp [hne, hae]) fun x' h' tk hP ho hst' hT hsz hk => ?_
    have hxu : x' = u := by
      have h1 : its.toArray[i]? = some x' := hP
      have h2 : its.toArray[i]? = some u := by simpa using hu
      rw [h1] at h2; exact Option.some.inj h2
    subst hxu
    refine ⟨_, rfl, wpAny_letOwnedTupleGo_enum (s := { s with heap := h', toks := tk + 1 }) ho fun h'' he' sb => ?_⟩
    have hT2 : h''.get? s.heap.objs.size = some { cls := .type "tuple", data := .seq #[.int i tk, x'] } := (sb.2 _ (Nat.ne_of_gt hel)).trans hT
    have new : ObjOk X.prog X.w (upd H s.heap.objs.size (.tup [.int (i : Nat), x])) h'' s.heap.objs.size (.tup [.int (i : Nat), x]) :=
      ⟨by show 2 ≤ sizeLine; decide, [.int i tk, x'], .cons ⟨_, rfl⟩ (.cons ru .nil), ⟨_, hT2, rfl, _, rfl⟩⟩
    have I1 : L2.Inv X pins σ (upd H s.heap.objs.size (.tup [.int (i : Nat), x])) { s with heap := h'', toks := tk + 1 } :=
      I.turnedNew (ch := [e, it]) (fun b ob hb q => (sb.2 b (fun z => hb (by simp [z]))).trans (hk b ob (fun z => hb (by simp [z])) (fun z => hb (by simp [z])) q)) hf (Nat.le_refl _) new
    refine ⟨.ref s.heap.objs.size, _, I1, rfl, ⟨_, x, rfl, I.hok.fresh (Nat.le_refl _), rfl, fun ys hy => by rw [dl_tuple_inj I hy hq]; exact hx⟩, ⟨⟨x', ?_⟩, hst'.1.at fun o q => (sb.2 it (Ne.symm hne)).trans q, hne⟩, fun b hb => ?_⟩
    · have e1 : ((i + 1 : Nat) : Int) = (i : Int) + 1 := by omega
      rw [e1]; exact he'
    · have hb' : b < s.heap.objs.size := by
        have e' : b = e ∨ b = it := by simpa using hb
        rcases e' with z | z
        · rw [z]; exact hel
        · rw [z]; exact hil
      rw [upd_ne (Nat.ne_of_lt hb')]
      exact (hf b hb).1
  done := by
    intro X hP hw hK hc i pins s σ H E I hf st hg
    subst hP hw hK
    obtain ⟨⟨old, he⟩, hit, hne⟩ := st
    obtain ⟨xs, hq, hx⟩ := hg
    obtain ⟨its, rv, p, hz⟩ := I.tuple hq
    have p' : s.heap.IsTuple a its.toArray := p
    have hai : a ≠ it := fun z => by
      obtain ⟨o1, q1, c1, _⟩ := p'
      obtain ⟨o2, q2, c2, _⟩ := hit
      rw [z, q2] at q1; cases q1; rw [c2] at c1; exact absurd (Value.type.inj c1) (by decide)
    obtain ⟨f0, f1, f2, f3, f4, f5⟩ := hf it (by simp)
    have hl := rv.length
    have D : Draws X.prog X.w X.A.in1 it [it, a] i (fun _ _ => False) (fun j h => j = i ∧ h.IsTupleIter it a j ∧ h.IsTuple a its.toArray) := {
      live := fun _ _ st => let ⟨o, ho, _⟩ := st.2.1; ⟨o, ho⟩
      frame := fun _ _ _ st hk => ⟨st.1, st.2.1.at fun o e => hk it (by simp) o e, st.2.2.at fun o e => hk a (by simp) o e⟩
      item := fun j s' Q E hj st hQ => absurd st.1 (by omega)
      done := fun s' Q E st hE => wpAny_nextOf_tuple_end (show X.A.in1.handled = none from I.ok.hd hc) st.2.1 st.2.2 (by simp; omega) hE }
    exact wpAny_pyNext_enum_endD D he ⟨rfl, hit, p'⟩ fun h' eb => ⟨rfl, I.turned (t' := s.toks) (fun b o hb q => eb b o hb q) f0 f1 f3 f4 f5⟩
  self := fun A i s Q E st h => let ⟨⟨_, he⟩, _⟩ := st; wpAny_pyIter_enum he h
def iEnumS (K : Frag) (ta : TA) : TI := fun σ H R => ta σ H fun vs H1 => ∃ a, vs = [.ref a] ∧ ((∃ xs, SqL K H1 a xs) ∧ R (Ite K a) H1 ∨ (∃ xs, SqT K H1 a xs) ∧ R (IteT K a) H1)
theorem pi_enumS {X : Cx} {e : Expr} {ta : TA} {p pos tpos : Pos} {elts : List Expr} {kk : Nat} (hg : Gl X "enumerate") (hm : X.mg "enumerate" = none) (ha : PA X [e] ta) (hs : starEach [e] X.env = [(false, eval e X.env)] := by rfl) :
    PI X (.Tuple elts kk tpos) (.Call (.Name "enumerate" p) [e] [] pos) (iEnumS X.K ta) := by
  refine ⟨fun pins s σ H R I h => ?_⟩
  refine PyProof.Rows.Call_ (ld_blt I hg hm PyProof.Rows.boot_enumerate (PyProof.Rows.callWith_type1 (thn (ha.run pos pins s σ H _ I h) fun us s1 ⟨vs, H1, I1, r1, q1⟩ => ?_) hs rfl))
  obtain ⟨a, ex, q⟩ := q1
  subst ex
  cases r1 with
  | cons r rr =>
    cases rr
    cases r
    rcases q with ⟨⟨xs, hq⟩, q⟩ | ⟨⟨xs, hq⟩, q⟩
    · obtain ⟨its, rv, p', hz⟩ := I1.list hq
      refine call_enumerate_list p'.isList fun h' he hit hsz hk => wpAny_pyIter_enum he ?_
      have I2 : L2.Inv X pins σ H1 { s1 with heap := h' } := I1.kept (t' := s1.toks) hk
      refine ⟨s1.heap.objs.size + 1, [s1.heap.objs.size + 1, s1.heap.objs.size], _, _, H1, rfl, I2, turn_enum a (s1.heap.objs.size + 1) s1.heap.objs.size, ⟨⟨.none, he⟩, hit, Nat.succ_ne_self _⟩, fun b hb => ?_, q⟩
      have e' : b = s1.heap.objs.size + 1 ∨ b = s1.heap.objs.size := by simpa using hb
      have hle : s1.heap.objs.size ≤ b := by
        rcases e' with z | z
        · rw [z]; exact Nat.le_add_right _ _
        · rw [z]; exact Nat.le_refl _
      exact I1.fpOk hle (I1.hok.fresh hle)
    · obtain ⟨its, rv, p', hz⟩ := I1.tuple hq
      refine dl_enum_begins (begins_tuple a its.toArray) p' fun h' he hit hsz hk => wpAny_pyIter_enum he ?_
      have I2 : L2.Inv X pins σ H1 { s1 with heap := h' } := I1.kept (t' := s1.toks) hk
      refine ⟨s1.heap.objs.size + 1, [s1.heap.objs.size + 1, s1.heap.objs.size], _, _, H1, rfl, I2, turn_enumT a (s1.heap.objs.size + 1) s1.heap.objs.size, ⟨⟨.none, he⟩, ⟨_, hit, rfl, rfl⟩, Nat.succ_ne_self _⟩, fun b hb => ?_, q⟩
      have e' : b = s1.heap.objs.size + 1 ∨ b = s1.heap.objs.size := by simpa using hb
      have hle : s1.heap.objs.size ≤ b := by
        rcases e' with z | z
        · rw [z]; exact Nat.le_add_right _ _
        · rw [z]; exact Nat.le_refl _
      exact I1.fpOk hle (I1.hok.fresh hle)
/-- the pairs of enumerate -/
def enumF (n : Nat) : List Dat → List Vl
  | [] => []
  | d :: ds => .dat (.tup [.int (n : Int), d]) :: enumF (n + 1) ds
theorem enumF_len : ∀ (ds : List Dat) (n : Nat), (enumF n ds).length = ds.length
  | [], _ => rfl
  | _ :: ds, n => congrArg Nat.succ (enumF_len ds (n + 1))
theorem enumF_get : ∀ (ds : List Dat) (n i : Nat) (d : Dat), ds[i]? = some d → (enumF n ds)[i]? = some (.dat (.tup [.int ((n + i : Nat) : Int), d]))
  | _ :: ds, n, 0, _, h => by cases h; rfl
  | _ :: ds, n, i + 1, d, h => by
    have := enumF_get ds (n + 1) i d h
    rw [show n + 1 + i = n + (i + 1) by omega] at this
    exact this
theorem enumF_at {ds : List Dat} {i : Nat} {x : Vl} (h : (enumF 0 ds)[i]? = some x) : ∃ d, ds[i]? = some d ∧ x = .dat (.tup [.int (i : Int), d]) := by
  have hl := (List.getElem?_eq_some_iff.mp h).1
  rw [enumF_len] at hl
  have hd : ds[i]? = some ds[i] := List.getElem?_eq_getElem hl
  refine ⟨_, hd, ?_⟩
  rw [enumF_get ds 0 i _ hd] at h
  cases h
  simp
def wiEnum (wa : WA) : WI := fun ρ cs P => wa ρ cs fun xs cs1 => ∃ x b ys ds, xs = [x] ∧ seqD cs1 x = some (b, ys) ∧ allDat ys = some ds ∧ P (enumF 0 ds) (fun cs' => seqD cs' x = some (b, ys)) cs1
section
variable {K : Frag} {M0 : Hp} {x : Vl} {a : Addr} {ds : List Dat}
theorem enum_yield {M H : Hp} {cs : Cells} {v : V} {d : Dat} {T : Addr} {i : Nat} (o : Ok K M H cs) (hT : H T = none) (r : Dr K M v d) :
    ∃ M', Same M M' ∧ Ok K M' (upd H T (.tup [.int (i : Nat), v])) cs ∧ RV K M' (.ref T) (.dat (.tup [.int (i : Int), d])) := by
  obtain ⟨s, o'⟩ := o.newM hT (.tup [.int (i : Nat), v])
  exact ⟨_, s, o', rv_dat (.tup (.inl (.inl upd_same)) (.cons (.int _) (.cons (r.mono s) .nil)))⟩
theorem it_enumL (r : RV K M0 (.ref a) x) : ItOk K M0 (Ite K a) (enumF 0 ds) (fun cs' => seqD cs' x = some (true, ds.map .dat)) := by
  refine ⟨fun i M2 H2 cs2 s2 o2 g2 hi => ?_, fun M2 H2 cs2 s2 o2 g2 => ?_, fun i M2 H2 cs2 v2 H3 s2 o2 g2 y hi => ?_⟩
  all_goals
    obtain ⟨a2, vs2, ea2, q2, pr2⟩ := seqD_list o2 (r.mono s2) g2
    cases ea2
    have hl := Paired.len pr2
    rw [List.length_map] at hl
    have da := DrAll.of_paired pr2
  · rw [enumF_len] at hi
    exact ⟨vs2, vs2[i]'(by omega), q2, by simp [show i < vs2.length by omega]⟩
  · exact ⟨vs2, q2, by rw [enumF_len, hl]; exact Nat.le_refl _⟩
  · obtain ⟨T, x1, e1, hT, e2, hx⟩ := y
    subst e1 e2
    obtain ⟨d, hd, rd⟩ := da.getV (hx vs2 q2)
    obtain ⟨M', s', o', r'⟩ := enum_yield (i := i) o2 hT rd
    exact ⟨M', _, by have := enumF_get ds 0 i d hd; rw [Nat.zero_add] at this; exact this, s', o', r'⟩
theorem it_enumT (r : RV K M0 (.ref a) x) : ItOk K M0 (IteT K a) (enumF 0 ds) (fun cs' => seqD cs' x = some (false, ds.map .dat)) := by
  refine ⟨fun i M2 H2 cs2 s2 o2 g2 hi => ?_, fun M2 H2 cs2 s2 o2 g2 => ?_, fun i M2 H2 cs2 v2 H3 s2 o2 g2 y hi => ?_⟩
  all_goals
    obtain ⟨a2, vs2, ea2, q2, pr2⟩ := seqD_tup o2 (r.mono s2) g2
    cases ea2
    have hl := Paired.len pr2
    rw [List.length_map] at hl
    have da := DrAll.of_paired pr2
  · rw [enumF_len] at hi
    exact ⟨vs2, vs2[i]'(by omega), q2, by simp [show i < vs2.length by omega]⟩
  · exact ⟨vs2, q2, by rw [enumF_len, hl]; exact Nat.le_refl _⟩
  · obtain ⟨T, x1, e1, hT, e2, hx⟩ := y
    subst e1 e2
    obtain ⟨d, hd, rd⟩ := da.getV (hx vs2 q2)
    obtain ⟨M', s', o', r'⟩ := enum_yield (i := i) o2 hT rd
    exact ⟨M', _, by have := enumF_get ds 0 i d hd; rw [Nat.zero_add] at this; exact this, s', o', r'⟩
end
theorem di_enum {X : Cx} {e : Expr} {wa : WA} {p pos tpos : Pos} {elts : List Expr} {kk : Nat} (hm : X.mg "enumerate" = none) (ha : DA X [e] wa) (hg : Gl X "enumerate" := by rfl) (hs : starEach [e] X.env = [(false, eval e X.env)] := by rfl) :
    DI X (.Tuple elts kk tpos) (.Call (.Name "enumerate" p) [e] [] pos) (wiEnum wa) :=
  pi_imp (pi_enumS hg hm ha hs) fun σ H R ⟨M, ρ, cs, P, o, r, p, k⟩ => by
    refine ⟨M, ρ, cs, _, o, r, p, fun vs xs M1 H1 cs1 s1 o1 r1 ⟨x, b, ys, ds, ex, hx, hd, p1⟩ => ?_⟩
    subst ex
    cases r1 with
    | cons r1 rr =>
      cases rr
      have hy := allDat_eq hd
      subst hy
      cases b with
      | true =>
        obtain ⟨a, vs, ea, q, pr⟩ := seqD_list o1 r1 hx
        subst ea
        exact ⟨a, rfl, .inl ⟨⟨vs, q⟩, k _ _ _ M1 H1 cs1 s1 o1 (it_enumL r1) p1⟩⟩
      | false =>
        obtain ⟨a, vs, ea, q, pr⟩ := seqD_tup o1 r1 hx
        subst ea
        exact ⟨a, rfl, .inr ⟨⟨vs, q⟩, k _ _ _ M1 H1 cs1 s1 o1 (it_enumT r1) p1⟩⟩
end DL
set_option maxRecDepth 100000
set_option maxHeartbeats 4000000
namespace DL
open PySem L2
/-! ### xs[i] += e -/
theorem get_list {X : Cx} : PGet X (rIxL X.K) := by
  intro pins s σ H x y v u Q I rx ry h
  obtain ⟨p, xs, i, z, rfl, rfl, hq, he, q⟩ := h
  cases rx
  obtain ⟨t, rfl⟩ := ry
  obtain ⟨its, r, pl, hz⟩ := I.list hq
  obtain ⟨j, h1, h2, h3, h4, h5⟩ := atI_get he
  obtain ⟨w, ew, rw'⟩ := r.get h2
  have hl := r.length
  have hn := line63
  have fin : EP X pins σ Q w s := ⟨z, H, I, rw', q⟩
  by_cases h0 : 0 ≤ i
  · have hj : i.toNat = j := by
      rw [seqIndex_of h0 h5] at h1
      exact Option.some.inj h1
    exact wpAny_getItem_list pl.isList h0 (by omega) (by rw [hj]; simpa using ew) fin
  · have hj : (i + (its.toArray.size : Int)).toNat = j := by
      rw [seqIndex_neg (by omega) h4] at h1
      rw [List.size_toArray, ← hl]
      exact Option.some.inj h1
    exact wpAny_getItem_list_neg pl.isList (by omega) (by rw [List.size_toArray] <;> omega) (by omega) (by rw [hj]; simpa using ew) fin
def wAugIx (wo wi we : WE) (f : Int → Int → Int) : WS := fun D ρ cs => wo ρ cs fun o cs1 => wi ρ cs1 fun i cs2 => ∃ a xs k j n, o = .cell a ∧ i = .dat (.int k) ∧ cs2 a = some (.lst xs) ∧ ixN xs.length k = some j ∧ xs[j]? = some (.dat (.int n)) ∧
  we ρ cs2 fun y cs3 => ∃ m, y = .dat (.int m) ∧ cs3 a = some (.lst xs) ∧ D.nx ρ (cs3.put a (.lst (xs.set j (.dat (.int (f n m))))))
section
variable {X : Cx} {a b c e o : Expr} {es : List Expr} {wa wb wc we wo : WE} {w u : WT} {wr : WA} {pos : Pos}
theorem ds_augIx {tpos : Pos} {op : Operator} {f : Int → Int → Int} (ho : DE X a wa) (hi : DE X b wb) (he : DE X e we) (hp : PIp X op (ipI f))
    (ha : ∀ ov iv new, augStore b ov iv new = (do holding [new, ov, iv] (setItem ov iv new); release [new, ov, iv] []; pure .next) := by intros; rfl) : DS X (.AugAssign (.Subscript a b tpos) op e pos) (wAugIx wa wb we f) :=
  ps_imp (ps_augS ho hi get_list he hp set_list ha) fun E σ H ⟨M, ρ, cs, D, o, r, h, e⟩ => by
    refine ⟨M, ρ, cs, _, o, r, h, fun v1 x1 M1 H1 cs1 s1 o1 r1 p1 => ?_⟩
    refine ⟨M1, ρ, cs1, _, o1, r.mono s1, p1, fun v2 x2 M2 H2 cs2 s2 o2 r2 ⟨ad, xs, k, j, n, e1, e2, hc, hj, hn, p2⟩ => ?_⟩
    subst e1 e2
    have e1 : v1 = .ref ad := r1
    obtain ⟨m0, ob, hob, cr⟩ := o2.cell ad _ hc
    cases ob <;> try exact (show False from cr).elim
    rename_i ys
    have cr : Paired (RV X.K M2) ys xs := cr
    obtain ⟨vn, hvn, rvn⟩ := Paired.getR cr hn
    rw [inv_int rvn] at hvn
    refine ⟨ad, ys, k, .int n, e1, inv_int r2, .inl (.inl hob), by unfold atI; rw [Paired.len cr, hj]; exact hvn, ?_⟩
    refine ⟨M2, ρ, cs2, _, o2, r.mono (s1.trans s2), p2, fun v3 x3 M3 H3 cs3 s3 o3 r3 ⟨m, e3, hc3, p3⟩ => ?_⟩
    subst e3
    obtain ⟨m3, ob3, hob3, cr3⟩ := o3.cell ad _ hc3
    cases ob3 <;> try exact (show False from cr3).elim
    rename_i ys3
    have cr3 : Paired (RV X.K M3) ys3 xs := cr3
    refine ⟨n, m, rfl, inv_int r3, ad, ys3, k, j, e1, inv_int r2, hob3, by rw [Paired.len cr3]; exact hj, ?_⟩
    have s123 := s1.trans (s2.trans s3)
    exact e.nx σ ρ M3 _ _ s123 (o3.setC hc3 (c := .lst (xs.set j (.dat (.int (f n m))))) (paired_set cr3 (rv_dat (.int _)))) (r.mono s123) p3
/-! ### methods of lists -/
def wApp (wo we : WE) : WE := fun ρ cs P => wo ρ cs fun o cs1 => ∃ a xs0, o = .cell a ∧ cs1 a = some (.lst xs0) ∧ we ρ cs1 fun y cs2 => ∃ xs, cs2 a = some (.lst xs) ∧ xs.length < 16777216 ∧ P (.dat .non) (cs2.put a (.lst (xs ++ [y])))
theorem size_lt {n : Nat} (h : n < 16777216) : n < sizeLine := by rw [sizeLine_eq]; exact h
theorem cell_lst {K : Frag} {M H : Hp} {cs : Cells} {a : Addr} {xs : List Vl} (o : Ok K M H cs) (h : cs a = some (.lst xs)) : ∃ ys, H a = some (.lst ys) ∧ Paired (RV K M) ys xs := by
  obtain ⟨m3, ob3, hob3, cr3⟩ := o.cell a _ h
  cases ob3 <;> try exact (show False from cr3).elim
  exact ⟨_, hob3, cr3⟩
theorem de_append {apos cpos : Pos} (ho : DE X o wo) (he : DE X e we) (hbase : attributeBase o "append" X.env (eval o X.env) = eval o X.env := by rfl)
    (hfew : ((backTo cpos (starEach [e] X.env)).all (fun x => !x.1) && (backToKw cpos (keywordEach [] X.env)).all (fun x => x.1.isSome)
      && decide ([e].length + ([] : List Keyword).length + (if ([] : List Keyword).isEmpty then 0 else 1) < 30)) = true := by rfl)
    (hline : (apos.endLine == cpos.line) = true := by rfl) (hs : starEach [e] X.env = (false, eval e X.env) :: starEach [] X.env := by rfl) (hplain : (backTo cpos (starEach [] X.env)).any (·.1) = false := by rfl) :
    DE X (.Call (.Attribute o "append" apos) [e] [] cpos) (wApp wo we) :=
  pe_imp (pe_bm PySem.F.plainAttrs_list PySem.F.slot_list_append PySem.F.type_list_append mt_append ho (pa_cons he pa_nil hs) hbase hfew hline hs hplain) fun σ H Q ⟨M, ρ, cs, P, o, r0, p, k⟩ => by
    refine ⟨M, ρ, cs, _, o, r0, p, fun v x M1 H1 cs1 s1 o1 r1 ⟨a, xs0, ea, hc, p1⟩ => ?_⟩
    subst ea
    have e1 : v = .ref a := r1
    subst e1
    obtain ⟨ys, hy, py⟩ := cell_lst o1 hc
    refine ⟨.inl ⟨rfl, _, .inl (.inl hy)⟩, M1, ρ, cs1, _, o1, r0.mono s1, p1, fun v2 x2 M2 H2 cs2 s2 o2 r2 ⟨xs, hc2, hz, p2⟩ => ?_⟩
    obtain ⟨ys2, hy2, py2⟩ := cell_lst o2 hc2
    refine ⟨a, ys2, v2, rfl, rfl, hy2, by rw [Paired.len py2]; exact size_lt hz, ?_⟩
    exact k _ _ M2 _ _ (s1.trans s2) (o2.setC hc2 (c := .lst (xs ++ [x2])) (Paired.app py2 (.cons r2 .nil))) (rv_dat .non) p2
def wExt (wo we : WE) : WE := fun ρ cs P => wo ρ cs fun o cs1 => ∃ a xs0, o = .cell a ∧ cs1 a = some (.lst xs0) ∧ we ρ cs1 fun y cs2 => ∃ b xs zs, y = .cell b ∧ cs2 a = some (.lst xs) ∧ cs2 b = some (.lst zs) ∧ xs.length + zs.length ≤ 16777216 ∧ P (.dat .non) (cs2.put a (.lst (xs ++ zs)))
theorem de_extend {apos cpos : Pos} (ho : DE X o wo) (he : DE X e we) (hbase : attributeBase o "extend" X.env (eval o X.env) = eval o X.env := by rfl)
    (hfew : ((backTo cpos (starEach [e] X.env)).all (fun x => !x.1) && (backToKw cpos (keywordEach [] X.env)).all (fun x => x.1.isSome)
      && decide ([e].length + ([] : List Keyword).length + (if ([] : List Keyword).isEmpty then 0 else 1) < 30)) = true := by rfl)
    (hline : (apos.endLine == cpos.line) = true := by rfl) (hs : starEach [e] X.env = (false, eval e X.env) :: starEach [] X.env := by rfl) (hplain : (backTo cpos (starEach [] X.env)).any (·.1) = false := by rfl) :
    DE X (.Call (.Attribute o "extend" apos) [e] [] cpos) (wExt wo we) :=
  pe_imp (pe_bm PySem.F.plainAttrs_list PySem.F.slot_list_extend PySem.F.type_list_extend mt_extend ho (pa_cons he pa_nil hs) hbase hfew hline hs hplain) fun σ H Q ⟨M, ρ, cs, P, o, r0, p, k⟩ => by
    refine ⟨M, ρ, cs, _, o, r0, p, fun v x M1 H1 cs1 s1 o1 r1 ⟨a, xs0, ea, hc, p1⟩ => ?_⟩
    subst ea
    have e1 : v = .ref a := r1
    subst e1
    obtain ⟨ys, hy, py⟩ := cell_lst o1 hc
    refine ⟨.inl ⟨rfl, _, .inl (.inl hy)⟩, M1, ρ, cs1, _, o1, r0.mono s1, p1, fun v2 x2 M2 H2 cs2 s2 o2 r2 ⟨b, xs, zs, eb, hc2, hc3, hz, p2⟩ => ?_⟩
    subst eb
    have e2 : v2 = .ref b := r2
    subst e2
    obtain ⟨ys2, hy2, py2⟩ := cell_lst o2 hc2
    obtain ⟨ys3, hy3, py3⟩ := cell_lst o2 hc3
    refine ⟨a, b, ys2, ys3, rfl, rfl, hy2, hy3, by rw [Paired.len py2, Paired.len py3]; exact size_line hz, ?_⟩
    exact k _ _ M2 _ _ (s1.trans s2) (o2.setC hc2 (c := .lst (xs ++ zs)) (Paired.app py2 py3)) (rv_dat .non) p2
/-! ### + and * of lists: new lists; what is not needed any more may be dropped -/
def SubC (cs' cs : Cells) : Prop := ∀ a c, cs' a = some c → cs a = some c
theorem SubC.refl (cs : Cells) : SubC cs cs := fun _ _ h => h
theorem SubC.put {cs : Cells} {p : Addr} {c : CO} (h : cs p = none) : SubC cs (cs.put p c) := fun a d e => by
  rw [Cells.put_ne (by intro z; rw [z, h] at e; cases e)]; exact e
theorem SubC.trans {a b c : Cells} (h : SubC a b) (h' : SubC b c) : SubC a c := fun x d e => h' x d (h x d e)
def wCat : W2 := fun x y cs P => ∃ a b xs ys cs', x = .cell a ∧ y = .cell b ∧ cs a = some (.lst xs) ∧ cs b = some (.lst ys) ∧ xs.length + ys.length ≤ 16777216 ∧ SubC cs' cs ∧ newL (xs ++ ys) cs' P
def wRep : W2 := fun x y cs P => ∃ a k xs cs', x = .cell a ∧ y = .dat (.int k) ∧ cs a = some (.lst xs) ∧ -(2 ^ 63) ≤ k ∧ k < 2 ^ 63 ∧ xs.length * k.toNat ≤ 16777216 ∧ SubC cs' cs ∧ newL (List.replicate k.toNat xs).flatten cs' P
theorem paired_rep {α β : Type} {R : α → β → Prop} {xs : List α} {ys : List β} (h : Paired R xs ys) : ∀ n, Paired R (List.replicate n xs).flatten (List.replicate n ys).flatten
  | 0 => .nil
  | n + 1 => by
    rw [List.replicate_succ, List.replicate_succ, List.flatten_cons, List.flatten_cons]
    exact Paired.app h (paired_rep h n)
theorem de_cat (ha : DE X a wa) (hb : DE X b wb) : DE X (.BinOp a .Add b pos) (wOp wCat wa wb) := de_op op_cat (fun M H cs x y a b P Q o rx ry ⟨p, q, xs, ys, cs', ea, eb, h1, h2, hz, hs, hn⟩ k => by
  subst ea eb
  obtain ⟨us, hu, pu⟩ := cell_lst o h1
  obtain ⟨vs, hv, pv⟩ := cell_lst o h2
  exact ⟨p, q, us, vs, rx, ry, hu, hv, by rw [Paired.len pu, Paired.len pv]; exact size_line hz, newL_ok (o.sub hs) (Paired.app pu pv) hn k⟩) ha hb
theorem de_rep (ha : DE X a wa) (hb : DE X b wb) : DE X (.BinOp a .Mult b pos) (wOp wRep wa wb) := de_op op_rep (fun M H cs x y a b P Q o rx ry ⟨p, k, xs, cs', ea, eb, h1, h2, h3, hz, hs, hn⟩ kk => by
  subst ea eb
  obtain ⟨us, hu, pu⟩ := cell_lst o h1
  exact ⟨p, k, us, rx, inv_int ry, hu, h2, h3, by rw [Paired.len pu]; exact size_line hz, newL_ok (o.sub hs) (paired_rep pu _) hn kk⟩) ha hb
end
/-! ### isinstance -/
inductive Ty where
  | non | bool | int | str | list | tuple | dict
  deriving DecidableEq
def Ty.nm : Ty → String
  | .non => "NoneType"
  | .bool => "bool"
  | .int => "int"
  | .str => "str"
  | .list => "list"
  | .tuple => "tuple"
  | .dict => "dict"
def isiT : Ty → Ty → Bool
  | .bool, .int => true
  | a, b => decide (a = b)
theorem kit_isi (a b : Ty) : kitB a.nm b.nm = some (isiT a b) := by cases a <;> cases b <;> decide +kernel
def coTy : Option CO → Option Ty
  | some (.lst _) => some .list
  | some (.dk _) => some .dict
  | some (.dt _) => some .dict
  | _ => none
def tyD (cs : Cells) : Vl → Option Ty
  | .dat .non => some .non
  | .dat (.bl _) => some .bool
  | .dat (.int _) => some .int
  | .dat (.str _) => some .str
  | .dat (.lst _) => some .list
  | .dat (.tup _) => some .tuple
  | .dat (.obj _ _) => none
  | .raw (.ref a) => coTy (cs a)
  | .raw _ => none
theorem tyX_list {K : Frag} {H : Hp} {a : Addr} {xs : List V} (h : SqL K H a xs) : TyX K H (.ref a) (.type "list") := by
  rcases h with (h | ⟨o, h⟩) | ⟨o, its, n, hk, hc, _⟩
  · exact .base (.lst h)
  · exact .base (.frz h)
  · exact .kList hk hc
theorem tyX_tup {K : Frag} {H : Hp} {a : Addr} {xs : List V} (h : SqT K H a xs) : TyX K H (.ref a) (.type "tuple") := by
  rcases h with (h | ⟨o, h⟩) | ⟨o, its, n, hk, hc, _⟩
  · exact .base (.tup h)
  · exact .fTuple h
  · exact .kTuple hk hc
theorem tyD_ok {K : Frag} {M H : Hp} {cs : Cells} {v : V} {x : Vl} {t : Ty} (o : Ok K M H cs) (r : RV K M v x) (h : tyD cs x = some t) : TyX K H v (.type t.nm) := by
  match x, r, h with
  | .dat .non, r, h => cases h; rw [inv_non r]; exact .base .non
  | .dat (.bl b), r, h => cases h; rw [inv_bl r]; exact .base (.bl b)
  | .dat (.int b), r, h => cases h; rw [inv_int r]; exact .base (.int b)
  | .dat (.str b), r, h => cases h; rw [inv_str r]; exact .base (.str b)
  | .dat (.lst ds), r, h =>
    cases h
    cases (show Dr K M v (.lst ds) from r) with
    | lst q k => exact tyX_list (o.seqL q)
  | .dat (.tup ds), r, h =>
    cases h
    cases (show Dr K M v (.tup ds) from r) with
    | tup q k => exact tyX_tup (o.seqT q)
  | .raw (.ref a), r, h =>
    cases (show v = .ref a from r)
    have h : coTy (cs a) = some t := h
    cases q : cs a with
    | none => rw [q] at h; cases h
    | some c =>
      rw [q] at h
      obtain ⟨_, u, hu, z⟩ := o.cell a _ q
      cases c with
      | lst ys =>
        cases h
        cases u <;> try exact (show False from z).elim
        exact .base (.lst hu)
      | dk ys =>
        cases h
        cases u <;> try exact (show False from z).elim
        exact .base (.dK hu)
      | dt ys =>
        cases h
        cases u <;> try exact (show False from z).elim
        exact .base (.dT hu)
      | ins C fs => cases h
      | lk o' u' ys => cases h
      | tg => cases h
      | tl q => cases h
def wIsi (T : Ty) (we : WE) : WE := fun ρ cs P => we ρ cs fun x cs1 => ∃ t, tyD cs1 x = some t ∧ P (.dat (.bl (isiT t T))) cs1
def wIsi2 (T U : Ty) (we : WE) : WE := fun ρ cs P => we ρ cs fun x cs1 => ∃ t, tyD cs1 x = some t ∧ P (.dat (.bl (isiT t T || isiT t U))) cs1
section
variable {X : Cx} {a b c e o : Expr} {es : List Expr} {wa wb wc we wo : WE} {w u : WT} {wr : WA} {pos : Pos}
theorem de_isi (T : Ty) {tn : Str} {p pt : Pos} (hm : X.mg "isinstance" = none) (ht : X.mg tn = none) (hv : bootBuiltins tn = some (.type T.nm)) (h : DE X e we) (hg : Gl X "isinstance" := by rfl) (hgt : Gl X tn := by rfl) (hn : tn ≠ "__name__" := by decide) (hd : (tn == ("__debug__" : Str)) = false := by decide)
    (h1 : starEach [e, .Name tn pt] X.env = (false, eval e X.env) :: starEach [.Name tn pt] X.env := by rfl) (h2 : starEach [.Name tn pt] X.env = (false, eval (.Name tn pt) X.env) :: starEach [] X.env := by rfl)
    (hpl : (backTo pos (starEach [.Name tn pt] X.env)).any (·.1) = false := by rfl) :
    DE X (.Call (.Name "isinstance" p) [e, .Name tn pt] [] pos) (wIsi T we) :=
  pe_imp (pe_callB call_isi hg hm (by decide +kernel) (pa_cons h (pa_cons (pe_bltn (v := .ty T.nm) hgt ht hv rfl hn hd) pa_nil h2) h1) (by decide) (by decide) h1 hpl) fun σ H Q ⟨M, ρ, cs, P, o, r0, p, k⟩ => by
    refine ⟨M, ρ, cs, _, o, r0, p, fun v x M1 H1 cs1 s1 o1 r1 ⟨t, htt, p1⟩ => ?_⟩
    exact ⟨v, .ty T.nm, .type t.nm, .type T.nm, _, rfl, .ty _, tyD_ok o1 r1 htt, kit_ty (kit_isi t T), k _ _ M1 H1 cs1 s1 o1 (rv_dat (.bl _)) p1⟩
theorem de_isi2 (T U : Ty) {tn un : Str} {p pt pu ptt : Pos} {kk : Nat} (hm : X.mg "isinstance" = none) (ht : X.mg tn = none) (hu : X.mg un = none) (hv : bootBuiltins tn = some (.type T.nm)) (hvu : bootBuiltins un = some (.type U.nm)) (h : DE X e we)
    (hg : Gl X "isinstance" := by rfl) (hgt : Gl X tn := by rfl) (hgu : Gl X un := by rfl) (hn : tn ≠ "__name__" := by decide) (hd : (tn == ("__debug__" : Str)) = false := by decide) (hnu : un ≠ "__name__" := by decide) (hdu : (un == ("__debug__" : Str)) = false := by decide)
    (h1 : starEach [e, .Tuple [.Name tn pt, .Name un pu] kk ptt] X.env = (false, eval e X.env) :: starEach [.Tuple [.Name tn pt, .Name un pu] kk ptt] X.env := by rfl)
    (h2 : starEach [.Tuple [.Name tn pt, .Name un pu] kk ptt] X.env = (false, eval (.Tuple [.Name tn pt, .Name un pu] kk ptt) X.env) :: starEach [] X.env := by rfl)
    (h3 : starEach [.Name tn pt, .Name un pu] X.env = (false, eval (.Name tn pt) X.env) :: starEach [.Name un pu] X.env := by rfl) (h4 : starEach [.Name un pu] X.env = (false, eval (.Name un pu) X.env) :: starEach [] X.env := by rfl)
    (hpl : (backTo pos (starEach [.Tuple [.Name tn pt, .Name un pu] kk ptt] X.env)).any (·.1) = false := by rfl) :
    DE X (.Call (.Name "isinstance" p) [e, .Tuple [.Name tn pt, .Name un pu] kk ptt] [] pos) (wIsi2 T U we) :=
  pe_imp (pe_callB call_isiT hg hm (by decide +kernel) (pa_cons h (pa_cons (pe_tup (pa_cons (pe_bltn (v := .ty T.nm) hgt ht hv rfl hn hd) (pa_cons (pe_bltn (v := .ty U.nm) hgu hu hvu rfl hnu hdu) pa_nil h4) h3)) pa_nil h2) h1) (by decide) (by decide) h1 hpl) fun σ H Q ⟨M, ρ, cs, P, o, r0, p, k⟩ => by
    refine ⟨M, ρ, cs, _, o, r0, p, fun v x M1 H1 cs1 s1 o1 r1 ⟨t, htt, p1⟩ => ?_⟩
    refine ⟨by show 2 ≤ sizeLine; decide, fun q hq => ?_⟩
    obtain ⟨s2, o2⟩ := o1.newM hq (.tup [.ty T.nm, .ty U.nm])
    refine ⟨v, q, [.ty T.nm, .ty U.nm], .type t.nm, [.type T.nm, .type U.nm], _, rfl, upd_same, .cons (.ty _) (.cons (.ty _) .nil), tyD_ok o2 (r1.mono s2) htt, ?_, k _ _ _ _ cs1 (s1.trans s2) o2 (rv_dat (.bl (isiT t T || isiT t U))) p1⟩
    refine kitAny_cons (kit_ty (kit_isi t T)) (fun hf => ?_) (fun hf => by rw [hf]; rfl)
    refine kitAny_cons (kit_ty (kit_isi t U)) (fun hg => ?_) (fun hg => by rw [hg, Bool.or_true])
    rw [hf, hg]; rfl
end
end DL
set_option maxRecDepth 100000
set_option maxHeartbeats 4000000
namespace DL
open PySem L2
/-! ### list comprehensions -/
def wYes : WT := fun _ cs P => P true cs
def DTs (X : Cx) (ifs : List Expr) (w : WT) : Prop := PTs X ifs (liftT X.K w)
theorem pts_imp {X : Cx} {ifs : List Expr} {t t' : TT} (h : PTs X ifs t) (m : ∀ σ H Q, t' σ H Q → t σ H Q) : PTs X ifs t' := ⟨fun pins s σ H Q I q => h.run pins s σ H Q I (m σ H Q q)⟩
theorem dts_nil {X : Cx} : DTs X [] wYes := pts_imp pts_nil fun σ H Q ⟨M, ρ, cs, P, o, r, p, k⟩ => k true M H cs (Same.refl _) o p
theorem dts_one {X : Cx} {c : Expr} {w : WT} (h : DT X c w) : DTs X [c] w := pts_one h
def wipeD (ρ : DEnv) : List Nat → DEnv
  | [] => ρ
  | v :: vs => (wipeD ρ vs).set v none
theorem wipeD_len (ρ : DEnv) : ∀ vs, (wipeD ρ vs).length = ρ.length
  | [] => rfl
  | v :: vs => by unfold wipeD; rw [List.length_set, wipeD_len ρ vs]
theorem Rho.wipe {K : Frag} {M : Hp} {σ : St} {ρ : DEnv} (r : Rho K M σ ρ) : ∀ vs, Rho K M (L2.wipe σ vs) (wipeD ρ vs)
  | [] => r
  | v :: vs => by
    have ih := Rho.wipe r vs
    unfold L2.wipe wipeD
    refine ⟨by rw [List.length_set, List.length_set]; exact ih.len, fun i x e => ?_⟩
    by_cases h : v = i
    · subst h
      by_cases hl : v < (wipeD ρ vs).length
      · rw [List.getElem?_set_self hl] at e; cases e
      · rw [List.getElem?_eq_none (by rw [List.length_set]; omega)] at e; cases e
    · rw [List.getElem?_set_ne h] at e
      obtain ⟨u, hu, ru⟩ := ih.at_ i x e
      exact ⟨u, by rw [List.getElem?_set_ne h]; exact hu, ru⟩
theorem wipe_get {σ : St} {i : Nat} : ∀ vs : List Nat, i ∉ vs → (L2.wipe σ vs)[i]? = σ[i]?
  | [], _ => rfl
  | v :: vs, h => by
    unfold L2.wipe
    rw [List.getElem?_set_ne (by intro z; exact h (by simp [z])), wipe_get vs (fun z => h (by simp [z]))]
theorem wipe_in {σ : St} {i : Nat} (hi : i < σ.length) : ∀ vs : List Nat, i ∈ vs → (L2.wipe σ vs)[i]? = some none
  | v :: vs, h => by
    unfold L2.wipe
    by_cases hv : v = i
    · subst hv
      rw [List.getElem?_set_self (by rw [wipe_length]; exact hi)]
    · rw [List.getElem?_set_ne hv]
      exact wipe_in hi vs (by
        rcases List.mem_cons.mp h with z | z
        · exact absurd z.symm hv
        · exact z)
theorem wipe_eq {σ σ2 : St} {vs js : List Nat} (hl : σ2.length = (L2.wipe σ vs).length) (hj : ∀ i, i ∉ js → σ2[i]? = (L2.wipe σ vs)[i]?) (hs : ∀ i ∈ js, i ∈ vs) : L2.wipe σ2 vs = L2.wipe σ vs := by
  rw [wipe_length] at hl
  refine List.ext_getElem? fun i => ?_
  by_cases hi : i < σ.length
  · by_cases hv : i ∈ vs
    · rw [wipe_in (by omega) vs hv, wipe_in hi vs hv]
    · rw [wipe_get vs hv, hj i (fun z => hv (hs i z))]
  · rw [List.getElem?_eq_none (by rw [wipe_length]; omega), List.getElem?_eq_none (by rw [wipe_length]; omega)]
/-- the new list: a cell, or data for ever -/
def doneL (D : Addr) (acc : List Vl) (cs : Cells) (P : Vl → Cells → Prop) : Prop := P (.cell D) cs ∨ ∃ ds, allDat acc = some ds ∧ P (.dat (.lst ds)) (cs.del D)
theorem Ok.frz {K : Frag} {M H : Hp} {cs : Cells} {a : Addr} {ds : List Dat} (o : Ok K M H cs) (h : cs a = some (.lst (ds.map .dat))) : ∃ M', Same M M' ∧ Ok K M' H (cs.del a) ∧ Dr K M' (.ref a) (.lst ds) := by
  obtain ⟨ys, hy, py⟩ := cell_lst o h
  obtain ⟨m0, _⟩ := o.cell a _ h
  have s : Same M (upd M a (.lst ys)) := same_upd m0
  refine ⟨_, s, ⟨fun b ob e => ?_, fun b c e => ?_⟩, .lst (.inl (.inl upd_same)) ((DrAll.of_paired py).mono s)⟩
  · by_cases hb : b = a
    · rw [hb] at e ⊢; rw [upd_same] at e; cases e; exact hy
    · rw [upd_ne hb] at e; exact o.ex b ob e
  · have hb : b ≠ a := by intro z; simp [Cells.del, z] at e
    have e' : cs b = some c := by simpa [Cells.del, hb] using e
    obtain ⟨m, ob, q, r⟩ := o.cell b c e'
    exact ⟨by rw [upd_ne hb]; exact m, ob, q, r.mono s⟩
def wLc (wi : WI) (g : WG) (wt : WT) (we : WE) (vs : List Nat) : WE := fun ρ cs P => wi ρ cs fun items G cs1 => ∀ D, cs1 D = none → ∃ Inv : Nat → Cells → Prop, Inv 0 (cs1.put D (.lst [])) ∧ (∀ i cs', i ≤ items.length → Inv i cs' → G cs') ∧
  (∀ i x cs', items[i]? = some x → Inv i cs' → g x (wipeD ρ vs) cs' fun ρ2 cs2 => wt ρ2 cs2 fun b cs3 => if b = true then we ρ2 cs3 fun y cs4 => ∃ acc, cs4 D = some (.lst acc) ∧ acc.length < 16777216 ∧ Inv (i + 1) (cs4.put D (.lst (acc ++ [y]))) else Inv (i + 1) cs3) ∧
  ∀ cs', Inv items.length cs' → ∃ acc, cs' D = some (.lst acc) ∧ doneL D acc cs' P
theorem liftLc {K : Frag} {wi : WI} {g : WG} {wt : WT} {we : WE} {vs js : List Nat} (hs : ∀ i ∈ js, i ∈ vs) {σ : St} {H : Hp} {Q : VK} (h : lift K (wLc wi g wt we vs) σ H Q) : tLc (liftI K wi) (liftG K js g) (liftT K wt) (lift K we) vs σ H Q := by
  obtain ⟨M, ρ, cs, P, o, r, p, k⟩ := h
  refine ⟨M, ρ, cs, _, o, r, p, fun J items G M1 H1 cs1 s1 o1 it p1 => ?_⟩
  intro D hD
  obtain ⟨Iv, i0, iG, turn, fin⟩ := p1 D (o1.freeC hD)
  refine ⟨fun i m H' => m = items.length - i ∧ i ≤ items.length ∧ ∃ M' cs', Same M1 M' ∧ Ok K M' H' cs' ∧ Iv i cs', ⟨items.length, by simp, Nat.zero_le _, M1, _, Same.refl _, o1.newC hD (u := .lst []) (c := .lst []) .nil, i0⟩, ?_⟩
  rintro i m H' ⟨rfl, hi, M', cs', s', o', inv⟩
  have g' := iG i cs' hi inv
  by_cases hlt : i < items.length
  · refine .inr ⟨it.go i M' H' cs' s' o' g' hlt, fun H2 => ∃ M2 cs2, Same M1 M2 ∧ Ok K M2 H2 cs2 ∧ Iv (i + 1) cs2, fun H2 q => ⟨_, by omega, rfl, hlt, q⟩, fun v H2 y => ?_⟩
    obtain ⟨M2, x, ex, s2, o2, rv⟩ := it.yld i M' H' cs' v H2 s' o' g' y hlt
    refine ⟨M2, wipeD ρ vs, cs', x, _, o2, ((r.mono (s1.trans (s'.trans s2))).wipe vs), rv, turn i x cs' ex inv, fun σ3 ρ3 M3 H3 cs3 s3 o3 r3 hl3 hj3 p3 => ?_⟩
    refine ⟨wipe_eq hl3 hj3 hs, M3, ρ3, cs3, _, o3, r3, p3, fun b M4 H4 cs4 s4 o4 p4 => ?_⟩
    cases b with
    | true =>
      refine iteT ?_
      refine ⟨M4, ρ3, cs4, _, o4, r3.mono s4, (show we ρ3 cs4 fun y cs4 => ∃ acc, cs4 D = some (.lst acc) ∧ acc.length < 16777216 ∧ Iv (i + 1) (cs4.put D (.lst (acc ++ [y]))) by simpa using p4), fun v5 y5 M5 H5 cs5 s5 o5 r5 ⟨acc, hacc, hz, p5⟩ => ?_⟩
      obtain ⟨ys, hy, py⟩ := cell_lst o5 hacc
      exact ⟨ys, hy, by rw [Paired.len py]; exact size_lt hz, M5, _, s'.trans (s2.trans (s3.trans (s4.trans s5))), o5.setC hacc (c := .lst (acc ++ [y5])) (Paired.app py (.cons r5 .nil)), p5⟩
    | false =>
      refine iteF ?_
      exact ⟨M4, cs4, s'.trans (s2.trans (s3.trans s4)), o4, by simpa using p4⟩
  · have ei : i = items.length := by omega
    subst ei
    refine .inl ⟨it.stop M' H' cs' s' o' g', ?_⟩
    obtain ⟨acc, hacc, q⟩ := fin cs' inv
    rcases q with q | ⟨ds, hd, q⟩
    · exact k _ _ M' H' cs' (s1.trans s') o' rv_raw q
    · rw [allDat_eq hd] at hacc
      obtain ⟨M2, s2, o2, rd⟩ := o'.frz hacc
      exact k _ _ M2 H' _ (s1.trans (s'.trans s2)) o2 (rv_dat rd) q
section
variable {X : Cx} {elt tg iter : Expr} {ifs : List Expr} {scope : Scope} {own : List (Str × Nat)} {pos : Pos} {wi : WI} {g : WG} {wt : WT} {we : WE} {js : List Nat}
theorem de_lc (hN : X.N.Nodup) (hi : DI X tg iter wi) (ok : BlkOk X.N X.env.scope scope own)
    (hg : ∀ (s : Shared) (H : Hp) (C : Addr) (cl : List (Str × Addr)) (fp : List Addr), DG (X.blk s H scope (compEnvC scope cl C X.env) fp) js tg g) (ht : ∀ (s : Shared) (H : Hp) (C : Addr) (cl : List (Str × Addr)) (fp : List Addr), DTs (X.blk s H scope (compEnvC scope cl C X.env) fp) ifs wt)
    (he : ∀ (s : Shared) (H : Hp) (C : Addr) (cl : List (Str × Addr)) (fp : List Addr), DE (X.blk s H scope (compEnvC scope cl C X.env) fp) elt we) (hj : ∀ i ∈ js, i ∈ own.map (·.2)) (hc : X.calm = true := by rfl) (hs : ∀ x, foldedSetIterable iter X.env x = pure x := by intro _; rfl) :
    DE X (.ListComp elt [⟨tg, iter, ifs, 0⟩] scope pos) (wLc wi g wt we (own.map (·.2))) := pe_imp (pe_lc (wi := liftI X.K wi) (g := liftG X.K js g) (tt := liftT X.K wt) (te := lift X.K we) hc hN hi ok hg ht he hs) fun _ _ _ h => liftLc hj h
theorem ds_setLc {i : Nat} {y : Str} {py spos : Pos} (hN : X.N.Nodup) (hi : DI X tg iter wi) (ok : BlkOk X.N X.env.scope scope own)
    (hg : ∀ (s : Shared) (H : Hp) (C : Addr) (cl : List (Str × Addr)) (fp : List Addr), DG (X.blk s H scope (compEnvC scope cl C X.env) fp) js tg g) (ht : ∀ (s : Shared) (H : Hp) (C : Addr) (cl : List (Str × Addr)) (fp : List Addr), DTs (X.blk s H scope (compEnvC scope cl C X.env) fp) ifs wt)
    (he : ∀ (s : Shared) (H : Hp) (C : Addr) (cl : List (Str × Addr)) (fp : List Addr), DE (X.blk s H scope (compEnvC scope cl C X.env) fp) elt we) (hj : ∀ i ∈ js, i ∈ own.map (·.2))
    (hsw : swapsWith (.ListComp elt [⟨tg, iter, ifs, 0⟩] scope pos) (some (.Name y py)) spos.line X.env = pure true) (hy : X.N[i]? = some y := by rfl) (hyl : X.env.scope.names.lookup y = some .local := by rfl) (hc : X.calm = true := by rfl) (hs : ∀ x, foldedSetIterable iter X.env x = pure x := by intro _; rfl) :
    DS X (.Assign [.Name y py] (.ListComp elt [⟨tg, iter, ifs, 0⟩] scope pos) spos) (wAsg (wLc wi g wt we (own.map (·.2))) (gN i)) :=
  ps_imp (ps_setLc (wi := liftI X.K wi) (g := liftG X.K js g) (tt := liftT X.K wt) (te := lift X.K we) hc hN hy hyl hsw hi ok hg ht he hs) fun E σ H ⟨M, ρ, cs, D, o, r, h, e⟩ => liftLc hj ⟨M, ρ, cs, _, o, r, h, fun v x M' H' cs' s o' rv p => e.nx _ _ M' H' cs' s o' ((r.mono s).set rv) p⟩
end
/-! ### defs -/
abbrev DXP := Value → List (Str × Vl) → Cells → Prop
abbrev DSp := List Vl → Cells → (Vl → Cells → Prop) → DXP → Prop
def XRep (K : Frag) (M : Hp) : Option Addr → List (Str × Vl) → Prop
  | none, fs => fs = []
  | some d, fs => ∃ gs, M d = some (.xd gs) ∧ Paired (fun (p : Str × V) (q : Str × Vl) => p.1 = q.1 ∧ RV K M p.2 q.2) gs fs
def KontX (K : Frag) (M : Hp) (XP : DXP) (E : XK) : Prop := ∀ cls od fs M' H' cs', Same M M' → Ok K M' H' cs' → XRep K M' od fs → XP cls fs cs' → E cls od H'
theorem KontX.mono {K : Frag} {M M' : Hp} {P : DXP} {E : XK} (s : Same M M') (k : KontX K M P E) : KontX K M' P E := fun v x fs M2 H2 cs2 s2 o r p => k v x fs M2 H2 cs2 (s.trans s2) o r p
abbrev X0 : DXP := fun _ _ _ => False
def liftSp (K : Frag) (dsp : DSp) : Sp := fun vs H Q E => ∃ M xs cs P XP, Ok K M H cs ∧ Paired (RV K M) vs xs ∧ dsp xs cs P XP ∧ Kont K M P Q ∧ KontX K M XP E
/-- what stands may be seen otherwise: cells dropped, a list of data frozen -/
def Gh (K : Frag) (v : Vl) (cs : Cells) (v' : Vl) (cs' : Cells) : Prop := ∀ M H x, Ok K M H cs → RV K M x v → ∃ M', Same M M' ∧ Ok K M' H cs' ∧ RV K M' x v'
theorem Gh.refl (K : Frag) (v : Vl) (cs : Cells) : Gh K v cs v cs := fun M _ _ o r => ⟨M, Same.refl _, o, r⟩
theorem Gh.sub {K : Frag} {v : Vl} {cs cs' : Cells} (h : SubC cs' cs) : Gh K v cs v cs' := fun M _ _ o r => ⟨M, Same.refl _, o.sub h, r⟩
theorem Gh.frz {K : Frag} {a : Addr} {cs : Cells} {ds : List Dat} (h : cs a = some (.lst (ds.map .dat))) : Gh K (.cell a) cs (.dat (.lst ds)) (cs.del a) := fun M H x o r => by
  obtain ⟨M', s, o', rd⟩ := o.frz h
  have e : x = .ref a := r
  rw [e]
  exact ⟨M', s, o', rv_dat rd⟩
theorem Gh.trans {K : Frag} {v v' v'' : Vl} {cs cs' cs'' : Cells} (h : Gh K v cs v' cs') (h' : Gh K v' cs' v'' cs'') : Gh K v cs v'' cs'' := fun M H x o r => by
  obtain ⟨M', s, o', r'⟩ := h M H x o r
  obtain ⟨M2, s2, o2, r2⟩ := h' M' H x o' r'
  exact ⟨M2, s.trans s2, o2, r2⟩
def GhK (K : Frag) (P : Vl → Cells → Prop) : Vl → Cells → Prop := fun v cs => ∃ v' cs', Gh K v cs v' cs' ∧ P v' cs'
theorem GhK.now {K : Frag} {P : Vl → Cells → Prop} {v : Vl} {cs : Cells} (h : P v cs) : GhK K P v cs := ⟨v, cs, .refl K v cs, h⟩
theorem GhK.drop {K : Frag} {P : Vl → Cells → Prop} {v : Vl} {cs cs' : Cells} (hs : SubC cs' cs) (h : P v cs') : GhK K P v cs := ⟨v, cs', .sub hs, h⟩
theorem Kont.gh {K : Frag} {M : Hp} {P : Vl → Cells → Prop} {Q : VK} (k : Kont K M P Q) : Kont K M (GhK K P) Q := fun v x M' H' cs' s o r ⟨x2, cs2, gh, p⟩ => by
  obtain ⟨M2, s2, o2, r2⟩ := gh M' H' v o r
  exact k v x2 M2 H' cs2 (s.trans s2) o2 r2 p
def retE (K : Frag) (P : Vl → Cells → Prop) : DEnds := { nx := fun _ cs => GhK K P (.dat .non) cs, rt := GhK K P }
def startD (n : Nat) (xs : List Vl) : DEnv := xs.map some ++ List.replicate (n - xs.length) none
theorem start_rho {K : Frag} {M : Hp} {N : List Str} {vs : List V} {xs : List Vl} (h : Paired (RV K M) vs xs) : Rho K M (L2.start N vs) (startD N.length xs) := by
  unfold L2.start startD
  have hl := Paired.len h
  refine ⟨by rw [List.length_append, List.length_append, List.length_map, List.length_map, List.length_replicate, List.length_replicate, hl], fun i x e => ?_⟩
  by_cases hi : i < xs.length
  · rw [List.getElem?_append_left (by rw [List.length_map]; exact hi), List.getElem?_map] at e
    cases q : xs[i]? with
    | none => rw [q] at e; cases e
    | some y =>
      rw [q] at e
      cases e
      obtain ⟨v, hv, rv⟩ := Paired.getR h q
      exact ⟨v, by rw [List.getElem?_append_left (by rw [List.length_map]; omega), List.getElem?_map, hv]; rfl, rv⟩
  · rw [List.getElem?_append_right (by rw [List.length_map]; omega), List.getElem?_replicate] at e
    split at e <;> cases e
/-- a def of the text, called by its name -/
structure DOk (P : Program) (w : World) (K : Frag) (mg : Str → Option Value) (base : Heap) (CX : CXT) (x : Str) (ps : List Str) (k : Nat) (dsp : DSp) : Prop where
  ex : ∃ f fd, FnOk P w K mg base CX k f fd ps (liftSp K dsp) ∧ mg x = some (.ref f) ∧ PySem.W.keepIn K (.ref f) = true ∧ Binds K fd ps []
theorem fn_dataF {P : Program} {w : World} {K : Frag} {mg : Str → Option Value} {base : Heap} {x : Str} {st : Stmt} {f : Addr} {fd : FuncData} {N ps : List Str} {k : Nat} {dsp : DSp} {ws : WS} (F : Fun K x x st f fd) (S : FnScope N ps (defScope st))
    (len : ∀ xs cs Q XP, dsp xs cs Q XP → xs.length = ps.length)
    (body : ∀ (cdv : Value) (A : Around) (outer : List Env) (s : Shared) (H : Hp) (E : XK), Room k (A.deeper (PyProof.Rows.envOfC x (defScope st) s.heap.objs.size f cdv)) → DSs (cxOf CX0 P w K mg base N x (defScope st) f cdv A outer s H E).nox (defBody st) ws)
    (pure : ∀ xs cs Q XP, dsp xs cs Q XP → ws (retE K Q) (startD N.length xs) cs) : FnOk P w K mg base CX0 (k + 1) f fd ps (liftSp K dsp) := by
  refine F.ok S (fun vs H Q E ⟨M, xs, cs, P', XP, o, r, d, _⟩ => (Paired.len r).trans (len xs cs P' XP d)) (fun cdv A outer s H vs Q E hr ⟨M, xs, cs, P', XP, o, r, d, kk, _⟩ => ⟨_, body cdv A outer s H E hr, ?_⟩)
  exact ⟨M, startD N.length xs, cs, retE K P', o, start_rho r, pure xs cs P' XP d, ⟨fun σ' ρ' M' H' cs' s o' _ p => kk.gh _ _ M' H' cs' s o' (rv_dat .non) p, kk.gh, fun _ _ _ _ _ _ _ _ p => p.elim, fun _ _ _ _ _ _ _ _ p => p.elim⟩⟩
theorem fn_dataQ {P : Program} {w : World} {K : Frag} {mg : Str → Option Value} {base : Heap} {x qual : Str} {st : Stmt} {f : Addr} {fd : FuncData} {N ps : List Str} {k : Nat} {dsp : DSp} {ws : WS} (F : Fun K x qual st f fd) (S : FnScope N ps (defScope st))
    (len : ∀ xs cs Q XP, dsp xs cs Q XP → xs.length = ps.length)
    (body : ∀ (cdv : Value) (A : Around) (outer : List Env) (s : Shared) (H : Hp) (E : XK), Room k (A.deeper (PyProof.Rows.envOfC qual (defScope st) s.heap.objs.size f cdv)) → DSs (cxOf CX0 P w K mg base N qual (defScope st) f cdv A outer s H E).nox (defBody st) ws)
    (pure : ∀ xs cs Q XP, dsp xs cs Q XP → ws (retE K Q) (startD N.length xs) cs) : FnOk P w K mg base CX0 (k + 1) f fd ps (liftSp K dsp) := by
  refine F.ok S (fun vs H Q E ⟨M, xs, cs, P', XP, o, r, d, _⟩ => (Paired.len r).trans (len xs cs P' XP d)) (fun cdv A outer s H vs Q E hr ⟨M, xs, cs, P', XP, o, r, d, kk, _⟩ => ⟨_, body cdv A outer s H E hr, ?_⟩)
  exact ⟨M, startD N.length xs, cs, retE K P', o, start_rho r, pure xs cs P' XP d, ⟨fun σ' ρ' M' H' cs' s o' _ p => kk.gh _ _ M' H' cs' s o' (rv_dat .non) p, kk.gh, fun _ _ _ _ _ _ _ _ p => p.elim, fun _ _ _ _ _ _ _ _ p => p.elim⟩⟩
theorem fn_data {P : Program} {w : World} {K : Frag} {mg : Str → Option Value} {base : Heap} {x : Str} {st : Stmt} {f : Addr} {fd : FuncData} {N ps : List Str} {k : Nat} {dsp : DSp} {ws : WS} (F : Fun K x x st f fd) (S : FnScope N ps (defScope st)) (hm : mg x = some (.ref f)) (hb : Binds K fd ps [])
    (len : ∀ xs cs Q XP, dsp xs cs Q XP → xs.length = ps.length)
    (body : ∀ (cdv : Value) (A : Around) (outer : List Env) (s : Shared) (H : Hp) (E : XK), Room k (A.deeper (PyProof.Rows.envOfC x (defScope st) s.heap.objs.size f cdv)) → DSs (cxOf CX0 P w K mg base N x (defScope st) f cdv A outer s H E).nox (defBody st) ws)
    (pure : ∀ xs cs Q XP, dsp xs cs Q XP → ws (retE K Q) (startD N.length xs) cs) : DOk P w K mg base CX0 x ps (k + 1) dsp := ⟨f, fd, fn_dataF F S len body pure, hm, F.kp, hb⟩
theorem never_data {P : Program} {w : World} {K : Frag} {mg : Str → Option Value} {base : Heap} {x : Str} {st : Stmt} {f : Addr} {fd : FuncData} {ps : List Str} {k : Nat} (F : Fun K x x st f fd) (hm : mg x = some (.ref f)) (hb : Binds K fd ps []) : DOk P w K mg base CX0 x ps k (fun _ _ _ _ => False) :=
  ⟨f, fd, ⟨fun _ _ _ _ ⟨_, _, _, _, _, _, _, h, _⟩ => h.elim, fun _ _ _ _ _ _ _ _ _ _ _ _ _ ⟨_, _, _, _, _, _, _, h, _⟩ => h.elim⟩, hm, F.kp, hb⟩
/-- the law's own promise -/
def spLaw (K : Frag) : Sp := fun vs H Q _ => ∃ (a : Addr) (ns : List Int), vs = [.ref a] ∧ SqL K H a (ns.map V.int) ∧ ns.length ≤ 63 ∧ ∀ H', Q (.bl true) H'
theorem law_imp {K : Frag} {dsp : DSp} (h : ∀ (ns : List Int) cs Q XP, ns.length ≤ 63 → (∀ cs', Q (.dat (.bl true)) cs') → dsp [.dat (.lst (ns.map .int))] cs Q XP) : ∀ vs H Q E, spLaw K vs H Q E → liftSp K dsp vs H Q E := by
  rintro vs H Q E ⟨a, ns, rfl, hS, hl, k⟩
  have hd : DrAll K H (ns.map V.int) (ns.map Dat.int) := by
    clear hS hl
    induction ns with
    | nil => exact .nil
    | cons n r ih => exact .cons (.int n) ih
  refine ⟨H, [.dat (.lst (ns.map .int))], fun _ => none, fun v _ => v = .dat (.bl true), X0, ⟨Same.refl _, fun _ _ e => by cases e⟩, .cons (.lst hS hd) .nil, h ns _ _ _ hl (fun _ => rfl), ?_, fun _ _ _ _ _ _ _ _ _ z => z.elim⟩
  intro v x M' H' cs' _ _ r p
  subst p
  rw [inv_bl r]
  exact k H'
def wCall (dsp : DSp) (wr : WA) : WE := fun ρ cs P => wr ρ cs fun xs cs1 => dsp xs cs1 P X0
theorem de_call {X : Cx} {x : Str} {ps : List Str} {k : Nat} {dsp : DSp} {p pos : Pos} {e : Expr} {es : List Expr} {wr : WA} (G : DOk X.prog X.w X.K X.mg X.base CX0 x ps k dsp) (hr : Room k X.A) (ha : DA X (e :: es) wr) (hg : Gl X x := by rfl)
    (hdb : (x == ("__debug__" : Str)) = false := by decide) (he : starEach (e :: es) X.env = (false, eval e X.env) :: starEach es X.env := by rfl) (hpl : (backTo pos (starEach es X.env)).any (·.1) = false := by rfl) :
    DE X (.Call (.Name x p) (e :: es) [] pos) (wCall dsp wr) := by
  obtain ⟨f, fd, F, hm, hk, hb⟩ := G.ex
  refine pe_imp (pe_call F hr hg hm hk hb .nil pass0 ha hdb he hpl) fun σ H Q ⟨M, ρ, cs, P, o, r0, p, kk⟩ => ?_
  refine ⟨M, ρ, cs, _, o, r0, p, fun vs xs M1 H1 cs1 s1 o1 r1 p1 => ?_⟩
  show liftSp X.K dsp (vs ++ []) H1 Q E0
  rw [List.append_nil]
  exact ⟨M1, xs, cs1, P, X0, o1, r1, p1, kk.mono s1, fun _ _ _ _ _ _ _ _ _ z => z.elim⟩
theorem de_gintE {X : Cx} {x : Str} {i : Int} {pos : Pos} (hm : ∃ t, X.mg x = some (.int i t)) (hg : Gl X x := by rfl) (hd : (x == ("__debug__" : Str)) = false := by decide) : DE X (.Name x pos) (wC (.int i)) := by
  obtain ⟨t, ht⟩ := hm
  exact de_gint ht hg hd
end DL
set_option maxRecDepth 100000
set_option maxHeartbeats 4000000
namespace DL
open PySem L2
/-! ### == over data: plain data of bounded depth -/
def Dat.lv : Nat → Dat → Prop
  | _, .non => True
  | _, .bl _ => False
  | _, .int _ => True
  | _, .str x => PyData.strOk x = true
  | 0, .lst _ => False
  | 0, .tup _ => False
  | n + 1, .lst xs => xs.length ≤ 16777216 ∧ ∀ x ∈ xs, Dat.lv n x
  | n + 1, .tup xs => xs.length ≤ 16777216 ∧ ∀ x ∈ xs, Dat.lv n x
  | _, .obj _ _ => False
theorem pys_lv {n : Nat} (ih : ∀ d : Dat, d.lv n → ∃ p, d.py = some p ∧ p.canLay0 = true ∧ p.depth ≤ n + 1) : ∀ xs : List Dat, (∀ x ∈ xs, x.lv n) → ∃ ps, Dat.pys xs = some ps ∧ PyData.canLayAll0 ps = true ∧ PyData.depthAll ps ≤ n + 1
  | [], _ => ⟨[], rfl, rfl, Nat.zero_le _⟩
  | x :: xs, h => by
    obtain ⟨p, e1, c1, d1⟩ := ih x (h x (by simp))
    obtain ⟨ps, e2, c2, d2⟩ := pys_lv ih xs (fun y hy => h y (by simp [hy]))
    refine ⟨p :: ps, ?_, ?_, ?_⟩
    · unfold Dat.pys; rw [e1, e2]
    · unfold PyData.canLayAll0; rw [c1, c2]; rfl
    · unfold PyData.depthAll; exact Nat.max_le.mpr ⟨d1, d2⟩
theorem py_lv : ∀ (n : Nat) (d : Dat), d.lv n → ∃ p, d.py = some p ∧ p.canLay0 = true ∧ p.depth ≤ n + 1 := by
  intro n
  induction n with
  | zero =>
    intro d h
    cases d with
    | non => exact ⟨_, rfl, rfl, by decide⟩
    | int i => exact ⟨_, rfl, rfl, by unfold PyData.depth; omega⟩
    | str x => exact ⟨_, rfl, h, by unfold PyData.depth; omega⟩
    | _ => exact (show False from h).elim
  | succ n ih =>
    intro d h
    cases d with
    | non => exact ⟨_, rfl, rfl, by unfold PyData.depth; omega⟩
    | int i => exact ⟨_, rfl, rfl, by unfold PyData.depth; omega⟩
    | str x => exact ⟨_, rfl, h, by unfold PyData.depth; omega⟩
    | bl b => exact (show False from h).elim
    | obj C fs => exact (show False from h).elim
    | lst xs =>
      obtain ⟨ps, e, c, dd⟩ := pys_lv ih xs h.2
      exact ⟨.list ps, by unfold Dat.py; rw [e]; rfl, by unfold PyData.canLay0; exact c, by unfold PyData.depth; omega⟩
    | tup xs =>
      obtain ⟨ps, e, c, dd⟩ := pys_lv ih xs h.2
      exact ⟨.tuple ps, by unfold Dat.py; rw [e]; rfl, by unfold PyData.canLay0; exact c, by unfold PyData.depth; omega⟩
theorem shaped_lv {n : Nat} (hn : n ≤ 60) {d : Dat} (h : d.lv n) : ∃ p, d.py = some p ∧ SeqAt.shaped p = true := by
  obtain ⟨p, e, c, dd⟩ := py_lv n d h
  exact ⟨p, e, by unfold SeqAt.shaped; rw [c, decide_eq_true (by omega)]; rfl⟩
mutual
theorem eqv_py : ∀ (n : Nat) (d e : Dat) (p q : PyData), d.lv n → e.lv n → d.py = some p → e.py = some q → (PyData.eqv p q = true ↔ d = e)
  | _, .non, e, p, q, _, he, hp, hq => by
    cases hp
    cases e with
    | non => cases hq; simp [PyData.eqv]
    | bl b => exact (by cases ‹Nat› <;> exact he.elim)
    | int i => cases hq; simp [PyData.eqv]
    | str x => cases hq; simp [PyData.eqv]
    | lst xs => unfold Dat.py at hq; obtain ⟨ps, e1, rfl⟩ := Option.map_eq_some_iff.mp hq; simp [PyData.eqv]
    | tup xs => unfold Dat.py at hq; obtain ⟨ps, e1, rfl⟩ := Option.map_eq_some_iff.mp hq; simp [PyData.eqv]
    | obj C fs => cases hq
  | n, .bl b, _, _, _, hd, _, _, _ => by cases n <;> exact (show False from hd).elim
  | n, .int i, e, p, q, _, he, hp, hq => by
    cases hp
    cases e with
    | non => cases hq; simp [PyData.eqv]
    | bl b => cases n <;> exact (show False from he).elim
    | int i => cases hq; simp [PyData.eqv]
    | str x => cases hq; simp [PyData.eqv]
    | lst xs => unfold Dat.py at hq; obtain ⟨ps, e1, rfl⟩ := Option.map_eq_some_iff.mp hq; simp [PyData.eqv]
    | tup xs => unfold Dat.py at hq; obtain ⟨ps, e1, rfl⟩ := Option.map_eq_some_iff.mp hq; simp [PyData.eqv]
    | obj C fs => cases hq
  | n, .str x, e, p, q, _, he, hp, hq => by
    cases hp
    cases e with
    | non => cases hq; simp [PyData.eqv]
    | bl b => cases n <;> exact (show False from he).elim
    | int i => cases hq; simp [PyData.eqv]
    | str x => cases hq; simp [PyData.eqv]
    | lst xs => unfold Dat.py at hq; obtain ⟨ps, e1, rfl⟩ := Option.map_eq_some_iff.mp hq; simp [PyData.eqv]
    | tup xs => unfold Dat.py at hq; obtain ⟨ps, e1, rfl⟩ := Option.map_eq_some_iff.mp hq; simp [PyData.eqv]
    | obj C fs => cases hq
  | n, .lst xs, e, p, q, hd, he, hp, hq => by
    cases n with
    | zero => exact (show False from hd).elim
    | succ n =>
      unfold Dat.py at hp
      obtain ⟨ps, e0, rfl⟩ := Option.map_eq_some_iff.mp hp
      cases e with
      | non => cases hq; simp [PyData.eqv]
      | bl b => exact (show False from he).elim
      | int i => cases hq; simp [PyData.eqv]
      | str x => cases hq; simp [PyData.eqv]
      | lst ys =>
        unfold Dat.py at hq
        obtain ⟨qs, e1, rfl⟩ := Option.map_eq_some_iff.mp hq
        have := eqvs_py n xs ys ps qs hd.2 he.2 e0 e1
        simp only [PyData.eqv, Dat.lst.injEq]
        exact this
      | tup ys => unfold Dat.py at hq; obtain ⟨ps, e1, rfl⟩ := Option.map_eq_some_iff.mp hq; simp [PyData.eqv]
      | obj C fs => cases hq
  | n, .tup xs, e, p, q, hd, he, hp, hq => by
    cases n with
    | zero => exact (show False from hd).elim
    | succ n =>
      unfold Dat.py at hp
      obtain ⟨ps, e0, rfl⟩ := Option.map_eq_some_iff.mp hp
      cases e with
      | non => cases hq; simp [PyData.eqv]
      | bl b => exact (show False from he).elim
      | int i => cases hq; simp [PyData.eqv]
      | str x => cases hq; simp [PyData.eqv]
      | tup ys =>
        unfold Dat.py at hq
        obtain ⟨qs, e1, rfl⟩ := Option.map_eq_some_iff.mp hq
        have := eqvs_py n xs ys ps qs hd.2 he.2 e0 e1
        simp only [PyData.eqv, Dat.tup.injEq]
        exact this
      | lst ys => unfold Dat.py at hq; obtain ⟨ps, e1, rfl⟩ := Option.map_eq_some_iff.mp hq; simp [PyData.eqv]
      | obj C fs => cases hq
  | _, .obj _ _, _, _, _, _, _, hp, _ => by cases hp
theorem eqvs_py : ∀ (n : Nat) (xs ys : List Dat) (ps qs : List PyData), (∀ x ∈ xs, x.lv n) → (∀ x ∈ ys, x.lv n) → Dat.pys xs = some ps → Dat.pys ys = some qs → (PyData.eqvAll ps qs = true ↔ xs = ys)
  | _, [], ys, ps, qs, _, _, hp, hq => by
    cases hp
    cases ys with
    | nil => cases hq; simp [PyData.eqvAll]
    | cons y ys =>
      unfold Dat.pys at hq
      split at hq
      · cases hq; simp [PyData.eqvAll]
      · cases hq
  | n, x :: xs, ys, ps, qs, hd, he, hp, hq => by
    unfold Dat.pys at hp
    split at hp
    · rename_i p ps' e1 e2
      cases hp
      cases ys with
      | nil => cases hq; simp [PyData.eqvAll]
      | cons y ys =>
        unfold Dat.pys at hq
        split at hq
        · rename_i q qs' f1 f2
          cases hq
          simp only [PyData.eqvAll, Bool.and_eq_true, List.cons.injEq]
          rw [eqv_py n x y p q (hd x (by simp)) (he y (by simp)) e1 f1, eqvs_py n xs ys ps' qs' (fun z hz => hd z (by simp [hz])) (fun z hz => he z (by simp [hz])) e2 f2]
        · cases hq
    · cases hp
end
/-- the answer of == told by equality -/
theorem wEq_of {neg : Bool} {x y : Vl} {cs : Cells} {P : Vl → Cells → Prop} {d e : Dat} (n : Nat) (hn : n ≤ 60) (h1 : seen cs x = some d) (h2 : seen cs y = some e) (l1 : d.lv n) (l2 : e.lv n) (hy : d = e → P (.dat (.bl (!neg))) cs) (hno : d ≠ e → P (.dat (.bl neg)) cs) : wEqD neg x y cs P := by
  obtain ⟨p, e1, s1⟩ := shaped_lv hn l1
  obtain ⟨q, e2, s2⟩ := shaped_lv hn l2
  refine ⟨d, e, p, q, h1, h2, e1, e2, s1, s2, ?_⟩
  have key := eqv_py n d e p q l1 l2 e1 e2
  by_cases h : d = e
  · rw [key.mpr h]
    have := hy h
    cases neg <;> simpa using this
  · have : PyData.eqv p q = false := by
      cases q1 : PyData.eqv p q with
      | false => rfl
      | true => exact absurd (key.mp q1) h
    rw [this]
    have := hno h
    cases neg <;> simpa using this
theorem wEq_int {neg : Bool} {i j : Int} {cs : Cells} {P : Vl → Cells → Prop} : wEqD neg (.dat (.int i)) (.dat (.int j)) cs P ↔ P (.dat (.bl (if neg then !(i == j) else (i == j)))) cs := by
  constructor
  · rintro ⟨d, e, p, q, h1, h2, h3, h4, _, _, h⟩
    cases h1; cases h2; cases h3; cases h4
    simpa only [PyData.eqv] using h
  · intro h
    exact ⟨_, _, _, _, rfl, rfl, rfl, rfl, rfl, rfl, by simpa only [PyData.eqv] using h⟩
theorem wEq_bl {neg : Bool} {i j : Bool} {cs : Cells} {P : Vl → Cells → Prop} : wEqD neg (.dat (.bl i)) (.dat (.bl j)) cs P ↔ P (.dat (.bl (if neg then !(i == j) else (i == j)))) cs := by
  constructor
  · rintro ⟨d, e, p, q, h1, h2, h3, h4, _, _, h⟩
    cases h1; cases h2; cases h3; cases h4
    simpa only [PyData.eqv] using h
  · intro h
    exact ⟨_, _, _, _, rfl, rfl, rfl, rfl, rfl, rfl, by simpa only [PyData.eqv] using h⟩
/-! ### small facts for readings -/
theorem divOk {i j : Int} (h : 0 < j) (h2 : j ≤ 1000000000000000000000000000000) : CDivW i j := by
  refine wide_div (b := 100) h ?_ (by decide) (by decide)
  have : j.natAbs ≤ 1000000000000000000000000000000 := by omega
  exact Nat.lt_of_le_of_lt this (by decide)
theorem mulR {i j : Int} (h : -18446744073709551616 < j) (h2 : j < 18446744073709551616) : CMul i j := .inr ⟨by omega, by omega⟩
theorem mulL {i j : Int} (h : -18446744073709551616 < i) (h2 : i < 18446744073709551616) : CMul i j := .inl ⟨by omega, by omega⟩
theorem atI_nat {α : Type} {xs : List α} {i : Nat} {x : α} (h : xs[i]? = some x) : atI xs (i : Int) = some x := by
  have hl := (List.getElem?_eq_some_iff.mp h).1
  unfold atI ixN
  rw [if_pos (by omega), if_pos (by omega)]
  simpa using h
theorem atI_int {α : Type} {xs : List α} {i : Int} {x : α} (h0 : 0 ≤ i) (h : xs[i.toNat]? = some x) : atI xs i = some x := by
  have := atI_nat h
  rwa [Int.toNat_of_nonneg h0] at this
theorem atI_last {α : Type} {xs : List α} {x : α} (h : xs.getLast? = some x) : atI xs (-1) = some x := by
  have h0 : xs ≠ [] := by intro z; subst z; cases h
  have hl : 0 < xs.length := List.length_pos_iff.mpr h0
  unfold atI ixN
  rw [if_neg (by omega), if_pos (by omega)]
  rw [List.getLast?_eq_getElem?] at h
  show xs[((-1 : Int) + xs.length).toNat]? = some x
  rw [show ((-1 : Int) + xs.length).toNat = xs.length - 1 by omega]
  exact h
theorem ixN_nat {n i : Nat} (h : i < n) : ixN n (i : Int) = some i := by
  unfold ixN
  rw [if_pos (by omega), if_pos (by omega)]
  simp
theorem ixN_int {n : Nat} {i : Int} (h0 : 0 ≤ i) (h : i < n) : ixN n i = some i.toNat := by
  unfold ixN
  rw [if_pos h0, if_pos h]
/-! ### equations for the walk -/
section
variable {α : Type} {a b c d e f : α} {l : List α}
theorem at_0 : atI (a :: l) (0 : Int) = some a := atI_nat (i := 0) rfl
theorem at_1 : atI (a :: b :: l) (1 : Int) = some b := atI_nat (i := 1) rfl
theorem at_2 : atI (a :: b :: c :: l) (2 : Int) = some c := atI_nat (i := 2) rfl
theorem at_3 : atI (a :: b :: c :: d :: l) (3 : Int) = some d := atI_nat (i := 3) rfl
theorem at_4 : atI (a :: b :: c :: d :: e :: l) (4 : Int) = some e := atI_nat (i := 4) rfl
theorem at_5 : atI (a :: b :: c :: d :: e :: f :: l) (5 : Int) = some f := atI_nat (i := 5) rfl
theorem ix_0 {n : Nat} (h : 0 < n) : ixN n (0 : Int) = some 0 := ixN_nat (i := 0) h
theorem ix_1 {n : Nat} (h : 1 < n) : ixN n (1 : Int) = some 1 := ixN_nat (i := 1) h
theorem ix_2 {n : Nat} (h : 2 < n) : ixN n (2 : Int) = some 2 := ixN_nat (i := 2) h
theorem ix_3 {n : Nat} (h : 3 < n) : ixN n (3 : Int) = some 3 := ixN_nat (i := 3) h
end
section
variable {cs : Cells} {ds : List Dat} {d : Dat} {a : Addr} {xs : List Vl} {i : Int} {b : Bool} {z : Str} {x : Vl}
theorem seqD_lst : seqD cs (.dat (.lst ds)) = some (true, ds.map .dat) := rfl
theorem seqD_tp : seqD cs (.dat (.tup ds)) = some (false, ds.map .dat) := rfl
theorem seqD_cell : seqD cs (.raw (.ref a)) = coSeq (cs a) := rfl
theorem coSeq_lst : coSeq (some (.lst xs)) = some (true, xs) := rfl
theorem allDat_nil : allDat [] = some [] := rfl
theorem allDat_cons : allDat (.dat d :: xs) = (allDat xs).map (d :: ·) := rfl
theorem tyD_non : tyD cs (.dat .non) = some .non := rfl
theorem tyD_bl : tyD cs (.dat (.bl b)) = some .bool := rfl
theorem tyD_int : tyD cs (.dat (.int i)) = some .int := rfl
theorem tyD_str : tyD cs (.dat (.str z)) = some .str := rfl
theorem tyD_lst : tyD cs (.dat (.lst ds)) = some .list := rfl
theorem tyD_tup : tyD cs (.dat (.tup ds)) = some .tuple := rfl
theorem tyD_cell : tyD cs (.raw (.ref a)) = coTy (cs a) := rfl
theorem coTy_lst : coTy (some (.lst xs)) = some .list := rfl
theorem seen_dat : seen cs (.dat d) = some d := rfl
theorem seen_cell : seen cs (.raw (.ref a)) = coDat (cs a) := rfl
theorem coDat_lst : coDat (some (.lst xs)) = (allDat xs).map .lst := rfl
theorem isNon_non : isNon (.dat .non) = true := rfl
theorem isNon_bl : isNon (.dat (.bl b)) = false := rfl
theorem isNon_int : isNon (.dat (.int i)) = false := rfl
theorem isNon_str : isNon (.dat (.str z)) = false := rfl
theorem isNon_lst : isNon (.dat (.lst ds)) = false := rfl
theorem isNon_tup : isNon (.dat (.tup ds)) = false := rfl
theorem isNon_cell : isNon (.raw (.ref a)) = false := rfl
end
end DL
set_option maxRecDepth 100000
set_option maxHeartbeats 4000000
namespace DL
open PySem L2
/-! ### three at once -/
def wPar3 (i j l : Nat) (wa : WA) : WS := fun D ρ cs => wa ρ cs fun xs cs1 => ∃ x y z, xs = [x, y, z] ∧ D.nx (((ρ.set i (some x)).set j (some y)).set l (some z)) cs1
section
variable {X : Cx} {a b c e o : Expr} {es : List Expr} {wa wb wc we wo : WE} {w u : WT} {wr : WA} {pos : Pos}
theorem ds_par3 {i j l : Nat} {x y z : Str} {px py pz pt pt2 : Pos} {kt k2 : Nat} (hc : X.calm = true) (hN : X.N.Nodup) (ha : DA X [a, b, c] wr) (hi : X.N[i]? = some x := by rfl) (hj : X.N[j]? = some y := by rfl) (hl : X.N[l]? = some z := by rfl) (hij : i ≠ j := by decide) (hil : i ≠ l := by decide) (hjl : j ≠ l := by decide)
    (hx : X.env.scope.names.lookup x = some .local := by rfl) (hy : X.env.scope.names.lookup y = some .local := by rfl) (hz : X.env.scope.names.lookup z = some .local := by rfl)
    (hw : swappedStores [.Tuple [.Name x px, .Name y py, .Name z pz] kt pt] (.Tuple [a, b, c] k2 pt2) X.env = pure (some [x, y, z]) := by rfl)
    (hs : swapsWithSole [.Tuple [.Name x px, .Name y py, .Name z pz] kt pt] (.Tuple [a, b, c] k2 pt2) pos.line X.env = pure false := by rfl) :
    DS X (.Assign [.Tuple [.Name x px, .Name y py, .Name z pz] kt pt] (.Tuple [a, b, c] k2 pt2) pos) (wPar3 i j l wr) :=
  ps_imp (ps_par3 hc hN hi hj hl hij hil hjl hx hy hz ha hw hs) fun E σ H ⟨M, ρ, cs, D, o, r, h, e⟩ => ⟨M, ρ, cs, _, o, r, h, fun vs xs M' H' cs' s o' rv ⟨x1, y1, z1, ex, p⟩ => by
    subst ex
    cases rv with
    | cons r1 rr =>
      cases rr with
      | cons r2 rr =>
        cases rr with
        | cons r3 rr =>
          cases rr
          exact ⟨_, _, _, rfl, e.nx _ _ M' H' cs' s o' ((((r.mono s).set r1).set r2).set r3) p⟩⟩
/-! ### slices -/
abbrev WO := DEnv → Cells → (Option Int → Cells → Prop) → Prop
def KontO (K : Frag) (M : Hp) (P : Option Int → Cells → Prop) (Q : Option Int → Hp → Prop) : Prop := ∀ b M' H' cs', Same M M' → Ok K M' H' cs' → P b cs' → Q b H'
def liftO (K : Frag) (w : WO) : TO := fun σ H Q => ∃ M ρ cs P, Ok K M H cs ∧ Rho K M σ ρ ∧ w ρ cs P ∧ KontO K M P Q
def DOp (X : Cx) (e : Option Expr) (w : WO) : Prop := PO X e (liftO X.K w)
theorem po_imp {e : Option Expr} {t t' : TO} (h : PO X e t) (m : ∀ σ H Q, t' σ H Q → t σ H Q) : PO X e t' := ⟨fun pins s σ H Q I q => h.run pins s σ H Q I (m σ H Q q)⟩
def wNoPart : WO := fun _ cs P => P none cs
def wPart (we : WE) : WO := fun ρ cs P => we ρ cs fun x cs1 => ∃ i, x = .dat (.int i) ∧ P (some i) cs1
theorem do_none : DOp X none wNoPart := po_imp po_none fun σ H Q ⟨M, ρ, cs, P, o, r, p, k⟩ => k none M H cs (Same.refl _) o p
theorem do_some (h : DE X e we) : DOp X (some e) (wPart we) := po_imp (po_some h) fun σ H Q ⟨M, ρ, cs, P, o, r, p, k⟩ => ⟨M, ρ, cs, _, o, r, p, fun v x M' H' cs' s o' rv ⟨i, ex, p1⟩ => by
  subst ex
  exact ⟨i, inv_int rv, k _ M' H' cs' s o' p1⟩⟩
def cutD {α : Type} (xs : List α) (lo hi : Option Int) : List α := (xs.drop (HT.sIx xs.length 0 lo)).take (HT.sIx xs.length xs.length hi - HT.sIx xs.length 0 lo)
theorem Paired.drop {α β : Type} {R : α → β → Prop} : ∀ {xs : List α} {ys : List β} (n : Nat), Paired R xs ys → Paired R (xs.drop n) (ys.drop n)
  | _, _, 0, h => h
  | _, _, _ + 1, .nil => .nil
  | _, _, n + 1, .cons _ k => Paired.drop n k
theorem Paired.take {α β : Type} {R : α → β → Prop} : ∀ {xs : List α} {ys : List β} (n : Nat), Paired R xs ys → Paired R (xs.take n) (ys.take n)
  | _, _, 0, _ => by rw [List.take_zero, List.take_zero]; exact .nil
  | _, _, _ + 1, .nil => .nil
  | _, _, n + 1, .cons h k => .cons h (Paired.take n k)
theorem paired_cut {K : Frag} {M : Hp} {vs : List V} {xs : List Vl} {lo hi : Option Int} (h : Paired (RV K M) vs xs) : Paired (RV K M) (cutV vs lo hi) (cutD xs lo hi) := by
  unfold cutV cutD
  rw [Paired.len h]
  exact Paired.take _ (Paired.drop _ h)
theorem cutD_map {α β : Type} (f : α → β) (xs : List α) (lo hi : Option Int) : cutD (xs.map f) lo hi = (cutD xs lo hi).map f := by
  unfold cutD
  rw [List.length_map, List.map_take, List.map_drop]
/-- xs[lo:hi] of a list: a new list -/
def wSlL (we : WE) (wl wh : WO) : WE := fun ρ cs P => we ρ cs fun x cs1 => wl ρ cs1 fun lo cs2 => wh ρ cs2 fun hi cs3 => ∃ xs, seqD cs3 x = some (true, xs) ∧ newL (cutD xs lo hi) cs3 P
theorem de_slL {lo hi : Option Expr} {wl wh : WO} {p2 : Pos} (he : DE X e we) (hl : DOp X lo wl) (hh : DOp X hi wh) : DE X (.Subscript e (.Slice lo hi none p2) pos) (wSlL we wl wh) :=
  pe_imp (pe_slice sl_list he hl hh) fun σ H Q ⟨M, ρ, cs, P, o, r, p, k⟩ => ⟨M, ρ, cs, _, o, r, p, fun v x M1 H1 cs1 s1 o1 r1 p1 =>
    ⟨M1, ρ, cs1, _, o1, r.mono s1, p1, fun lo M2 H2 cs2 s2 o2 p2 => ⟨M2, ρ, cs2, _, o2, r.mono (s1.trans s2), p2, fun hi M3 H3 cs3 s3 o3 ⟨xs, hx, p3⟩ => by
      obtain ⟨ad, vs, ev, q, pr⟩ := seqD_list o3 (r1.mono (s2.trans s3)) hx
      exact ⟨ad, vs, ev, q, newL_ok o3 (paired_cut pr) p3 (k.mono (s1.trans (s2.trans s3)))⟩⟩⟩⟩
/-- t[lo:hi] of a tuple: data -/
def wSlT (we : WE) (wl wh : WO) : WE := fun ρ cs P => we ρ cs fun x cs1 => wl ρ cs1 fun lo cs2 => wh ρ cs2 fun hi cs3 => ∃ ds, x = .dat (.tup ds) ∧ P (.dat (.tup (cutD ds lo hi))) cs3
theorem de_slT {lo hi : Option Expr} {wl wh : WO} {p2 : Pos} (he : DE X e we) (hl : DOp X lo wl) (hh : DOp X hi wh) : DE X (.Subscript e (.Slice lo hi none p2) pos) (wSlT we wl wh) :=
  pe_imp (pe_slice sl_tupA he hl hh) fun σ H Q ⟨M, ρ, cs, P, o, r, p, k⟩ => ⟨M, ρ, cs, _, o, r, p, fun v x M1 H1 cs1 s1 o1 r1 p1 =>
    ⟨M1, ρ, cs1, _, o1, r.mono s1, p1, fun lo M2 H2 cs2 s2 o2 p2 => ⟨M2, ρ, cs2, _, o2, r.mono (s1.trans s2), p2, fun hi M3 H3 cs3 s3 o3 ⟨ds, hx, p3⟩ => by
      subst hx
      have s23 := s2.trans s3
      have k3 := k.mono (s1.trans s23)
      have r3 := r1.mono s23
      obtain ⟨ad, vs, ev, q, pr⟩ := seqD_tup o3 r3 (xs := ds.map .dat) rfl
      refine ⟨ad, vs, ev, q, fun hw => ?_, fun _ => newT_ok o3 (by rw [← cutD_map]; exact paired_cut pr) p3 k3⟩
      have hl : vs.length = ds.length := (Paired.len pr).trans (List.length_map _)
      rw [hl] at hw
      have hc : cutD ds lo hi = ds := by
        unfold cutD
        rw [hw.1, hw.2, List.drop_zero, Nat.sub_zero, List.take_length]
      rw [hc] at p3
      rw [← ev]
      exact k3 _ _ M3 H3 cs3 (Same.refl _) o3 r3 p3⟩⟩⟩
/-! ### t + u of tuples -/
def wCatT : W2 := fun x y cs P => ∃ ds es, x = .dat (.tup ds) ∧ y = .dat (.tup es) ∧ ds.length + es.length ≤ 16777216 ∧ P (.dat (.tup (ds ++ es))) cs
theorem de_catT (ha : DE X a wa) (hb : DE X b wb) : DE X (.BinOp a .Add b pos) (wOp wCatT wa wb) := de_op op_catA (fun M H cs x y a b P Q o rx ry ⟨ds, es, ea, eb, hz, hn⟩ k => by
  subst ea eb
  obtain ⟨ad, vs, ev, q, pr⟩ := seqD_tup o rx (xs := ds.map .dat) rfl
  obtain ⟨bd, us, eu, q2, pr2⟩ := seqD_tup o ry (xs := es.map .dat) rfl
  have l1 : vs.length = ds.length := (Paired.len pr).trans (List.length_map _)
  have l2 : us.length = es.length := (Paired.len pr2).trans (List.length_map _)
  refine ⟨ad, bd, vs, us, ev, eu, q, q2, by rw [l1, l2]; exact size_line hz, fun h0 => ?_, fun _ h0 => ?_, fun _ _ => newT_ok o (by rw [List.map_append]; exact Paired.app pr pr2) hn k⟩
  · rw [h0] at l1
    have : ds = [] := List.length_eq_zero_iff.mp l1.symm
    subst this
    rw [← eu]
    exact k _ _ M H cs (Same.refl _) o ry hn
  · rw [h0] at l2
    have : es = [] := List.length_eq_zero_iff.mp l2.symm
    subst this
    rw [← ev]
    rw [List.append_nil] at hn
    exact k _ _ M H cs (Same.refl _) o rx hn) ha hb
/-! ### int(b), max(xs), min(xs), sum(xs) -/
def wInt : WN := fun xs cs P => (∃ i, xs = [.dat (.int i)] ∧ P (.dat (.int i)) cs) ∨ ∃ b, xs = [.dat (.bl b)] ∧ P (.dat (.int (if b then 1 else 0))) cs
theorem rn_int {K : Frag} : RNOk K (fun xs H Q => (∃ i, xs = [.int i] ∧ Q (.int i) H) ∨ ∃ k, xs = [.bl k] ∧ Q (.int (if k then 1 else 0)) H) wInt := fun M H cs xs as P Q o r h k => by
  rcases h with ⟨i, e, p⟩ | ⟨b, e, p⟩
  · subst e
    cases r with
    | cons r1 rr =>
      cases rr
      exact .inl ⟨i, by rw [inv_int r1], k _ _ M H cs (Same.refl _) o (rv_dat (.int _)) p⟩
  · subst e
    cases r with
    | cons r1 rr =>
      cases rr
      exact .inr ⟨b, by rw [inv_bl r1], k _ _ M H cs (Same.refl _) o (rv_dat (.int _)) p⟩
theorem de_int1 {p : Pos} (hm : X.mg "int" = none) (ha : DA X [e] wr) (hg : Gl X "int" := by rfl) (he : starEach [e] X.env = (false, eval e X.env) :: starEach [] X.env := by rfl) (hpl : (backTo pos (starEach [] X.env)).any (·.1) = false := by rfl) :
    DE X (.Call (.Name "int" p) [e] [] pos) (wFn wInt wr) := de_callTy call_int1 rn_int hm (by decide +kernel) ha hg (by decide) (by decide) he hpl
theorem paired_ints {K : Frag} {M : Hp} : ∀ {ns : List Int} {vs : List V}, Paired (RV K M) vs (ns.map fun i => Vl.dat (.int i)) → vs = ns.map V.int
  | [], _, .nil => rfl
  | n :: ns, _, .cons r k => by rw [inv_int r, paired_ints k]; rfl
def wMax : WN := fun xs cs P => ∃ (x : Vl) (ns : List Int), xs = [x] ∧ seqD cs x = some (true, ns.map fun i => Vl.dat (.int i)) ∧ 0 < ns.length ∧ ∀ m, m ∈ ns → (∀ y ∈ ns, y ≤ m) → P (.dat (.int m)) cs
def wMin : WN := fun xs cs P => ∃ (x : Vl) (ns : List Int), xs = [x] ∧ seqD cs x = some (true, ns.map fun i => Vl.dat (.int i)) ∧ 0 < ns.length ∧ ∀ m, m ∈ ns → (∀ y ∈ ns, m ≤ y) → P (.dat (.int m)) cs
def wSum : WN := fun xs cs P => ∃ (x : Vl) (ns : List Int), xs = [x] ∧ seqD cs x = some (true, ns.map fun i => Vl.dat (.int i)) ∧ P (.dat (.int ns.sum)) cs
theorem rn_max {K : Frag} : RNOk K (rMax K) wMax := fun M H cs xs as P Q o r ⟨x, ns, e, h, h0, p⟩ k => by
  subst e
  cases r with
  | cons r1 rr =>
    cases rr
    obtain ⟨ad, vs, ev, q, pr⟩ := seqD_list o r1 h
    rw [paired_ints pr] at q
    exact ⟨ad, ns, by rw [ev], q, h0, fun m hm hle => k _ _ M H cs (Same.refl _) o (rv_dat (.int _)) (p m hm hle)⟩
theorem rn_min {K : Frag} : RNOk K (rMin K) wMin := fun M H cs xs as P Q o r ⟨x, ns, e, h, h0, p⟩ k => by
  subst e
  cases r with
  | cons r1 rr =>
    cases rr
    obtain ⟨ad, vs, ev, q, pr⟩ := seqD_list o r1 h
    rw [paired_ints pr] at q
    exact ⟨ad, ns, by rw [ev], q, h0, fun m hm hle => k _ _ M H cs (Same.refl _) o (rv_dat (.int _)) (p m hm hle)⟩
theorem de_max {p : Pos} (hc : X.calm = true) (hm : X.mg "max" = none) (ha : DA X [e] wr) (hg : Gl X "max" := by rfl) (he : starEach [e] X.env = (false, eval e X.env) :: starEach [] X.env := by rfl) (hpl : (backTo pos (starEach [] X.env)).any (·.1) = false := by rfl) :
    DE X (.Call (.Name "max" p) [e] [] pos) (wFn wMax wr) := de_callB (cr_max hc) rn_max hm (by decide +kernel) ha hg (by decide) (by decide) he hpl
theorem de_min {p : Pos} (hc : X.calm = true) (hm : X.mg "min" = none) (ha : DA X [e] wr) (hg : Gl X "min" := by rfl) (he : starEach [e] X.env = (false, eval e X.env) :: starEach [] X.env := by rfl) (hpl : (backTo pos (starEach [] X.env)).any (·.1) = false := by rfl) :
    DE X (.Call (.Name "min" p) [e] [] pos) (wFn wMin wr) := de_callB (cr_min hc) rn_min hm (by decide +kernel) ha hg (by decide) (by decide) he hpl
end
/-! ### sorted(xs), len(set(xs)): tuples of ints -/
def tupI (ns : List Int) : Dat := .tup (ns.map .int)
theorem dr_tupI {K : Frag} {M : Hp} {v : V} {ns : List Int} (h : Dr K M v (tupI ns)) : TupI K M v ns := by
  unfold tupI at h
  cases h with
  | tup q k =>
    refine ⟨_, rfl, ?_⟩
    have := paired_ints (ns := ns) (by have := k.paired; rwa [List.map_map] at this)
    rwa [this] at q
theorem dr_tupI' {K : Frag} {M H : Hp} {cs : Cells} {v : V} {ns : List Int} (o : Ok K M H cs) (h : Dr K M v (tupI ns)) : TupI K H v ns := by
  obtain ⟨t, e, q⟩ := dr_tupI h
  exact ⟨t, e, o.seqT q⟩
def leI (x y : List Int) : Bool := decide (x ≤ y)
def rSortT (K : PySem.W.Frag) : List V → Hp → VK → Prop := fun vs H Q => ∃ (a : Addr) (xs : List V) (nss : List (List Int)), vs = [V.ref a] ∧ SqL K H a xs ∧ Paired (TupI K H) xs nss ∧ (∀ n ∈ nss, n ≠ []) ∧
  ∀ (bs : List (V × List Int)) (p : Addr), bs.Perm (xs.zip nss) → bs.map (·.2) = nss.mergeSort leI → H p = none → Q (.ref p) (upd H p (.lst (bs.map (·.1))))
theorem pair_zip {α β : Type} {R : α → β → Prop} : ∀ {xs : List α} {ys : List β}, Paired R xs ys → ∀ q ∈ xs.zip ys, R q.1 q.2
  | _, _, .nil, q, h => absurd h (by simp)
  | _, _, .cons r k, q, h => by
    rw [List.zip_cons_cons] at h
    rcases List.mem_cons.mp h with e | h
    · rw [e]; exact r
    · exact pair_zip k q h
theorem zip_fst {α β : Type} : ∀ {xs : List α} {ys : List β}, xs.length = ys.length → (xs.zip ys).map (·.1) = xs ∧ (xs.zip ys).map (·.2) = ys
  | [], [], _ => ⟨rfl, rfl⟩
  | x :: xs, y :: ys, h => by
    obtain ⟨h1, h2⟩ := zip_fst (xs := xs) (ys := ys) (by simpa using h)
    exact ⟨by simp [h1], by simp [h2]⟩
  | [], _ :: _, h => by simp at h
  | _ :: _, [], h => by simp at h
section
open PySem.W
theorem each_vals {α : Type} {R : Value → V × α → Prop} (hR : ∀ v b, R v b → RelV b.1 v) : ∀ {vs : List Value} {bs : List (V × α)}, EachIs R vs bs → Vals (bs.map (·.1)) vs
  | _, _, .nil => .nil
  | _, _, .cons h t => .cons (hR _ _ h) (each_vals hR t)
theorem vals_each {α : Type} {xs : List V} {us : List Value} (r : Vals xs us) : ∀ {ys : List α}, xs.length = ys.length → EachIs (fun v (b : V × α) => RelV b.1 v ∧ b ∈ xs.zip ys) us (xs.zip ys) := by
  induction r with
  | nil => intro ys h; exact .nil
  | cons a k ih =>
    intro ys h
    cases ys with
    | nil => cases h
    | cons y ys =>
      rw [List.zip_cons_cons]
      refine .cons ⟨a, by simp⟩ ((ih (ys := ys) (by simpa using h)).mono fun v b q => ⟨q.1, by simp [q.2]⟩)
end
section
variable {X : Cx}
theorem cr_sortTup (hu : X.A.units + 64 < cLine) : CallR X (.builtin "sorted") (rSortT X.K) := by
  intro pins s σ H vs us Q I r h
  obtain ⟨a, xs, nss, rfl, hs, hx, hne, q⟩ := h
  obtain ⟨its, rv, hl, hz⟩ := I.list hs
  rw [Vals.ref1 r]
  have hlen := Paired.len hx
  have er : PySem.W.EachIs (fun v (b : V × List Int) => RelV b.1 v ∧ b ∈ xs.zip nss) its (xs.zip nss) := vals_each rv hlen
  have key : ∀ b ∈ xs.zip nss, TupI X.K H b.1 b.2 := pair_zip hx
  have dpOf : ∀ b ∈ xs.zip nss, Dp X.K H b.1 (.tuple (b.2.map .int)) := fun b hb => by
    obtain ⟨t, e, ht⟩ := key b hb
    rw [e]
    refine .tup ht ?_
    generalize b.2 = ns
    induction ns with
    | nil => exact .nil
    | cons n ns ih => exact .cons (.int n) ih
  have hle : PySem.W.dataLe false (fun b : V × List Int => PyData.tuple (b.2.map .int)) = fun p q => leI p.2 q.2 := by
    funext p q
    show (!PySem.W.dataLt (.tuple (q.2.map .int)) (.tuple (p.2.map .int))) = _
    rw [PySem.W.dataLt_tuple]
    show (!PySem.W.rowLt (q.2.map .int) (p.2.map .int)) = _
    rw [PySem.W.dataLt_ints]
    unfold leI
    by_cases h : q.2 < p.2
    · have h' : ¬ p.2 ≤ q.2 := fun r => List.not_lt.mpr r h
      simp [h, h']
    · have h' : p.2 ≤ q.2 := List.not_lt.mp h
      simp [h, h']
  refine PySem.W.sorted_data (enc := fun b : V × List Int => PyData.tuple (b.2.map .int)) (R := fun v b => RelV b.1 v) (bs := xs.zip nss) hl.isList (er.mono fun _ _ q => q.1)
    (er.mono fun v b q => Dp.reads I _ _ _ (dpOf b q.2) q.1) (PySem.W.AllAlike.of fun b b' => by simp only [PySem.W.alike]; exact PySem.W.alike_ints _ _) (.inl fun d hd => ?_) ?_ (fun b hb => ?_) fun out ho eo => ?_
  · obtain ⟨b, hb, e⟩ := List.mem_map.mp hd
    have := hne b.2 (List.of_mem_zip (show (b.1, b.2) ∈ _ from hb)).2
    cases e2 : b.2 with
    | nil => exact absurd e2 this
    | cons n ns => exact ⟨.int n, ns.map .int, by rw [← e, e2]; rfl⟩
  · rw [List.length_zip, hlen, Nat.min_self, ← hlen]; exact hz
  · show _ + 2 + PyData.depth (.tuple (b.2.map .int)) < cLine
    unfold PyData.depth
    rw [PySem.W.depth_ints]
    omega
  · rw [hle] at eo
    obtain ⟨ep, he'⟩ := PyProof.Rows.sortedAll_at s.heap its out.toArray
    have hv := each_vals (R := fun v (b : V × List Int) => RelV b.1 v) (fun _ _ q => q) eo
    have pm : ((xs.zip nss).mergeSort fun p q => leI p.2 q.2).Perm (xs.zip nss) := List.mergeSort_perm _ _
    have hll : (((xs.zip nss).mergeSort fun p q => leI p.2 q.2).map (·.1)).length ≤ sizeLine := by
      rw [List.length_map, pm.length_eq, List.length_zip, hlen, Nat.min_self, ← hlen]; exact hz
    refine ⟨.ref _, upd H (s.heap.objs.size + 1) (.lst (((xs.zip nss).mergeSort fun p q => leI p.2 q.2).map (·.1))), I.laid (t' := s.toks) (fun _ _ => PyProof.Rows.sortedAll_old) (Nat.le_succ _) ⟨hll, out, ep, hv, he'⟩, rfl, q _ _ pm ?_ (I.hok.fresh (Nat.le_succ _))⟩
    rw [List.map_mergeSort (s := leI) (fun _ _ _ _ => rfl), (zip_fst hlen).2]
def wSortT : WN := fun xs cs P => ∃ (x : Vl) (nss : List (List Int)), xs = [x] ∧ seqD cs x = some (true, nss.map fun ns => Vl.dat (tupI ns)) ∧ (∀ n ∈ nss, n ≠ []) ∧ newL ((nss.mergeSort leI).map fun ns => Vl.dat (tupI ns)) cs P
theorem zip_paired {α β : Type} {R : α → β → Prop} : ∀ {bs : List (α × β)}, (∀ q ∈ bs, R q.1 q.2) → Paired R (bs.map (·.1)) (bs.map (·.2))
  | [], _ => .nil
  | b :: bs, h => .cons (h b (by simp)) (zip_paired fun q hq => h q (by simp [hq]))
theorem paired_mapR {α β γ : Type} {R : α → γ → Prop} (f : β → γ) : ∀ {xs : List α} {ys : List β}, Paired (fun a b => R a (f b)) xs ys → Paired R xs (ys.map f)
  | _, _, .nil => .nil
  | _, _, .cons h k => .cons h (paired_mapR f k)
theorem paired_mapR' {α β γ : Type} {R : α → γ → Prop} (f : β → γ) : ∀ {xs : List α} {ys : List β}, Paired R xs (ys.map f) → Paired (fun a b => R a (f b)) xs ys
  | _, [], .nil => .nil
  | _, _ :: _, .cons h k => .cons h (paired_mapR' f k)
theorem rn_sortT {K : Frag} : RNOk K (rSortT K) wSortT := fun M H cs xs as P Q o r ⟨x, nss, e, h, hne, p⟩ k => by
  subst e
  cases r with
  | cons r1 rr =>
    cases rr
    obtain ⟨ad, vs, ev, q, pr⟩ := seqD_list o r1 h
    have pr' := paired_mapR' _ pr
    refine ⟨ad, vs, nss, by rw [ev], q, paired_mono (fun v ns h => dr_tupI' o h) pr', hne, fun bs pp pm hs hp => ?_⟩
    refine newL_ok o (xs := (nss.mergeSort leI).map fun ns => Vl.dat (tupI ns)) ?_ p k pp hp
    rw [← hs]
    refine paired_mapR _ (zip_paired fun b hb => ?_)
    exact pair_zip pr' b (pm.mem_iff.mp hb)
end
section
variable {X : Cx} {a b c e o : Expr} {es : List Expr} {wa wb wc we wo : WE} {w u : WT} {wr : WA} {pos : Pos}
theorem de_sortT {p : Pos} (hu : X.A.units + 64 < cLine) (hm : X.mg "sorted" = none) (ha : DA X [e] wr) (hg : Gl X "sorted" := by rfl) (he : starEach [e] X.env = (false, eval e X.env) :: starEach [] X.env := by rfl) (hpl : (backTo pos (starEach [] X.env)).any (·.1) = false := by rfl) :
    DE X (.Call (.Name "sorted" p) [e] [] pos) (wFn wSortT wr) := de_callB (cr_sortTup hu) rn_sortT hm (by decide +kernel) ha hg (by decide) (by decide) he hpl
def tLenSetT (K : PySem.W.Frag) (ta : TE) : TE := fun σ H Q => ta σ H fun x H1 => ∃ (l : Addr) (ks : List (Addr × List Int)), x = V.ref l ∧ SqL K H1 l (ks.map fun p => V.ref p.1) ∧ (∀ p ∈ ks, SqT K H1 p.1 (p.2.map V.int)) ∧ ks.length < 64 ∧ (ks.map (·.2)).Nodup ∧ Q (.int ks.length) H1
theorem nodup_len {α : Type} [DecidableEq α] : ∀ {l m : List α}, l.Nodup → (∀ x ∈ l, x ∈ m) → l.length ≤ m.length
  | [], _, _, _ => Nat.zero_le _
  | x :: l, m, hn, hs => by
    have hx : x ∈ m := hs x (by simp)
    obtain ⟨h1, h2⟩ := List.nodup_cons.mp hn
    have := nodup_len (l := l) (m := m.erase x) h2 fun y hy => (List.mem_erase_of_ne (by intro z; exact h1 (z ▸ hy))).mpr (hs y (by simp [hy]))
    rw [List.length_erase_of_mem hx] at this
    have : 0 < m.length := List.length_pos_of_mem hx
    simp only [List.length_cons]
    omega
open PySem.Spec PyProof.Rows in
theorem pe_lenSetT {ta : TE} {p p2 q : Pos} (hc : X.calm = true) (hu : X.A.units + 64 < cLine) (hm : X.mg "len" = none) (hm2 : X.mg "set" = none) (ha : PE X a ta) (hg : Gl X "len" := by rfl) (hg2 : Gl X "set" := by rfl)
    (na : starEach [a] X.env = (false, eval a X.env) :: starEach [] X.env := by rfl) : PE X (.Call (.Name "len" p) [.Call (.Name "set" p2) [a] [] q] [] pos) (tLenSetT X.K ta) := by
  refine ⟨fun pins s σ H Q I h => Call_ (ld_blt I hg hm PySem.boot_len ?_)⟩
  refine PyProof.Rows.callWith_builtin1 (PyProof.Rows.args_cons (Call_ (ld_blt I hg2 hm2 PyProof.Rows.boot_set ?_)) rfl) rfl rfl
  refine PyProof.Rows.callWith_type1 (PyProof.Rows.args_cons (thn (ha.run pins s σ H _ I h) fun v s1 ⟨x, H1, I1, r1, q1⟩ => PyProof.Rows.args_nil ?_) na) na rfl
  obtain ⟨l, ks, rfl, hq, hk, h64, hnd, q1⟩ := q1
  cases r1
  obtain ⟨its, rv, pl, hz⟩ := I1.list hq
  refine call_set_tups (P := X.prog) (w := X.w) ks (I1.ok.hd hc) pl.isList (by simpa using refs_of_vals rv) (fun p hp => I1.isT (hk p hp)) h64 (by omega) fun h' tk L es ep t R g kp => ?_
  have hL : L.length = ks.length := by
    have h1 : (L.map (·.2)).length ≤ (ks.map (·.2)).length := nodup_len R.nd fun y hy => by
      obtain ⟨p, hp, e⟩ := List.mem_map.mp hy
      exact List.mem_map.mpr ⟨p, List.mem_of_mem_take (g.sub p hp), e⟩
    have h2 : (ks.map (·.2)).length ≤ (L.map (·.2)).length := nodup_len hnd fun y hy => by
      obtain ⟨p, hp, e⟩ := List.mem_map.mp hy
      rw [← e]
      exact g.all p (by rw [List.take_length]; exact hp)
    simp only [List.length_map] at h1 h2
    omega
  obtain ⟨o, ho, hex, hd⟩ := R.ob
  have hes : es.size = ks.length := by
    rw [← Array.length_toList, R.rows]
    unfold rowsOf
    rw [List.length_map]; exact hL
  refine PyProof.Rows.args_nil ?_
  have I2 : Inv X pins σ H1 { s1 with heap := h', toks := tk } := I1.kept fun b o e => kp b o e
  exact call_len_set ho hex hd (SetTR.fits (s := { s1 with heap := h', toks := tk }) R) (by rw [hes]; omega) ⟨.int ks.length, H1, I2.tok _, ⟨_, by rw [hes]⟩, q1⟩
theorem seq_refs {K : Frag} {H : Hp} : ∀ {vs : List V} {nss : List (List Int)}, Paired (TupI K H) vs nss → ∃ ks : List (Addr × List Int), vs = ks.map (fun p => V.ref p.1) ∧ nss = ks.map (·.2) ∧ ∀ p ∈ ks, SqT K H p.1 (p.2.map V.int)
  | _, _, .nil => ⟨[], rfl, rfl, fun _ h => absurd h (by simp)⟩
  | _, _, .cons ⟨t, e, h⟩ k => by
    obtain ⟨ks, e1, e2, h2⟩ := seq_refs k
    refine ⟨(t, _) :: ks, by rw [e, e1]; rfl, by rw [e2]; rfl, fun p hp => ?_⟩
    rcases List.mem_cons.mp hp with z | z
    · rw [z]; exact h
    · exact h2 p z
def wLenSet (we : WE) : WE := fun ρ cs P => we ρ cs fun x cs1 => ∃ nss : List (List Int), seqD cs1 x = some (true, nss.map fun ns => Vl.dat (tupI ns)) ∧ nss.length < 64 ∧ nss.Nodup ∧ P (.dat (.int nss.length)) cs1
theorem de_lenSet {p p2 q : Pos} (hc : X.calm = true) (hu : X.A.units + 64 < cLine) (hm : X.mg "len" = none) (hm2 : X.mg "set" = none) (ha : DE X a wa) (hg : Gl X "len" := by rfl) (hg2 : Gl X "set" := by rfl)
    (na : starEach [a] X.env = (false, eval a X.env) :: starEach [] X.env := by rfl) : DE X (.Call (.Name "len" p) [.Call (.Name "set" p2) [a] [] q] [] pos) (wLenSet wa) :=
  pe_imp (pe_lenSetT hc hu hm hm2 ha hg hg2 na) fun σ H Q ⟨M, ρ, cs, P, o, r, p, k⟩ => ⟨M, ρ, cs, _, o, r, p, fun v x M1 H1 cs1 s1 o1 r1 ⟨nss, hx, h64, hnd, p1⟩ => by
    obtain ⟨ad, vs, ev, q, pr⟩ := seqD_list o1 r1 hx
    have pr' := paired_mapR' _ pr
    obtain ⟨ks, e1, e2, h2⟩ := seq_refs (paired_mono (fun v ns h => dr_tupI' o1 h) pr')
    rw [e1] at q
    have hl : ks.length = nss.length := by rw [e2, List.length_map]
    exact ⟨ad, ks, ev, q, h2, by rw [hl]; exact h64, by rw [← e2]; exact hnd, by rw [hl]; exact k _ _ M1 H1 cs1 s1 o1 (rv_dat (.int _)) p1⟩⟩
end
end DL
set_option maxRecDepth 100000
set_option maxHeartbeats 4000000
/-! What runs can't wake a generator that is never woken: its state in the table stays, whatever it is. -/
namespace GT
open PySem
open Sem (wp)
def isR : Frame → Bool
  | .ret .. => true
  | .gen .. => false
theorem split_isR : ∀ {fs : List Frame}, fs.all isR = true → splitAtGen fs = none
  | [], _ => rfl
  | .ret .. :: fs, h => by
    have : fs.all isR = true := by simpa [isR] using h
    unfold splitAtGen
    rw [split_isR this]; rfl
  | .gen .. :: fs, h => by simp [isR] at h
def susp : GenState → Bool
  | .suspended .. => true
  | _ => false
def deaf : GenState → GenState
  | .suspended _ l c p fs cl => .suspended (fun _ => .unsupported "") l c p fs cl
  | x => x
def wfG : GenState → Bool
  | .suspended _ _ _ _ fs _ => fs.all isR
  | _ => true
def wfE : End → Bool
  | .ret _ => true
  | .susp _ _ _ _ _ _ fs => fs.all isR
theorem deaf_seen (x : GenState) : (deaf x).seen = x.seen := by cases x <;> rfl
theorem deaf_bare (x : GenState) : (deaf x).bare = x.bare := by cases x <;> rfl
theorem genState_wf {e : End} (h : wfE e = true) : wfG e.genState = true := by
  cases e with
  | ret r => rfl
  | susp v g l k c p fs => exact h
def thaw (R : Nat → Option GenState) (s : Shared) : Shared := { s with gens := s.gens.mapIdx fun i x => (R i).getD x }
structure Good (R : Nat → Option GenState) (s : Shared) : Prop where
  deaf : ∀ i r, R i = some r → susp r = true ∧ s.gens[i]? = some (deaf r)
  wf : ∀ i x, s.gens[i]? = some x → R i = none → wfG x = true
section
variable {R : Nat → Option GenState} {s : Shared} {g : Nat} {x : GenState}
theorem thaw_size : (thaw R s).gens.size = s.gens.size := by simp [thaw]
theorem thaw_get (i : Nat) : (thaw R s).gens[i]? = (s.gens[i]?).map fun x => (R i).getD x := by simp [thaw]
theorem thaw_get0 (h : R g = none) : (thaw R s).gens[g]? = s.gens[g]? := by
  rw [thaw_get, h]; cases s.gens[g]? <;> rfl
theorem thaw_set (h : R g = none) : thaw R (s.setGen g x) = (thaw R s).setGen g x := by
  unfold thaw Shared.setGen
  congr 1
  refine Array.ext_getElem? fun i => ?_
  rw [Array.getElem?_mapIdx, Array.getElem?_setIfInBounds, Array.getElem?_setIfInBounds, Array.getElem?_mapIdx]
  by_cases e : g = i
  · subst e
    rw [if_pos rfl, if_pos rfl, Array.size_mapIdx]
    split
    · rw [h]; rfl
    · rfl
  · rw [if_neg e, if_neg e]
theorem Good.lt (G : Good R s) {i : Nat} {r : GenState} (h : R i = some r) : i < s.gens.size := (Array.getElem?_eq_some_iff.mp (G.deaf i r h).2).1
theorem Good.new (G : Good R s) : R s.gens.size = none := by
  cases e : R s.gens.size with
  | none => rfl
  | some r => exact absurd (G.lt e) (Nat.lt_irrefl _)
theorem thaw_push (G : Good R s) : thaw R { s with gens := s.gens.push x } = { thaw R s with gens := (thaw R s).gens.push x } := by
  unfold thaw
  congr 1
  show (s.gens.push x).mapIdx _ = _
  rw [Array.mapIdx_push, G.new]; rfl
theorem Good.set (G : Good R s) (h : R g = none) (w : wfG x = true) : Good R (s.setGen g x) := by
  refine ⟨fun i r hi => ⟨(G.deaf i r hi).1, ?_⟩, fun i y hy hi => ?_⟩
  · have : g ≠ i := by intro z; rw [z, hi] at h; cases h
    show (s.gens.setIfInBounds g x)[i]? = _
    rw [Array.getElem?_setIfInBounds_ne this]
    exact (G.deaf i r hi).2
  · have hy : (s.gens.setIfInBounds g x)[i]? = some y := hy
    rw [Array.getElem?_setIfInBounds] at hy
    split at hy
    · split at hy
      · cases hy; exact w
      · cases hy
    · exact G.wf i y hy hi
theorem Good.push (G : Good R s) (w : wfG x = true) : Good R { s with gens := s.gens.push x } := by
  refine ⟨fun i r hi => ⟨(G.deaf i r hi).1, ?_⟩, fun i y hy hi => ?_⟩
  · show (s.gens.push x)[i]? = _
    rw [Array.getElem?_push_lt (G.lt hi), ← Array.getElem?_eq_getElem]
    exact (G.deaf i r hi).2
  · have hy : (s.gens.push x)[i]? = some y := hy
    rw [Array.getElem?_push] at hy
    split at hy
    · cases hy; exact w
    · exact G.wf i y hy hi
theorem Good.same (G : Good R s) {h' : Heap} {d : Drawn} {t : Nat} {o : OsState} : Good R { s with heap := h', drawn := d, toks := t, os := o } := ⟨G.deaf, G.wf⟩
theorem Good.not (G : Good R s) (h : s.gens[g]? = some x) (hx : susp x = false) : R g = none := by
  cases e : R g with
  | none => rfl
  | some r =>
    obtain ⟨h1, h2⟩ := G.deaf g r e
    rw [h] at h2
    cases h2
    cases r <;> simp_all [susp, GT.deaf]
end
theorem never_unsupported {M : Model} {Γ : Ctx} {p : Pos} {w : String} {fs : List Frame} {s s' : Shared} {e : End} (h : Runs M Γ p (.unsupported w) fs s e s') : False := by
  generalize ht : (Sem.unsupported w : Sem Fin) = t at h
  induction h <;> first | (cases ht; done) | (rename_i ih; exact ih ht) | (rename_i ih _; exact ih ht) | skip
  all_goals first | (subst ht; simp_all; done) | simp_all

theorem runs_thaw {M : Model} {R : Nat → Option GenState} {Γ : Ctx} {p : Pos} {t : Sem Fin} {fs : List Frame} {s s' : Shared} {e : End} (h : Runs M Γ p t fs s e s') : fs.all isR = true → Good R s → Good R s' ∧ wfE e = true ∧ Runs M Γ p t fs (thaw R s) e (thaw R s') := by
  induction h with
  | done => intro _ G; exact ⟨G, rfl, .done⟩
  | raise => intro _ G; exact ⟨G, rfl, .raise⟩
  | again q _ ih => intro f G; obtain ⟨a, b, c⟩ := ih rfl G; exact ⟨a, b, .again q c⟩
  | rule _ ih => intro f G; obtain ⟨a, b, c⟩ := ih rfl G; exact ⟨a, b, .rule c⟩
  | «at» _ ih => intro f G; obtain ⟨a, b, c⟩ := ih rfl G; exact ⟨a, b, .at c⟩
  | load q _ ih => intro f G; obtain ⟨a, b, c⟩ := ih rfl G; exact ⟨a, b, .load q c⟩
  | update q _ ih => intro f G; obtain ⟨a, b, c⟩ := ih rfl ⟨G.deaf, G.wf⟩; exact ⟨a, b, .update q c⟩
  | loadIfAlive _ ih => intro f G; obtain ⟨a, b, c⟩ := ih rfl G; exact ⟨a, b, .loadIfAlive c⟩
  | point _ ih => intro f G; obtain ⟨a, b, c⟩ := ih rfl G; exact ⟨a, b, .point c⟩
  | alloc _ ih => intro f G; obtain ⟨a, b, c⟩ := ih rfl ⟨G.deaf, G.wf⟩; exact ⟨a, b, .alloc c⟩
  | fresh _ ih => intro f G; obtain ⟨a, b, c⟩ := ih rfl ⟨G.deaf, G.wf⟩; exact ⟨a, b, .fresh c⟩
  | ask _ ih => intro f G; obtain ⟨a, b, c⟩ := ih rfl G; exact ⟨a, b, .ask c⟩
  | choose q _ ih => intro f G; obtain ⟨a, b, c⟩ := ih rfl ⟨G.deaf, G.wf⟩; exact ⟨a, b, .choose q c⟩
  | os _ ih => intro f G; obtain ⟨a, b, c⟩ := ih rfl ⟨G.deaf, G.wf⟩; exact ⟨a, b, .os c⟩
  | handled _ ih => intro f G; obtain ⟨a, b, c⟩ := ih rfl G; exact ⟨a, b, .handled c⟩
  | @genState g st Γ p k s e s' q _ ih =>
    intro f G
    obtain ⟨a, b, c⟩ := ih rfl G
    refine ⟨a, b, ?_⟩
    cases e2 : R g with
    | none => exact .genState (by rw [thaw_get0 e2]; exact q) c
    | some r =>
      have h2 := (G.deaf g r e2).2
      rw [q] at h2
      cases h2
      refine .genState (st := r) (by rw [thaw_get, q, e2]; rfl) ?_
      rw [deaf_seen] at c
      exact c
  | stack _ ih => intro f G; obtain ⟨a, b, c⟩ := ih rfl G; exact ⟨a, b, .stack c⟩
  | thread _ ih => intro f G; obtain ⟨a, b, c⟩ := ih rfl G; exact ⟨a, b, .thread c⟩
  | newGen _ ih =>
    intro f G
    obtain ⟨a, b, c⟩ := ih rfl (G.push rfl)
    refine ⟨a, b, .newGen ?_⟩
    rw [thaw_push G] at c
    rw [thaw_size]
    exact c
  | call _ _ ih1 ih2 =>
    intro f G
    obtain ⟨a, _, c⟩ := ih1 rfl G
    obtain ⟨a2, b2, c2⟩ := ih2 rfl a
    exact ⟨a2, b2, .call c c2⟩
  | callSusp _ ih =>
    intro f G
    obtain ⟨a, b, c⟩ := ih rfl G
    refine ⟨a, ?_, .callSusp c⟩
    unfold wfE at b ⊢
    simp only [List.all_append, b, Bool.true_and]
    rfl
  | yield => intro f G; exact ⟨G, rfl, .yield⟩
  | resumeFresh q _ qq _ ih1 ih2 =>
    intro f G
    have hn := G.not q rfl
    obtain ⟨a, b, c⟩ := ih1 rfl (G.set hn rfl)
    obtain ⟨a2, b2, c2⟩ := ih2 rfl (a.set hn (genState_wf b))
    rw [thaw_set hn] at c c2
    exact ⟨a2, b2, .resumeFresh (by rw [thaw_get0 hn]; exact q) c qq c2⟩
  | @resumeSuspended Γ p g r l k s k₀ l₀ c₀ p₀ fs cl e₁ s₁ e s' q h1 qq _ ih1 ih2 =>
    intro f G
    cases e2 : R g with
    | some x =>
      obtain ⟨h2, h3⟩ := G.deaf g x e2
      rw [q] at h3
      cases x with
      | suspended k2 l2 c2 p2 f2 cl2 =>
        cases h3
        exact (never_unsupported h1).elim
      | _ => cases h2
    | none =>
      have w := G.wf g _ q e2
      obtain ⟨a, b, c⟩ := ih1 w (G.set e2 rfl)
      obtain ⟨a2, b2, c2⟩ := ih2 rfl (a.set e2 (genState_wf b))
      rw [thaw_set e2] at c c2
      exact ⟨a2, b2, .resumeSuspended (by rw [thaw_get0 e2]; exact q) c qq c2⟩
  | resumeJustStarted q v _ ih => intro f G; obtain ⟨a, b, c⟩ := ih rfl G; exact ⟨a, b, .resumeJustStarted (by rw [thaw_get0 (G.not q rfl)]; exact q) v c⟩
  | resumeThrowFresh q _ ih =>
    intro f G
    have hn := G.not q rfl
    obtain ⟨a, b, c⟩ := ih rfl (G.set hn rfl)
    rw [thaw_set hn] at c
    exact ⟨a, b, .resumeThrowFresh (by rw [thaw_get0 hn]; exact q) c⟩
  | resumeRunning q _ ih => intro f G; obtain ⟨a, b, c⟩ := ih rfl G; exact ⟨a, b, .resumeRunning (by rw [thaw_get0 (G.not q rfl)]; exact q) c⟩
  | resumeFinished q _ ih => intro f G; obtain ⟨a, b, c⟩ := ih rfl G; exact ⟨a, b, .resumeFinished (by rw [thaw_get0 (G.not q rfl)]; exact q) c⟩
  | segRet _ _ ih1 ih2 =>
    intro f G
    have f' := f
    rw [List.all_cons, Bool.and_eq_true] at f'
    obtain ⟨a, _, c⟩ := ih1 rfl G
    obtain ⟨a2, b2, c2⟩ := ih2 f'.2 a
    exact ⟨a2, b2, .segRet c c2⟩
  | segGen => intro f G; simp [isR] at f
  | segSuspOut q _ ih =>
    intro f G
    obtain ⟨a, b, c⟩ := ih rfl G
    refine ⟨a, ?_, .segSuspOut q c⟩
    unfold wfE at b ⊢
    simp only [List.all_append, b, Bool.true_and]
    exact f
  | segSuspGen q => intro f G; rw [split_isR f] at q; cases q
theorem wakes_thaw {M : Model} {R : Nat → Option GenState} {Γ : Ctx} {p : Pos} {g : Nat} {r : Resume} {s s' : Shared} {res : GenResult} (h : Wakes M Γ p g r s res s') (G : Good R s) : Good R s' ∧ Wakes M Γ p g r (thaw R s) res (thaw R s') := by
  unfold Wakes at h ⊢
  cases q : s.gens[g]? with
  | none => rw [q] at h; exact h.elim
  | some x =>
    rw [q] at h
    cases x with
    | fresh c =>
      have hn := G.not q rfl
      rw [thaw_get0 hn, q]
      cases r with
      | throw x =>
        obtain ⟨rfl, rfl⟩ := h
        exact ⟨G.set hn rfl, rfl, thaw_set hn⟩
      | send v =>
        cases v with
        | none =>
          obtain ⟨e₁, s₁, hr, hq, rfl, rfl⟩ := h
          obtain ⟨a, b, c⟩ := runs_thaw hr rfl (G.set hn rfl)
          rw [thaw_set hn] at c
          exact ⟨a.set hn (genState_wf b), e₁, _, c, hq, rfl, thaw_set hn⟩
        | _ => obtain ⟨rfl, rfl⟩ := h; exact ⟨G, rfl, rfl⟩
    | suspended k₀ l₀ c₀ p₀ fs cl =>
      obtain ⟨e₁, s₁, hr, hq, rfl, rfl⟩ := h
      cases e2 : R g with
      | some y =>
        obtain ⟨h2, h3⟩ := G.deaf g y e2
        rw [q] at h3
        cases y with
        | suspended k2 l2 c2 p2 f2 cl2 =>
          cases h3
          exact (never_unsupported hr).elim
        | _ => cases h2
      | none =>
        rw [thaw_get0 e2, q]
        obtain ⟨a, b, c⟩ := runs_thaw hr (G.wf g _ q e2) (G.set e2 rfl)
        rw [thaw_set e2] at c
        exact ⟨a.set e2 (genState_wf b), e₁, _, c, hq, rfl, thaw_set e2⟩
    | running =>
      rw [thaw_get0 (G.not q rfl), q]
      obtain ⟨rfl, rfl⟩ := h
      exact ⟨G, rfl, rfl⟩
    | finished =>
      rw [thaw_get0 (G.not q rfl), q]
      obtain ⟨rfl, rfl⟩ := h
      exact ⟨G, rfl, rfl⟩
theorem wp_thaw {α : Type} {M : Model} {R : Nat → Option GenState} {Γ : Ctx} (t : Sem α) : ∀ (Q : α → Pos → Shared → Prop) (E : Value → Pos → Shared → Prop) (p : Pos) (s : Shared), Good R s → wp M Γ t Q E p s →
    wp M Γ t (fun a p' s' => ∃ s₁, s' = thaw R s₁ ∧ Good R s₁ ∧ Q a p' s₁) (fun e p' s' => ∃ s₁, s' = thaw R s₁ ∧ Good R s₁ ∧ E e p' s₁) p (thaw R s) := by
  induction t with
  | pure a => intro Q E p s G h; exact ⟨s, rfl, G, h⟩
  | raise e => intro Q E p s G h; exact ⟨s, rfl, G, h⟩
  | unsupported _ => intro Q E p s _ h; exact h
  | finish _ => intro Q E p s _ h; exact h
  | rule _ k ih => intro Q E p s G h; exact ih () Q E p s G h
  | «at» p' k ih => intro Q E p s G h; exact ih () Q E p' s G h
  | load a _ k ih => intro Q E p s G h; obtain ⟨o, ho, h⟩ := h; exact ⟨o, ho, ih o Q E p s G h⟩
  | update a _ f k ih => intro Q E p s G h; exact ⟨h.1, ih () Q E p { s with heap := s.heap.update a f } ⟨G.deaf, G.wf⟩ h.2⟩
  | loadIfAlive a k ih => intro Q E p s G h; exact ih _ Q E p s G h
  | point _ k ih => intro Q E p s G h; exact ih () Q E p s G h
  | register _ _ => intro Q E p s _ h; exact h
  | alloc o k ih => intro Q E p s G h; exact ih _ Q E p { s with heap := s.heap.push o } ⟨G.deaf, G.wf⟩ h
  | fresh k ih => intro Q E p s G h; exact ih _ Q E p { s with toks := s.toks + 1 } ⟨G.deaf, G.wf⟩ h
  | ask k ih => intro Q E p s G h; exact ih _ Q E p s G h
  | choose src m k ih => intro Q E p s G h; exact ⟨h.1, ih _ Q E p { s with drawn := s.drawn.bump src } ⟨G.deaf, G.wf⟩ h.2⟩
  | os q _ k ih => intro Q E p s G h; exact ih _ Q E p { s with os := (Os.step s.os q).1 } ⟨G.deaf, G.wf⟩ h
  | call c hd _ _ k ih =>
    intro Q E p s G h
    obtain ⟨r, s', hr, h⟩ := h
    obtain ⟨a, _, c'⟩ := runs_thaw hr rfl G
    exact ⟨r, _, c', ih r Q E p s' a h⟩
  | handled own k ih => intro Q E p s G h; exact ih _ Q E p s G h
  | genState g k ih =>
    intro Q E p s G h
    obtain ⟨st, hs, h⟩ := h
    cases e2 : R g with
    | none => exact ⟨st, by rw [thaw_get0 e2]; exact hs, ih _ Q E p s G h⟩
    | some r =>
      have h2 := (G.deaf g r e2).2
      rw [hs] at h2
      cases h2
      rw [deaf_seen] at h
      exact ⟨r, by rw [thaw_get, hs, e2]; rfl, ih _ Q E p s G h⟩
  | newGen c k ih =>
    intro Q E p s G h
    have := ih _ Q E p _ (G.push rfl) h
    rw [thaw_push G] at this
    show wp M Γ (k (thaw R s).gens.size) _ _ _ _
    rw [thaw_size]
    exact this
  | resume g r _ k ih =>
    intro Q E p s G h
    obtain ⟨res, s', hw, h⟩ := h
    obtain ⟨a, w⟩ := wakes_thaw hw G
    exact ⟨res, _, w, ih res Q E p s' a h⟩
  | yield _ _ _ _ => intro Q E p s _ h; exact h
  | stack k ih => intro Q E p s G h; exact ih _ Q E p s G h
  | fork _ _ => intro Q E p s _ h; exact h
  | thread k ih => intro Q E p s G h; exact ih _ Q E p s G h
  | await _ _ _ _ _ => intro Q E p s _ h; exact h
/-! ### the frame rule -/
def real (s : Shared) (i : Nat) : Option GenState := match s.gens[i]? with
  | some x => if susp x = true then some x else none
  | none => none
def deafen (s : Shared) : Shared := { s with gens := s.gens.map deaf }
theorem deafen_get (s : Shared) (i : Nat) : (deafen s).gens[i]? = (s.gens[i]?).map deaf := by simp [deafen]
theorem deaf_id {x : GenState} (h : susp x ≠ true) : deaf x = x := by cases x <;> simp_all [susp, deaf]
theorem good_deafen (s : Shared) : Good (real s) (deafen s) := by
  refine ⟨fun i r h => ?_, fun i x hx h => ?_⟩
  · unfold real at h
    cases q : s.gens[i]? with
    | none => rw [q] at h; cases h
    | some y =>
      rw [q] at h
      simp only at h
      split at h
      · rename_i hs
        cases h
        exact ⟨hs, by rw [deafen_get, q]; rfl⟩
      · cases h
  · rw [deafen_get] at hx
    obtain ⟨y, q, rfl⟩ := Option.map_eq_some_iff.mp hx
    unfold real at h
    rw [q] at h
    simp only at h
    split at h
    · cases h
    · rename_i hs
      rw [deaf_id hs]
      cases y <;> simp_all [susp, wfG]
theorem thaw_deafen (s : Shared) : thaw (real s) (deafen s) = s := by
  unfold thaw deafen
  obtain ⟨h, g, d, t, o⟩ := s
  congr 1
  refine Array.ext_getElem? fun i => ?_
  rw [Array.getElem?_mapIdx, Array.getElem?_map]
  unfold real
  cases q : g[i]? with
  | none => rfl
  | some y =>
    simp only [Option.map_some]
    split
    · rfl
    · rename_i hs
      rw [deaf_id hs]; rfl
theorem bare_deafen {s : Shared} (h : PyProof.Rows.AllBare s.gens) : PyProof.Rows.AllBare (deafen s).gens := fun y hy => by
  obtain ⟨x, hx, rfl⟩ := Array.mem_map.mp hy
  rw [deaf_bare]; exact h x hx
/-- s' is s₁ but for the table of generators: what slept in s sleeps on -/
structure Slept (s s₁ s' : Shared) : Prop where
  eq : s' = { s₁ with gens := s'.gens }
  kept : ∀ (i : Nat) (x : GenState), s.gens[i]? = some x → susp x = true → s'.gens[i]? = some x
  bare : PyProof.Rows.AllBare s.gens → PyProof.Rows.AllBare s₁.gens → PyProof.Rows.AllBare s'.gens
theorem slept_of {s s₁ : Shared} (G : Good (real s) s₁) : Slept s s₁ (thaw (real s) s₁) := by
  refine ⟨rfl, fun i x hx hs => ?_, fun hb hb1 y hy => ?_⟩
  · have hr : real s i = some x := by unfold real; rw [hx]; simp [hs]
    rw [thaw_get, (G.deaf i x hr).2, hr]; rfl
  · obtain ⟨i, hi, e⟩ := Array.mem_iff_getElem.mp hy
    have q : (thaw (real s) s₁).gens[i]? = some y := by rw [Array.getElem?_eq_getElem hi, e]
    rw [thaw_get] at q
    obtain ⟨z, hz, ez⟩ := Option.map_eq_some_iff.mp q
    cases e2 : real s i with
    | none => rw [e2] at ez; cases ez; exact hb1 _ (Array.mem_of_getElem? hz)
    | some r =>
      rw [e2] at ez
      cases ez
      unfold real at e2
      cases q2 : s.gens[i]? with
      | none => rw [q2] at e2; cases e2
      | some y2 =>
        rw [q2] at e2
        simp only at e2
        split at e2
        · cases e2; exact hb _ (Array.mem_of_getElem? q2)
        · cases e2
theorem wpAny_slept {α : Type} {M : Model} {A : Around} {t : Sem α} {Q : α → Shared → Prop} {E : Value → Shared → Prop} {s : Shared} (h : wpAny M A t Q E (deafen s)) :
    wpAny M A t (fun a s' => ∃ s₁, Slept s s₁ s' ∧ Q a s₁) (fun e s' => ∃ s₁, Slept s s₁ s' ∧ E e s₁) s := by
  intro Γ p hΓ
  have := wp_thaw (R := real s) t _ _ p (deafen s) (good_deafen s) (h Γ p hΓ)
  rw [thaw_deafen] at this
  refine Sem.wp_mono M Γ t ?_ ?_ p s this
  · rintro a p' s' ⟨s₁, rfl, G, q⟩; exact ⟨s₁, slept_of G, q⟩
  · rintro a p' s' ⟨s₁, rfl, G, q⟩; exact ⟨s₁, slept_of G, q⟩
end GT
set_option maxRecDepth 100000
set_option maxHeartbeats 4000000
namespace GT
open PySem L2 PySem.Spec PyProof.Rows GenW DL
/-! ### a stretch of a generator's code, up to its next yield or its end -/
def SegZ (M : Model) (A : Around) (Z : End → Shared → Prop) (c : Code) (t : Sem PySem.Fin) (fs : List Frame) (s : Shared) : Prop :=
  ∀ Γ p, Γ.code = c → Γ.Woken A → ∃ e s', Runs M Γ p t fs s e s' ∧ Z e s'
section
variable {M : Model} {A : Around} {Z : End → Shared → Prop} {c : Code} {fs : List Frame} {s : Shared}
theorem sz_wrap {α : Type} {m : Sem α} {K : α → Sem PySem.Fin} {H : Value → Sem PySem.Fin} {gd lv}
    (h : wpAny M (A.over c fs) m (fun a s' => SegZ M A Z c (K a) fs s') (fun x s' => SegZ M A Z c (H x) fs s') s) : SegZ M A Z c (m.wrap K H gd lv) fs s := fun Γ p hc hΓ => by
  subst hc
  exact runs_wrap_of_wp K H gd lv m (h _ p (hΓ.over fs)) (fun a p' s' q => q Γ p' rfl hΓ) (fun x p' s' q => q Γ p' rfl hΓ)
theorem sz_bind {α : Type} {m : Sem α} {K : α → Sem PySem.Fin} (h : wpAny M (A.over c fs) m (fun a s' => SegZ M A Z c (K a) fs s') (fun x s' => SegZ M A Z c (.raise x) fs s') s) : SegZ M A Z c (m >>= K) fs s := by
  rw [Sem.bind_eq_wrap']
  exact sz_wrap h
theorem sz_at {p' : Pos} {k : Unit → Sem PySem.Fin} (h : SegZ M A Z c (k ()) fs s) : SegZ M A Z c (.at p' k) fs s :=
  sz_wrap (m := standAt p') (K := k) (H := .raise) (gd := id) (lv := id) (wpAny_standAt h)
theorem sz_point {l : List Value} {k : Unit → Sem PySem.Fin} (h : SegZ M A Z c (k ()) fs s) : SegZ M A Z c (.point l k) fs s :=
  sz_wrap (m := point) (K := k) (H := .raise) (gd := id) (lv := fun _ => l) (wpAny_point h)
theorem sz_call {c' : Code} {h g l} {k : Result → Sem PySem.Fin} (hc : ∀ p, SegZ M A Z c' (M.den c') (.ret k h g l c p [] :: fs) s) : SegZ M A Z c (.call c' h g l k) fs s := fun Γ p e hΓ => by
  subst e
  obtain ⟨e, s', hr, he⟩ := hc p (Γ.goto c') p rfl (hΓ.goto c')
  exact ⟨e, s', runs_call_seg hr, he⟩
theorem sz_leaf {k h g l c₁ p₁ kp} (r : Result) (hk : SegZ M A Z c₁ (k r) fs s) : SegZ M A Z c (leafOf r) (.ret k h g l c₁ p₁ kp :: fs) s := fun Γ p e hΓ => by
  subst e
  obtain ⟨e, s', hr, he⟩ := hk (Γ.goto c₁) p₁ rfl (hΓ.goto c₁)
  exact ⟨e, s', Runs.pop r hr, he⟩
theorem sz_again {c' : Code} (hq : c'.quiet = true) (hc : SegZ M A Z c' (M.den c') fs s) : SegZ M A Z c (.pure (.again c')) fs s := fun Γ p e hΓ => by
  subst e
  obtain ⟨e, s', hr, he⟩ := hc (Γ.goto c') p rfl (hΓ.goto c')
  exact ⟨e, s', Runs.head (c₁ := c') (fun _ _ x => .again hq x) hr, he⟩
theorem sz_end (r : Result) (h : Z (.ret r) s) : SegZ M A Z c (leafOf r) [] s := fun Γ p _ _ => ⟨.ret r, s, Runs.leaf r, h⟩
theorem sz_yield {v g l} {k : Resume → Sem PySem.Fin} (hfs : splitAtGen fs = none) (h : ∀ p, Z (.susp v g l k c p fs) s) : SegZ M A Z c (.yield v g l k) fs s := fun Γ p e _ => by
  subst e
  exact ⟨_, s, Runs.yield' fs hfs, h p⟩
theorem sz_mono {Z' : End → Shared → Prop} {t : Sem PySem.Fin} (h : SegZ M A Z c t fs s) (m : ∀ e s', Z e s' → Z' e s') : SegZ M A Z' c t fs s := fun Γ p e hΓ => by
  obtain ⟨e, s', hr, he⟩ := h Γ p e hΓ
  exact ⟨e, s', hr, m e s' he⟩
end
/-! ### the heap below an address -/
def cut (N : Nat) (h : Heap) : Heap := { h with objs := h.objs.extract 0 N }
theorem cut_size {N : Nat} {h : Heap} (hN : N ≤ h.objs.size) : (cut N h).objs.size = N := by
  show (h.objs.extract 0 N).size = N
  rw [Array.size_extract]; omega
theorem cut_get {N : Nat} {h : Heap} {b : Addr} : (cut N h).get? b = if b < N then h.get? b else none := by
  unfold Heap.get? cut
  show (match (h.objs.extract 0 N)[b]? with | some ⟨_, _, .freed, _⟩ => none | o => o) = _
  rw [Array.getElem?_extract]
  by_cases hb : b < N
  · rw [if_pos hb]
    by_cases hs : b < h.objs.size
    · rw [if_pos (by show b < min N h.objs.size - 0; exact Nat.lt_min.mpr ⟨hb, hs⟩), Nat.zero_add]
      rfl
    · rw [if_neg (by intro z; exact hs (Nat.lt_of_lt_of_le z (by show min N h.objs.size - 0 ≤ _; exact Nat.min_le_right _ _))), Array.getElem?_eq_none (Nat.le_of_not_lt hs)]
  · rw [if_neg (by intro z; exact hb (Nat.lt_of_lt_of_le z (by show min N h.objs.size - 0 ≤ _; exact Nat.min_le_left _ _))), if_neg hb]
theorem cut_some {N : Nat} {h : Heap} {b : Addr} {o : Obj} (e : (cut N h).get? b = some o) : b < N ∧ h.get? b = some o := by
  rw [cut_get] at e
  split at e
  · exact ⟨by assumption, e⟩
  · cases e
theorem cut_lt {N : Nat} {h : Heap} {b : Addr} (hb : b < N) : (cut N h).get? b = h.get? b := by rw [cut_get, if_pos hb]
def cutS (N : Nat) (s : Shared) : Shared := { s with heap := cut N s.heap }
/-! ### a generator's frame -/
structure GP where
  P : Program
  w : World
  K : PySem.W.Frag
  mg : Str → Option Value
  base : Heap
  N : List Str
  qual : Str
  scope : Scope
  f : Addr
  cdv : Value
  A : Around
  outer : List Env
  L : Addr
  pn : List (Addr × Obj)
abbrev GP.env (G : GP) : Env := envOfC G.qual G.scope G.L G.f G.cdv
def GP.X (G : GP) (s : Shared) (H : Hp) : Cx where
  prog := G.P
  w := G.w
  K := G.K
  mg := G.mg
  base := G.base
  A := G.A.deeper G.env
  N := G.N
  s_0 := s
  H_0 := H
  env := G.env
  outer := G.outer
  stack := G.env :: G.outer
  ex := []
  calm := true
  fn := fun _ => true
  pn := G.pn
  xe := fun _ _ => False
theorem funs_cut {N : Nat} {h base : Heap} : ∀ {l : List Env}, h.FunFrames base l → (∀ b ∈ frs l, b < N) → (cut N h).FunFrames base l
  | [], _, _ => trivial
  | env :: rest, ⟨h1, ⟨L, o, h2, h3, h4, h5⟩, h6⟩, hl => by
    have hL : L < N := hl L (by unfold frs; rw [List.filterMap_cons, h2]; exact List.mem_cons_self)
    refine ⟨h1, ⟨L, o, h2, h3, by rw [cut_lt hL]; exact h4, h5⟩, funs_cut h6 fun b hb => hl b ?_⟩
    unfold frs at hb ⊢
    rw [List.filterMap_cons, h2]
    exact List.mem_cons_of_mem _ hb
/-- woken: the frame's objects are as they were; the reference is what stands now -/
theorem rebase {G : GP} {s₀ s s2 : Shared} {H₀ H H2 : Hp} {ip : List (Addr × Obj)} {σ : L2.St} (hz : s₀.heap.objs.size = G.L) (hcl : G.env.cells = []) (I : Inv (G.X s₀ H₀) ip σ H s) {A2 : Around}
    (e0 : Env0 G.P G.w G.K G.mg G.base A2 G.outer s2 H2) (hL : ∀ o, s.heap.get? G.L = some o → s2.heap.get? G.L = some o) (hLH : H2 G.L = none) (hp : ∀ p ∈ G.pn ++ ip, s2.heap.get? p.1 = some p.2 ∧ H2 p.1 = none) :
    Inv (G.X (cutS G.L s2) H2) ip σ H2 s2 := by
  obtain ⟨m, hns, hloc⟩ := I.loc
  obtain ⟨oL, es, ep, hoL, hrest⟩ := id hns
  have hLlt : G.L < s2.heap.objs.size := Heap.lt_size (hL oL hoL)
  have hsz : (cutS G.L s2).heap.objs.size = G.L := cut_size (Nat.le_of_lt hLlt)
  have hfr : ∀ b ∈ frs G.outer, b < G.L := fun b hb => by
    obtain ⟨_, o, e, _⟩ := I.ok.funs.mem hb
    have := Heap.lt_size e
    rw [← hz]; exact this
  have nocell : ∀ x c, ¬ G.env.cells.lookup x = some c := fun x c h => by rw [hcl] at h; cases h
  refine ⟨⟨I.ok.mod, I.ok.kind, I.ok.glob, I.ok.blt, ?_, fun x y c h => (nocell x c h).elim, I.ok.has, fun x c _ h => (nocell x c h).elim, I.ok.hd, I.ok.frames, I.ok.stk, fun b hb => absurd hb (by simp [GP.X]), fun b o e => ?_, ?_, fun b o e h => absurd h (by simp [GP.X]), fun b hb => absurd hb (by simp [GP.X]), ?_, e0.frf⟩, rfl, e0.bare, ?_, ⟨m, ⟨oL, es, ep, hL oL hoL, hrest⟩, fun i x v h1 h2 h3 => ?_⟩, fun x c h => (nocell x c h).elim, hLH, fun x c h => (nocell x c h).elim, fun p hp' => ?_, e0.hok, I.len⟩
  · show (cutS G.L s2).heap.objs.size ≤ G.L
    rw [hsz]; exact Nat.le_refl _
  · have hb : b < G.L := by
      have h1 := Heap.lt_size (I.ok.bs b o e).1
      exact Nat.lt_of_lt_of_eq h1 hz
    exact ⟨by show (cut G.L s2.heap).get? b = _; rw [cut_lt hb]; exact (e0.bs b o e).1, (e0.bs b o e).2⟩
  · show G.base.objs.size ≤ (cutS G.L s2).heap.objs.size
    rw [hsz, ← hz]; exact I.ok.bsz
  · exact funs_cut e0.funs hfr
  · refine ⟨fun b o e _ _ _ => (cut_some e).2, fun b o e _ _ _ => ⟨o.slots, (cut_some e).2⟩, fun b o _ n _ => n, fun b o e _ => ⟨o, (cut_some e).2⟩, fun _ _ q => q, fun _ _ _ q => q, fun b ps q => ⟨#[], by rw [show H2 b = some (HO.tbl ps) from q]; simp⟩⟩
  · obtain ⟨u, r, look⟩ := hloc i x v h1 h2 h3
    refine ⟨u, r, ?_⟩
    rcases look with look | ⟨_, c, hc, _⟩
    · exact .inl look
    · exact (nocell x c hc).elim
  · obtain ⟨_, _, i3, i4, i5⟩ := I.pin p hp'
    obtain ⟨j1, j2⟩ := hp p hp'
    exact ⟨j1, j2, i3, i4, i5⟩
/-- what the one who woke it finds: all else but the frame's own things -/
def young (L : Addr) (h : Heap) : List Addr := (List.range h.objs.size).filter fun b => decide (L ≤ b)
theorem mem_young {L b : Addr} {h : Heap} : b ∈ young L h ↔ b < h.objs.size ∧ L ≤ b := by
  unfold young; rw [List.mem_filter, List.mem_range, decide_eq_true_eq]
theorem un_woken {G : GP} {s2 s' : Shared} {H2 H' : Hp} {ip : List (Addr × Obj)} {σ : L2.St} (I : Inv (G.X (cutS G.L s2) H2) ip σ H' s') : Un (frs G.outer) (young G.L s2.heap) H2 H' s2.heap s'.heap := by
  have old : ∀ b o, s2.heap.get? b = some o → b ∉ young G.L s2.heap → (cut G.L s2.heap).get? b = some o := fun b o e hb => by
    have hlt : b < G.L := by
      apply Decidable.byContradiction
      intro z
      exact hb (mem_young.mpr ⟨Heap.lt_size e, Nat.le_of_not_lt z⟩)
    rw [cut_lt hlt]; exact e
  exact ⟨fun b o e n h1 h2 => I.base.keep b o (old b o e h2) n h1 (by simp [GP.X]), fun b o e n h1 h2 => I.base.slot b o (old b o e h2) n h1 (by simp [GP.X]), fun b o e n h2 => I.base.free b o (old b o e h2) n (by simp [GP.X]),
    fun b o e h2 => I.base.there b o (old b o e h2) (by simp [GP.X]), I.base.tups, I.base.frzs, I.base.tbls⟩
end GT
set_option maxRecDepth 100000
set_option maxHeartbeats 4000000
namespace GT
open PySem L2 PySem.Spec PyProof.Rows GenW DL
/-- what stood when it was woken -/
structure Gh where
  s : Shared
  H : Hp
  M : Hp
  cs : Cells
/-- it may be woken: it knows M, its own objects are pv -/
structure Wake (G : GP) (Gd : Cells → Prop) (M : Hp) (pv : List (Addr × Obj)) (y : Gh) : Prop where
  env : Env0 G.P G.w G.K G.mg G.base G.A G.outer y.s y.H
  same : Same M y.M
  ok : Ok G.K y.M y.H y.cs
  gd : Gd y.cs
  pv : ∀ p ∈ pv, y.s.heap.get? p.1 = some p.2 ∧ y.H p.1 = none
/-- how it leaves things -/
structure Left (G : GP) (y : Gh) (s' : Shared) (H' M' : Hp) : Prop where
  os : s'.os = y.s.os
  bare : AllBare s'.gens
  un : Un (frs G.outer) (young G.L y.s.heap) y.H H' y.s.heap s'.heap
  hok : HOk G.P G.w H' s'.heap
  same : Same y.M M'
  ok : Ok G.K M' H' y.cs
structure PvOk (G : GP) (pv : List (Addr × Obj)) (s' : Shared) (H' : Hp) : Prop where
  at_ : ∀ p ∈ pv, s'.heap.get? p.1 = some p.2 ∧ H' p.1 = none ∧ G.L ≤ p.1 ∧ ∀ v, p.2.data ≠ .cell v
  pn : ∀ p ∈ G.pn, p ∈ pv
/-- what it hands out from now on: ds, and if fin that is all -/
def Zy (G : GP) (Gd : Cells → Prop) (fin : Bool) : List Dat → Gh → End → Shared → Prop
  | [], y, e, s' => e.quiet = true ∧ (fin = true → e = .ret (.ok (.ret .none)) ∧ ∃ H' M', Left G y s' H' M' ∧ ∀ p ∈ G.pn, s'.heap.get? p.1 = some p.2)
  | d :: r, y, e, s' => ∃ v g l k c p fs, e = .susp v g l k c p fs ∧ e.quiet = true ∧ ∃ H' M' pv x, Left G y s' H' M' ∧ RelV x v ∧ Dr G.K M' x d ∧ PvOk G pv s' H' ∧
      ∀ y', Wake G Gd M' pv y' → SegZ (model G.P G.w) G.A (Zy G Gd fin r y') c (k (.send .none)) fs y'.s
/-- running -/
def RunG (G : GP) (Mk : Hp) (y : Gh) (ip : List (Addr × Obj)) (ρ : DEnv) (cs : Cells) (s : Shared) : Prop :=
  ∃ σ H M, Inv (G.X (cutS G.L y.s) y.H) ip σ H s ∧ Same Mk M ∧ Same y.M M ∧ Ok G.K M H cs ∧ Rho G.K M σ ρ
structure GDs where
  nx : List Dat → Cells → DEnv → Cells → Prop
  rt : List Dat → Cells → Vl → Cells → Prop
  bk : List Dat → Cells → DEnv → Cells → Prop := fun _ _ _ _ => False
  ct : List Dat → Cells → DEnv → Cells → Prop := fun _ _ _ _ => False
abbrev WGn := GDs → List Dat → Cells → DEnv → Cells → Prop
def GDs.at (D : GDs) (xs : List Dat) (c0 : Cells) : DEnds := { nx := D.nx xs c0, rt := D.rt xs c0, bk := D.bk xs c0, ct := D.ct xs c0 }
def GSPd (G : GP) (Mk : Hp) (y : Gh) (ip : List (Addr × Obj)) (D : GDs) (xs : List Dat) (f : Flow) (s : Shared) : Prop :=
  match f with
  | .next => ∃ ρ cs, RunG G Mk y ip ρ cs s ∧ D.nx xs y.cs ρ cs
  | .brk => ∃ ρ cs, RunG G Mk y ip ρ cs s ∧ D.bk xs y.cs ρ cs
  | .cont => ∃ ρ cs, RunG G Mk y ip ρ cs s ∧ D.ct xs y.cs ρ cs
  | .ret u => ∃ v x σ H M cs, Inv (G.X (cutS G.L y.s) y.H) ip σ H s ∧ Same Mk M ∧ Same y.M M ∧ Ok G.K M H cs ∧ RelV v u ∧ RV G.K M v x ∧ D.rt xs y.cs x cs
/-- where its code stands -/
structure GCd (G : GP) (ip : List (Addr × Obj)) (c : Code) (fs : List Frame) (gd : Bool → Bool) : Prop where
  cells : G.env.cells = []
  yng : ∀ p ∈ G.pn ++ ip, G.L ≤ p.1
  over : G.A.over c fs = G.A.deeper G.env
  split : splitAtGen fs = none
  guard : fs.any Frame.guarded = false
  gd : gd false = false
/-- the wakings that it can stand -/
def Lg (G : GP) (y : Gh) : Prop := G.L ≤ y.s.heap.objs.size
def GKd (G : GP) (Gd : Cells → Prop) (fin : Bool) (Mk : Hp) (ip : List (Addr × Obj)) (c : Code) (fs : List Frame) (K : Flow → Sem PySem.Fin) (D : GDs) : Prop :=
  ∀ (y : Gh) (xs : List Dat) (s : Shared) (f : Flow), Lg G y → GSPd G Mk y ip D xs f s → SegZ (model G.P G.w) G.A (Zy G Gd fin xs y) c (K f) fs s
/-- a statement of a generator, for every state that it may be woken in -/
structure DGS (G : GP) (Gd : Cells → Prop) (fin : Bool) (st : Stmt) (t : WGn) : Prop where
  run : ∀ (Mk : Hp) (y : Gh) (ip : List (Addr × Obj)) (c : Code) (fs : List Frame) (K : Flow → Sem PySem.Fin) (J : Value → Sem PySem.Fin) (gd : Bool → Bool) (lv : List Value → List Value) (s : Shared) (xs : List Dat) (ρ : DEnv) (cs : Cells) (D : GDs),
    GCd G ip c fs gd → Lg G y → GKd G Gd fin Mk ip c fs K D → RunG G Mk y ip ρ cs s → t D xs y.cs ρ cs → SegZ (model G.P G.w) G.A (Zy G Gd fin xs y) c ((exec st G.env).wrap K J gd lv) fs s
structure DGSs (G : GP) (Gd : Cells → Prop) (fin : Bool) (st : List Stmt) (t : WGn) : Prop where
  run : ∀ (Mk : Hp) (y : Gh) (ip : List (Addr × Obj)) (c : Code) (fs : List Frame) (K : Flow → Sem PySem.Fin) (J : Value → Sem PySem.Fin) (gd : Bool → Bool) (lv : List Value → List Value) (s : Shared) (xs : List Dat) (ρ : DEnv) (cs : Cells) (D : GDs),
    GCd G ip c fs gd → Lg G y → GKd G Gd fin Mk ip c fs K D → RunG G Mk y ip ρ cs s → t D xs y.cs ρ cs → SegZ (model G.P G.w) G.A (Zy G Gd fin xs y) c ((execs st G.env).wrap K J gd lv) fs s
section
variable {G : GP} {Gd : Cells → Prop} {fin : Bool} {st : Stmt} {sts : List Stmt} {ws : WS} {t u : WGn}
/-- the data's ends are the code's ends -/
theorem sp_gd {y : Gh} {ip : List (Addr × Obj)} {D : GDs} {xs : List Dat} {f : Flow} {s : Shared} {M Mk : Hp} (hk : Same Mk M) (hM : Same y.M M)
    (h : SP (G.X (cutS G.L y.s) y.H) ip { nx := fun σ H => ∃ M' ρ cs, Same M M' ∧ Ok G.K M' H cs ∧ Rho G.K M' σ ρ ∧ D.nx xs y.cs ρ cs, rt := fun v H => ∃ M' x cs, Same M M' ∧ Ok G.K M' H cs ∧ RV G.K M' v x ∧ D.rt xs y.cs x cs, bk := fun σ H => ∃ M' ρ cs, Same M M' ∧ Ok G.K M' H cs ∧ Rho G.K M' σ ρ ∧ D.bk xs y.cs ρ cs, ct := fun σ H => ∃ M' ρ cs, Same M M' ∧ Ok G.K M' H cs ∧ Rho G.K M' σ ρ ∧ D.ct xs y.cs ρ cs } f s) :
    GSPd G Mk y ip D xs f s := by
  cases f with
  | next => obtain ⟨σ, H, I, M', ρ, cs, a, b, c, d⟩ := h; exact ⟨ρ, cs, ⟨σ, H, M', I, hk.trans a, hM.trans a, b, c⟩, d⟩
  | brk => obtain ⟨σ, H, I, M', ρ, cs, a, b, c, d⟩ := h; exact ⟨ρ, cs, ⟨σ, H, M', I, hk.trans a, hM.trans a, b, c⟩, d⟩
  | cont => obtain ⟨σ, H, I, M', ρ, cs, a, b, c, d⟩ := h; exact ⟨ρ, cs, ⟨σ, H, M', I, hk.trans a, hM.trans a, b, c⟩, d⟩
  | ret u => obtain ⟨v, σ, H, I, r, M', x, cs, a, b, c, d⟩ := h; exact ⟨v, x, σ, H, M', cs, I, hk.trans a, hM.trans a, b, r, c, d⟩
def wGP (ws : WS) : WGn := fun D xs c0 ρ cs => ws (D.at xs c0) ρ cs
theorem ends_gd {y : Gh} {D : GDs} {xs : List Dat} {M : Hp} : EndsOk G.K M (D.at xs y.cs) { nx := fun σ H => ∃ M' ρ cs, Same M M' ∧ Ok G.K M' H cs ∧ Rho G.K M' σ ρ ∧ D.nx xs y.cs ρ cs, rt := fun v H => ∃ M' x cs, Same M M' ∧ Ok G.K M' H cs ∧ RV G.K M' v x ∧ D.rt xs y.cs x cs, bk := fun σ H => ∃ M' ρ cs, Same M M' ∧ Ok G.K M' H cs ∧ Rho G.K M' σ ρ ∧ D.bk xs y.cs ρ cs, ct := fun σ H => ∃ M' ρ cs, Same M M' ∧ Ok G.K M' H cs ∧ Rho G.K M' σ ρ ∧ D.ct xs y.cs ρ cs } :=
  ⟨fun σ' ρ' M' H' cs' s o r p => ⟨M', ρ', cs', s, o, r, p⟩, fun v x M' H' cs' s o r p => ⟨M', x, cs', s, o, r, p⟩, fun σ' ρ' M' H' cs' s o r p => ⟨M', ρ', cs', s, o, r, p⟩, fun σ' ρ' M' H' cs' s o r p => ⟨M', ρ', cs', s, o, r, p⟩⟩
theorem dgs_plain (h : ∀ s H, DS (G.X s H) st ws) : DGS G Gd fin st (wGP ws) := by
  refine ⟨fun Mk y ip c fs K J gd lv s xs ρ cs D g hy k ⟨σ, H, M, I, hk, hM, o, r⟩ ht => sz_wrap ?_⟩
  rw [g.over]
  exact wpAny_mono ((h _ _).run ip s σ H _ I ⟨M, ρ, cs, D.at xs y.cs, o, r, ht, ends_gd⟩) (fun f s' hs => k y xs s' f hy (sp_gd hk hM hs)) fun x s' hx => hx.elim
theorem dgss_plain (h : ∀ s H, DSs (G.X s H) sts ws) : DGSs G Gd fin sts (wGP ws) := by
  refine ⟨fun Mk y ip c fs K J gd lv s xs ρ cs D g hy k ⟨σ, H, M, I, hk, hM, o, r⟩ ht => sz_wrap ?_⟩
  rw [g.over]
  exact wpAny_mono ((h _ _).run ip s σ H _ I ⟨M, ρ, cs, D.at xs y.cs, o, r, ht, ends_gd⟩) (fun f s' hs => k y xs s' f hy (sp_gd hk hM hs)) fun x s' hx => hx.elim
def wG0 : WGn := fun D xs c0 ρ cs => D.nx xs c0 ρ cs
theorem dgss_nil : DGSs G Gd fin [] wG0 := ⟨fun Mk y ip c fs K J gd lv s xs ρ cs D g hy k hR ht => k y xs s .next hy ⟨ρ, cs, hR, ht⟩⟩
def wGSeq (t u : WGn) : WGn := fun D xs c0 ρ cs => t { D with nx := u D } xs c0 ρ cs
theorem dgss_cons (a : DGS G Gd fin st t) (b : DGSs G Gd fin sts u) : DGSs G Gd fin (st :: sts) (wGSeq t u) := by
  refine ⟨fun Mk y ip c fs K J gd lv s xs ρ cs D g hy k hR ht => ?_⟩
  rw [execs_cons_wrap]
  refine a.run Mk y ip c fs _ J gd lv s xs ρ cs { D with nx := u D } g hy (fun y' xs' s' f hy' hs => ?_) hR ht
  cases f with
  | next =>
    obtain ⟨ρ', cs', hR', q⟩ := hs
    exact b.run Mk y' ip c fs K J gd lv s' xs' ρ' cs' D g hy' k hR' q
  | brk => exact k y' xs' s' .brk hy' hs
  | cont => exact k y' xs' s' .cont hy' hs
  | ret v => exact k y' xs' s' (.ret v) hy' hs
/-! ### if -/
def wGIf (c : WT) (t u : WGn) : WGn := fun D xs c0 ρ cs => c ρ cs fun b cs1 => if b = true then t D xs c0 ρ cs1 else u D xs c0 ρ cs1
theorem dgs_if {test : Expr} {sa sb : List Stmt} {pos : Pos} {w : WT} (hc : ∀ s H, DT (G.X s H) test w) (ha : DGSs G Gd fin sa t) (hb : DGSs G Gd fin sb u) : DGS G Gd fin (.If test sa sb pos) (wGIf w t u) := by
  refine ⟨fun Mk y ip c fs K J gd lv s xs ρ cs D g hy k ⟨σ, H, M, I, hk, hM, o, r⟩ ht => ?_⟩
  rw [exec_If]
  refine sz_at ?_
  show SegZ _ _ _ c ((isTrue test G.env (eval test G.env) >>= fun b => if b = true then execs sa G.env else execs sb G.env).wrap K J gd lv) fs s
  rw [Sem.bind_eq_wrap', Sem.wrap_wrap]
  refine sz_wrap ?_
  rw [g.over]
  refine wpAny_mono ((hc _ _).run ip s σ H (fun b H' => ∃ M' cs', Same M M' ∧ Ok G.K M' H' cs' ∧ if b = true then t D xs y.cs ρ cs' else u D xs y.cs ρ cs') I ⟨M, ρ, cs, _, o, r, ht, fun b M' H' cs' s o' p => ⟨M', cs', s, o', p⟩⟩) (fun b s' hs => ?_) fun x s' hx => hx.elim
  obtain ⟨H', I', M', cs', sm, o', p⟩ := hs
  cases b with
  | true => exact ha.run Mk y ip c fs K J gd lv s' xs ρ cs' D g hy k ⟨σ, H', M', I', hk.trans sm, hM.trans sm, o', r.mono sm⟩ (by simpa using p)
  | false => exact hb.run Mk y ip c fs K J gd lv s' xs ρ cs' D g hy k ⟨σ, H', M', I', hk.trans sm, hM.trans sm, o', r.mono sm⟩ (by simpa using p)
/-! ### yield -/
def wGY (Gd : Cells → Prop) (fin : Bool) (we : WE) : WGn := fun D xs c0 ρ cs => we ρ cs fun x cs1 => SubC c0 cs1 ∧ ((xs = [] ∧ fin = false) ∨ ∃ d r, x = .dat d ∧ xs = d :: r ∧ ∀ c1, Gd c1 → D.nx r c1 ρ c1)
theorem dgs_yield {e : Expr} {yp pos : Pos} {we : WE} (he : ∀ s H, DE (G.X s H) e we) (hco : G.scope.isCoroutine = false := by rfl) (hi : interactive G.env = false := by rfl) : DGS G Gd fin (.Expr (.Yield (some e) yp) pos) (wGY Gd fin we) := by
  refine ⟨fun Mk y ip c fs K J gd lv s xs ρ cs D g hy k ⟨σ, H, M, I, hk, hM, o, r⟩ ht => ?_⟩
  rw [exec_Expr G.env _ pos hi rfl]
  show SegZ _ _ _ c (.at pos fun _ => ((eval e G.env >>= fun v => (standAt yp >>= fun _ => yieldOut G.env v)) >>= fun x => dropValue (.Yield (some e) yp) pos x).wrap K J gd lv) fs s
  have hyo : ∀ v, yieldOut G.env v = yieldValue v := fun v => by
    unfold yieldOut
    rw [if_neg (by show ¬ G.scope.isCoroutine = true; rw [hco]; decide)]
  simp only [hyo]
  refine sz_at ?_
  rw [Sem.bind_eq_wrap', Sem.bind_eq_wrap', Sem.wrap_wrap, Sem.wrap_wrap]
  refine sz_wrap ?_
  rw [g.over]
  refine wpAny_mono ((he _ _).run ip s σ H (fun v H' => ∃ x M' cs', Same M M' ∧ Ok G.K M' H' cs' ∧ RV G.K M' v x ∧ SubC y.cs cs' ∧ ((xs = [] ∧ fin = false) ∨ ∃ d r, x = .dat d ∧ xs = d :: r ∧ ∀ c1, Gd c1 → D.nx r c1 ρ c1)) I ⟨M, ρ, cs, _, o, r, ht, fun v x M' H' cs' s o' rv p => ⟨x, M', cs', s, o', rv, p.1, p.2⟩⟩) (fun v s' hs => ?_) fun x s' hx => hx.elim
  obtain ⟨x, H', I', rx, xd, M', cs', sm, o', rv, hsub, hx⟩ := hs
  refine sz_at (sz_yield g.split fun p => ?_)
  have hq : ∀ l kk, (End.susp v (gd false) l kk c p fs).quiet = true := fun l kk => by simp [End.quiet, g.gd, g.guard]
  rcases hx with ⟨e1, e2⟩ | ⟨d, rest, e1, e2, q⟩
  · rw [e1]
    exact ⟨hq _ _, fun z => by rw [e2] at z; cases z⟩
  · rw [e2]
    subst e1
    obtain ⟨m, hns, hloc⟩ := I'.loc
    obtain ⟨oL, es, ep, hoL, hdat, hrest⟩ := id hns
    have hoL : s'.heap.get? G.L = some oL := hoL
    refine ⟨v, gd false, _, _, c, p, fs, rfl, hq _ _, H', M', (G.L, oL) :: (G.pn ++ ip), x, ⟨I'.os, I'.bare, un_woken I', I'.hok, hM.trans sm, o'.sub hsub⟩, rx, rv, ⟨fun q hq => ?_, fun q hq => List.mem_cons_of_mem _ (List.mem_append_left _ hq)⟩, fun y' W => ?_⟩
    · rcases List.mem_cons.mp hq with z | z
      · rw [z]
        exact ⟨hoL, I'.free, Nat.le_refl _, fun v z => by rw [hdat] at z; cases z⟩
      · obtain ⟨i1, i2, _, _, i5⟩ := I'.pin q z
        exact ⟨i1, i2, g.yng q z, i5⟩
    · have hL := (W.pv (G.L, oL) List.mem_cons_self)
      have I2 := rebase (cut_size hy) g.cells I' W.env (fun o e => by rw [hoL] at e; cases e; exact hL.1) hL.2 (fun q hq => W.pv q (List.mem_cons_of_mem _ hq))
      have hy' : Lg G y' := Nat.le_of_lt (Heap.lt_size hL.1)
      exact k y' rest y'.s .next hy' ⟨ρ, y'.cs, ⟨σ, y'.H, y'.M, I2, (hk.trans sm).trans W.same, Same.refl _, W.ok, (r.mono sm).mono W.same⟩, q y'.cs W.gd⟩
end
end GT
set_option maxRecDepth 100000
set_option maxHeartbeats 4000000
namespace GT
open PySem L2 PySem.Spec PyProof.Rows GenW DL
section
variable {M : Model} {A : Around} {Z : End → Shared → Prop} {c : Code} {fs : List Frame} {s : Shared}
theorem sz_bindw {α β : Type} {m : Sem α} {f : α → Sem β} {K : β → Sem PySem.Fin} {H : Value → Sem PySem.Fin} {gd lv}
    (h : wpAny M (A.over c fs) m (fun a s' => SegZ M A Z c ((f a).wrap K H gd lv) fs s') (fun x s' => SegZ M A Z c (H x) fs s') s) : SegZ M A Z c ((m >>= f).wrap K H gd lv) fs s := by
  rw [Sem.bind_eq_wrap', Sem.wrap_wrap]
  exact sz_wrap h
end
/-! ### for -/
def wGFor (wi : WI) (g : WG) (tb : WGn) : WGn := fun D xs c0 ρ cs => wi ρ cs fun items Gi cs1 => ∃ Inv : Nat → List Dat → Cells → DEnv → Cells → Prop, Inv 0 xs c0 ρ cs1 ∧ (∀ i xs c0 ρ' cs', i ≤ items.length → Inv i xs c0 ρ' cs' → Gi cs') ∧
  (∀ i x xs c0 ρ' cs', items[i]? = some x → Inv i xs c0 ρ' cs' → g x ρ' cs' fun ρ2 cs2 => tb { D with nx := Inv (i + 1), ct := Inv (i + 1), bk := D.nx } xs c0 ρ2 cs2) ∧ ∀ xs c0 ρ' cs', Inv items.length xs c0 ρ' cs' → D.nx xs c0 ρ' cs'
section
variable {G : GP} {Gd : Cells → Prop} {fin : Bool}
theorem gcd_loop {ip : List (Addr × Obj)} {c c' : Code} {fs : List Frame} {gd : Bool → Bool} {k : Result → Sem PySem.Fin} {l kp : List Value} {p : Pos} (g : GCd G ip c fs gd) (hw : c'.weight = 0) (hu : c'.cUnits = 0) : GCd G ip c' (.ret k none (gd false) l c p kp :: fs) id where
  cells := g.cells
  yng := g.yng
  over := (over_loop hw hu).trans g.over
  split := by
    show (splitAtGen fs).map _ = none
    rw [g.split]; rfl
  guard := by
    show (gd false || fs.any Frame.guarded) = false
    rw [g.gd, g.guard]; rfl
  gd := rfl
theorem dgs_for {tg iter : Expr} {body : List Stmt} {pos : Pos} {js : List Nat} {wi : WI} {g : WG} {tb : WGn} (hi : ∀ s H, DI (G.X s H) tg iter wi) (hg : ∀ s H, DG (G.X s H) js tg g) (hb : DGSs G Gd fin body tb)
    (hs : ∀ x, foldedSetIterable iter G.env x = pure x := by intro _; rfl) : DGS G Gd fin (.For tg iter body [] pos) (wGFor wi g tb) := by
  refine ⟨fun Mk y ip c fs K J gd lv s xs ρ cs D gc hy k ⟨σ, H, M, I, hk, hM, o, r⟩ ht => ?_⟩
  rw [exec_For]
  refine sz_at ?_
  show SegZ _ _ _ c ((eval iter G.env >>= fun v => foldedSetIterable iter G.env v >>= fun x => standAt iter.pos >>= fun _ => holding [x] (pyIter x) >>= fun it => runOwn (.forLoop tg it body [] G.env) G.env).wrap K J gd lv) fs s
  refine sz_bindw ?_
  rw [gc.over]
  refine wpAny_mono ((hi _ _).run ip s σ H (fun JJ H' => ∃ items Gi M' cs', Same M M' ∧ Ok G.K M' H' cs' ∧ ItOk G.K M' JJ items Gi ∧ ∃ Inv : Nat → List Dat → Cells → DEnv → Cells → Prop, Inv 0 xs y.cs ρ cs' ∧ (∀ i xs c0 ρ' cs', i ≤ items.length → Inv i xs c0 ρ' cs' → Gi cs') ∧
    (∀ i x xs c0 ρ' cs', items[i]? = some x → Inv i xs c0 ρ' cs' → g x ρ' cs' fun ρ2 cs2 => tb { D with nx := Inv (i + 1), ct := Inv (i + 1), bk := D.nx } xs c0 ρ2 cs2) ∧ ∀ xs c0 ρ' cs', Inv items.length xs c0 ρ' cs' → D.nx xs c0 ρ' cs') I
    ⟨M, ρ, cs, _, o, r, ht, fun JJ items Gi M' H' cs' sm o' it p => ⟨items, Gi, M', cs', sm, o', it, p⟩⟩) (fun v s1 h1 => ?_) fun x s' hx => hx.elim
  rw [hs]
  refine sz_bindw (wpAny_pure ?_)
  refine sz_bindw (wpAny_standAt ?_)
  refine sz_bindw (wpAny_holding ?_)
  rw [gc.over]
  refine wpAny_mono h1 (fun itv s2 h2 => ?_) fun x s' hx => hx.elim
  obtain ⟨it, fp, tn, JJ, H2, rfl, I2, T, tn0, fpk, items, Gi, M1, cs1, sm1, o1, iok, Iv, iv0, ivG, turn, fin'⟩ := h2
  have hLb : ∀ b ∈ fp, G.L ≤ b := fun b hb => by
    rcases (fpk b hb).2.2.2.1 with z | z
    · exact absurd z (by simp [GP.X])
    · exact Nat.le_trans (Nat.le_of_eq (cut_size hy).symm) z
  have stat : ∀ {y' : Gh} {H' : Hp}, Lg G y' → (∀ b ∈ fp, H' b = none) → ∀ b ∈ fp, FpOk (G.X (cutS G.L y'.s) y'.H) ip H' b := fun {y' H'} hy' hn b hb => by
    obtain ⟨_, f1, f2, _, f4, f5⟩ := fpk b hb
    exact ⟨hn b hb, f1, f2, .inr (Nat.le_trans (Nat.le_of_eq (cut_size hy')) (hLb b hb)), f4, f5⟩
  refine sz_call fun p => ?_
  have gl := fun (kk : Result → Sem PySem.Fin) => gcd_loop (k := kk) (c' := .forLoop tg (.ref it) body [] G.env) (l := lv []) (kp := []) (p := p) gc rfl rfl
  have gl2 := fun (kk : Result → Sem PySem.Fin) => gcd_loop (k := kk) (c' := .block [] G.env) (l := lv []) (kp := []) (p := p) gc rfl rfl
  have loop : ∀ (m i : Nat) (y : Gh) (xs : List Dat) (s : Shared) (ρ : DEnv) (cs : Cells), m = items.length - i → i ≤ items.length → Lg G y → (∃ σ H M, Inv (G.X (cutS G.L y.s) y.H) ip σ H s ∧ Same Mk M ∧ Same M1 M ∧ Same y.M M ∧ Ok G.K M H cs ∧ Rho G.K M σ ρ ∧ (∀ b ∈ fp, H b = none) ∧ tn i s.heap) → Iv i xs y.cs ρ cs →
      SegZ (model G.P G.w) G.A (Zy G Gd fin xs y) (.forLoop tg (.ref it) body [] G.env) ((model G.P G.w).den (.forLoop tg (.ref it) body [] G.env))
        (.ret (fun r => ((match r with | .ok f => (.pure f : Sem Flow) | .error e => .raise e).onRaise (cameBack G.env)).wrap K J gd lv) none (gd false) (lv []) c p [] :: fs) s := by
    intro m
    induction m with
    | zero =>
      intro i y xs s ρ cs hm hi hy ⟨σ, H, M, I, hk, h1, hM, o, r, fr, ht⟩ iv
      have ei : i = items.length := by omega
      subst ei
      show SegZ _ _ _ _ ((forTurn tg (.ref it) body [] G.env).onRaise _) _ _
      rw [Sem.onRaise_eq_wrap]
      unfold forTurn
      refine sz_bindw (wpAny_standAt ?_)
      refine sz_bindw (wpAny_onRaise ?_)
      rw [(gl _).over]
      refine wpAny_mono (T.done (G.X (cutS G.L y.s) y.H) rfl rfl rfl rfl items.length ip s σ H (fun _ _ => False) I (stat hy fr) ht (iok.stop M H cs h1 o (ivG _ _ _ _ _ hi iv))) (fun rr s3 h3 => ?_) fun _ _ z => z.elim
      obtain ⟨rfl, I3⟩ := h3
      show SegZ _ _ _ _ (.pure (.again (.block [] G.env))) _ _
      refine sz_again rfl ?_
      show SegZ _ _ _ _ (.pure (.done .next)) _ _
      exact sz_leaf (.ok .next) (k y xs s3 .next hy ⟨ρ, cs, ⟨σ, H, M, I3, hk, hM, o, r⟩, fin' _ _ _ _ iv⟩)
    | succ m ih =>
      intro i y xs s ρ cs hm hi hy ⟨σ, H, M, I, hk, h1, hM, o, r, fr, ht⟩ iv
      have hlt : i < items.length := by omega
      have gi := ivG _ _ _ _ _ hi iv
      show SegZ _ _ _ _ ((forTurn tg (.ref it) body [] G.env).onRaise _) _ _
      rw [Sem.onRaise_eq_wrap]
      unfold forTurn
      refine sz_bindw (wpAny_standAt ?_)
      refine sz_bindw (wpAny_onRaise ?_)
      rw [(gl _).over]
      refine wpAny_mono (T.item (G.X (cutS G.L y.s) y.H) rfl rfl rfl rfl i ip s σ H (fun _ _ => False) I (stat hy fr) ht (iok.go i M H cs h1 o gi hlt)) (fun rr s3 h3 => ?_) fun _ _ z => z.elim
      obtain ⟨u, rfl, h3⟩ := h3
      refine sz_bindw ?_
      rw [(gl _).over]
      refine wpAny_mono h3 (fun _ s4 h4 => ?_) fun _ _ z => z.elim
      obtain ⟨x, H4, I4, rx, yl, t4, fr4⟩ := h4
      obtain ⟨M4, xv, ex, s4', o4, rv⟩ := iok.yld i M H cs x H4 h1 o gi yl hlt
      have I4' := I4.pinned (stat hy fr4) (T.obj _ _ t4)
      refine sz_bindw ?_
      rw [(gl _).over]
      refine wpAny_mono ((hg _ _).run (ip ++ pinsAt fp s4.heap) s4 σ H4 x u (fun σ' H' => ∃ M' ρ' cs', Same M4 M' ∧ Ok G.K M' H' cs' ∧ Rho G.K M' σ' ρ' ∧ tb { D with nx := Iv (i + 1), ct := Iv (i + 1), bk := D.nx } xs y.cs ρ' cs') I4' rx
        ⟨M4, ρ, cs, xv, _, o4, r.mono s4', rv, turn i xv xs y.cs ρ cs ex iv, fun σ' ρ' M' H' cs' sm o' r' _ _ p => ⟨M', ρ', cs', sm, o', r', p⟩⟩) (fun _ s5 h5 => ?_) fun _ _ z => z.elim
      obtain ⟨σ5, H5, I5, M5, ρ5, cs5, sm5, o5, r5, q5⟩ := h5
      rw [Sem.bind_eq_wrap', Sem.wrap_wrap]
      have s15 : Same M M5 := s4'.trans sm5
      have gx : ∀ kk, GCd G (ip ++ pinsAt fp s4.heap) (.forLoop tg (.ref it) body [] G.env) (.ret kk none (gd false) (lv []) c p [] :: fs) id := fun kk => ⟨gc.cells, fun q hq => by
        rcases List.mem_append.mp hq with z | z
        · exact gc.yng q (List.mem_append_left _ z)
        · rcases List.mem_append.mp z with z | z
          · exact gc.yng q (List.mem_append_right _ z)
          · exact hLb _ (of_pinsAt z).1, (gl kk).over, (gl kk).split, (gl kk).guard, rfl⟩
      have back : ∀ {y' : Gh} {s7 : Shared} {σ7 : L2.St} {H7 : Hp}, Inv (G.X (cutS G.L y'.s) y'.H) (ip ++ pinsAt fp s4.heap) σ7 H7 s7 → Inv (G.X (cutS G.L y'.s) y'.H) ip σ7 H7 s7 ∧ (∀ b ∈ fp, H7 b = none) ∧ tn (i + 1) s7.heap := fun {y' s7 σ7 H7} I7 => by
        refine ⟨I7.unpinned, fun b hb => ?_, T.keep _ _ _ t4 fun b hb o e => (I7.pin (b, o) (List.mem_append_right _ (List.mem_append_right _ (mem_pinsAt hb e)))).1⟩
        obtain ⟨o, e, _⟩ := T.obj _ _ t4 b hb
        exact (I7.pin (b, o) (List.mem_append_right _ (List.mem_append_right _ (mem_pinsAt hb e)))).2.1
      refine hb.run (fun b => M5 b) y (ip ++ pinsAt fp s4.heap) _ _ _ _ id id s5 xs ρ5 cs5 { D with nx := Iv (i + 1), ct := Iv (i + 1), bk := D.nx } (gx _) hy (fun y' xs' s7 f hy' hs7 => ?_) ⟨σ5, H5, M5, I5, Same.refl _, hM.trans s15, o5, r5⟩ q5
      have hk5 := hk.trans s15
      have h15 := h1.trans s15
      cases f with
      | next =>
        obtain ⟨ρ7, cs7, ⟨σ7, H7, M7, I7, k7, m7, o7, r7⟩, q7⟩ := hs7
        obtain ⟨b1, b2, b3⟩ := back I7
        exact sz_again rfl (ih (i + 1) y' xs' s7 ρ7 cs7 (by omega) hlt hy' ⟨σ7, H7, M7, b1, hk5.trans k7, h15.trans k7, m7, o7, r7, b2, b3⟩ q7)
      | cont =>
        obtain ⟨ρ7, cs7, ⟨σ7, H7, M7, I7, k7, m7, o7, r7⟩, q7⟩ := hs7
        obtain ⟨b1, b2, b3⟩ := back I7
        exact sz_again rfl (ih (i + 1) y' xs' s7 ρ7 cs7 (by omega) hlt hy' ⟨σ7, H7, M7, b1, hk5.trans k7, h15.trans k7, m7, o7, r7, b2, b3⟩ q7)
      | brk =>
        obtain ⟨ρ7, cs7, ⟨σ7, H7, M7, I7, k7, m7, o7, r7⟩, q7⟩ := hs7
        exact sz_leaf (.ok .next) (k y' xs' s7 .next hy' ⟨ρ7, cs7, ⟨σ7, H7, M7, (back I7).1, hk5.trans k7, m7, o7, r7⟩, q7⟩)
      | ret v =>
        obtain ⟨v7, x7, σ7, H7, M7, cs7, I7, k7, m7, o7, rv7, rx7, q7⟩ := hs7
        exact sz_leaf (.ok (.ret v)) (k y' xs' s7 (.ret v) hy' ⟨v7, x7, σ7, H7, M7, cs7, (back I7).1, hk5.trans k7, m7, o7, rv7, rx7, q7⟩)
  exact loop (items.length - 0) 0 y xs s2 ρ cs1 rfl (Nat.zero_le _) hy ⟨σ, H2, M1, I2, hk.trans sm1, Same.refl _, hM.trans sm1, o1, r.mono sm1, fun b hb => (fpk b hb).1, tn0⟩ iv0
end
end GT
set_option maxRecDepth 100000
set_option maxHeartbeats 4000000
namespace GT
open PySem L2 PySem.Spec PyProof.Rows GenW DL
open Sem (wp)
/-! ### waking -/
def Wk (M : Model) (A : Around) (Z : End → Shared → Prop) (gs : GenState) (s : Shared) : Prop :=
  match gs with
  | .fresh c => SegZ M A Z c (M.den c) [] s
  | .suspended k _ c _ fs _ => SegZ M A Z c (k (.send .none)) fs s
  | _ => False
theorem wp_resumeZ {M : Model} {A : Around} {Z : End → Shared → Prop} {E : Value → Shared → Prop} {s : Shared} {g : Nat} {gs : GenState} {l : List Value} {α : Type} {k : GenResult → Sem α} {Q : α → Shared → Prop} (hg : s.gens[g]? = some gs) (hgo : Wk M A Z gs (s.setGen g .running))
    (hZ : ∀ e s₁, Z e s₁ → e.quiet = true ∧ wpAny M A (k e.result) Q E (s₁.setGen g e.genState)) : wpAny M A (.resume g (.send .none) l k) Q E s := by
  intro Γ p hΓ
  rw [Sem.wp_resume]
  have hB : ∀ c, (Γ.wake c p).Woken A := fun c => hΓ.wake c p
  cases gs with
  | fresh c =>
    obtain ⟨e₁, s₁, hr, he⟩ := hgo (Γ.wake c p) p rfl (hB c)
    exact ⟨_, _, by unfold Wakes; rw [hg]; exact ⟨e₁, s₁, hr, (hZ e₁ s₁ he).1, rfl, rfl⟩, (hZ e₁ s₁ he).2 Γ p hΓ⟩
  | suspended k₀ l₀ c₀ p₀ fs₀ cl =>
    obtain ⟨e₁, s₁, hr, he⟩ := hgo (Γ.wake c₀ p) p₀ rfl (hB c₀)
    exact ⟨_, _, by unfold Wakes; rw [hg]; exact ⟨e₁, s₁, hr, (hZ e₁ s₁ he).1, rfl, rfl⟩, (hZ e₁ s₁ he).2 Γ p hΓ⟩
  | running => exact hgo.elim
  | finished => exact hgo.elim
section
variable {P : Program} {w : World} {A : Around} {E : Value → Shared → Prop} {s : Shared}
theorem next_Z {a : Addr} {g : Nat} {gs : GenState} {Z : End → Shared → Prop} {Q : Option Value → Shared → Prop} (hh : A.handled = none) (hl : s.heap.NoLimit) (hroom : A.depth < recursionLimit) (hg : s.heap.IsGen a g) (hgs : s.gens[g]? = some gs)
    (hgo : Wk (model P w) A.in1 Z gs (s.setGen g .running)) (hq : ∀ e s₁, Z e s₁ → e.quiet = true ∧ ((∃ v gd l k c p fs, e = .susp v gd l k c p fs) ∨ e = .ret (.ok (.ret .none))))
    (hY : ∀ v s₁ gd l k c p fs, Z (.susp v gd l k c p fs) s₁ → Q (some v) (s₁.setGen g (End.susp v gd l k c p fs).genState))
    (hP : ∀ s₁, Z (.ret (.ok (.ret .none))) s₁ → ∀ h', (∀ b o, s₁.heap.get? b = some o → h'.get? b = some o) → Q none { s₁.setGen g .finished with heap := h' }) : wpAny (model P w) A (pyNext (.ref a)) Q E s := by
  unfold pyNext
  refine wpAny_bind (wpAny_attempt (wpAny_callSpecial?_slot (name := Str.ofString "__next__") hg.typeIs slot_gen_next (wpAny_call_entry slot_gen_next hg.typeIs entry_gen_next ?_ (args_gen_next _))))
  show wpAny _ A.in1 (Builtin.Generator.genWake (.ref a) (.send .none)) _ _ s
  unfold Builtin.Generator.genWake
  refine wpAny_bind (wpAny_holding (wpAny_genNumber hg (wpAny_bind (wpAny_genState hgs ?_))))
  cases gs with
  | running => exact hgo.elim
  | finished => exact hgo.elim
  | _ =>
    refine wpAny_bind (wpAny_roomToWake hl hroom ?_)
    show wpAny _ A.in1 (.resume g (.send .none) [] _) _ _ s
    refine wp_resumeZ hgs hgo fun e s₁ he => ⟨(hq e s₁ he).1, ?_⟩
    rcases (hq e s₁ he).2 with ⟨v, gd, l, k, c, p, fs, rfl⟩ | rfl
    · exact wpAny_pure ⟨v, rfl, wpAny_pure (hY v s₁ gd l k c p fs he)⟩
    · show wpAny _ A.in1 (newExc (.type "StopIteration") [] >>= _) _ _ _
      refine wpAny_bind ?_
      simp only [newExc, newTuple]
      refine wpAny_bind (wpAny_newObj_type ?_ (by size_fits))
      refine wpAny_bind (m := firstArgMember _ _) (wpAny_of_eq (a := Value.none) (by first | rfl | (simp only [firstArgMember]; rfl)) ?_)
      refine wpAny_newObj_type ?_ (by size_fits)
      simp only [raiseNew]
      refine wpAny_bind (wpAny_bind (wpAny_handled ?_))
      first | rw [show A.in1.handled = none from hh] | rw [hh]
      refine wpAny_throw ?_
      refine wpAny_bind (wpAny_isInstance (T := "StopIteration") (b := true) ⟨_, Heap.get?_push_size _ rfl, rfl⟩ isSubtype_stop ?_)
      exact wpAny_pure (hP s₁ he _ fun b o hb => Heap.get?_push_of_some _ (Heap.get?_push_of_some _ hb))
end
/-! ### a generator made by a call -/
abbrev GSpec := List Vl → Cells → List Dat → Bool → (Cells → Prop) → Prop
def GP.at (G : GP) (A : Around) : GP := { G with A := A }
structure MadeD (P : Program) (w : World) (K : Frag) (mg : Str → Option Value) (base : Heap) (k : Nat) (outer : List Env) (M : Hp) (s : Shared) (ds : List Dat) (fin : Bool) (Gd : Cells → Prop) (a : Addr) (s' : Shared) (G : GP) (g : Nat) (go oL : Obj) (c : Code) : Prop where
  eqP : G.P = P ∧ G.w = w ∧ G.K = K ∧ G.mg = mg ∧ G.base = base ∧ G.outer = outer ∧ G.L = s.heap.objs.size ∧ G.pn = [(a, go)]
  gen : ∀ h : Heap, h.get? a = some go → h.IsGen a g
  cls : go.cls = .type "generator" ∧ ∃ vs, go.data = .fields vs
  obj : s'.heap.get? a = some go ∧ s'.heap.get? G.L = some oL ∧ G.L ≤ a ∧ (∀ v, go.data ≠ .cell v) ∧ (∀ v, oL.data ≠ .cell v)
  new : s'.gens[g]? = some (.fresh c)
  os : s'.os = s.os
  bare : AllBare s'.gens
  keep : ∀ b o, s.heap.get? b = some o → s'.heap.get? b = some o
  wake : ∀ A, Room k A → A.frames = some outer → ∀ y, Wake (G.at A) Gd M [(G.L, oL), (a, go)] y → SegZ (model P w) A (Zy (G.at A) Gd fin ds y) c ((model P w).den c) [] y.s
structure GFnD (P : Program) (w : World) (K : Frag) (mg : Str → Option Value) (base : Heap) (k : Nat) (f : Addr) (fd : FuncData) (ps : List Str) (sp : GSpec) : Prop where
  len : ∀ xs cs ds fin Gd, sp xs cs ds fin Gd → xs.length = ps.length
  run : ∀ (A : Around) (outer : List Env) (s : Shared) (H M : Hp) (cs : Cells) (args : Args) (us : List Value) (vs : List V) (xs : List Vl) (ds : List Dat) (fin : Bool) (Gd : Cells → Prop), Room k A → Env0 P w K mg base A outer s H → BindsTo s fd args (ps.zip us) → Vals vs us → Ok K M H cs → Paired (RV K M) vs xs → sp xs cs ds fin Gd →
    codeAny (model P w) A (.call (.ref f) args) (fun r s' => ∃ a G g go oL c, r = .ok (.ret (.ref a)) ∧ MadeD P w K mg base k outer M s ds fin Gd a s' G g go oL c) s
theorem cells_nil : ∀ (names : List (Str × NameKind)) (n : Nat), (∀ y ∈ names, y.2 ≠ .cell) → cellsFrom n names [] = []
  | [], _, _ => rfl
  | (nm, kd) :: r, n, h => by
    unfold cellsFrom
    have h1 : kd ≠ .cell := h (nm, kd) List.mem_cons_self
    rw [if_neg (by intro z; exact h1 (eq_of_beq z))]
    exact cells_nil r n fun y hy => h y (List.mem_cons_of_mem _ hy)
theorem sz_func {P : Program} {w : World} {A : Around} {Z : End → Shared → Prop} {fs : List Frame} {s : Shared} {body : List Stmt} {env : Env}
    (h : SegZ (model P w) A Z (.func body env) ((execs body env).wrap (fun f => .pure (.done (.ret (match f with | .ret v => v | _ => .none)))) (fun e => (leaving env e).wrap (fun _ => .raise e) .raise id id) id id) fs s) :
    SegZ (model P w) A Z (.func body env) ((model P w).den (.func body env)) fs s := by
  show SegZ _ A Z _ (.point [] fun _ => ((execs body env).onRaise (leaving env)) >>= _) fs s
  refine sz_point ?_
  rw [Sem.onRaise_eq_wrap, Sem.bind_eq_wrap', Sem.wrap_wrap]
  rw [Sem.wrap_congr (execs body env) _ _ (K' := fun f => .pure (.done (.ret (match f with | .ret v => v | _ => .none)))) (H' := fun e => (leaving env e).wrap (fun _ => .raise e) .raise id id) (fun f => by cases f <;> rfl) (fun e => by rw [Sem.bind_eq_wrap, Sem.wrap_wrap]; rfl)]
  exact h
/-- the ends of a generator's body -/
def genD : GDs := { nx := fun xs c0 _ cs => xs = [] ∧ SubC c0 cs, rt := fun xs c0 x cs => x = .dat .non ∧ xs = [] ∧ SubC c0 cs }
theorem gfn_data {P : Program} {w : World} {K : Frag} {mg : Str → Option Value} {base : Heap} {x qual : Str} {st : Stmt} {f : Addr} {fd : FuncData} {N ps : List Str} {k : Nat} {sp : GSpec} {t : (Cells → Prop) → Bool → WGn} (F : Fun K x qual st f fd) (S : GScope N ps (defScope st)) (hnc : ∀ y ∈ (defScope st).names, y.2 ≠ .cell)
    (len : ∀ xs cs ds fin Gd, sp xs cs ds fin Gd → xs.length = ps.length)
    (body : ∀ (cdv : Value) (A : Around) (outer : List Env) (L : Addr) (pn : List (Addr × Obj)) (Gd : Cells → Prop) (fin : Bool), Room k (A.deeper (envOfC qual (defScope st) L f cdv)) → DGSs ⟨P, w, K, mg, base, N, qual, defScope st, f, cdv, A, outer, L, pn⟩ Gd fin (defBody st) (t Gd fin))
    (pure : ∀ xs cs ds fin Gd, sp xs cs ds fin Gd → ∀ c1, Gd c1 → t Gd fin genD ds c1 (startD N.length xs) c1) : GFnD P w K mg base (k + 1) f fd ps sp := by
  obtain ⟨oc, od, kV, doc, pm, an, cdv, ct, osl, rfl, lk, hcd⟩ := F.ex
  refine ⟨len, fun A outer s H M cs args us vs xs ds fin Gd hr e0 hb rvs o rxs hsp => ?_⟩
  have hl := (Paired.len rxs).trans (len _ _ _ _ _ hsp)
  have KX : K.In s.heap := e0.mod.kin.keeps fun b o e => (e0.bs b o e).1
  have lim : s.heap.NoLimit := e0.mod.nolimit.keeps fun b o e => (e0.bs b o e).1
  have hkind : ∀ y ∈ ps.zip us, (defScope st).names.lookup y.1 = some .local ∨ ((defScope st).names.lookup y.1 = some .cell ∧ ((cellsFrom (s.heap.objs.size + 1) (defScope st).names []).lookup y.1).isSome = true) := fun ⟨n, v⟩ hy => by
    rcases S.par n (List.of_mem_zip hy).1 with q | q
    · exact .inl q
    · exact .inr ⟨q, PySem.W.cellsFrom_some _ _ _ (.inl q)⟩
  refine codeAny_call_generator hr.depth (KX _ _ lk) rfl S.co S.gen rfl (PySem.W.codeRec_of KX hcd) (hb _ _ _ _ ?_)
  refine wpAny_newFunctionEnv_cells S.kind hkind fun env he s1 xc => ?_
  subst he
  have lim1 : s1.heap.NoLimit := lim.keeps xc.toInCall.keep
  refine ⟨lim1, ?_⟩
  obtain ⟨h1, tk, es1, hk1⟩ := xc.done
  have os1 : s1.os = s.os := by rw [es1]
  have gen1 : s1.gens = s.gens := by rw [es1]
  have lt1 : s.heap.objs.size < s1.heap.objs.size := xc.toInCall.ns.lt
  have kp1 : ∀ b o, s.heap.get? b = some o → s1.heap.get? b = some o := xc.toInCall.keep
  obtain ⟨oL, es, ep, hoL, hdat, hrest⟩ := xc.toInCall.ns
  have hoL : s1.heap.get? s.heap.objs.size = some oL := hoL
  have hcl : (envOfC qual (defScope st) s.heap.objs.size f cdv).cells = [] := cells_nil _ _ hnc
  refine ⟨s1.heap.objs.size, ⟨P, w, K, mg, base, N, qual, defScope st, f, cdv, A, outer, s.heap.objs.size, [(s1.heap.objs.size, _)]⟩, s1.gens.size, _, oL, _, rfl, ⟨⟨rfl, rfl, rfl, rfl, rfl, rfl, rfl, rfl⟩, fun h e => ⟨_, _, _, e, rfl, rfl, rfl⟩, ⟨rfl, _, rfl⟩, ⟨Heap.get?_push_size _ rfl, Heap.get?_push_of_some _ hoL, Nat.le_of_lt lt1, fun v z => (by cases z), fun v z => (by rw [hdat] at z; cases z)⟩, Array.getElem?_push_size .., os1, AllBare.push (by rw [gen1]; exact e0.bare) rfl, fun b o e => Heap.get?_push_of_some _ (kp1 b o e), ?_⟩⟩
  intro Aw hrw hfr y W
  have e0w : Env0 P w K mg base Aw outer s H := ⟨hfr, e0.mod, e0.bs, e0.bsz, e0.funs, e0.frf, e0.hok, e0.bare⟩
  have I1 : Inv (gcxOf P w K mg base N qual (defScope st) f cdv Aw outer s H E0 []) [] (start N vs) H s1 := inv_startG S hrw.hd e0w hl rvs xc
  have hL1 := W.pv (s.heap.objs.size, oL) List.mem_cons_self
  have hA1 := W.pv _ (List.mem_cons_of_mem _ List.mem_cons_self)
  have hga : H s1.heap.objs.size = none := I1.hok.fresh (Nat.le_refl _)
  have I2 := I1.kept (t' := s1.toks) (h' := s1.heap.push { cls := .type "generator", data := .fields #[.int s1.gens.size 0, .str x s1.toks, .str qual (s1.toks + 1)] }) fun b u e => Heap.get?_push_of_some _ e
  have I3 : Inv (GP.X ⟨P, w, K, mg, base, N, qual, defScope st, f, cdv, Aw, outer, s.heap.objs.size, [(s1.heap.objs.size, { cls := .type "generator", data := .fields #[.int s1.gens.size 0, .str x s1.toks, .str qual (s1.toks + 1)] })]⟩ s H) [] (start N vs) H { s1 with heap := s1.heap.push { cls := .type "generator", data := .fields #[.int s1.gens.size 0, .str x s1.toks, .str qual (s1.toks + 1)] }, toks := s1.toks } := by
    refine ⟨⟨I2.ok.mod, I2.ok.kind, I2.ok.glob, I2.ok.blt, I2.ok.above, I2.ok.inj, I2.ok.has, I2.ok.cab, I2.ok.hd, I2.ok.frames, I2.ok.stk, I2.ok.exf, I2.ok.bs, I2.ok.bsz, I2.ok.noex, I2.ok.exfs, I2.ok.funs, I2.ok.frf⟩, I2.os, I2.bare, I2.base, I2.loc, I2.cell, I2.free, I2.freeC, fun p hp => ?_, I2.hok, I2.len⟩
    rw [List.mem_singleton.mp (show p ∈ [_] from hp)]
    exact ⟨Heap.get?_push_size _ rfl, hga, Nat.ne_of_gt lt1, I1.nofs (Nat.le_refl _), fun v z => by cases z⟩
  have hy : Lg ⟨P, w, K, mg, base, N, qual, defScope st, f, cdv, Aw, outer, s.heap.objs.size, [(s1.heap.objs.size, { cls := .type "generator", data := .fields #[.int s1.gens.size 0, .str x s1.toks, .str qual (s1.toks + 1)] })]⟩ y := Nat.le_of_lt (Heap.lt_size hL1.1)
  have I4 := rebase (G := ⟨P, w, K, mg, base, N, qual, defScope st, f, cdv, Aw, outer, s.heap.objs.size, [(s1.heap.objs.size, { cls := .type "generator", data := .fields #[.int s1.gens.size 0, .str x s1.toks, .str qual (s1.toks + 1)] })]⟩) rfl hcl I3 W.env (fun o e => by
    have e' : (s1.heap.push _).get? s.heap.objs.size = some o := e
    rw [Heap.get?_push_of_some _ hoL] at e'
    cases e'
    exact hL1.1) hL1.2 (fun q hq => by
      rw [List.mem_singleton.mp (show q ∈ [_] from hq)]
      exact hA1)
  refine sz_func ?_
  refine (body cdv Aw outer s.heap.objs.size _ Gd fin (hrw.deeper _)).run y.M y [] _ [] _ _ id id y.s ds (startD N.length xs) y.cs genD ⟨hcl, fun q hq => ?_, over_func, rfl, rfl, rfl⟩ hy (fun y' xs' s' fl hy' hs => ?_) ⟨start N vs, y.H, y.M, I4, Same.refl _, Same.refl _, W.ok, (start_rho rxs).mono W.same⟩ (pure xs cs ds fin Gd hsp y.cs W.gd)
  · rw [List.mem_singleton.mp (show q ∈ [_] from hq)]
    exact Nat.le_of_lt lt1
  · cases fl with
    | next =>
      obtain ⟨ρ', cs', ⟨σ', H', M', I', k', m', o', r'⟩, rfl, sub⟩ := hs
      exact sz_end (.ok (.ret .none)) ⟨rfl, fun _ => ⟨rfl, H', M', ⟨I'.os, I'.bare, un_woken I', I'.hok, m', o'.sub sub⟩, fun q hq => (I'.pin q (List.mem_append_left _ hq)).1⟩⟩
    | brk => obtain ⟨ρ', cs', _, z⟩ := hs; exact z.elim
    | cont => obtain ⟨ρ', cs', _, z⟩ := hs; exact z.elim
    | ret u =>
      obtain ⟨v', x', σ', H', M', cs', I', k', m', o', rv', rx', rfl, rfl, sub⟩ := hs
      rw [inv_non rx'] at rv'
      have eu : u = Value.none := rv'
      subst eu
      exact sz_end (.ok (.ret .none)) ⟨rfl, fun _ => ⟨rfl, H', M', ⟨I'.os, I'.bare, un_woken I', I'.hok, m', o'.sub sub⟩, fun q hq => (I'.pin q (List.mem_append_left _ hq)).1⟩⟩
end GT
set_option maxRecDepth 100000
set_option maxHeartbeats 4000000
namespace GT
open PySem L2 PySem.Spec PyProof.Rows GenW DL
theorem inv_gens {X : Cx} {pins : List (Addr × Obj)} {σ : L2.St} {H : Hp} {s s' : Shared} (I : Inv X pins σ H s) (hh : s'.heap = s.heap) (ho : s'.os = s.os) (hb : AllBare s'.gens) : Inv X pins σ H s' := by
  obtain ⟨h, g, d, t, o⟩ := s
  obtain ⟨h', g', d', t', o'⟩ := s'
  have e1 : h' = h := hh
  have e2 : o' = o := ho
  subst e1 e2
  exact ⟨I.ok, I.os, hb, I.base, I.loc, I.cell, I.free, I.freeC, I.pin, I.hok, I.len⟩
theorem genState_susp {v g l k c p fs} : susp (End.susp v g l k c p fs).genState = true := rfl
theorem zy_ends {G : GP} {Gd : Cells → Prop} {fin : Bool} {ds : List Dat} {y : Gh} {e : End} {s' : Shared} (hf : ds = [] → fin = true) (h : Zy G Gd fin ds y e s') : e.quiet = true ∧ ((∃ v gd l k c p fs, e = .susp v gd l k c p fs) ∨ e = .ret (.ok (.ret .none))) := by
  cases ds with
  | nil =>
    obtain ⟨q, h⟩ := h
    exact ⟨q, .inr (h (hf rfl)).1⟩
  | cons d r =>
    obtain ⟨v, g, l, k, c, p, fs, rfl, q, _⟩ := h
    exact ⟨q, .inl ⟨v, g, l, k, c, p, fs, rfl⟩⟩
/-- an expression whose value is a new generator -/
abbrev WGe := DEnv → Cells → (List Dat → Bool → (Cells → Prop) → Cells → Prop) → Prop
structure DGe (X : Cx) (k : Nat) (e : Expr) (wg : WGe) : Prop where
  run : ∀ (pins : List (Addr × Obj)) (s : Shared) (σ : L2.St) (H M : Hp) (ρ : DEnv) (cs : Cells) (R : List Dat → Bool → (Cells → Prop) → Cells → Prop), Inv X pins σ H s → Ok X.K M H cs → Rho X.K M σ ρ → wg ρ cs R →
    wpAny (model X.prog X.w) X.A (eval e X.env) (fun u s' => ∃ a H1 M1 cs1 sc ds fin Gd G g go oL c, u = .ref a ∧ Inv X pins σ H1 sc ∧ Same M M1 ∧ Ok X.K M1 H1 cs1 ∧ MadeD X.prog X.w X.K X.mg X.base k X.stack M1 sc ds fin Gd a s' G g go oL c ∧ R ds fin Gd cs1) X.xe s
def wForG (wg : WGe) (g : WG) (wb : WS) : WS := fun D ρ cs => wg ρ cs fun ds fin Gd cs1 => ∃ Iv : Nat → DEnv → Cells → Prop, Iv 0 ρ cs1 ∧ (∀ i ρ' cs', i ≤ ds.length → Iv i ρ' cs' → Gd cs') ∧
  (∀ i d ρ' cs', ds[i]? = some d → Iv i ρ' cs' → g (.dat d) ρ' cs' fun ρ2 cs2 => wb { D with nx := Iv (i + 1), ct := Iv (i + 1), bk := D.nx } ρ2 cs2) ∧ ∀ ρ' cs', Iv ds.length ρ' cs' → fin = true ∧ D.nx ρ' cs'
theorem drop_cons {α : Type} {ds : List α} {i : Nat} {d : α} (h : ds[i]? = some d) : ds.drop i = d :: ds.drop (i + 1) := by
  have hl := (List.getElem?_eq_some_iff.mp h).1
  rw [List.drop_eq_getElem_cons hl, (List.getElem?_eq_some_iff.mp h).2]
theorem ds_forG {X : Cx} {k : Nat} {tg iter : Expr} {body : List Stmt} {pos : Pos} {js : List Nat} {wg : WGe} {g : WG} {wb : WS} (hx0 : ∀ e s, ¬ X.xe e s) (hc : X.calm = true) (hr : Room (k + 1) X.A) (hi : DGe X k iter wg) (hg : DG X js tg g) (hb : DSs X body wb)
    (hs : ∀ x, foldedSetIterable iter X.env x = pure x := by intro _; rfl) : DS X (.For tg iter body [] pos) (wForG wg g wb) := by
  refine ⟨fun pins s σ H E I ⟨M, ρ, cs, D, o, r, h, eo⟩ => ?_⟩
  have hh : X.A.handled = none := I.ok.hd hc
  refine wpAny_For (wpAny_mono (hi.run pins s σ H M ρ cs _ I o r h) (fun u s1 h1 => ?_) fun e s' hx => (hx0 e s' hx).elim) hs
  obtain ⟨a, H1, M1, cs1, sc, ds, fin, Gd, G, gn, go, oL, c, rfl, I1, sm1, o1, mk, Iv, iv0, ivG, turn, fin'⟩ := h1
  obtain ⟨eP, eW, eK, eM, eB, eO, eL, ePn⟩ := mk.eqP
  obtain ⟨ob1, ob2, ob3, ob4, ob5⟩ := mk.obj
  refine wpAny_pyIter_gen (mk.gen _ ob1) ?_
  -- the generator's objects are young
  have scl : ∀ p ∈ X.pn ++ pins, p.1 < G.L := fun p hp => by rw [eL]; exact Heap.lt_size (I1.pin p hp).1
  have locl : X.env.locals < G.L := by rw [eL]; exact I1.lt
  have celll : ∀ x c, X.env.cells.lookup x = some c → c < G.L := fun x c hx => by
    obtain ⟨v, q⟩ := I1.cell x c hx
    rw [eL]; exact q.lt
  have szl : X.s_0.heap.objs.size ≤ G.L := by rw [eL]; exact I1.sz
  have fsl : ∀ b ∈ X.fs, b < G.L := fun b hb => by
    apply Nat.lt_of_not_le
    intro z
    exact I1.nofs (by rw [← eL]; exact z) hb
  have hch : ∀ (h : Heap), ∀ b ∈ young G.L h, (b ∈ X.ex ∨ X.s_0.heap.objs.size ≤ b) ∧ b ≠ X.env.locals ∧ (∀ x c, X.env.cells.lookup x = some c → c ≠ b) ∧ ∀ p ∈ X.pn ++ pins, p.1 ≠ b := fun h b hb => by
    have hb := (mem_young.mp hb).2
    exact ⟨.inr (Nat.le_trans szl hb), Nat.ne_of_gt (Nat.lt_of_lt_of_le locl hb), fun x c hx => Nat.ne_of_lt (Nat.lt_of_lt_of_le (celll x c hx) hb), fun p hp => Nat.ne_of_lt (Nat.lt_of_lt_of_le (scl p hp) hb)⟩
  have room1 : Room k X.A.in1 := hr.in1
  have frm1 : X.A.in1.frames = some X.stack := I1.ok.frames
  let G1 := G.at X.A.in1
  have hG1L : G1.L = G.L := rfl
  refine codeAny_forLoop_any (fun n s' => ∃ i σ' H' M' ρ' cs' gs pv, n = ds.length - i ∧ i ≤ ds.length ∧ Inv X pins σ' H' s' ∧ Same M1 M' ∧ Ok X.K M' H' cs' ∧ Rho X.K M' σ' ρ' ∧ Iv i ρ' cs' ∧ s'.gens[gn]? = some gs ∧ PvOk G1 pv s' H' ∧
    ∀ y, Wake G1 Gd M' pv y → Wk (model X.prog X.w) X.A.in1 (Zy G1 Gd fin (ds.drop i) y) gs y.s) ?_ ds.length ?_
  · rintro n s3 ⟨i, σ3, H3, M3, ρ3, cs3, gs, pv, rfl, hi3, I3, sm3, o3, r3, iv3, hgs, pvk, wk⟩
    have gd3 := ivG i ρ3 cs3 hi3 iv3
    have ha3 : s3.heap.get? a = some go := (pvk.at_ (a, go) (pvk.pn _ (by show (a, go) ∈ G.pn; rw [ePn]; exact List.mem_cons_self))).1
    have hW : Wake G1 Gd M3 pv ⟨s3.setGen gn .running, H3, M3, cs3⟩ := by
      refine ⟨?_, Same.refl _, by show Ok G.K _ _ _; rw [eK]; exact o3, gd3, fun p hp => ⟨(pvk.at_ p hp).1, (pvk.at_ p hp).2.1⟩⟩
      show Env0 G.P G.w G.K G.mg G.base X.A.in1 G.outer (s3.setGen gn .running) H3
      rw [eP, eW, eK, eM, eB, eO]
      have e := I3.env0
      exact ⟨e.frames, e.mod, e.bs, e.bsz, e.funs, e.frf, e.hok, allBare_setGen e.bare rfl⟩
    have wk3 := wk _ hW
    have nolim : s3.heap.NoLimit := I3.nolimit
    have back : ∀ {s₁ : Shared} {H' M' : Hp} {g' : Array GenState}, Left G1 ⟨s3.setGen gn .running, H3, M3, cs3⟩ s₁ H' M' → AllBare g' → ∀ (h' : Heap), (∀ b o, s₁.heap.get? b = some o → h'.get? b = some o) → Inv X pins σ3 H' { s₁ with gens := g', heap := h' } ∧ Same M3 M' ∧ Ok X.K M' H' cs3 := fun {s₁ H' M' g'} lf hg' h' hk => by
      have un : Un (frs X.stack) (young G.L s3.heap) H3 H' s3.heap s₁.heap := by rw [← eO]; exact lf.un
      have hok : HOk X.prog X.w H' s₁.heap := by
        have := lf.hok
        rw [show G1.P = X.prog from eP, show G1.w = X.w from eW] at this
        exact this
      refine ⟨I3.call' (s' := { s₁ with gens := g', heap := h' }) (ch := young G.L s3.heap) lf.os (un.trans (Un.kept hk)) (hok.kept hk) hg' (hch _), lf.same, ?_⟩
      have := lf.ok
      rw [show G1.K = X.K from eK] at this
      exact this
    by_cases hlt : i < ds.length
    · obtain ⟨d, hd⟩ : ∃ d, ds[i]? = some d := ⟨_, List.getElem?_eq_getElem hlt⟩
      rw [drop_cons hd] at wk3
      have hgl : gn < s3.gens.size := (Array.getElem?_eq_some_iff.mp hgs).1
      refine wpAny_gsz (n := gn + 1) hgl (next_Z hh nolim hr.depth (mk.gen _ ha3) hgs wk3 (fun e s₁ he => zy_ends (fun z => by cases z) he) (fun v s₁ gd l kk c' p fs hz => ?_) (fun s₁ hz => ?_))
      · intro hsz
        obtain ⟨v', gd', l', kk', c'', p', fs', heq, hqt, H', M', pv', x, lf, rv, dr, pvk', wk'⟩ := hz
        cases heq
        generalize hgs' : (End.susp v gd l kk c' p fs).genState = gs'
        have hsus : susp gs' = true := by rw [← hgs']; rfl
        have hbare' : gs'.bare = true := by rw [← hgs']; exact End.bare_of_quiet hqt
        rw [hgs'] at hsz
        have hsz1 : gn < s₁.gens.size := by
          have q : (s₁.setGen gn gs').gens.size = s₁.gens.size := setGen_size _ _ _
          have hsz' : gn + 1 ≤ (s₁.setGen gn gs').gens.size := hsz
          omega
        have wkk : ∀ y, Wake G1 Gd M' pv' y → Wk (model X.prog X.w) X.A.in1 (Zy G1 Gd fin (ds.drop (i + 1)) y) gs' y.s := fun y W => by
          rw [← hgs']
          have := wk' y W
          rw [show G1.P = X.prog from eP, show G1.w = X.w from eW] at this
          exact this
        clear wk'
        have ha5 : s₁.heap.get? a = some go := (pvk'.at_ (a, go) (pvk'.pn _ (by show (a, go) ∈ G.pn; rw [ePn]; exact List.mem_cons_self))).1
        obtain ⟨I4, sm4, o4⟩ := back lf (allBare_setGen (s := s₁) (g := gn) (x := gs') lf.bare hbare') s₁.heap (fun _ _ e => e)
        have I4 : Inv X pins σ3 H' (s₁.setGen gn gs') := I4
        have hg4 : (s₁.setGen gn gs').gens[gn]? = some gs' := setGen_at hsz1
        have hb4 : AllBare (s₁.setGen gn gs').gens := I4.bare
        have hh4 : (s₁.setGen gn gs').heap = s₁.heap := rfl
        generalize s₁.setGen gn gs' = s4 at I4 hg4 hb4 hh4 ⊢
        show wpAny _ _ (letOwnedTupleGo tg (.ref a) v) _ _ s4
        obtain ⟨vsD, hdD⟩ := mk.cls.2
        refine go_of (by rw [hh4]; exact ha5) mk.cls.1 hdD (by decide) ?_
        have pinv : ∀ p ∈ pv', s4.heap.get? p.1 = some p.2 ∧ H' p.1 = none ∧ p.1 ≠ X.env.locals ∧ p.1 ∉ X.fs ∧ ∀ v, p.2.data ≠ .cell v := fun p hp => by
          obtain ⟨q1, q2, q3, q4⟩ := pvk'.at_ p hp
          exact ⟨by rw [hh4]; exact q1, q2, Nat.ne_of_gt (Nat.lt_of_lt_of_le locl q3), fun z => Nat.lt_irrefl _ (Nat.lt_of_lt_of_le (fsl _ z) q3), q4⟩
        have I5 : Inv X (pins ++ pv') σ3 H' s4 := I4.pins_of fun p hp => by
          rcases List.mem_append.mp hp with z | z
          · exact I4.pin p (List.mem_append_right _ z)
          · exact pinv p z
        have dr' : RV X.K M' x (.dat d) := by
          have : Dr G.K M' x d := dr
          rw [eK] at this
          exact this
        -- the target is stored
        refine wpAny_mono (wpAny_slept (hg.run (pins ++ pv') (deafen s4) σ3 H' x v (fun σ' H2 => ∃ M2 ρ2 cs2, Same M' M2 ∧ Ok X.K M2 H2 cs2 ∧ Rho X.K M2 σ' ρ2 ∧ wb { D with nx := Iv (i + 1), ct := Iv (i + 1), bk := D.nx } ρ2 cs2) (inv_gens I5 rfl rfl (bare_deafen hb4)) rv
          ⟨M', ρ3, cs3, .dat d, _, o4, r3.mono sm4, dr', turn i d ρ3 cs3 hd iv3, fun σ' ρ' M2 H2 cs' sm o' r' _ _ p => ⟨M2, ρ', cs', sm, o', r', p⟩⟩)) (fun _ s6 h6 => ?_) (fun e s' ⟨_, _, hx⟩ => (hx0 _ _ hx).elim)
        obtain ⟨s60, sl6, σ6, H6, I60, M6, ρ6, cs6, sm6, o6, r6, q6⟩ := h6
        have b6 : AllBare s6.gens := sl6.bare hb4 I60.bare
        have I6 : Inv X (pins ++ pv') σ6 H6 s6 := inv_gens I60 (by rw [sl6.eq]) (by rw [sl6.eq]) b6
        have g6 := sl6.kept gn gs' hg4 hsus
        -- the body
        refine wpAny_mono (wpAny_slept (hb.run (pins ++ pv') (deafen s6) σ6 H6 { nx := fun σ' H2 => ∃ M2 ρ2 cs2, Same M6 M2 ∧ Ok X.K M2 H2 cs2 ∧ Rho X.K M2 σ' ρ2 ∧ Iv (i + 1) ρ2 cs2, rt := E.rt, bk := E.nx, ct := fun σ' H2 => ∃ M2 ρ2 cs2, Same M6 M2 ∧ Ok X.K M2 H2 cs2 ∧ Rho X.K M2 σ' ρ2 ∧ Iv (i + 1) ρ2 cs2 } (inv_gens I6 rfl rfl (bare_deafen b6))
          ⟨M6, ρ6, cs6, _, o6, r6, q6, ⟨fun σ' ρ' M2 H2 cs' sm o' r' p => ⟨M2, ρ', cs', sm, o', r', p⟩, eo.rt.mono (sm1.trans (sm3.trans (sm4.trans sm6))), eo.nx.mono (sm1.trans (sm3.trans (sm4.trans sm6))), fun σ' ρ' M2 H2 cs' sm o' r' p => ⟨M2, ρ', cs', sm, o', r', p⟩⟩⟩)) (fun f s7 h7 => ?_) (fun e s' ⟨_, _, hx⟩ => (hx0 _ _ hx).elim)
        obtain ⟨s70, sl7, q7⟩ := h7
        have g7 := sl7.kept gn gs' g6 hsus
        have real7 : ∀ {σ7 : L2.St} {H7 : Hp}, Inv X (pins ++ pv') σ7 H7 s70 → Inv X (pins ++ pv') σ7 H7 s7 := fun {σ7 H7} I7 => inv_gens I7 (by rw [sl7.eq]) (by rw [sl7.eq]) (sl7.bare b6 I7.bare)
        have again : ∀ {σ7 : L2.St} {H7 : Hp}, Inv X (pins ++ pv') σ7 H7 s70 → (∃ M2 ρ2 cs2, Same M6 M2 ∧ Ok X.K M2 H7 cs2 ∧ Rho X.K M2 σ7 ρ2 ∧ Iv (i + 1) ρ2 cs2) → ∃ m, m < ds.length - i ∧ ∃ i σ' H' M' ρ' cs' gs pv, m = ds.length - i ∧ i ≤ ds.length ∧ Inv X pins σ' H' s7 ∧ Same M1 M' ∧ Ok X.K M' H' cs' ∧ Rho X.K M' σ' ρ' ∧ Iv i ρ' cs' ∧ s7.gens[gn]? = some gs ∧ PvOk G1 pv s7 H' ∧
            ∀ y, Wake G1 Gd M' pv y → Wk (model X.prog X.w) X.A.in1 (Zy G1 Gd fin (ds.drop i) y) gs y.s := fun {σ7 H7} I70 ⟨M7, ρ7, cs7, sm7, o7, r7, iv7⟩ => by
          have I7 := real7 I70
          refine ⟨ds.length - (i + 1), by omega, i + 1, σ7, H7, M7, ρ7, cs7, gs', pv', rfl, hlt, I7.unpinned, sm3.trans (sm4.trans (sm6.trans sm7)), o7, r7, iv7, g7, ⟨fun p hp => ?_, pvk'.pn⟩, fun y W => wkk y ⟨W.env, (sm6.trans sm7).trans W.same, W.ok, W.gd, W.pv⟩⟩
          obtain ⟨z1, z2, _⟩ := I7.pin p (List.mem_append_right _ (List.mem_append_right _ hp))
          obtain ⟨_, _, q3, q4⟩ := pvk'.at_ p hp
          exact ⟨z1, z2, q3, q4⟩
        cases f with
        | next => obtain ⟨σ7, H7, I7, n7⟩ := q7; exact again I7 n7
        | cont => obtain ⟨σ7, H7, I7, n7⟩ := q7; exact again I7 n7
        | brk => obtain ⟨σ7, H7, I7, n7⟩ := q7; exact ⟨σ7, H7, (real7 I7).unpinned, n7⟩
        | ret v => obtain ⟨x7, σ7, H7, I7, r7, n7⟩ := q7; exact ⟨x7, σ7, H7, (real7 I7).unpinned, r7, n7⟩
      · obtain ⟨v', gd', l', kk', c'', p', fs', heq, _⟩ := hz
        cases heq
    · have ei : i = ds.length := by omega
      subst ei
      obtain ⟨hfin, hnx⟩ := fin' ρ3 cs3 iv3
      rw [List.drop_length] at wk3
      refine next_Z hh nolim hr.depth (mk.gen _ ha3) hgs wk3 (fun e s₁ he => zy_ends (fun _ => hfin) he) (fun v s₁ gd l kk c p fs hz => ?_) (fun s₁ hz h' hk => ?_)
      · have := (hz.2 hfin).1
        cases this
      · obtain ⟨_, H', M', lf, _⟩ := hz.2 hfin
        obtain ⟨I4, sm4, o4⟩ := back lf (allBare_setGen (g := gn) (x := .finished) lf.bare rfl) h' hk
        exact wpAny_execs_nil ⟨σ3, H', I4, eo.nx σ3 ρ3 M' H' cs3 (sm1.trans (sm3.trans sm4)) o4 (r3.mono sm4) hnx⟩
  · have keepU := mk.keep
    refine ⟨0, σ, H1, M1, ρ, cs1, .fresh c, [(G.L, oL), (a, go)], rfl, Nat.zero_le _, I1.call' (ch := []) mk.os (Un.kept mk.keep) (I1.hok.kept mk.keep) mk.bare (fun b z => by simp at z), Same.refl _, o1, r.mono sm1, iv0, mk.new, ⟨fun p hp => ?_, fun p hp => ?_⟩, fun y W => ?_⟩
    · rcases List.mem_cons.mp hp with z | z
      · rw [z]
        exact ⟨ob2, I1.hok.fresh (by rw [eL]; exact Nat.le_refl _), Nat.le_refl _, ob5⟩
      · rw [List.mem_singleton.mp z]
        exact ⟨ob1, I1.hok.fresh (by rw [← eL]; exact ob3), ob3, ob4⟩
    · have hp : p ∈ G.pn := hp
      rw [ePn] at hp
      exact List.mem_cons_of_mem _ hp
    · rw [List.drop_zero]
      exact mk.wake X.A.in1 room1 frm1 y W
end GT
set_option maxRecDepth 100000
set_option maxHeartbeats 4000000
namespace DL
open PySem L2 GT
/-! ### instances -/
def putV (f : Str) (y : Vl) : List (Str × Vl) → List (Str × Vl)
  | [] => [(f, y)]
  | p :: r => if p.1 = f then (f, y) :: r else p :: putV f y r
abbrev FR (K : Frag) (M : Hp) : (Str × V) → (Str × Vl) → Prop := fun p q => p.1 = q.1 ∧ RV K M p.2 q.2
theorem fr_lookup {K : Frag} {M : Hp} {f : Str} : ∀ {fs : List (Str × V)} {gs : List (Str × Vl)}, Paired (FR K M) fs gs → (∀ x, gs.lookup f = some x → ∃ v, fs.lookup f = some v ∧ RV K M v x) ∧ (gs.lookup f = none → fs.lookup f = none)
  | _, _, .nil => ⟨fun x h => (by cases h), fun _ => rfl⟩
  | (n, v) :: fs, (n', x) :: gs, .cons ⟨e, r⟩ k => by
    have e : n = n' := e
    subst e
    obtain ⟨h1, h2⟩ := fr_lookup (f := f) k
    simp only [List.lookup_cons]
    cases hb : (f == n) with
    | true => exact ⟨fun y h => by cases h; exact ⟨v, rfl, r⟩, fun h => by cases h⟩
    | false => exact ⟨h1, h2⟩
theorem fr_put {K : Frag} {M : Hp} {f : Str} {v : V} {x : Vl} (r : RV K M v x) : ∀ {fs : List (Str × V)} {gs : List (Str × Vl)}, Paired (FR K M) fs gs → Paired (FR K M) (putF f v fs) (putV f x gs)
  | _, _, .nil => .cons ⟨rfl, r⟩ .nil
  | (n, u) :: fs, (n', y) :: gs, .cons ⟨e, r'⟩ k => by
    have e : n = n' := e
    subst e
    unfold putF putV
    by_cases h : n = f
    · simp only [h, if_true]
      exact .cons ⟨rfl, r⟩ k
    · simp only [h, if_false]
      exact .cons ⟨rfl, r'⟩ (fr_put r k)
theorem cell_ins {K : Frag} {M H : Hp} {cs : Cells} {a C : Addr} {gs : List (Str × Vl)} (o : Ok K M H cs) (h : cs a = some (.ins C gs)) : ∃ dx fs, H a = some (.ins C dx fs) ∧ Paired (FR K M) fs gs := by
  obtain ⟨m3, ob3, hob3, cr3⟩ := o.cell a _ h
  cases ob3 <;> try exact (show False from cr3).elim
  obtain ⟨e, p⟩ := cr3
  subst e
  exact ⟨_, _, hob3, p⟩
theorem Ok.newH {K : Frag} {M H : Hp} {cs : Cells} (o : Ok K M H cs) {p : Addr} (h : H p = none) (u : HO) : Ok K M (upd H p u) cs := by
  refine ⟨fun b ob e => ?_, fun a c e => ?_⟩
  · rw [upd_ne (ne_of_none (o.ex b ob e) h)]; exact o.ex b ob e
  · obtain ⟨m, ob, q, r⟩ := o.cell a c e
    exact ⟨m, ob, by rw [upd_ne (ne_of_none q h)]; exact q, r⟩
/-- o.f, o an instance of the class at C -/
def wFld (C : Addr) (f : Str) (wo : WE) : WE := fun ρ cs P => wo ρ cs fun x cs1 => ∃ a fs v, x = .cell a ∧ cs1 a = some (.ins C fs) ∧ fs.lookup f = some v ∧ P v cs1
def wSetF (C : Addr) (f : Str) (wo wv : WE) : WS := fun D ρ cs => wv ρ cs fun y cs1 => wo ρ cs1 fun x cs2 => ∃ a fs, x = .cell a ∧ cs2 a = some (.ins C fs) ∧ fs.length < 1000 ∧ D.nx ρ (cs2.put a (.ins C (putV f y fs)))
def wMeth (C : Addr) (m : Str) (dsp : DSp) (wo : WE) (wr : WA) : WE := fun ρ cs P => wo ρ cs fun x cs1 => ∃ a fs, x = .cell a ∧ cs1 a = some (.ins C fs) ∧ fs.lookup m = none ∧ wr ρ cs1 fun xs cs2 => dsp (x :: xs) cs2 P X0
def wMake (C : Addr) (dsp : DSp) (wr : WA) : WE := fun ρ cs P => wr ρ cs fun xs cs1 => ∀ a, cs1 a = none → dsp (.cell a :: xs) (cs1.put a (.ins C [])) (fun v cs2 => v = .dat .non ∧ P (.cell a) cs2) X0
/-- a method of the text -/
structure DMok (P : Program) (w : World) (K : Frag) (mg : Str → Option Value) (base : Heap) (C : Addr) (m : Str) (ps : List Str) (k : Nat) (dsp : DSp) : Prop where
  ex : ∃ f fd, FnOk P w K mg base CX0 k f fd ps (liftSp K dsp) ∧ Cls K C ∧ Meth K C m f ∧ Binds K fd ps []
section
variable {X : Cx} {a b c e o : Expr} {es : List Expr} {wa wb wc we wo wv : WE} {w u : WT} {wr : WA} {pos : Pos} {C : Addr} {f m : Str}
theorem de_fld (hc : Cls X.K C) (hn : NoAttr X.K C f) (ho : DE X o wo) (hb : attributeBase o f X.env (eval o X.env) = eval o X.env := by rfl) : DE X (.Attribute o f pos) (wFld C f wo) :=
  pe_imp (pe_fld ho hb) fun σ H Q ⟨M, ρ, cs, P, o, r0, p, k⟩ => ⟨M, ρ, cs, _, o, r0, p, fun v x M1 H1 cs1 s1 o1 r1 ⟨a, gs, y, ex, hc1, hl, p1⟩ => by
    subst ex
    obtain ⟨dx, fs, hH, pr⟩ := cell_ins o1 hc1
    obtain ⟨z, hz, rz⟩ := (fr_lookup pr).1 y hl
    exact ⟨a, C, dx, fs, z, r1, hH, hc, hn, hz, k _ _ M1 H1 cs1 s1 o1 rz p1⟩⟩
theorem ds_fld {pos' : Pos} (hc : Cls X.K C) (hn : NoAttr X.K C f) (ho : DE X o wo) (hv : DE X e wv) (hs : swapsWith e (some (.Attribute o f pos')) pos.line X.env = pure false := by rfl) : DS X (.Assign [.Attribute o f pos'] e pos) (wSetF C f wo wv) :=
  ps_imp (ps_fld ho hv hs) fun E σ H ⟨M, ρ, cs, D, o, r, h, eo⟩ => ⟨M, ρ, cs, _, o, r, h, fun v y M1 H1 cs1 s1 o1 r1 p1 => ⟨M1, ρ, cs1, _, o1, r.mono s1, p1, fun v2 x M2 H2 cs2 s2 o2 r2 ⟨a, gs, ex, hc2, hl, p2⟩ => by
    subst ex
    obtain ⟨dx, fs, hH, pr⟩ := cell_ins o2 hc2
    refine ⟨a, C, dx, fs, r2, hH, hc, hn, by rw [Paired.len pr]; exact hl, ?_⟩
    exact eo.nx σ ρ M2 _ _ (s1.trans s2) (o2.setC hc2 (c := .ins C (putV f y gs)) ⟨rfl, fr_put (r1.mono s2) pr⟩) (r.mono (s1.trans s2)) p2⟩⟩
theorem de_meth {pl : Sem Bool} {ps : List Str} {k : Nat} {dsp : DSp} {apos : Pos} (G : DMok X.prog X.w X.K X.mg X.base C m ps k dsp) (hr : Room k X.A) (ho : DE X o wo) (ha : DA X (e :: es) wr)
    (hst : starEach (e :: es) X.env = (false, eval e X.env) :: starEach es X.env := by rfl) (hpl : (backTo pos (starEach es X.env)).any (·.1) = false := by rfl)
    (ht : eval (.Call (.Attribute o m apos) (e :: es) [] pos) X.env = (eval o X.env >>= fun ov => standAt apos.atName >>= fun _ => holding [ov] (getMethod ov m pl) >>= fun q => callWith pos q.1 q.2 (backTo pos (starEach (e :: es) X.env)) (backToKw pos (keywordEach [] X.env))) := by rfl) : DE X (.Call (.Attribute o m apos) (e :: es) [] pos) (wMeth C m dsp wo wr) := by
  obtain ⟨f, fd, F, hc, hm, hb⟩ := G.ex
  refine pe_imp (pe_meth ho hc hm F hr hb .nil pass0 ha hst hpl ht) fun σ H Q ⟨M, ρ, cs, P, o, r0, p, kk⟩ => ?_
  refine ⟨M, ρ, cs, _, o, r0, p, fun v x M1 H1 cs1 s1 o1 r1 ⟨a, gs, ex, hc1, hl, p1⟩ => ?_⟩
  subst ex
  obtain ⟨dx, fs, hH, pr⟩ := cell_ins o1 hc1
  refine ⟨a, dx, fs, r1, hH, (fr_lookup pr).2 hl, M1, ρ, cs1, _, o1, r0.mono s1, p1, fun vs xs M2 H2 cs2 s2 o2 r2 p2 => ?_⟩
  show liftSp X.K dsp (v :: (vs ++ [])) H2 Q E0
  rw [List.append_nil]
  exact ⟨M2, _, cs2, P, X0, o2, .cons (r1.mono s2) r2, p2, kk.mono (s1.trans s2), fun _ _ _ _ _ _ _ _ _ z => z.elim⟩
theorem de_make {x : Str} {ps : List Str} {k : Nat} {dsp : DSp} {p : Pos} {fi : Addr} {fd : FuncData} (Mm : Mk X.K C fi) (F : FnOk X.prog X.w X.K X.mg X.base CX0 k fi fd ps (liftSp X.K dsp)) (hb : Binds X.K fd ps []) (hm : X.mg x = some (.ref C)) (hr : Room (k + 1) X.A) (ha : DA X (e :: es) wr) (hg : Gl X x := by rfl)
    (hdb : (x == ("__debug__" : Str)) = false := by decide) (he : starEach (e :: es) X.env = (false, eval e X.env) :: starEach es X.env := by rfl) (hpl : (backTo pos (starEach es X.env)).any (·.1) = false := by rfl) : DE X (.Call (.Name x p) (e :: es) [] pos) (wMake C dsp wr) := by
  refine pe_imp (pe_make Mm F hr hg hm hb .nil pass0 ha hdb he hpl) fun σ H Q ⟨M, ρ, cs, P, o, r0, p, kk⟩ => ?_
  refine ⟨M, ρ, cs, _, o, r0, p, fun vs xs M1 H1 cs1 s1 o1 r1 p1 a dx h1 h2 hne => ?_⟩
  rw [List.append_nil]
  have o2 := o1.newH h2 (.own a)
  have h3 : upd H1 dx (.own a) a = none := by rw [upd_ne hne.symm]; exact h1
  have o3 := o2.newC h3 (u := .ins C dx []) (c := .ins C []) ⟨rfl, .nil⟩
  refine ⟨M1, _, _, _, X0, o3, .cons rv_raw r1, p1 a (o1.freeC h1), fun v x M2 H2 cs2 s2 o2 r2 ⟨ex, p2⟩ => ?_, fun _ _ _ _ _ _ _ _ _ z => z.elim⟩
  subst ex
  exact ⟨inv_non r2, kk _ _ M2 H2 cs2 (s1.trans s2) o2 rv_raw p2⟩
end
/-! ### generators by call -/
structure DGok (P : Program) (w : World) (K : Frag) (mg : Str → Option Value) (base : Heap) (x : Str) (ps : List Str) (k : Nat) (sp : GSpec) : Prop where
  ex : ∃ f fd, GFnD P w K mg base k f fd ps sp ∧ mg x = some (.ref f) ∧ PySem.W.keepIn K (.ref f) = true ∧ Binds K fd ps []
structure DGMok (P : Program) (w : World) (K : Frag) (mg : Str → Option Value) (base : Heap) (C : Addr) (m : Str) (ps : List Str) (k : Nat) (sp : GSpec) : Prop where
  ex : ∃ f fd, GFnD P w K mg base k f fd ps sp ∧ Cls K C ∧ Meth K C m f ∧ Binds K fd ps []
def wGCall (sp : GSpec) (wr : WA) : WGe := fun ρ cs R => wr ρ cs fun xs cs1 => ∃ ds fin Gd, sp xs cs1 ds fin Gd ∧ R ds fin Gd cs1
def wGMeth (C : Addr) (m : Str) (sp : GSpec) (wo : WE) (wr : WA) : WGe := fun ρ cs R => wo ρ cs fun x cs1 => ∃ a fs, x = .cell a ∧ cs1 a = some (.ins C fs) ∧ fs.lookup m = none ∧ wr ρ cs1 fun xs cs2 => ∃ ds fin Gd, sp (x :: xs) cs2 ds fin Gd ∧ R ds fin Gd cs2
section
variable {X : Cx} {e o : Expr} {es : List Expr} {wo : WE} {wr : WA} {pos : Pos} {C : Addr} {m : Str} {k : Nat} {ps : List Str} {sp : GSpec}
theorem run_gd {pins : List (Addr × Obj)} {σ : L2.St} {H M : Hp} {cs : Cells} {s : Shared} {us : List Value} {vs : List V} {xs : List Vl} {ds : List Dat} {fin : Bool} {Gd : Cells → Prop} {f : Addr} {fd : FuncData} {R : List Dat → Bool → (Cells → Prop) → Cells → Prop} {M0 : Hp} (F : GFnD X.prog X.w X.K X.mg X.base k f fd ps sp) (hr : Room k X.A) (hb : Binds X.K fd ps [])
    (I : Inv X pins σ H s) (rv : Vals vs us) (o : Ok X.K M H cs) (rx : Paired (RV X.K M) vs xs) (hs : sp xs cs ds fin Gd) (sm : Same M0 M) (hR : R ds fin Gd cs) :
    wpAny (model X.prog X.w) X.A (call (.ref f) us) (fun u s' => ∃ a H1 M1 cs1 sc ds fin Gd G g go oL c, u = .ref a ∧ Inv X pins σ H1 sc ∧ Same M0 M1 ∧ Ok X.K M1 H1 cs1 ∧ MadeD X.prog X.w X.K X.mg X.base k X.stack M1 sc ds fin Gd a s' G g go oL c ∧ R ds fin Gd cs1) X.xe s := by
  have hl2 : us.length = ps.length := by rw [← rv.length, Paired.len rx]; exact F.len _ _ _ _ _ hs
  have hbb := hb s us I.kIn (by rw [List.append_nil]; exact hl2)
  rw [List.append_nil] at hbb
  refine PySem.wpAny_call (codeAny_mono (F.run X.A X.stack s H M cs ⟨us, []⟩ us vs xs ds fin Gd hr I.env0 hbb rv o rx hs) fun r s' hq => ?_)
  obtain ⟨a, G, g, go, oL, c, rfl, mk⟩ := hq
  exact ⟨a, H, M, cs, s, ds, fin, Gd, G, g, go, oL, c, rfl, I, sm, o, mk, hR⟩
theorem dge_call {x : Str} {p : Pos} (G : DGok X.prog X.w X.K X.mg X.base x ps k sp) (hr : Room k X.A) (ha : DA X (e :: es) wr) (hg : Gl X x := by rfl) (hdb : (x == ("__debug__" : Str)) = false := by decide)
    (he : starEach (e :: es) X.env = (false, eval e X.env) :: starEach es X.env := by rfl) (hpl : (backTo pos (starEach es X.env)).any (·.1) = false := by rfl) : DGe X k (.Call (.Name x p) (e :: es) [] pos) (wGCall sp wr) := by
  obtain ⟨f, fd, F, hm, hk, hb⟩ := G.ex
  refine ⟨fun pins s σ H M ρ cs R I o r h => ?_⟩
  refine wpAny_Call_Name_kw (ld_glob I hg hm ?_ hdb)
  refine PySem.W.callWith_K (h₀ := X.base) I.ok.mod.kin hk (thn (ha.run pos pins s σ H (fun vs H1 => ∃ M1 xs cs1, Same M M1 ∧ Ok X.K M1 H1 cs1 ∧ Paired (RV X.K M1) vs xs ∧ ∃ ds fin Gd, sp xs cs1 ds fin Gd ∧ R ds fin Gd cs1) I ⟨M, ρ, cs, _, o, r, h, fun vs xs M1 H1 cs1 s1 o1 r1 p1 => ⟨M1, xs, cs1, s1, o1, r1, p1⟩⟩) fun us s1 ⟨vs, H1, I1, rv, q⟩ => ⟨I1.kIn, ?_⟩) he hpl
  obtain ⟨M1, xs, cs1, sm, o1, r1, ds, fin, Gd, hs, hR⟩ := q
  exact run_gd F hr hb I1 rv o1 r1 hs sm hR
theorem dge_meth {pl : Sem Bool} {apos : Pos} (G : DGMok X.prog X.w X.K X.mg X.base C m ps k sp) (hr : Room k X.A) (ho : DE X o wo) (ha : DA X (e :: es) wr)
    (hst : starEach (e :: es) X.env = (false, eval e X.env) :: starEach es X.env := by rfl) (hpl : (backTo pos (starEach es X.env)).any (·.1) = false := by rfl)
    (ht : eval (.Call (.Attribute o m apos) (e :: es) [] pos) X.env = (eval o X.env >>= fun ov => standAt apos.atName >>= fun _ => holding [ov] (getMethod ov m pl) >>= fun q => callWith pos q.1 q.2 (backTo pos (starEach (e :: es) X.env)) (backToKw pos (keywordEach [] X.env))) := by rfl) : DGe X k (.Call (.Attribute o m apos) (e :: es) [] pos) (wGMeth C m sp wo wr) := by
  obtain ⟨f, fd, F, hc, hm, hb⟩ := G.ex
  refine ⟨fun pins s σ H M ρ cs R I o r h => ?_⟩
  refine PySem.W.methodCall_KW (pl := pl) (thn (ho.run pins s σ H (fun v H1 => ∃ M1 x cs1, Same M M1 ∧ Ok X.K M1 H1 cs1 ∧ RV X.K M1 v x ∧ ∃ a fs, x = .cell a ∧ cs1 a = some (.ins C fs) ∧ fs.lookup m = none ∧ wr ρ cs1 fun xs cs2 => ∃ ds fin Gd, sp (x :: xs) cs2 ds fin Gd ∧ R ds fin Gd cs2) I ⟨M, ρ, cs, _, o, r, h, fun v x M1 H1 cs1 s1 o1 r1 p1 => ⟨M1, x, cs1, s1, o1, r1, p1⟩⟩) fun u s1 ⟨v, H1, I1, ru, q⟩ => ?_) ht
  obtain ⟨M1, x, cs1, sm, o1, r1, a, gs, rfl, hc1, hl, q⟩ := q
  have e1 : v = .ref a := r1
  subst e1
  obtain rfl : u = Value.ref a := ru
  obtain ⟨dx, fs, hH, pr⟩ := cell_ins o1 hc1
  refine getmeth_ok I1 hH hc hm ((fr_lookup pr).2 hl) ?_
  refine PySem.W.callWith_K (first := [.ref a]) (h₀ := X.base) I.ok.mod.kin hm.kp (thn (ha.run pos pins s1 σ H1 (fun vs H2 => ∃ M2 xs cs2, Same M1 M2 ∧ Ok X.K M2 H2 cs2 ∧ Paired (RV X.K M2) vs xs ∧ ∃ ds fin Gd, sp (.cell a :: xs) cs2 ds fin Gd ∧ R ds fin Gd cs2) I1 ⟨M1, ρ, cs1, _, o1, r.mono sm, q, fun vs xs M2 H2 cs2 s2 o2 r2 p2 => ⟨M2, xs, cs2, s2, o2, r2, p2⟩⟩) fun us s2 ⟨vs, H2, I2, rv, q2⟩ => ⟨I2.kIn, ?_⟩) hst hpl
  obtain ⟨M2, xs, cs2, sm2, o2, r2, ds, fin, Gd, hs, hR⟩ := q2
  exact run_gd (us := .ref a :: us) (vs := .ref a :: vs) F hr hb I2 (.cons rfl rv) o2 (.cons rv_raw r2) hs (sm.trans sm2) hR
end
end DL
set_option maxRecDepth 100000
set_option maxHeartbeats 4000000
namespace DL
open PySem L2 PySem.Spec PyProof.Rows
/-! ### dicts: keys are ints and texts, or tuples of them -/
def keyD : Key → Dat
  | .inl i => .int i
  | .inr x => .str x
section
variable {κ : Type} [DecidableEq κ]
def valD (kvs : List (κ × Vl)) (k : κ) : Option Vl := (kvs.find? fun kv => decide (kv.1 = k)).map (·.2)
def putD (kvs : List (κ × Vl)) (k : κ) (v : Vl) : List (κ × Vl) := if (kvs.any fun kv => decide (kv.1 = k)) = true then kvs.map (fun kv => if kv.1 = k then (kv.1, v) else kv) else kvs ++ [(k, v)]
abbrev KR (K : Frag) (M : Hp) : (κ × V) → (κ × Vl) → Prop := fun p q => p.1 = q.1 ∧ RV K M p.2 q.2
theorem kr_val {K : Frag} {M : Hp} {k : κ} : ∀ {xs : List (κ × V)} {ys : List (κ × Vl)}, Paired (KR K M) xs ys → (∀ y, valD ys k = some y → ∃ v, valV xs k = some v ∧ RV K M v y) ∧ (valD ys k = none → valV xs k = none)
  | _, _, .nil => ⟨fun y h => (by cases h), fun _ => rfl⟩
  | (n, v) :: xs, (n', y) :: ys, .cons ⟨e, r⟩ t => by
    have e : n = n' := e
    subst e
    obtain ⟨h1, h2⟩ := kr_val (k := k) t
    unfold valD valV at *
    by_cases hk : n = k
    · simp only [List.find?_cons, hk, decide_true, Option.map_some]
      exact ⟨fun z hz => ⟨v, rfl, by cases hz; exact r⟩, fun z => by cases z⟩
    · simp only [List.find?_cons, hk, decide_false]
      exact ⟨h1, h2⟩
theorem kr_any {K : Frag} {M : Hp} {k : κ} : ∀ {xs : List (κ × V)} {ys : List (κ × Vl)}, Paired (KR K M) xs ys → (xs.any fun kv => decide (kv.1 = k)) = (ys.any fun kv => decide (kv.1 = k))
  | _, _, .nil => rfl
  | (n, v) :: xs, (n', y) :: ys, .cons ⟨e, r⟩ t => by
    have e : n = n' := e
    subst e
    rw [List.any_cons, List.any_cons, kr_any t]
theorem kr_map {K : Frag} {M : Hp} {k : κ} {v : V} {y : Vl} (r : RV K M v y) : ∀ {xs : List (κ × V)} {ys : List (κ × Vl)}, Paired (KR K M) xs ys → Paired (KR K M) (xs.map fun kv => if kv.1 = k then (kv.1, v) else kv) (ys.map fun kv => if kv.1 = k then (kv.1, y) else kv)
  | _, _, .nil => .nil
  | (n, u) :: xs, (n', z) :: ys, .cons ⟨e, r'⟩ t => by
    have e : n = n' := e
    subst e
    refine .cons ?_ (kr_map r t)
    by_cases h : n = k
    · simp only [h, if_true]; exact ⟨rfl, r⟩
    · simp only [h, if_false]; exact ⟨rfl, r'⟩
theorem kr_put {K : Frag} {M : Hp} {k : κ} {v : V} {y : Vl} (r : RV K M v y) {xs : List (κ × V)} {ys : List (κ × Vl)} (h : Paired (KR K M) xs ys) : Paired (KR K M) (putK xs k v) (putD ys k y) := by
  unfold putK putD
  rw [kr_any h]
  split
  · exact kr_map r h
  · exact Paired.app h (.cons ⟨rfl, r⟩ .nil)
end
theorem rv_key {K : Frag} {M : Hp} {v : V} {k : Key} (r : RV K M v (.dat (keyD k))) : v = kV k := by
  cases k with
  | inl i => exact inv_int r
  | inr x => exact inv_str r
theorem rv_keys {K : Frag} {M : Hp} : ∀ {vs : List V} {ks : List Key}, Paired (RV K M) vs (ks.map fun k => Vl.dat (keyD k)) → vs = ks.map kV
  | _, [], .nil => rfl
  | _, k :: ks, .cons r t => by rw [rv_key r, rv_keys t]; rfl
theorem rv_tupKey {K : Frag} {M H : Hp} {cs : Cells} {v : V} {ks : List Key} (o : Ok K M H cs) (r : RV K M v (.dat (.tup (ks.map keyD)))) : ∃ b, v = .ref b ∧ SqT K H b (ks.map kV) := by
  obtain ⟨b, vs, e, q, pr⟩ := seqD_tup o r (xs := (ks.map keyD).map .dat) rfl
  rw [List.map_map] at pr
  rw [rv_keys pr] at q
  exact ⟨b, e, q⟩
theorem cell_dk {K : Frag} {M H : Hp} {cs : Cells} {a : Addr} {ys : List (Key × Vl)} (o : Ok K M H cs) (h : cs a = some (.dk ys)) : ∃ xs, H a = some (.dK xs) ∧ Paired (KR K M) xs ys := by
  obtain ⟨m3, ob3, hob3, cr3⟩ := o.cell a _ h
  cases ob3 <;> try exact (show False from cr3).elim
  exact ⟨_, hob3, cr3⟩
theorem cell_dt {K : Frag} {M H : Hp} {cs : Cells} {a : Addr} {ys : List (List Key × Vl)} (o : Ok K M H cs) (h : cs a = some (.dt ys)) : ∃ xs, H a = some (.dT xs) ∧ Paired (KR K M) xs ys := by
  obtain ⟨m3, ob3, hob3, cr3⟩ := o.cell a _ h
  cases ob3 <;> try exact (show False from cr3).elim
  exact ⟨_, hob3, cr3⟩
theorem cell_lk {K : Frag} {M H : Hp} {cs : Cells} {a : Addr} {od : Obj} {u : HO} {ys : List (Key × Vl)} (o : Ok K M H cs) (h : cs a = some (.lk od u ys)) : ∃ xs, u = .dK xs ∧ H a = some (.frz od (.dK xs)) ∧ Paired (KR K M) xs ys := by
  obtain ⟨m3, ob3, hob3, cr3⟩ := o.cell a _ h
  cases ob3 <;> try exact (show False from cr3).elim
  obtain ⟨e1, e2, e3⟩ := cr3
  subst e1 e2
  rename_i u
  cases u <;> try exact (show False from e3).elim
  exact ⟨_, rfl, hob3, e3⟩
/-! ### d[y] and d.get(y, z): the key may be any tuple -/
def DGetS (K : Frag) (H : Hp) (a : Addr) (y : V) (r : Option V) : Prop :=
  (∃ kvs k, Rd H a (.dK kvs) ∧ y = kV k ∧ r = valV kvs k) ∨ ∃ kvs k b, Rd H a (.dT kvs) ∧ y = .ref b ∧ SqT K H b (k.map kV) ∧ r = valV kvs k
section
variable {X : Cx} {pins : List (Addr × Obj)} {σ : L2.St} {H : Hp} {s : Shared} {a : Addr} {y v d : V} {u r : Value} {o : Option V} {A : Around} {E : Value → Shared → Prop}
theorem key_ofS (I : Inv X pins σ H s) {ks : List Key} {b : Addr} (h : SqT X.K H b (ks.map kV)) : (tupleKind (mixKind X.prog X.w)).is s.heap ks b := by
  obtain ⟨its, rv, ⟨o, h1, h2, n, h3⟩, _⟩ := I.tuple h
  exact ⟨o, its.toArray, n, h1, h2, h3, by simpa using items_are rv⟩
theorem ds_typeIs (I : Inv X pins σ H s) (g : DGetS X.K H a y o) : s.TypeIs (.ref a) "dict" := by
  rcases g with ⟨kvs, k, e, _, _⟩ | ⟨kvs, k, b, e, _, _, _⟩
  · obtain ⟨_, _, vs, _, dd⟩ := dk_rd I.hok e
    exact dd.typeIs
  · obtain ⟨_, _, xs, _, dd⟩ := dt_rd I.hok e
    exact dd.typeIs
theorem dS_getItem {Q : Value → Shared → Prop} (hu : A.units + 1 < cLine) (I : Inv X pins σ H s) (g : DGetS X.K H a y (some v)) (ry : RelV y u) (h : ∀ w' s', Inv X pins σ H s' → RelV v w' → Q w' s') : wpAny (model X.prog X.w) A (getItem (.ref a) u) Q E s := by
  rcases g with ⟨kvs, k, e, ey, l⟩ | ⟨kvs, k, b, e, ey, eb, l⟩
  · exact d_getItem hu I (.inl ⟨kvs, k, e, ey, l⟩) ry h
  · subst ey
    cases (show u = Value.ref b from ry)
    obtain ⟨z, hd, xs, rel, dd⟩ := dt_rd I.hok e
    obtain ⟨w', hw, rw'⟩ := RelO.some_of (v := v) (o := (atKey xs k).map (·.2)) (by rw [l]; exact rel.val k)
    obtain ⟨p, hp, hp2⟩ := Option.map_eq_some_iff.mp hw
    refine wpAny_getItem_heap (tupleKind_room_in1 hu) (key_ofS I eb) dd hp ?_
    rw [hp2]
    exact h w' _ (I.tok _) rw'
theorem dS_get2 {Q : Value → Shared → Prop} (hu : A.units + 1 < cLine) (I : Inv X pins σ H s) (g : DGetS X.K H a y o) (ry : RelV y u) (rd : RelV d r) (h : ∀ w' s', Inv X pins σ H s' → RelV (o.getD d) w' → Q w' s') : wpAny (model X.prog X.w) A (call (.builtin "dict.get") [.ref a, u, r]) Q E s := by
  rcases g with ⟨kvs, k, e, ey, l⟩ | ⟨kvs, k, b, e, ey, eb, l⟩
  · exact d_get2 hu I (.inl ⟨kvs, k, e, ey, l⟩) ry rd h
  · subst ey
    cases (show u = Value.ref b from ry)
    obtain ⟨z, hd, xs, rel, dd⟩ := dt_rd I.hok e
    refine call_meetsIn PySem.F.slot_dict_get dd.typeIs PySem.F.entry_dict_get (PySem.F.args_dict_get_3 _ _ _) (meetsH_dict_get_default (tupleKind (mixKind X.prog X.w)) a b hd r) ⟨tupleKind_room_in1 hu, k, xs, key_ofS I eb, dd, h _ _ (I.tok _) ?_⟩
    rw [l]
    exact (rel.val k).getD rd
end
/-- what the dict x holds at y -/
def atD (cs : Cells) (x y : Vl) (r : Option Vl) : Prop := ∃ a, x = .cell a ∧ ((∃ kvs k, cs a = some (.dk kvs) ∧ y = .dat (keyD k) ∧ r = valD kvs k) ∨ ∃ kvs ks, cs a = some (.dt kvs) ∧ y = .dat (.tup (ks.map keyD)) ∧ r = valD kvs ks)
theorem atD_ok {K : Frag} {M H : Hp} {cs : Cells} {x y : Vl} {r : Option Vl} {vx vy : V} (o : Ok K M H cs) (rx : RV K M vx x) (ry : RV K M vy y) (h : atD cs x y r) : ∃ a r', vx = .ref a ∧ DGetS K H a vy r' ∧ (∀ z, r = some z → ∃ v, r' = some v ∧ RV K M v z) ∧ (r = none → r' = none) := by
  obtain ⟨a, ex, h⟩ := h
  subst ex
  have e1 : vx = .ref a := rx
  rcases h with ⟨kvs, k, hc, ey, er⟩ | ⟨kvs, ks, hc, ey, er⟩
  · subst ey er
    obtain ⟨xs, hH, pr⟩ := cell_dk o hc
    exact ⟨a, _, e1, .inl ⟨xs, k, .inl hH, rv_key ry, rfl⟩, (kr_val pr).1, (kr_val pr).2⟩
  · subst ey er
    obtain ⟨xs, hH, pr⟩ := cell_dt o hc
    obtain ⟨b, e2, hb⟩ := rv_tupKey o ry
    exact ⟨a, _, e1, .inr ⟨xs, ks, b, .inl hH, e2, hb, rfl⟩, (kr_val pr).1, (kr_val pr).2⟩
def wDGet : W2 := fun x y cs P => ∃ v, atD cs x y (some v) ∧ P v cs
def wDGet2 (wo wi wd : WE) : WE := fun ρ cs P => wo ρ cs fun x cs1 => (∃ a, x = .cell a ∧ ((∃ kvs, cs1 a = some (.dk kvs)) ∨ ∃ kvs, cs1 a = some (.dt kvs))) ∧ wi ρ cs1 fun y cs2 => wd ρ cs2 fun z cs3 => ∃ r, atD cs3 x y r ∧ P (r.getD z) cs3
def wDNewK : WE := fun _ cs P => ∀ p, cs p = none → P (.cell p) (cs.put p (.dk []))
def wDNewT : WE := fun _ cs P => ∀ p, cs p = none → P (.cell p) (cs.put p (.dt []))
/-- d[k] = v -/
def wDPut (wo wi wv : WE) : WS := fun D ρ cs => wv ρ cs fun v cs1 => wo ρ cs1 fun x cs2 => wi ρ cs2 fun y cs3 => ∃ a kvs k, x = .cell a ∧ y = .dat (keyD k) ∧ cs3 a = some (.dk kvs) ∧ kvs.length < 16777216 ∧ D.nx ρ (cs3.put a (.dk (putD kvs k v)))
/-- d[k, ..] = v -/
def wDPutT (wo : WE) (wa : WA) (wv : WE) : WS := fun D ρ cs => wv ρ cs fun v cs1 => wo ρ cs1 fun x cs2 => wa ρ cs2 fun ys cs3 => ∃ a kvs ks, x = .cell a ∧ ys = (ks.map fun k => Vl.dat (keyD k)) ∧ ks.length ≤ 1000 ∧ cs3 a = some (.dt kvs) ∧ kvs.length < 16777216 ∧ D.nx ρ (cs3.put a (.dt (putD kvs ks v)))
section
variable {X : Cx} {a b c e f o i : Expr} {es : List Expr} {wa wb wc we wo wi wv wd : WE} {wr : WA} {pos : Pos}
theorem de_dnewK : DE X (.Dict [] [] pos) wDNewK := pe_imp pe_dnewK fun σ H Q ⟨M, ρ, cs, P, o, r, p, k⟩ q hq => k _ _ M _ _ (Same.refl _) (o.newC hq (u := .dK []) (c := .dk []) .nil) rv_raw (p q (o.freeC hq))
theorem de_dnewT : DE X (.Dict [] [] pos) wDNewT := pe_imp pe_dnewT fun σ H Q ⟨M, ρ, cs, P, o, r, p, k⟩ q hq => k _ _ M _ _ (Same.refl _) (o.newC hq (u := .dT []) (c := .dt []) .nil) rv_raw (p q (o.freeC hq))
theorem de_dget (hu : X.A.units + 64 < cLine) (ho : DE X o wo) (hi : DE X i wi) (hs : NoSl i := by exact fun _ _ => rfl) : DE X (.Subscript o i pos) (wOp wDGet wo wi) := by
  refine ⟨fun pins s σ H Q I ⟨M, ρ, cs, P, ok, r, p, k⟩ => ?_⟩
  refine subD_of PySem.F.slot_dict_getitem.lookup hs (thn (ho.run pins s σ H (fun v H1 => ∃ x M1 cs1, Same M M1 ∧ Ok X.K M1 H1 cs1 ∧ RV X.K M1 v x ∧ wi ρ cs1 fun y cs2 => wDGet x y cs2 P) I ⟨M, ρ, cs, _, ok, r, p, fun v x M1 H1 cs1 s1 o1 r1 p1 => ⟨x, M1, cs1, s1, o1, r1, p1⟩⟩) fun u s1 ⟨vx, H1, I1, rx, x, M1, cs1, sm1, o1, r1, p1⟩ => ?_)
  refine thn (hi.run pins s1 σ H1 (fun v H2 => ∃ y M2 cs2, Same M1 M2 ∧ Ok X.K M2 H2 cs2 ∧ RV X.K M2 v y ∧ wDGet x y cs2 P) I1 ⟨M1, ρ, cs1, _, o1, r.mono sm1, p1, fun v x M1 H1 cs1 s1 o1 r1 p1 => ⟨x, M1, cs1, s1, o1, r1, p1⟩⟩) fun iv s2 ⟨vy, H2, I2, ry, y, M2, cs2, sm2, o2, r2, v, hat, p2⟩ => ?_
  obtain ⟨a, r', ea, g, hsome, _⟩ := atD_ok o2 (r1.mono sm2) r2 hat
  obtain ⟨z, er, rz⟩ := hsome v rfl
  subst ea er
  obtain rfl : u = Value.ref a := rx
  exact ⟨ds_typeIs I2 g, dS_getItem (by omega) I2 g ry fun w' s3 I3 rw' => ⟨z, H2, I3, rw', k _ _ M2 H2 cs2 (sm1.trans sm2) o2 rz p2⟩⟩
theorem ds_dput {pos' : Pos} (hu : X.A.units + 64 < cLine) (ho : DE X o wo) (hi : DE X i wi) (hv : DE X e wv) (hs : swapsWith e (some (.Subscript o i pos')) pos.line X.env = pure false := by rfl) : DS X (.Assign [.Subscript o i pos'] e pos) (wDPut wo wi wv) :=
  ps_imp (ps_dput (by omega) ho hi hv hs) fun E σ H ⟨M, ρ, cs, D, o, r, h, eo⟩ => ⟨M, ρ, cs, _, o, r, h, fun v1 v M1 H1 cs1 s1 o1 r1 p1 => ⟨M1, ρ, cs1, _, o1, r.mono s1, p1, fun v2 x M2 H2 cs2 s2 o2 r2 p2 => ⟨M2, ρ, cs2, _, o2, r.mono (s1.trans s2), p2, fun v3 y M3 H3 cs3 s3 o3 r3 ⟨a, kvs, k, ex, ey, hc, hl, p3⟩ => by
    subst ex ey
    obtain ⟨xs, hH, pr⟩ := cell_dk o3 hc
    refine ⟨a, _, r2, .inl ⟨xs, k, hH, rv_key r3, by rw [Paired.len pr]; exact size_lt hl, rfl⟩, ?_⟩
    exact eo.nx σ ρ M3 _ _ (s1.trans (s2.trans s3)) (o3.setC hc (c := .dk (putD kvs k v)) (kr_put (r1.mono (s2.trans s3)) pr)) (r.mono (s1.trans (s2.trans s3))) p3⟩⟩⟩
theorem ds_dputT {pos' ptt : Pos} {kk : Nat} (hu : X.A.units + 64 < cLine) (ho : DE X o wo) (hi : DA X es wr) (hv : DE X e wv) (hs : swapsWith e (some (.Subscript o (.Tuple es kk ptt) pos')) pos.line X.env = pure false := by rfl) : DS X (.Assign [.Subscript o (.Tuple es kk ptt) pos'] e pos) (wDPutT wo wr wv) :=
  ps_imp (ps_dput (by omega) ho (pe_tup hi) hv hs) fun E σ H ⟨M, ρ, cs, D, o, r, h, eo⟩ => ⟨M, ρ, cs, _, o, r, h, fun v1 v M1 H1 cs1 s1 o1 r1 p1 => ⟨M1, ρ, cs1, _, o1, r.mono s1, p1, fun v2 x M2 H2 cs2 s2 o2 r2 p2 => ⟨M2, ρ, cs2, _, o2, r.mono (s1.trans s2), p2, fun vs ys M3 H3 cs3 s3 o3 r3 ⟨a, kvs, ks, ex, ey, hk, hc, hl, p3⟩ => by
    subst ex ey
    have ev := rv_keys r3
    subst ev
    refine ⟨by rw [List.length_map]; exact size_line (by omega), fun q hq => ?_⟩
    obtain ⟨s4, o4⟩ := o3.newM hq (.tup (ks.map kV))
    have sAll := s1.trans (s2.trans (s3.trans s4))
    obtain ⟨xs, hH, pr⟩ := cell_dt o4 hc
    refine ⟨a, _, r2, .inr ⟨xs, ks, q, hH, rfl, upd_same, by rw [Paired.len pr]; exact size_lt hl, rfl⟩, ?_⟩
    exact eo.nx σ ρ _ _ _ sAll (o4.setC hc (c := .dt (putD kvs ks v)) (kr_put (r1.mono (s2.trans (s3.trans s4))) pr)) (r.mono sAll) p3⟩⟩⟩
end
end DL
set_option maxRecDepth 100000
set_option maxHeartbeats 4000000
namespace DL
open PySem L2 PySem.Spec PyProof.Rows
/-! ### d.get(y, z) -/
section
variable {X : Cx} {a b c e f o i : Expr} {es : List Expr} {wa wb wc we wo wi wv wd : WE} {wr : WA} {pos apos cpos : Pos}
theorem isD_cell {K : Frag} {M H : Hp} {cs : Cells} {v : V} {x : Vl} (ok : Ok K M H cs) (rx : RV K M v x) (h : ∃ a, x = .cell a ∧ ((∃ kvs, cs a = some (.dk kvs)) ∨ ∃ kvs, cs a = some (.dt kvs))) : ∃ a, v = .ref a ∧ IsD H a := by
  obtain ⟨a, rfl, ⟨kvs, h⟩ | ⟨kvs, h⟩⟩ := h
  · obtain ⟨xs, hH, _⟩ := cell_dk ok h
    exact ⟨a, rx, .inl ⟨xs, .inl hH⟩⟩
  · obtain ⟨xs, hH, _⟩ := cell_dt ok h
    exact ⟨a, rx, .inr ⟨xs, .inl hH⟩⟩
theorem de_dget2 (hu : X.A.units + 64 < cLine) (ho : DE X o wo) (he : DE X e wi) (hf : DE X f wd) (m : M2 X o "get" apos e f cpos := by exact ⟨rfl, rfl, rfl, rfl⟩) : DE X (.Call (.Attribute o "get" apos) [e, f] [] cpos) (wDGet2 wo wi wd) := by
  refine ⟨fun pins s σ H Q I ⟨M, ρ, cs, P, ok, r, p, k⟩ => ?_⟩
  refine wpAny_Call_method m.base m.few m.line PySem.F.plainAttrs_dict PySem.F.slot_dict_get PySem.F.type_dict_get (thn (ho.run pins s σ H (fun v H1 => ∃ x M1 cs1, Same M M1 ∧ Ok X.K M1 H1 cs1 ∧ RV X.K M1 v x ∧ (∃ a, x = .cell a ∧ ((∃ kvs, cs1 a = some (.dk kvs)) ∨ ∃ kvs, cs1 a = some (.dt kvs))) ∧ wi ρ cs1 fun y cs2 => wd ρ cs2 fun z cs3 => ∃ r, atD cs3 x y r ∧ P (r.getD z) cs3) I
    ⟨M, ρ, cs, _, ok, r, p, fun v x M1 H1 cs1 s1 o1 r1 p1 => ⟨x, M1, cs1, s1, o1, r1, p1.1, p1.2⟩⟩) fun u s1 ⟨vx, H1, I1, rx, x, M1, cs1, sm1, o1, r1, hd, p1⟩ => ?_)
  obtain ⟨a, ea, dd⟩ := isD_cell o1 r1 hd
  subst ea
  obtain rfl : u = Value.ref a := rx
  obtain ⟨t1, t2, _⟩ := isD_at I1 dd
  refine ⟨t1, t2, ?_⟩
  rw [m.trees]
  refine Calls.callWith_builtin rfl (Calls.evalArgs_plain (Calls.spliced_cons (thn (he.run pins s1 σ H1 (fun v H2 => ∃ y M2 cs2, Same M1 M2 ∧ Ok X.K M2 H2 cs2 ∧ RV X.K M2 v y ∧ wd ρ cs2 fun z cs3 => ∃ r, atD cs3 x y r ∧ P (r.getD z) cs3) I1 ⟨M1, ρ, cs1, _, o1, r.mono sm1, p1, fun v x M1 H1 cs1 s1 o1 r1 p1 => ⟨x, M1, cs1, s1, o1, r1, p1⟩⟩) fun iv s2 ⟨vy, H2, I2, ry, y, M2, cs2, sm2, o2, r2, p2⟩ => ?_)))
  refine Calls.spliced_cons (thn (hf.run pins s2 σ H2 (fun v H3 => ∃ z M3 cs3, Same M2 M3 ∧ Ok X.K M3 H3 cs3 ∧ RV X.K M3 v z ∧ ∃ r, atD cs3 x y r ∧ P (r.getD z) cs3) I2 ⟨M2, ρ, cs2, _, o2, r.mono (sm1.trans sm2), p2, fun v x M1 H1 cs1 s1 o1 r1 p1 => ⟨x, M1, cs1, s1, o1, r1, p1⟩⟩) fun fv s3 ⟨vz, H3, I3, rz, z, M3, cs3, sm3, o3, r3, rr, hat, p3⟩ => Calls.spliced_nil ?_)
  obtain ⟨a', r', ea, g, hsome, hnone⟩ := atD_ok o3 (r1.mono (sm2.trans sm3)) (r2.mono sm3) hat
  cases ea
  refine dS_get2 (by omega) I3 g ry rz fun w' s4 I4 rw' => ?_
  cases rr with
  | some v =>
    obtain ⟨q, eq, rq⟩ := hsome v rfl
    subst eq
    exact ⟨q, H3, I4, rw', k _ _ M3 H3 cs3 (sm1.trans (sm2.trans sm3)) o3 rq p3⟩
  | none =>
    have eq := hnone rfl
    subst eq
    exact ⟨vz, H3, I4, rw', k _ _ M3 H3 cs3 (sm1.trans (sm2.trans sm3)) o3 r3 p3⟩
/-! ### locked dicts, d.items() -/
def wLock (w : WE) : WE := fun ρ cs P => ∃ d kvs, cs d = some (.dk kvs) ∧ ∀ od u, w ρ (cs.put d (.lk od u kvs)) fun v cs' => cs' d = some (.lk od u kvs) ∧ P v (cs'.put d (.dk kvs))
theorem de_lock (h : DE X e we) : DE X e (wLock we) := pe_imp (pe_lock h) fun σ H Q ⟨M, ρ, cs, P, o, r, ⟨d, kvs, hd, hw⟩, k⟩ => by
  obtain ⟨xs, hH, pr⟩ := cell_dk o hd
  refine ⟨d, .dK xs, hH, trivial, fun od => ?_⟩
  refine ⟨M, ρ, _, _, o.setC hd (u := .frz od (.dK xs)) (c := .lk od (.dK xs) kvs) ⟨rfl, rfl, pr⟩, r, hw od (.dK xs), fun v x M' H' cs' s o' rv p => ?_⟩
  obtain ⟨h1, p⟩ := p
  obtain ⟨ys, eu, hH', pr'⟩ := cell_lk o' h1
  cases eu
  exact ⟨hH', k v x M' _ _ s (o'.setC h1 (u := .dK xs) (c := .dk kvs) pr') rv p⟩
def kvV (p : Key × Dat) : Key × Vl := (p.1, .dat p.2)
def wiItems (wo : WE) : WI := fun ρ cs P => wo ρ cs fun x cs1 => ∃ (d : Addr) (od : Obj) (u : HO) (kvd : List (Key × Dat)), x = .cell d ∧ cs1 d = some (.lk od u (kvd.map kvV)) ∧ P (kvd.map fun p => Vl.dat (.tup [keyD p.1, p.2])) (fun cs' => cs' d = some (.lk od u (kvd.map kvV))) cs1
theorem dr_key {K : Frag} {M : Hp} (k : Key) : Dr K M (kV k) (keyD k) := by cases k <;> constructor
theorem di_items {elts : List Expr} {kk : Nat} {tpos : Pos} (ho : DE X o wo) (hbase : attributeBase o "items" X.env (eval o X.env) = eval o X.env := by rfl) (hline : (apos.endLine == cpos.line) = true := by rfl) : DI X (.Tuple elts kk tpos) (.Call (.Attribute o "items" apos) [] [] cpos) (wiItems wo) :=
  pi_imp (pi_items ho hbase hline) fun σ H R ⟨M, ρ, cs, P, o, r, p, k⟩ => ⟨M, ρ, cs, _, o, r, p, fun v x M1 H1 cs1 s1 o1 r1 ⟨d, od, u, kvd, ex, hc, p1⟩ => by
    subst ex
    obtain ⟨xs, eu, hH, pr⟩ := cell_lk o1 hc
    subst eu
    have hlen : xs.length = kvd.length := by rw [Paired.len pr, List.length_map]
    refine ⟨d, od, xs, r1, hH, k _ _ _ M1 H1 cs1 s1 o1 ⟨fun i M H cs s o g hi => ?_, fun M H cs s o g => ?_, fun i M H cs v H' s o g y hi => ?_⟩ p1⟩
    · obtain ⟨ys, eu, hH', pr'⟩ := cell_lk o g
      cases eu
      exact ⟨hH', by rw [hlen]; simpa using hi⟩
    · obtain ⟨ys, eu, hH', pr'⟩ := cell_lk o g
      cases eu
      exact ⟨hH', by rw [hlen]; simp⟩
    · obtain ⟨T, kk, vv, hk, rfl, hT, rfl⟩ := y
      obtain ⟨ys, eu, hH', pr'⟩ := cell_lk o g
      cases eu
      obtain ⟨q, hq, hq1, hq2⟩ : ∃ q, (kvd.map kvV)[i]? = some q ∧ kk = q.1 ∧ RV X.K M vv q.2 := by
        have hi2 : i < (kvd.map kvV).length := by simpa using hi
        obtain ⟨w, hw, hw2⟩ := Paired.getR pr' (List.getElem?_eq_getElem hi2)
        rw [hk] at hw
        cases hw
        exact ⟨_, List.getElem?_eq_getElem hi2, hw2.1, hw2.2⟩
      rw [List.getElem?_map] at hq
      obtain ⟨⟨k0, d0⟩, hkd, rfl⟩ := Option.map_eq_some_iff.mp hq
      have hq1 : kk = k0 := hq1
      subst hq1
      obtain ⟨s2, o2⟩ := o.newM hT (.tup [kV kk, vv])
      refine ⟨_, _, by rw [List.getElem?_map, hkd]; rfl, s2, o2, rv_dat (.tup (.inl (.inl upd_same)) (.cons (dr_key kk) (.cons (Dr.mono s2 hq2) .nil)))⟩⟩
end
end DL
set_option maxRecDepth 100000
set_option maxHeartbeats 4000000
namespace DL
open PySem L2 PySem.Spec PyProof.Rows
/-! ### max(d.values()), sorted(xs) of ints -/
def tMaxVals (td : TE) : TE := fun σ H Q => td σ H fun x H1 => ∃ a kvs is, x = V.ref a ∧ H1 a = some (.dK kvs) ∧ kvs.map (·.2) = is.map V.int ∧ is ≠ [] ∧ ∀ m, m ∈ is → (∀ j ∈ is, j ≤ m) → Q (.int m) H1
section
variable {X : Cx} {o e : Expr} {p pos apos mpos : Pos} {td : TE} {wo : WE} {wr : WA}
theorem pe_maxVals (hc : X.calm = true) (hm : X.mg "max" = none) (hd : PE X o td) (hg : Gl X "max" := by rfl) (hbase : attributeBase o "values" X.env (eval o X.env) = eval o X.env := by rfl) (hline : (apos.endLine == mpos.line) = true := by rfl)
    (hse : starEach [Expr.Call (.Attribute o "values" apos) [] [] mpos] X.env = [(false, eval (Expr.Call (.Attribute o "values" apos) [] [] mpos) X.env)] := by rfl) : PE X (.Call (.Name "max" p) [.Call (.Attribute o "values" apos) [] [] mpos] [] pos) (tMaxVals td) := by
  refine ⟨fun pins s σ H Q I h => wpAny_Call_Name_kw (ld_blt I hg hm (u := .builtin "max") (by first | rfl | decide +kernel) ?_ (by first | decide +kernel | decide) (by first | decide +kernel | decide))⟩
  rw [hse]
  refine PySem.callWith_builtin1 (wpAny_Call_method0_late hbase hline (thn (hd.run pins s σ H _ I h) fun v s1 ⟨x, H1, I1, r1, a, kvs, is, ex, ha, hv, hne, q⟩ => ?_))
  subst ex
  obtain rfl : v = Value.ref a := r1
  obtain ⟨_, hsys, vs, rel, dof⟩ := dk_of I1.hok ha
  obtain ⟨ep, dat⟩ := dof.dictAt
  have dat' := dat
  obtain ⟨ob, es, ho, ex, hdat, hko, hpr, hnd⟩ := dat'
  refine ⟨"dict", "dict.values", F.plainAttrs_dict, F.slot_dict_values, F.type_dict_values, ⟨ob, ho, ex.1⟩, fun b e => (by cases e; exact ⟨ob, ho, ex.2.1⟩), Calls.callWith_builtin rfl (PySem.evalArgs_none (call_meetsIn F.slot_dict_values ⟨ob, ho, ex.1⟩ F.entry_dict_values (F.args_dict_values_1 _) (meets_dict_values (mixKind X.prog X.w) a hsys) ⟨⟨vs, dof⟩, ?_⟩))⟩
  generalize hvw : ({ cls := .type "dict_values", data := .fields #[.ref a] } : Obj) = vw
  have k1 : ∀ b u, s1.heap.get? b = some u → (s1.heap.push vw).get? b = some u := fun b u e => Heap.get?_push_of_some _ e
  have dat1 : (s1.heap.push vw).DictAt (mixKind X.prog X.w) a vs ep := dat.keep k1
  have hlv : vs.length = is.length := by rw [← KV.length rel, ← List.length_map (f := (·.2)), hv, List.length_map]
  have hlen : 0 < vs.length := hlv ▸ List.length_pos_iff.mpr hne
  have hval : ∀ (i : Nat) (v : Value), (∃ k, vs[i]? = some (k, v)) → ∃ t, v = Value.int (is.getD i 0) t := fun i v ⟨k, hk⟩ => by
    obtain ⟨x, h1, h2⟩ := KV.at' rel hk
    have e1 : (kvs.map (·.2))[i]? = some x := by rw [List.getElem?_map, h1]; rfl
    rw [hv, List.getElem?_map] at e1
    obtain ⟨j, hj, e2⟩ := Option.map_eq_some_iff.mp e1
    subst e2
    obtain ⟨t, e3⟩ := h2
    exact ⟨t, by rw [e3, List.getD_eq_getElem?_getD, hj]; rfl⟩
  have hlt : a < s1.heap.objs.size := Heap.lt_size ho
  have hsz : (s1.heap.push vw).objs.size = s1.heap.objs.size + 1 := Heap.size_push _ _
  refine call_max_walk (wpAny_pyIter_values (v := s1.heap.objs.size) (d := a) ⟨_, Heap.get?_push_size _ (by rw [← hvw]; rfl), by rw [← hvw], by rw [← hvw]⟩ dat1 ?_)
  refine ⟨_, _, _, _, _, _, _, rfl, Walks.dictValues (knd := mixKind X.prog X.w) (A := X.A.in1) (I.ok.hd hc) (s1.heap.push vw).objs.size a (by rw [hsz]; exact Nat.ne_of_lt (Nat.lt_succ_of_lt hlt)) vs ep, ⟨⟨_, Heap.get?_push_size _ rfl, rfl, rfl⟩, dat1.keep fun b u e => Heap.get?_push_of_some _ e⟩, fun b hb => ?_, hlen, CmpOf.ints_gt (fun i => is.getD i 0) hval, fun v h' tk hP hk => ?_⟩
  · show b < ((s1.heap.push _).push _).objs.size
    rw [Heap.size_push, Heap.size_push]
    rw [hsz] at hb
    rcases List.mem_cons.mp hb with e | hb
    · rw [e]; exact Nat.lt_succ_self _
    · rw [List.mem_singleton.mp hb]
      exact Nat.lt_succ_of_lt (Nat.lt_succ_of_lt hlt)
  · obtain ⟨t, rfl⟩ := hval _ v hP
    obtain ⟨b1, b2⟩ := argBest_gt (fun i => is.getD i 0) (vs.length - 1)
    refine ⟨.int _, H1, I1.kept (t' := tk) fun b u e => hk b u (fun hmem => ?_) (Heap.get?_push_of_some _ (k1 b u e)), ⟨t, rfl⟩, q _ ?_ fun j hj => ?_⟩
    · have e1 : b = (s1.heap.push vw).objs.size := List.mem_singleton.mp hmem
      have e2 := Heap.lt_size e
      rw [hsz] at e1
      rw [e1] at e2
      exact absurd e2 (Nat.not_lt.mpr (Nat.le_succ _))
    · have hb : argBest (fun i j => decide (is.getD i 0 > is.getD j 0)) (vs.length - 1) < is.length := by omega
      rw [List.getD_eq_getElem?_getD, List.getElem?_eq_getElem hb]; exact List.getElem_mem hb
    · obtain ⟨i, hi, e⟩ := List.mem_iff_getElem.mp hj
      rw [← (by rw [List.getD_eq_getElem?_getD, List.getElem?_eq_getElem hi, ← e]; rfl : is.getD i 0 = j)]
      exact b2 i (by omega)
def kvI (p : Key × Int) : Key × Vl := (p.1, .dat (.int p.2))
def wMaxVals (wo : WE) : WE := fun ρ cs P => wo ρ cs fun x cs1 => ∃ (a : Addr) (kvi : List (Key × Int)), x = .cell a ∧ cs1 a = some (.dk (kvi.map kvI)) ∧ kvi ≠ [] ∧ ∀ m, m ∈ kvi.map (·.2) → (∀ j ∈ kvi.map (·.2), j ≤ m) → P (.dat (.int m)) cs1
theorem kr_ints {K : Frag} {M : Hp} : ∀ {xs : List (Key × V)} {kvi : List (Key × Int)}, Paired (KR K M) xs (kvi.map kvI) → xs.map (·.2) = (kvi.map (·.2)).map V.int
  | _, [], .nil => rfl
  | _, q :: r, .cons ⟨_, h⟩ t => by rw [List.map_cons, kr_ints t, inv_int h]; rfl
theorem de_maxVals (hc : X.calm = true) (hm : X.mg "max" = none) (ho : DE X o wo) (hg : Gl X "max" := by rfl) (hbase : attributeBase o "values" X.env (eval o X.env) = eval o X.env := by rfl) (hline : (apos.endLine == mpos.line) = true := by rfl)
    (hse : starEach [Expr.Call (.Attribute o "values" apos) [] [] mpos] X.env = [(false, eval (Expr.Call (.Attribute o "values" apos) [] [] mpos) X.env)] := by rfl) : DE X (.Call (.Name "max" p) [.Call (.Attribute o "values" apos) [] [] mpos] [] pos) (wMaxVals wo) :=
  pe_imp (pe_maxVals hc hm ho hg hbase hline hse) fun σ H Q ⟨M, ρ, cs, P, o, r, p, k⟩ => ⟨M, ρ, cs, _, o, r, p, fun v x M1 H1 cs1 s1 o1 r1 ⟨a, kvi, ex, hc, hne, p1⟩ => by
    subst ex
    obtain ⟨xs, hH, pr⟩ := cell_dk o1 hc
    exact ⟨a, xs, kvi.map (·.2), r1, hH, kr_ints pr, by simpa using hne, fun m h1 h2 => k _ _ M1 H1 cs1 s1 o1 (rv_dat (.int _)) (p1 m h1 h2)⟩⟩
/-- sorted(xs), ints -/
def wSortI : WN := fun xs cs P => ∃ (x : Vl) (ns : List Int), xs = [x] ∧ seqD cs x = some (true, ns.map fun i => Vl.dat (.int i)) ∧ ∀ ns' : List Int, ns'.Perm ns → ns'.Pairwise (· ≤ ·) → newL (ns'.map fun i => Vl.dat (.int i)) cs P
theorem ints_paired {K : Frag} {M : Hp} : ∀ (ns : List Int), Paired (RV K M) (ns.map V.int) (ns.map fun i => Vl.dat (.int i))
  | [] => .nil
  | n :: ns => .cons (rv_dat (.int n)) (ints_paired ns)
theorem rn_sortI {K : Frag} : RNOk K (rSortedI K) wSortI := fun M H cs xs as P Q o r ⟨x, ns, e, h, p⟩ k => by
  subst e
  cases r with
  | cons r1 rr =>
    cases rr
    obtain ⟨ad, vs, ev, q, pr⟩ := seqD_list o r1 h
    rw [paired_ints pr] at q
    exact ⟨ad, ns, by rw [ev], q, fun ns' pp pm hs hp => newL_ok o (ints_paired ns') (p ns' pm hs) k pp hp⟩
theorem de_sortI (hm : X.mg "sorted" = none) (ha : DA X [e] wr) (hg : Gl X "sorted" := by rfl) (he : starEach [e] X.env = (false, eval e X.env) :: starEach [] X.env := by rfl) (hpl : (backTo pos (starEach [] X.env)).any (·.1) = false := by rfl) :
    DE X (.Call (.Name "sorted" p) [e] [] pos) (wFn wSortI wr) := de_callB cr_sortedI rn_sortI hm (by decide +kernel) ha hg (by decide) (by decide) he hpl
end
end DL
set_option maxRecDepth 100000
set_option maxHeartbeats 4000000
namespace DL
open PySem L2 PySem.Spec PyProof.Rows
/-! ### xs + ys: any two lists -/
theorem add_any (l : Addr) (items : Array Value) (n : Nat) (sl : Array (Option Value)) (b : Addr) (items2 : Array Value) (n2 : Nat) (sl2 : Array (Option Value)) (hc0 : items.size + items2.size ≤ sizeLine) :
    Meets (Builtin.«list.__add__» ⟨[.ref l, .ref b], []⟩) (fun _ R s => s.heap.get? l = some ⟨.type "list", none, .seq items n, sl⟩ ∧ s.heap.get? b = some ⟨.type "list", none, .seq items2 n2, sl2⟩ ∧ R (.ok (.ret (Value.ref s.heap.objs.size))) { s with heap := s.heap.push { cls := Value.type "list", data := Data.seq (items ++ items2) }, toks := s.toks }) :=
  .of_wp fun prog w A R s h => by
    obtain ⟨hp, g, d, tk, os⟩ := s
    obtain ⟨hl, hb, h⟩ := h
    have f3 := PySem.AutoSeq1.sub_list_list
    wp_walk using wpAny_loadPart' hl, wpAny_loadPart' hb
    exact ⟨_, rfl, h⟩
def rCatS (K : Frag) : R2 := fun x y H Q => ∃ l b xs zs, x = .ref l ∧ y = .ref b ∧ SqL K H l xs ∧ SqL K H b zs ∧ xs.length + zs.length ≤ sizeLine ∧ ∀ p, H p = none → Q (.ref p) (upd H p (.lst (xs ++ zs)))
section
variable {X : Cx} {a b e : Expr} {wa wb : WE} {wr : WA} {pos : Pos}
theorem op_catS : OpR X (binaryOp .Add) (rCatS X.K) := by
  intro pins s σ H x y v u Q I rx ry h
  obtain ⟨l, b, xs, zs, rfl, rfl, hH, hB, hz, q⟩ := h
  cases rx
  cases ry
  obtain ⟨its, rv, ⟨⟨cl, di, da, sl⟩, n, ho, hc, hd, hdt⟩, hl⟩ := I.list hH
  obtain ⟨its2, rv2, ⟨⟨cl2, di2, da2, sl2⟩, n2, ho2, hc2, hd2, hdt2⟩, hl2⟩ := I.list hB
  simp only at hc hd hdt hc2 hd2 hdt2
  subst hc hd hdt hc2 hd2 hdt2
  have hsz : its.toArray.size + its2.toArray.size ≤ sizeLine := by rw [List.size_toArray, List.size_toArray, ← rv.length, ← rv2.length]; exact hz
  refine concat_meets ⟨_, ho, rfl⟩ ⟨_, ho2, rfl⟩ noFill_list_add seq_list_add F.slot_list_add F.entry_list_add (F.args_list_add_2 _ _) (add_any l its.toArray n sl b its2.toArray n2 sl2 hsz) ⟨ho, ho2, ?_⟩
  have ea : its.toArray ++ its2.toArray = (its ++ its2).toArray := by simp
  rw [ea]
  exact ⟨.ref _, _, I.lnew (t' := s.toks) (rv.append rv2) (by rw [List.length_append]; omega), rfl, q _ I.fresh⟩
def wCatS : W2 := fun x y cs P => ∃ xs ys, seqD cs x = some (true, xs) ∧ seqD cs y = some (true, ys) ∧ xs.length + ys.length ≤ 16777216 ∧ newL (xs ++ ys) cs P
theorem de_catS (ha : DE X a wa) (hb : DE X b wb) : DE X (.BinOp a .Add b pos) (wOp wCatS wa wb) := de_op op_catS (fun M H cs x y a b P Q o rx ry ⟨xs, ys, h1, h2, hz, hn⟩ k => by
  obtain ⟨p, us, e1, q1, pu⟩ := seqD_list o rx h1
  obtain ⟨q, vs, e2, q2, pv⟩ := seqD_list o ry h2
  exact ⟨p, q, us, vs, e1, e2, q1, q2, by rw [Paired.len pu, Paired.len pv]; exact size_line hz, newL_ok o (Paired.app pu pv) hn k⟩) ha hb
/-! ### abs -/
def wAbs : WN := fun xs cs P => ∃ i, xs = [.dat (.int i)] ∧ P (.dat (.int (if i < 0 then -i else i))) cs
theorem rn_abs {K : Frag} : RNOk K (fun xs H Q => ∃ i, xs = [.int i] ∧ Q (.int (if i < 0 then -i else i)) H) wAbs := fun M H cs xs as P Q o r ⟨i, e, p⟩ k => by
  subst e
  cases r with
  | cons r1 rr =>
    cases rr
    exact ⟨i, by rw [inv_int r1], k _ _ M H cs (Same.refl _) o (rv_dat (.int _)) p⟩
theorem de_abs {p : Pos} (hm : X.mg "abs" = none) (ha : DA X [e] wr) (hg : Gl X "abs" := by rfl) (he : starEach [e] X.env = (false, eval e X.env) :: starEach [] X.env := by rfl) (hpl : (backTo pos (starEach [] X.env)).any (·.1) = false := by rfl) :
    DE X (.Call (.Name "abs" p) [e] [] pos) (wFn wAbs wr) := de_callB call_abs rn_abs hm (by decide +kernel) ha hg (by decide) (by decide) he hpl
end
/-! ### makers -/
structure DKok (P : Program) (w : World) (K : Frag) (mg : Str → Option Value) (base : Heap) (C : Addr) (x : Str) (ps : List Str) (k : Nat) (dsp : DSp) : Prop where
  ex : ∃ fi fd, Mk K C fi ∧ FnOk P w K mg base CX0 k fi fd ps (liftSp K dsp) ∧ Binds K fd ps [] ∧ mg x = some (.ref C)
theorem de_makeD {X : Cx} {C : Addr} {x : Str} {ps : List Str} {k : Nat} {dsp : DSp} {p pos : Pos} {e : Expr} {es : List Expr} {wr : WA} (G : DKok X.prog X.w X.K X.mg X.base C x ps k dsp) (hr : Room (k + 1) X.A) (ha : DA X (e :: es) wr) (hg : Gl X x := by rfl)
    (hdb : (x == ("__debug__" : Str)) = false := by decide) (he : starEach (e :: es) X.env = (false, eval e X.env) :: starEach es X.env := by rfl) (hpl : (backTo pos (starEach es X.env)).any (·.1) = false := by rfl) : DE X (.Call (.Name x p) (e :: es) [] pos) (wMake C dsp wr) := by
  obtain ⟨fi, fd, Mm, F, hb, hm⟩ := G.ex
  exact de_make Mm F hb hm hr ha hg hdb he hpl
end DL
namespace DL
open PySem L2
/-- the program's classes, by their addresses -/
structure CE where
  Tree : Addr := 0
  Stretch : Addr := 0
  Account : Addr := 0
  LimitedAccount : Addr := 0
  SavingsAccount : Addr := 0
  Books : Addr := 0
  Ledger : Addr := 0
  T_balance_at : Addr := 0
  T_count_below : Addr := 0
  T_least_balance : Addr := 0
  T_law : Addr := 0
theorem never_fn {P : Program} {w : World} {K : Frag} {mg : Str → Option Value} {base : Heap} {f : Addr} {fd : FuncData} {ps : List Str} {k : Nat} {sp : DSp} (h : ∀ xs cs Q XP, ¬ sp xs cs Q XP) : FnOk P w K mg base CX0 k f fd ps (liftSp K sp) :=
  ⟨fun _ _ _ _ ⟨_, _, _, _, _, _, _, z, _⟩ => (h _ _ _ _ z).elim, fun _ _ _ _ _ _ _ _ _ _ _ _ _ ⟨_, _, _, _, _, _, _, z, _⟩ => (h _ _ _ _ z).elim⟩
end DL
set_option maxRecDepth 100000
set_option maxHeartbeats 4000000
namespace DL
open PySem L2 PySem.Spec PyProof.Rows
open PySem.W (sortingHeap sortingHeap_old)
/-! ### sorted(d): a dict by ints, or by tuples of ints -/
def rSortDI : List V → Hp → VK → Prop := fun xs H Q => ∃ (a : Addr) (kvs : List (Key × V)) (ks : List Int), xs = [.ref a] ∧ Rd H a (.dK kvs) ∧ kvs.map (·.1) = ks.map Sum.inl ∧ ∀ (ys : List Int) (p : Addr), ys.Perm ks → ys.Pairwise (· ≤ ·) → H p = none → Q (.ref p) (upd H p (.lst (ys.map V.int)))
section
variable {X : Cx}
theorem cr_sortDI (hcalm : X.calm = true) : CallR X (.builtin "sorted") rSortDI := by
  intro pins s σ H xs us Q I r q
  obtain ⟨a, kvs, ks, ex, hd, hks, q⟩ := q
  subst ex
  obtain ⟨u, eu, rx⟩ := vals1 r
  subst eu
  cases rx
  obtain ⟨z, lo, vs, rel, dd⟩ := dk_rd I.hok hd
  obtain ⟨ep, hat⟩ := dd.dictAt
  have hkeys : vs.map (·.1) = ks.map Sum.inl := rel.keys.symm.trans hks
  have hl : vs.length = ks.length := by
    have e := congrArg List.length hkeys
    rw [List.length_map, List.length_map] at e
    exact e
  have hlk : kvs.length = ks.length := by
    have e := congrArg List.length hks
    rw [List.length_map, List.length_map] at e
    exact e
  have h16 : vs.length ≤ sizeLine := by rw [hl, ← hlk]; exact z
  refine Calls.call_function_entry PyProof.Rows.kind_sorted PyProof.Rows.plain_sorted PyProof.Rows.entry_sorted (PyProof.Rows.args_sorted1 _) ?_
  unfold Builtin.«sorted»
  refine wpAny_bind (m := checkCount "sorted" 1 1 _) (wpAny_pure ?_)
  refine wpAny_bind (PySem.W.kdu_collect (A := X.A.in1) (PySem.W.kdl_dict (knd := mixKind X.prog X.w) (kvs := vs) (ep := ep) lo) (I.ok.hd hcalm) hat h16 fun h' tk acc hk hacc => ?_)
  have hal : acc.toList.length = ks.length := by rw [Array.length_toList, hacc.1, hl]
  have hS : IntsAre acc.toList ks := ints_each hal fun j v e => by
    obtain ⟨k, x, e1, e2⟩ := hacc.2 j v (by rw [← Array.getElem?_toList]; exact e)
    have e3 : (vs.map (·.1))[j]? = some k := by rw [List.getElem?_map, e1]; rfl
    rw [hkeys, List.getElem?_map] at e3
    cases e4 : ks[j]? with
    | none => rw [e4] at e3; cases e3
    | some y =>
      rw [e4] at e3
      have e5 : Sum.inl y = k := Option.some.inj e3
      subst e5
      rcases keyIs_shape (show keyIs (Sum.inl y) v = true from e2) with ⟨i, t, ek, ev⟩ | ⟨z, t, ek, ev⟩
      · cases ek
        exact ⟨y, t, rfl, ev⟩
      · cases ek
  have hsz : acc.toList.length ≤ sizeLine := by rw [hal, ← hlk]; exact z
  have I1 : Inv X pins σ H { s with heap := h', toks := tk } := I.kept hk
  refine wpAny_bind (wpAny_newList ?_ hsz)
  have hoL : (h'.push (seqObj "list" acc.toList.toArray 0)).get? h'.objs.size = some (seqObj "list" acc.toList.toArray 0) := Heap.get?_push_size _ rfl
  show wpAny _ _ _ _ _ { s with heap := h'.push (seqObj "list" acc.toList.toArray 0), toks := tk }
  refine wpAny_bind (wpAny_holding (wpAny_call_entry PyProof.Rows.slot_list_sort ⟨_, hoL, rfl⟩ PyProof.Rows.entry_list_sort
    (SrtO.list_sort_ord (s := { s with heap := h'.push (seqObj "list" acc.toList.toArray 0), toks := tk }) SrtO.swo_int hoL hsz (fun h2 => SrtO.ints_sortable hS h2) fun out h1 h2 => ⟨_, rfl, ?_⟩) (PyProof.Rows.args_list_sort _)))
  obtain ⟨k1, k2, k3⟩ := SrtO.ints_out hS h1 h2
  obtain ⟨e', he'⟩ := PyProof.Rows.sortedHeap_at (vs := acc.toList) (out := out.toArray) hoL
  have hlen : ((out.map SrtO.iv).map V.int).length ≤ sizeLine := by
    rw [List.length_map, k2.length_eq, ← hlk]
    exact z
  refine wpAny_pure ⟨_, rfl, .ref h'.objs.size, upd H h'.objs.size (.lst ((out.map SrtO.iv).map V.int)), I1.laid (t' := tk) (fun b u e => ?_) (Nat.le_refl _)
    (show ObjOk X.prog X.w _ _ _ (.lst ((out.map SrtO.iv).map V.int)) from ⟨hlen, out, e', vals_of_ints k1, he'⟩), rfl, q _ _ k2 k3 (I1.hok.fresh (Nat.le_refl _))⟩
  have hb : b < h'.objs.size := Heap.lt_size e
  rw [PyProof.Rows.sortedHeap_old (Nat.ne_of_lt hb) (by rw [size_push']; exact Nat.lt_succ_of_lt hb)]
  exact Heap.get?_push_of_some _ e
def rSortDT : List V → Hp → VK → Prop := fun xs H Q => ∃ (d : Addr) (kvs : List (List Key × V)) (nss : List (List Int)), xs = [.ref d] ∧ Rd H d (.dT kvs) ∧ kvs.map (·.1) = nss.map (List.map Sum.inl) ∧ (∀ n ∈ nss, n ≠ []) ∧
  ∀ (bs : List (V × List Int)) (p : Addr), (∀ b ∈ bs, ∃ t, b.1 = V.ref t ∧ H t = some (.tup (b.2.map V.int))) → bs.map (·.2) = nss.mergeSort leI → H p = none → Q (.ref p) (upd H p (.lst (bs.map (·.1))))
theorem cr_sortDT (hcalm : X.calm = true) (hu : X.A.units + 64 < cLine) : CallR X (.builtin "sorted") rSortDT := by
  intro pins s σ H xs us Q I r q
  obtain ⟨d, kvs, nss, ex, hd, hks, hne, q⟩ := q
  subst ex
  obtain ⟨u, rfl, rx⟩ := r.one
  cases rx
  obtain ⟨z, hs, ks, pr, o, es, ep, ho, hx, hdt, he, hn⟩ := (show ObjOk X.prog X.w H s.heap d (.dT kvs) from hd.ok I.hok)
  have l1 : es.size = ks.length := size_of_entries he
  have l2 : kvs.length = ks.length := Paired.length pr
  have l3 : kvs.length = nss.length := by
    have e := congrArg List.length hks
    rw [List.length_map, List.length_map] at e
    exact e
  refine Calls.call_function_entry PyProof.Rows.kind_sorted PyProof.Rows.plain_sorted PyProof.Rows.entry_sorted (PyProof.Rows.args_sorted1 _) ?_
  unfold Builtin.«sorted»
  refine wpAny_bind (m := checkCount "sorted" 1 1 _) (wpAny_pure ?_)
  refine wpAny_bind (PySem.W.kdu_collect (A := X.A.in1) (kdl_raw hs hx hdt) (I.ok.hd hcalm) ho (by omega) fun h' tk acc' hk it => ?_)
  have ea : acc'.toList = ks.map fun x => Value.ref x.2.1 := by
    have hl : acc'.toList.length = ks.length := by rw [Array.length_toList, it.1]; exact l1
    apply List.ext_getElem?
    intro j
    rw [List.getElem?_map]
    cases hj : acc'.toList[j]? with
    | none =>
      have h1 := List.getElem?_eq_none_iff.mp hj
      rw [List.getElem?_eq_none (by omega)]
      all_goals rfl
    | some v =>
      obtain ⟨en, hen, hv⟩ := it.2 j v (by rw [← Array.getElem?_toList]; exact hj)
      have qe := entry_at he j
      rw [hen] at qe
      cases hb : ks[j]? with
      | none =>
        rw [hb] at qe
        exact nomatch (show some en = none from qe)
      | some b =>
        rw [hb] at qe
        have e2 : en = entryOfKey (tupleKind (mixKind X.prog X.w)) b := Option.some.inj qe
        rw [hv, e2]
        all_goals rfl
  have eb : acc'.toList = (ks.map fun x => x.2.1).map Value.ref := by rw [ea, List.map_map]; all_goals rfl
  let xs : List V := (ks.map fun x => x.2.1).map V.ref
  have rv : Vals xs acc'.toList := by rw [eb]; exact vals_refs _
  have hlx : xs.length = nss.length := by
    show ((ks.map fun x => x.2.1).map V.ref).length = _
    rw [List.length_map, List.length_map, ← l2, l3]
  have hI : IsKeys H kvs (ks.map fun x => x.2.1) := isKeys_of pr
  have key : ∀ b ∈ xs.zip nss, ∃ t, b.1 = V.ref t ∧ H t = some (.tup (b.2.map V.int)) := by
    have : Paired (fun v ns => ∃ t, v = V.ref t ∧ H t = some (.tup (ns.map V.int))) xs nss := by
      show Paired _ ((ks.map fun x => x.2.1).map V.ref) nss
      revert hI
      generalize (ks.map fun x => x.2.1) = bs
      intro hI
      clear rv hlx q hne l3 l2 l1 pr z hd
      unfold IsKeys at hI
      induction hI generalizing nss with
      | nil =>
        cases nss with
        | nil => exact .nil
        | cons a b => cases hks
      | cons h t ih =>
        cases nss with
        | nil => cases hks
        | cons a b =>
          rw [List.map_cons, List.map_cons] at hks
          injection hks with h1 h2
          refine .cons ⟨_, rfl, ?_⟩ (ih b h2)
          rw [h1, List.map_map] at h
          exact h
    exact pair_zip this
  have I1 : Inv X pins σ H { s with heap := h', toks := tk } := I.kept hk
  have er : PySem.W.EachIs (fun v (b : V × List Int) => RelV b.1 v ∧ b ∈ xs.zip nss) acc'.toList (xs.zip nss) := vals_each rv hlx
  have dpOf : ∀ b ∈ xs.zip nss, Dp X.K H b.1 (.tuple (b.2.map .int)) := fun b hb => by
    obtain ⟨t, e, ht⟩ := key b hb
    rw [e]
    refine .tup (.inl (.inl ht)) ?_
    generalize b.2 = ns
    induction ns with
    | nil => exact .nil
    | cons n ns ih => exact .cons (.int n) ih
  have hle : PySem.W.dataLe false (fun b : V × List Int => PyData.tuple (b.2.map .int)) = fun p q => leI p.2 q.2 := by
    funext p q
    show (!PySem.W.dataLt (.tuple (q.2.map .int)) (.tuple (p.2.map .int))) = _
    rw [PySem.W.dataLt_tuple]
    show (!PySem.W.rowLt (q.2.map .int) (p.2.map .int)) = _
    rw [PySem.W.dataLt_ints]
    unfold leI
    by_cases h : q.2 < p.2
    · have h' : ¬ p.2 ≤ q.2 := fun r => List.not_lt.mpr r h
      simp [h, h']
    · have h' : p.2 ≤ q.2 := List.not_lt.mp h
      simp [h, h']
  have hsz : acc'.toList.length ≤ sizeLine := by rw [← rv.length, hlx, ← l3]; exact z
  refine wpAny_bind (wpAny_newList ?_ hsz)
  have hoL : (h'.push (seqObj "list" acc'.toList.toArray 0)).get? h'.objs.size = some (seqObj "list" acc'.toList.toArray 0) := Heap.get?_push_size _ rfl
  show wpAny _ _ _ _ _ { s with heap := h'.push (seqObj "list" acc'.toList.toArray 0), toks := tk }
  have kp2 : ∀ b u, h'.get? b = some u → (sortingHeap (h'.push (seqObj "list" acc'.toList.toArray 0)) h'.objs.size acc'.toList).get? b = some u := fun b u e => sortingHeap_old (Nat.ne_of_lt (Heap.lt_size e)) (Heap.get?_push_of_some _ e)
  have hal : PySem.W.AllAlike ((xs.zip nss).map fun b : V × List Int => PyData.tuple (b.2.map .int)) := PySem.W.AllAlike.of fun b b' => by simp only [PySem.W.alike]; exact PySem.W.alike_ints _ _
  have er' : PySem.W.EachIs (fun v (b : V × List Int) => ∃ as, Reads (sortingHeap (h'.push (seqObj "list" acc'.toList.toArray 0)) h'.objs.size acc'.toList) v (PyData.tuple (b.2.map .int)) as) acc'.toList (xs.zip nss) := er.mono fun v b q => by
    obtain ⟨as, ra⟩ := Dp.reads I1 _ _ _ (dpOf b q.2) q.1
    exact ⟨as, PyProof.Rows.Reads.keeps kp2 ra⟩
  refine wpAny_bind (wpAny_holding (wpAny_call_entry PyProof.Rows.slot_list_sort ⟨_, hoL, rfl⟩ PyProof.Rows.entry_list_sort
    (PySem.W.list_sort_vals (s := { s with heap := h'.push (seqObj "list" acc'.toList.toArray 0), toks := tk }) (κ := PySem.W.dataKind (sortingHeap (h'.push (seqObj "list" acc'.toList.toArray 0)) h'.objs.size acc'.toList) ((xs.zip nss).map fun b : V × List Int => PyData.tuple (b.2.map .int))) hoL
      (PySem.W.SortsAt.data (s := { s with heap := sortingHeap (h'.push (seqObj "list" acc'.toList.toArray 0)) h'.objs.size acc'.toList, toks := tk }) (PySem.W.each_map (R := fun v d => ∃ as, Reads (sortingHeap (h'.push (seqObj "list" acc'.toList.toArray 0)) h'.objs.size acc'.toList) v d as) _ er') hal (.inl fun d hd => ?_) (fun d hd => ?_)) hsz ⟨_, rfl, ?_⟩) (PyProof.Rows.args_list_sort _)))
  · obtain ⟨b, hb, e⟩ := List.mem_map.mp hd
    have := hne b.2 (List.of_mem_zip (show (b.1, b.2) ∈ _ from hb)).2
    cases e2 : b.2 with
    | nil => exact absurd e2 this
    | cons n ns => exact ⟨.int n, ns.map .int, by rw [← e, e2]; rfl⟩
  · obtain ⟨b, hb, e⟩ := List.mem_map.mp hd
    rw [← e]
    show X.A.units + 1 + 1 + PyData.depth (.tuple (b.2.map .int)) < cLine
    unfold PyData.depth
    rw [PySem.W.depth_ints]
    omega
  · have eo := PySem.W.sortVals_data (R := fun v (b : V × List Int) => RelV b.1 v) false (er.mono fun _ _ q => q.1) er' hal
    rw [hle] at eo
    generalize PySem.W.sortVals _ _ _ _ = out at eo
    obtain ⟨e', he'⟩ := PyProof.Rows.sortedHeap_at (vs := acc'.toList) (out := out.toArray) hoL
    have hv := each_vals (R := fun v (b : V × List Int) => RelV b.1 v) (fun _ _ q => q) eo
    have pm : ((xs.zip nss).mergeSort fun p q => leI p.2 q.2).Perm (xs.zip nss) := List.mergeSort_perm _ _
    have hll : (((xs.zip nss).mergeSort fun p q => leI p.2 q.2).map (·.1)).length ≤ sizeLine := by
      rw [List.length_map, pm.length_eq, List.length_zip, hlx, Nat.min_self, ← l3]; exact z
    refine wpAny_pure ⟨_, rfl, .ref h'.objs.size, upd H h'.objs.size (.lst (((xs.zip nss).mergeSort fun p q => leI p.2 q.2).map (·.1))), I1.laid (t' := tk) (fun b u e => ?_) (Nat.le_refl _)
      (show ObjOk X.prog X.w _ _ _ (.lst _) from ⟨hll, out, e', hv, he'⟩), rfl, q _ _ (fun b hb => key b (pm.mem_iff.mp hb)) ?_ (I1.hok.fresh (Nat.le_refl _))⟩
    · have hb : b < h'.objs.size := Heap.lt_size e
      rw [PyProof.Rows.sortedHeap_old (Nat.ne_of_lt hb) (by rw [size_push']; exact Nat.lt_succ_of_lt hb)]
      exact Heap.get?_push_of_some _ e
    · rw [List.map_mergeSort (s := leI) (fun _ _ _ _ => rfl), (zip_fst hlx).2]
end
theorem Ok.adopt {K : Frag} {M H : Hp} {cs : Cells} (o : Ok K M H cs) (ts : List Addr) (h : ∀ t ∈ ts, ∃ xs, H t = some (.tup xs)) : ∃ M', Same M M' ∧ Ok K M' H cs ∧ ∀ t ∈ ts, M' t = H t := by
  have sm : Same M (fun b => if b ∈ ts then H b else M b) := fun b u e => by
    show (if b ∈ ts then H b else M b) = some u
    split
    · exact o.ex b u e
    · exact e
  refine ⟨fun b => if b ∈ ts then H b else M b, sm, ⟨fun b u e => ?_, fun a c e => ?_⟩, fun t ht => if_pos ht⟩
  · have e : (if b ∈ ts then H b else M b) = some u := e
    split at e
    · exact e
    · exact o.ex b u e
  · obtain ⟨hM, u, hu, r⟩ := o.cell a c e
    refine ⟨?_, u, hu, r.mono sm⟩
    show (if a ∈ ts then H a else M a) = none
    rw [if_neg (fun z => ?_)]
    · exact hM
    · obtain ⟨xs, hx⟩ := h a z
      rw [hu] at hx
      cases hx
      exact r
/-- sorted(d), its keys ints -/
def wSortDI : WN := fun xs cs P => ∃ a kvs ks, xs = [.cell a] ∧ cs a = some (.dk kvs) ∧ kvs.map (·.1) = ks.map Sum.inl ∧ ∀ ys : List Int, ys.Perm ks → ys.Pairwise (· ≤ ·) → newL (ys.map fun i => Vl.dat (.int i)) cs P
/-- .. tuples of ints -/
def wSortDT : WN := fun xs cs P => ∃ (a : Addr) (kvs : List (List Key × Vl)) (nss : List (List Int)), xs = [.cell a] ∧ cs a = some (.dt kvs) ∧ kvs.map (·.1) = nss.map (List.map Sum.inl) ∧ (∀ n ∈ nss, n ≠ []) ∧ newL ((nss.mergeSort leI).map fun ns => Vl.dat (tupI ns)) cs P
theorem kr_keys {α : Type} {K : Frag} {M : Hp} : ∀ {xs : List (α × V)} {ys : List (α × Vl)}, Paired (fun (p : α × V) (q : α × Vl) => p.1 = q.1 ∧ RV K M p.2 q.2) xs ys → xs.map (·.1) = ys.map (·.1)
  | _, _, .nil => rfl
  | _, _, .cons h k => by rw [List.map_cons, List.map_cons, h.1, kr_keys k]
theorem rn_sortDI {K : Frag} : RNOk K rSortDI wSortDI := fun M H cs xs as P Q o r ⟨a, kvs, ks, e, h, hk, p⟩ k => by
  subst e
  cases r with
  | cons r1 rr =>
    cases rr
    obtain ⟨hM, u, hu, rep⟩ := o.cell a _ h
    cases u <;> try exact (show False from rep).elim
    rename_i ws
    exact ⟨a, ws, ks, by rw [show _ = V.ref a from r1], .inl hu, (kr_keys rep).trans hk, fun ys pp pm hs hp => newL_ok o (ints_paired ys) (p ys pm hs) k pp hp⟩
theorem dr_tup_ints {K : Frag} {M : Hp} {t : Addr} {ns : List Int} (h : M t = some (.tup (ns.map V.int))) : Dr K M (.ref t) (tupI ns) := by
  refine .tup (.inl (.inl h)) ?_
  generalize ns = ms
  induction ms with
  | nil => exact .nil
  | cons n ns ih => exact .cons (.int n) ih
theorem rn_sortDT {K : Frag} : RNOk K rSortDT wSortDT := fun M H cs xs as P Q o r ⟨a, kvs, nss, e, h, hk, hne, p⟩ k => by
  subst e
  cases r with
  | cons r1 rr =>
    cases rr
    obtain ⟨hM, u, hu, rep⟩ := o.cell a _ h
    cases u <;> try exact (show False from rep).elim
    rename_i ws
    refine ⟨a, ws, nss, by rw [show _ = V.ref a from r1], .inl hu, (kr_keys rep).trans hk, hne, fun bs pp hb hs hp => ?_⟩
    let ts : List Addr := bs.filterMap fun b => match b.1 with | .ref t => some t | _ => none
    obtain ⟨M', sm, o', hM'⟩ := o.adopt ts (fun t ht => by
      obtain ⟨b, hb1, hb2⟩ := List.mem_filterMap.mp ht
      obtain ⟨t', e1, e2⟩ := hb b hb1
      rw [e1] at hb2
      cases hb2
      exact ⟨_, e2⟩)
    have pr : Paired (RV K M') (bs.map (·.1)) ((bs.map (·.2)).map fun ns => Vl.dat (tupI ns)) := by
      refine paired_mapR _ (zip_paired fun b hb1 => ?_)
      obtain ⟨t, e1, e2⟩ := hb b hb1
      show RV K M' b.1 (.dat (tupI b.2))
      rw [e1]
      refine rv_dat (dr_tup_ints ?_)
      rw [hM' t (List.mem_filterMap.mpr ⟨b, hb1, by rw [e1]⟩)]
      exact e2
    rw [hs] at pr
    exact newL_ok o' pr p (k.mono sm) pp hp
section
variable {X : Cx} {e : Expr} {wr : WA} {pos p : Pos}
theorem de_sortDI (hc : X.calm = true) (hm : X.mg "sorted" = none) (ha : DA X [e] wr) (hg : Gl X "sorted" := by rfl) (he : starEach [e] X.env = (false, eval e X.env) :: starEach [] X.env := by rfl) (hpl : (backTo pos (starEach [] X.env)).any (·.1) = false := by rfl) :
    DE X (.Call (.Name "sorted" p) [e] [] pos) (wFn wSortDI wr) := de_callB (cr_sortDI hc) rn_sortDI hm (by decide +kernel) ha hg (by decide) (by decide) he hpl
theorem de_sortDT (hc : X.calm = true) (hu : X.A.units + 64 < cLine) (hm : X.mg "sorted" = none) (ha : DA X [e] wr) (hg : Gl X "sorted" := by rfl) (he : starEach [e] X.env = (false, eval e X.env) :: starEach [] X.env := by rfl) (hpl : (backTo pos (starEach [] X.env)).any (·.1) = false := by rfl) :
    DE X (.Call (.Name "sorted" p) [e] [] pos) (wFn wSortDT wr) := de_callB (cr_sortDT hc hu) rn_sortDT hm (by decide +kernel) ha hg (by decide) (by decide) he hpl
theorem rn_sum {K : Frag} : RNOk K (rSum K) wSum := fun M H cs xs as P Q o r ⟨x, ns, e, h, p⟩ k => by
  subst e
  cases r with
  | cons r1 rr =>
    cases rr
    obtain ⟨ad, vs, ev, q, pr⟩ := seqD_list o r1 h
    rw [paired_ints pr] at q
    exact ⟨ad, ns, by rw [ev], q, k _ _ M H cs (Same.refl _) o (rv_dat (.int _)) p⟩
theorem de_sum (hc : X.calm = true) (hm : X.mg "sum" = none) (ha : DA X [e] wr) (hg : Gl X "sum" := by rfl) (he : starEach [e] X.env = (false, eval e X.env) :: starEach [] X.env := by rfl) (hpl : (backTo pos (starEach [] X.env)).any (·.1) = false := by rfl) :
    DE X (.Call (.Name "sum" p) [e] [] pos) (wFn wSum wr) := de_callB (cr_sum hc) rn_sum hm (by decide +kernel) ha hg (by decide) (by decide) he hpl
end
end DL
set_option maxRecDepth 100000
set_option maxHeartbeats 4000000
namespace DL
open PySem L2
local macro_rules | `(tactic| walk_at "dl") => `(tactic| simp only [wRet, wRetN, wSeq, wAsg, wIfS, wDrop, wNext, wVar, wC, wOp, wUn, wFn, wNil, wCons, wTest, wNot, wAnd, wOr, wAndV, wOrV, wNotV, wIf, wChain, wTup, wLst, wCall, wNever, gN, gT, gNil, gCons, gIx, wI, wI0, wNeg, wMax2, wMin2, wLen, wIsN, wNotN, isNon_non, isNon_bl, isNon_int, isNon_str, isNon_lst, isNon_tup, isNon_cell, wIx, wTuple, wAug, wAugIx, wPar, wIsi, wIsi2, isiT, tyD_non, tyD_bl, tyD_int, tyD_str, tyD_lst, tyD_tup, tyD_cell, coTy_lst, seqD_lst, seqD_tp, seqD_cell, coSeq_lst, seen_dat, seen_cell, coDat_lst, startD, wYes, wApp, wEq_int, wEq_bl, allDat_nil, allDat_cons, allDat_map, Option.map_some, List.map_cons, List.map_nil, List.cons_append, List.nil_append, List.length_cons, List.length_nil, List.replicate, List.getElem?_cons_zero, List.getElem?_cons_succ, List.set_cons_zero, List.set_cons_succ, Option.some.injEq, exists_eq_left', exists_eq_left, exists_and_left, exists_eq', exists_eq, Vl.dat.injEq, Vl.raw.injEq, V.ref.injEq, CO.lst.injEq, Dat.int.injEq, Dat.bl.injEq, Dat.tup.injEq, Dat.lst.injEq, List.cons.injEq, and_true, true_and, retE, Nat.reduceAdd, Nat.reduceSub, and_assoc, Prod.mk.injEq, if_true, if_false, Bool.false_eq_true, decide_eq_true_eq, Bool.not_true, Bool.not_false, Bool.not_eq_true', decide_eq_false_iff_not, if_false_left, if_false_right, beq_iff_eq, Bool.or_eq_true, Bool.and_eq_true, Bool.or_self, Bool.or_true, Bool.true_or, Bool.or_false, Bool.false_or, decide_true, decide_false, reduceCtorEq, Cells.put_same, gt_iff_lt, ge_iff_le, beq_self_eq_true, bne_self_eq_false, Bool.decide_eq_true, not_true_eq_false, not_false_eq_true, Decidable.not_not, false_and, and_false, Bool.not_eq_false, at_0, at_1, at_2, at_3, at_4, at_5, ix_0, ix_1, ix_2, ix_3, Nat.reduceLT, Int.reduceLT, Int.reduceLE, Int.reduceNeg, Int.reduceAdd, Int.reduceSub, Int.reduceEq, Int.reducePow, Int.reduceToNat, Cells.put_put])
/-! ### calendars and orders as data -/
def iD (ns : List Int) : List Dat := ns.map .int
def iV (ns : List Int) : List Vl := ns.map .int
def cal (ps : List Int) : Dat := .tup (iD ps)
abbrev Ord := Int × Int × Int
def ord (o : Ord) : Dat := .tup [.int o.1, .int o.2.1, .int o.2.2]
def ordsD (os : List Ord) : List Dat := os.map ord
def seqd (b : Bool) (ds : List Dat) : Dat := if b then .lst ds else .tup ds
theorem seqD_seqd {cs : Cells} {b : Bool} {ds : List Dat} : seqD cs (.dat (seqd b ds)) = some (b, ds.map .dat) := by cases b <;> rfl
def calFrom (b : Int) : List Int → Prop
  | [] => True
  | p :: r => b < p ∧ p ≤ 400 ∧ (b > 0 → p % b = 0) ∧ calFrom p r
def CalOk (ps : List Int) : Prop := 1 ≤ ps.length ∧ ps.length ≤ 5 ∧ calFrom 0 ps
def ordB (ps : List Int) (o : Ord) : Bool := decide (o.1 ∈ ps) && (decide (0 ≤ o.2.1) && decide (o.2.1 < o.1)) && !(o.2.2 == 0)
def firstBad (ps : List Int) (os : List Ord) : Dat := match os.findIdx? (fun o => !ordB ps o) with
  | none => .non
  | some i => .int (i : Int)
theorem iD_map (ns : List Int) : (iD ns).map Vl.dat = iV ns := by simp [iD, iV]
theorem inV_ints (p : Int) (ps : List Int) : inV (.int p) (ps.map V.int) = decide (p ∈ ps) := by
  unfold inV
  induction ps with
  | nil => simp
  | cons a r ih =>
    rw [List.map_cons, List.any_cons, ih]
    by_cases h : a = p
    · subst h; simp [eqV]
    · have h' : ¬ p = a := fun z => h z.symm
      simp [eqV, h, h']
theorem flatsD_ints (ps : List Int) : flatsD (iV ps) = some (ps.map V.int) := by
  induction ps with
  | nil => rfl
  | cons a r ih =>
    show (match flatD (Vl.int a), flatsD (iV r) with
      | some v, some vs => some (v :: vs)
      | _, _ => none) = _
    rw [ih]; rfl
theorem seqD_cal {cs : Cells} {ps : List Int} : seqD cs (.dat (cal ps)) = some (false, iV ps) := by
  show some (false, (iD ps).map Vl.dat) = _
  rw [iD_map]
theorem allDat_iV (ns : List Int) : allDat (iV ns) = some (iD ns) := by
  rw [← iD_map, allDat_map]
/-! ### is_integer -/
def sp_is_integer : DSp := fun xs cs Q _ => ∃ i : Int, xs = [.int i] ∧ Q (.bl true) cs
theorem len_is_integer : ∀ xs cs Q XP, sp_is_integer xs cs Q XP → xs.length = 1 := by rintro xs cs Q XP ⟨i, rfl, _⟩; rfl
def w_is_integer : WS := (wRet (wAndV (wIsi .int (wVar 0)) (wNotV (wIsi .bool (wVar 0)))))
theorem pure_is_integer (K : Frag) : ∀ xs cs Q XP, sp_is_integer xs cs Q XP → w_is_integer (retE K Q) (startD 1 xs) cs := by
  rintro xs cs Q XP ⟨i, rfl, q⟩
  unfold w_is_integer
  walk_at "dl"
  exact .now q
/-! ### validate_calendar -/
def sp_validate_calendar : DSp := fun xs cs Q _ => ∃ ps : List Int, xs = [.dat (cal ps)] ∧ CalOk ps ∧ Q .non cs
theorem len_validate_calendar : ∀ xs cs Q XP, sp_validate_calendar xs cs Q XP → xs.length = 1 := by rintro xs cs Q XP ⟨i, rfl, _⟩; rfl
def w_validate_calendar : WS := (wSeq (wIfS (wNot (wTest (wChain wLe wLe (wC (.int 1)) (wFn wLen (wCons (wVar 0) wNil)) (wC (.int 5))))) wNever wNext)
    (wSeq (wAsg (wC (.int 0)) (gN 1))
    (wFor (wiEnum (wCons (wVar 0) wNil)) (gT 2 (gCons (gN 2) (gCons (gN 3) gNil))) (wSeq (wIfS (wOr (wNot (wTest (wCall sp_is_integer (wCons (wVar 3) wNil)))) (wOr (wNot (wTest (wChain wLt wLe (wVar 1) (wVar 3) (wC (.int 400))))) (wAnd (wTest (wOp wGt (wVar 1) (wC (.int 0)))) (wTest (wOp (wEqD true) (wOp wMod (wVar 3) (wVar 1)) (wC (.int 0))))))) wNever wNext)
    (wAsg (wVar 3) (gN 1))))))
theorem calFrom_at : ∀ {ps : List Int} {b : Int} {i : Nat} {p : Int}, calFrom b ps → ps[i]? = some p → (i = 0 → b < p ∧ p ≤ 400 ∧ (b > 0 → p % b = 0)) ∧ (∀ q, 0 < i → ps[i - 1]? = some q → q < p ∧ p ≤ 400 ∧ (q > 0 → p % q = 0))
  | a :: r, b, 0, p, h, e => by
    cases e
    exact ⟨fun _ => ⟨h.1, h.2.1, h.2.2.1⟩, fun q z => absurd z (by omega)⟩
  | a :: r, b, i + 1, p, h, e => by
    have ih := calFrom_at (b := a) (i := i) h.2.2.2 e
    refine ⟨fun z => absurd z (by omega), fun q _ hq => ?_⟩
    cases i with
    | zero =>
      have : (a :: r)[0]? = some q := hq
      cases this
      exact ih.1 rfl
    | succ i => exact ih.2 q (by omega) hq
def prevOf (ps : List Int) (i : Nat) : Int := if i = 0 then 0 else (ps[i - 1]?).getD 0
theorem calFrom_prev {ps : List Int} {i : Nat} {p : Int} (h : calFrom 0 ps) (e : ps[i]? = some p) : prevOf ps i < p ∧ p ≤ 400 ∧ (prevOf ps i > 0 → p % prevOf ps i = 0) := by
  have k := calFrom_at h e
  unfold prevOf
  by_cases h0 : i = 0
  · subst h0; simpa using k.1 rfl
  · rw [if_neg h0]
    have hl := (List.getElem?_eq_some_iff.mp e).1
    obtain ⟨q, hq⟩ : ∃ q, ps[i - 1]? = some q := ⟨ps[i - 1]'(by omega), List.getElem?_eq_getElem (by omega)⟩
    rw [hq]
    exact k.2 q (by omega) hq
theorem pure_validate_calendar (K : Frag) : ∀ xs cs Q XP, sp_validate_calendar xs cs Q XP → w_validate_calendar (retE K Q) (startD 4 xs) cs := by
  rintro xs cs Q XP ⟨ps, rfl, ⟨h1, h5, hc⟩, q⟩
  unfold w_validate_calendar
  simp only [cal]
  walk_at "dl"
  have hl : (iD ps).length = ps.length := by simp [iD]
  simp only [List.length_map, hl]
  refine ⟨by omega, by omega, ?_⟩
  simp only [wFor, wiEnum]
  walk_at "dl"
  refine ⟨fun i ρ cs' => cs' = cs ∧ ∃ a b, ρ = [some (.dat (.tup (iD ps))), some (.int (prevOf ps i)), a, b], ⟨rfl, _, _, rfl⟩, fun _ _ _ _ _ => trivial, ?_, ?_⟩
  · rintro i x ρ cs' hx ⟨rfl, a, b, rfl⟩
    obtain ⟨d, hd, rfl⟩ := enumF_at hx
    unfold iD at hd
    rw [List.getElem?_map] at hd
    obtain ⟨p, hp, rfl⟩ := Option.map_eq_some_iff.mp hd
    obtain ⟨k1, k2, k3⟩ := calFrom_prev hc hp
    have hn : prevOf ps (i + 1) = p := by unfold prevOf; rw [if_neg (by omega), Nat.add_sub_cancel, hp]; rfl
    simp only [sp_is_integer]
    walk_at "dl"
    refine ⟨k1, k2, ?_⟩
    split
    · rename_i h0
      exact ⟨h0, k3 h0, hn.symm⟩
    · exact hn.symm
  · rintro ρ cs' ⟨rfl, _⟩
    exact .now q
/-! ### is_order, first_invalid_order, validate_orders -/
def sp_is_order : DSp := fun xs cs Q _ => ∃ (ps : List Int) (o : Ord), xs = [.dat (cal ps), .dat (ord o)] ∧ Q (.bl (ordB ps o)) cs
theorem len_is_order : ∀ xs cs Q XP, sp_is_order xs cs Q XP → xs.length = 2 := by rintro xs cs Q XP ⟨ps, o, rfl, _⟩; rfl
def w_is_order : WS := (wSeq (wAsg (wVar 1) (gT 3 (gCons (gN 2) (gCons (gN 3) (gCons (gN 4) gNil)))))
    (wSeq (wIfS (wOr (wTest (wOp (wIn true) (wVar 2) (wVar 0))) (wOr (wNot (wTest (wCall sp_is_integer (wCons (wVar 3) wNil)))) (wNot (wTest (wChain wLe wLt (wC (.int 0)) (wVar 3) (wVar 2)))))) (wRet (wC (.bl false))) wNext)
    (wRet (wAndV (wCall sp_is_integer (wCons (wVar 4) wNil)) (wOp (wEqD true) (wVar 4) (wC (.int 0)))))))
theorem wIn_ints {neg : Bool} {p : Int} {x : Vl} {b : Bool} {ps : List Int} {cs : Cells} {P : Vl → Cells → Prop} (hx : seqD cs x = some (b, iV ps)) (h : P (.dat (.bl (if neg then !decide (p ∈ ps) else decide (p ∈ ps)))) cs) : wIn neg (.int p) x cs P :=
  ⟨b, _, .int p, _, hx, rfl, flatsD_ints ps, by rw [inV_ints]; exact h⟩
theorem pure_is_order (K : Frag) : ∀ xs cs Q XP, sp_is_order xs cs Q XP → w_is_order (retE K Q) (startD 5 xs) cs := by
  rintro xs cs Q XP ⟨ps, ⟨p, d, a⟩, rfl, q⟩
  unfold w_is_order
  simp only [ord, sp_is_integer]
  walk_at "dl"
  refine wIn_ints seqD_cal ?_
  unfold ordB at q
  simp only [sp_is_integer]
  walk_at "dl"
  by_cases h1 : p ∈ ps
  · rw [if_neg (by simpa using h1)]
    by_cases h2 : 0 ≤ d
    · rw [if_pos h2]
      by_cases h3 : d < p
      · rw [if_neg (by simpa using h3)]
        refine .now ?_
        simpa [h1, h2, h3] using q
      · rw [if_pos h3]
        refine .now ?_
        simpa [h1, h2, h3] using q
    · rw [if_neg h2]
      refine .now ?_
      simpa [h1, h2] using q
  · rw [if_pos (by simpa using h1)]
    refine .now ?_
    simpa [h1] using q
def sp_first_invalid_order : DSp := fun xs cs Q _ => ∃ (ps : List Int) (os : List Ord) (b : Bool), xs = [.dat (cal ps), .dat (seqd b (ordsD os))] ∧ Q (.dat (firstBad ps os)) cs
theorem len_first_invalid_order : ∀ xs cs Q XP, sp_first_invalid_order xs cs Q XP → xs.length = 2 := by rintro xs cs Q XP ⟨ps, o, b, rfl, _⟩; rfl
def w_first_invalid_order : WS := (wSeq (wFor (wiEnum (wCons (wVar 1) wNil)) (gT 2 (gCons (gN 2) (gCons (gN 3) gNil))) (wIfS (wNot (wTest (wCall sp_is_order (wCons (wVar 0) (wCons (wVar 3) wNil))))) (wRet (wVar 2)) wNext))
    (wRet (wC .non)))
theorem pure_first_invalid_order (K : Frag) : ∀ xs cs Q XP, sp_first_invalid_order xs cs Q XP → w_first_invalid_order (retE K Q) (startD 4 xs) cs := by
  rintro xs cs Q XP ⟨ps, os, b, rfl, q⟩
  unfold w_first_invalid_order
  walk_at "dl"
  simp only [wFor, wiEnum]
  walk_at "dl"
  refine ⟨_, _, seqD_seqd, _, allDat_map _, fun i ρ cs' => cs' = cs ∧ (∀ o ∈ os.take i, ordB ps o = true) ∧ ∃ a b', ρ = [some (.dat (cal ps)), some (.dat (seqd b (ordsD os))), a, b'], ⟨rfl, by simp, _, _, rfl⟩, fun _ _ _ _ _ => seqD_seqd, ?_, ?_⟩
  · rintro i x ρ cs' hx ⟨rfl, hall, a, b', rfl⟩
    obtain ⟨d, hd, rfl⟩ := enumF_at hx
    unfold ordsD at hd
    rw [List.getElem?_map] at hd
    obtain ⟨o, ho, rfl⟩ := Option.map_eq_some_iff.mp hd
    walk_at "dl"
    refine ⟨ps, o, rfl, ?_⟩
    walk_at "dl"
    have hlt := (List.getElem?_eq_some_iff.mp ho).1
    have ht : os.take (i + 1) = os.take i ++ [o] := by rw [List.take_succ, ho]; rfl
    cases hb : ordB ps o with
    | false =>
      simp only [if_true]
      refine .now ?_
      have : firstBad ps os = .int (i : Int) := by
        unfold firstBad
        have : os.findIdx? (fun o => !ordB ps o) = some i := by
          rw [List.findIdx?_eq_some_iff_getElem]
          refine ⟨hlt, ?_, fun j hj => ?_⟩
          · rw [(List.getElem?_eq_some_iff.mp ho).2, hb]; rfl
          · have : ordB ps os[j] = true := hall _ (by rw [List.mem_take_iff_getElem]; exact ⟨j, by omega, rfl⟩)
            simp [this]
        rw [this]
      rw [this] at q
      exact q
    | true =>
      simp only [Bool.true_eq_false, if_false]
      intro o' ho'
      rw [ht] at ho'
      rcases List.mem_append.mp ho' with z | z
      · exact hall o' z
      · simp at z; rw [z]; exact hb
  · rintro ρ cs' ⟨rfl, hall, _⟩
    rw [enumF_len] at hall
    refine .now ?_
    have : firstBad ps os = .non := by
      unfold firstBad
      have : os.findIdx? (fun o => !ordB ps o) = none := by
        rw [List.findIdx?_eq_none_iff]
        intro o ho
        have := hall o (by rw [List.take_of_length_le (by simp [ordsD])]; exact ho)
        simp [this]
      rw [this]
    rw [this] at q
    exact q
def OrdsOk (ps : List Int) (os : List Ord) : Prop := ∀ o ∈ os, ordB ps o = true
theorem firstBad_ok {ps : List Int} {os : List Ord} (h : OrdsOk ps os) : firstBad ps os = .non := by
  unfold firstBad
  have : os.findIdx? (fun o => !ordB ps o) = none := by
    rw [List.findIdx?_eq_none_iff]
    intro o ho
    simp [h o ho]
  rw [this]
def sp_validate_orders : DSp := fun xs cs Q _ => ∃ (ps : List Int) (os : List Ord) (b : Bool), xs = [.dat (cal ps), .dat (seqd b (ordsD os))] ∧ CalOk ps ∧ OrdsOk ps os ∧ Q .non cs
theorem len_validate_orders : ∀ xs cs Q XP, sp_validate_orders xs cs Q XP → xs.length = 2 := by rintro xs cs Q XP ⟨ps, o, b, rfl, _⟩; rfl
def w_validate_orders : WS := (wSeq (wDrop (wCall sp_validate_calendar (wCons (wVar 0) wNil)))
    (wSeq (wAsg (wCall sp_first_invalid_order (wCons (wVar 0) (wCons (wVar 1) wNil))) (gN 2))
    (wIfS (wTest (wOp wNotN (wVar 2) (wC .non))) wNever wNext)))
theorem pure_validate_orders (K : Frag) : ∀ xs cs Q XP, sp_validate_orders xs cs Q XP → w_validate_orders (retE K Q) (startD 3 xs) cs := by
  rintro xs cs Q XP ⟨ps, os, b, rfl, hc, ho, q⟩
  unfold w_validate_orders
  walk_at "dl"
  refine ⟨ps, rfl, hc, ps, os, b, rfl, ?_⟩
  rw [firstBad_ok ho]
  walk_at "dl"
  exact .now q
/-! ### days_due -/
def daysDue (p d f l : Int) : Int := max 0 ((l - d) / p - (f - 1 - d) / p)
def sp_days_due : DSp := fun xs cs Q _ => ∃ p d f l : Int, xs = [.int p, .int d, .int f, .int l] ∧ 0 < p ∧ p ≤ 400 ∧ Q (.int (daysDue p d f l)) cs
theorem len_days_due : ∀ xs cs Q XP, sp_days_due xs cs Q XP → xs.length = 4 := by rintro xs cs Q XP ⟨p, d, f, l, rfl, _⟩; rfl
def w_days_due : WS := (wRet (wFn wMax2 (wCons (wC (.int 0)) (wCons (wOp wSub (wOp wDiv (wOp wSub (wVar 3) (wVar 1)) (wVar 0)) (wOp wDiv (wOp wSub (wOp wSub (wVar 2) (wC (.int 1))) (wVar 1)) (wVar 0))) wNil))))
theorem pure_days_due (K : Frag) : ∀ xs cs Q XP, sp_days_due xs cs Q XP → w_days_due (retE K Q) (startD 4 xs) cs := by
  rintro xs cs Q XP ⟨p, d, f, l, rfl, hp, hp2, q⟩
  unfold w_days_due
  walk_at "dl"
  refine ⟨divOk hp (by omega), divOk hp (by omega), .now ?_⟩
  have : daysDue p d f l = (if 0 < (l - d) / p - (f - 1 - d) / p then (l - d) / p - (f - 1 - d) / p else 0) := by
    unfold daysDue
    split <;> omega
  rw [this] at q
  exact q
/-! ### flow_list -/
/-- the sum of what the orders pay on day t -/
def flowAt (os : List Ord) (t : Int) : Int := (os.map fun o => if t % o.1 = o.2.1 then o.2.2 else 0).sum
def rowF (c : Nat) (f : Nat → Int) : List Int := (List.range c).map f
def flowsL (c : Int) (os : List Ord) : List Int := rowF c.toNat fun t => flowAt os (t : Int)
end DL
set_option maxRecDepth 100000
set_option maxHeartbeats 4000000
namespace DL
open PySem L2
local macro_rules | `(tactic| walk_at "dl") => `(tactic| simp only [wRet, wRetN, wSeq, wAsg, wIfS, wDrop, wNext, wVar, wC, wOp, wUn, wFn, wNil, wCons, wTest, wNot, wAnd, wOr, wAndV, wOrV, wNotV, wIf, wChain, wTup, wLst, wCall, wNever, gN, gT, gNil, gCons, gIx, wI, wI0, wNeg, wMax2, wMin2, wLen, wIsN, wNotN, isNon_non, isNon_bl, isNon_int, isNon_str, isNon_lst, isNon_tup, isNon_cell, wIx, wTuple, wAug, wAugIx, wPar, wIsi, wIsi2, isiT, tyD_non, tyD_bl, tyD_int, tyD_str, tyD_lst, tyD_tup, tyD_cell, coTy_lst, seqD_lst, seqD_tp, seqD_cell, coSeq_lst, seen_dat, seen_cell, coDat_lst, startD, wYes, wApp, wEq_int, wEq_bl, allDat_nil, allDat_cons, allDat_map, Option.map_some, List.map_cons, List.map_nil, List.cons_append, List.nil_append, List.length_cons, List.length_nil, List.replicate, List.getElem?_cons_zero, List.getElem?_cons_succ, List.set_cons_zero, List.set_cons_succ, Option.some.injEq, exists_eq_left', exists_eq_left, exists_and_left, exists_eq', exists_eq, Vl.dat.injEq, Vl.raw.injEq, V.ref.injEq, CO.lst.injEq, Dat.int.injEq, Dat.bl.injEq, Dat.tup.injEq, Dat.lst.injEq, List.cons.injEq, and_true, true_and, retE, Nat.reduceAdd, Nat.reduceSub, and_assoc, Prod.mk.injEq, if_true, if_false, Bool.false_eq_true, decide_eq_true_eq, Bool.not_true, Bool.not_false, Bool.not_eq_true', decide_eq_false_iff_not, if_false_left, if_false_right, beq_iff_eq, Bool.or_eq_true, Bool.and_eq_true, Bool.or_self, Bool.or_true, Bool.true_or, Bool.or_false, Bool.false_or, decide_true, decide_false, reduceCtorEq, Cells.put_same, gt_iff_lt, ge_iff_le, beq_self_eq_true, bne_self_eq_false, Bool.decide_eq_true, not_true_eq_false, not_false_eq_true, Decidable.not_not, false_and, and_false, Bool.not_eq_false, at_0, at_1, at_2, at_3, at_4, at_5, ix_0, ix_1, ix_2, ix_3, Nat.reduceLT, Int.reduceLT, Int.reduceLE, Int.reduceNeg, Int.reduceAdd, Int.reduceSub, Int.reduceEq, Int.reducePow, Int.reduceToNat, Cells.put_put])
theorem rgC_pos {i j c : Int} (h0 : 0 ≤ i) (hij : i < j) (hj : j ≤ 100000) (hc : 0 < c) (hc2 : c ≤ 100000) : RgC i j c ((j - i - 1) / c + 1).toNat := by
  have hq : 0 ≤ (j - i - 1) / c := Int.ediv_nonneg (by omega) (by omega)
  have hq2 : (j - i - 1) / c ≤ j - i - 1 := Int.ediv_le_self _ (by omega)
  have hs : Builtin.Range.rangeSize i j c = (j - i - 1) / c + 1 := by
    unfold Builtin.Range.rangeSize
    rw [if_pos (by omega), if_pos hij]
  refine ⟨by omega, by omega, ?_, ?_⟩
  · unfold Builtin.Range.small
    rw [hs]
    simp only [Builtin.Range.rangeFitsLong, Bool.and_eq_true, Bool.or_eq_true, decide_eq_true_eq, beq_iff_eq, show c > 0 from hc, if_true]
    omega
  · rw [hs]; omega
/-! ### rows -/
theorem rowF_len {c : Nat} {f : Nat → Int} : (rowF c f).length = c := by simp [rowF]
theorem iV_len {ns : List Int} : (iV ns).length = ns.length := by simp [iV]
theorem rowF_get {c : Nat} {f : Nat → Int} {k : Nat} (h : k < c) : (rowF c f)[k]? = some (f k) := by simp [rowF, h]
theorem iV_get {ns : List Int} {k : Nat} {n : Int} (h : ns[k]? = some n) : (iV ns)[k]? = some (.int n) := by
  unfold iV; rw [List.getElem?_map, h]; rfl
theorem rowF_set {c : Nat} {f : Nat → Int} {k : Nat} {v : Int} (h : k < c) : (iV (rowF c f)).set k (.int v) = iV (rowF c fun t => if t = k then v else f t) := by
  unfold iV rowF
  refine List.ext_getElem? fun i => ?_
  by_cases hi : i < c
  · by_cases hk : k = i
    · subst hk
      rw [List.getElem?_set_self (by simp; omega)]
      simp [hi]
    · rw [List.getElem?_set_ne hk]
      have : ¬ i = k := fun z => hk z.symm
      simp [hi, this]
  · rw [List.getElem?_eq_none (by simp; omega), List.getElem?_eq_none (by simp; omega)]
theorem rowF_ext {c : Nat} {f g : Nat → Int} (h : ∀ t, t < c → f t = g t) : rowF c f = rowF c g := by
  unfold rowF
  exact List.map_congr_left fun t ht => h t (List.mem_range.mp ht)
theorem rep0 (n : Nat) : (List.replicate n [(Vl.int 0)]).flatten = iV (rowF n fun _ => 0) := by
  induction n with
  | zero => rfl
  | succ n ih =>
    rw [List.replicate_succ', List.flatten_append, ih]
    unfold iV rowF
    rw [List.range_succ]
    simp
/-! ### a valid calendar's cycle -/
def rat4 (b : Int) : List Int → Prop
  | [] => True
  | p :: r => (0 < b → p ≤ 4 * b) ∧ rat4 p r
def cyc (ps : List Int) : Int := (ps.getLast?).getD 0
theorem calFrom_all : ∀ {ps : List Int} {b : Int}, 0 ≤ b → calFrom b ps → ∀ p ∈ ps, b < p ∧ p ≤ 400
  | a :: r, b, hb, h, p, hp => by
    rcases List.mem_cons.mp hp with z | z
    · subst z; exact ⟨h.1, h.2.1⟩
    · have := calFrom_all (b := a) (by have := h.1; omega) h.2.2.2 p z
      have h1 := h.1
      exact ⟨by omega, this.2⟩
/-- every period divides the last one -/
theorem calFrom_dvd : ∀ {ps : List Int} {b : Int} {c : Int}, 0 ≤ b → calFrom b ps → ps.getLast? = some c → (0 < b → b ∣ c) ∧ ∀ p ∈ ps, p ∣ c
  | [a], b, c, hb, h, e => by
    cases e
    exact ⟨fun z => Int.dvd_of_emod_eq_zero (h.2.2.1 z), fun p hp => by simp at hp; subst hp; exact Int.dvd_refl _⟩
  | a :: a2 :: r, b, c, hb, h, e => by
    have h1 := h.1
    have ih := calFrom_dvd (ps := a2 :: r) (b := a) (c := c) (by omega) h.2.2.2 (by rw [List.getLast?_cons_cons] at e; exact e)
    have ha : a ∣ c := ih.1 (by omega)
    refine ⟨fun z => Int.dvd_trans (Int.dvd_of_emod_eq_zero (h.2.2.1 z)) ha, fun p hp => ?_⟩
    rcases List.mem_cons.mp hp with z | z
    · subst z; exact ha
    · exact ih.2 p z
structure CycOk (ps : List Int) (c : Int) : Prop where
  last : ps.getLast? = some c
  pos : 0 < c
  le : c ≤ 400
  per : ∀ p ∈ ps, 0 < p ∧ p ≤ c ∧ p ∣ c
theorem cal_cyc {ps : List Int} (h : CalOk ps) : CycOk ps (cyc ps) := by
  obtain ⟨h1, h5, hc⟩ := h
  have hne : ps ≠ [] := by intro z; subst z; simp at h1
  obtain ⟨c, hl⟩ : ∃ c, ps.getLast? = some c := ⟨_, List.getLast?_eq_some_getLast hne⟩
  have hcy : cyc ps = c := by unfold cyc; rw [hl]; rfl
  rw [hcy]
  have hm : c ∈ ps := List.mem_of_getLast? hl
  have ha := calFrom_all (Int.le_refl 0) hc
  have hd := (calFrom_dvd (Int.le_refl 0) hc hl).2
  exact ⟨hl, (ha c hm).1, (ha c hm).2, fun p hp => ⟨(ha p hp).1, Int.le_of_dvd (ha c hm).1 (hd p hp), hd p hp⟩⟩
theorem atI_cyc {ps : List Int} {c : Int} (h : CycOk ps c) : atI (iV ps) (-1) = some (.int c) := atI_last (by unfold iV; rw [List.getLast?_map, h.last]; rfl)
theorem ordB_iff {ps : List Int} {o : Ord} : ordB ps o = true ↔ o.1 ∈ ps ∧ 0 ≤ o.2.1 ∧ o.2.1 < o.1 ∧ o.2.2 ≠ 0 := by
  unfold ordB
  simp [and_assoc]
theorem flowAt_snoc (os : List Ord) (o : Ord) (t : Int) : flowAt (os ++ [o]) t = flowAt os t + if t % o.1 = o.2.1 then o.2.2 else 0 := by
  unfold flowAt
  rw [List.map_append, List.sum_append]
  simp
theorem take_snoc {α : Type} {os : List α} {i : Nat} {o : α} (h : os[i]? = some o) : os.take (i + 1) = os.take i ++ [o] := by rw [List.take_succ, h]; rfl
/-! ### flow_list -/
def sp_flow_list : DSp := fun xs cs Q _ => ∃ (ps : List Int) (os : List Ord) (b : Bool), xs = [.dat (cal ps), .dat (seqd b (ordsD os))] ∧ CalOk ps ∧ OrdsOk ps os ∧ ∀ p, cs p = none → Q (.cell p) (cs.put p (.lst (iV (flowsL (cyc ps) os))))
theorem len_flow_list : ∀ xs cs Q XP, sp_flow_list xs cs Q XP → xs.length = 2 := by rintro xs cs Q XP ⟨ps, o, b, rfl, _⟩; rfl
def w_flow_list : WS := (wSeq (wAsg (wOp wRep (wLst (wCons (wC (.int 0)) wNil)) (wOp wIx (wVar 0) (wUn wNeg (wC (.int 1))))) (gN 2))
    (wSeq (wFor (wiSeq (wVar 1)) (gT 3 (gCons (gN 3) (gCons (gN 4) (gCons (gN 5) gNil)))) (wFor (wiRng3 (wCons (wVar 4) (wCons (wOp wIx (wVar 0) (wUn wNeg (wC (.int 1)))) (wCons (wVar 3) wNil)))) (gN 6) (wAugIx (wVar 2) (wVar 6) (wVar 5) (fun i j => i + j))))
    (wRet (wVar 2))))
theorem mod_near {p d t : Int} {j : Int} (hp : 0 < p) (hd : 0 ≤ d) (hdp : d < p) : (d + j * p) % p = d := by
  rw [Int.add_mul_emod_self_right, Int.emod_eq_of_lt hd hdp]
theorem pure_flow_list (K : Frag) : ∀ xs cs Q XP, sp_flow_list xs cs Q XP → w_flow_list (retE K Q) (startD 7 xs) cs := by
  rintro xs cs Q XP ⟨ps, os, b, rfl, hc, ho, q⟩
  have C := cal_cyc hc
  generalize cyc ps = c at C q
  have hpos := C.pos
  have hle := C.le
  unfold w_flow_list
  walk_at "dl"
  refine ⟨by decide, .inl fun p0 hp0 => ?_⟩
  refine ⟨_, _, seqD_cal, _, atI_cyc C, ?_⟩
  simp only [wRep]
  walk_at "dl"
  refine ⟨by omega, by omega, by omega, cs, SubC.put hp0, .inl fun p hp => ?_⟩
  rw [rep0]
  simp only [wFor, wiSeq]
  walk_at "dl"
  refine ⟨_, _, seqD_seqd, fun i ρ cs' => cs' = cs.put p (.lst (iV (rowF c.toNat fun t => flowAt (os.take i) (t : Int)))) ∧ ∃ a3 a4 a5 a6, ρ = [some (.dat (cal ps)), some (.dat (seqd b (ordsD os))), some (.cell p), a3, a4, a5, a6], ⟨rfl, _, _, _, _, rfl⟩, fun _ _ _ _ _ => seqD_seqd, ?_, ?_⟩
  · rintro i x ρ cs' hx ⟨rfl, a3, a4, a5, a6, rfl⟩
    unfold ordsD at hx
    rw [List.getElem?_map, List.getElem?_map] at hx
    obtain ⟨d0, hd0, rfl⟩ := Option.map_eq_some_iff.mp hx
    obtain ⟨⟨pp, dd, aa⟩, hoi, rfl⟩ := Option.map_eq_some_iff.mp hd0
    obtain ⟨k1, k2, k3, k4⟩ := ordB_iff.mp (ho _ (List.mem_of_getElem? hoi))
    simp only at k1 k2 k3 k4
    obtain ⟨p1, p2, p3⟩ := C.per _ k1
    simp only [ord]
    walk_at "dl"
    simp only [wiRng3]
    walk_at "dl"
    refine ⟨_, _, seqD_cal, _, atI_cyc C, ?_⟩
    walk_at "dl"
    refine ⟨_, rgC_pos k2 (by omega) (by omega) p1 (by omega), ?_⟩
    refine ⟨fun j ρ cs' => cs' = cs.put p (.lst (iV (rowF c.toNat fun t => flowAt (os.take i) (t : Int) + if (t : Int) % pp = dd ∧ (t : Int) < dd + j * pp then aa else 0))) ∧ ∃ a6, ρ = [some (.dat (cal ps)), some (.dat (seqd b (ordsD os))), some (.cell p), some (.int pp), some (.int dd), some (.int aa), a6], ⟨?_, _, rfl⟩, fun _ _ _ _ _ => trivial, ?_, ?_⟩
    · congr 3
      refine rowF_ext fun t _ => ?_
      rw [if_neg (fun z => ?_), Int.add_zero]
      obtain ⟨z1, z2⟩ := z
      have z3 : (t : Int) < dd := by simpa using z2
      rw [Int.emod_eq_of_lt (by omega) (by omega)] at z1
      omega
    · rintro j x ρ cs' hx ⟨rfl, a6, rfl⟩
      obtain ⟨hj, rfl⟩ := rangeD_at hx
      have hq : 0 ≤ (c - dd - 1) / pp := Int.ediv_nonneg (by omega) (by omega)
      have hjq : (j : Int) ≤ (c - dd - 1) / pp := by omega
      have hjm : (j : Int) * pp ≤ c - dd - 1 := Int.le_trans (Int.mul_le_mul_of_nonneg_right hjq (by omega)) (Int.ediv_mul_le _ (by omega))
      have hj0 : 0 ≤ (j : Int) * pp := Int.mul_nonneg (by omega) (by omega)
      have hr : (dd + (j : Int) * pp).toNat < c.toNat := by omega
      have hrc : (((dd + (j : Int) * pp).toNat : Nat) : Int) = dd + (j : Int) * pp := Int.toNat_of_nonneg (by omega)
      walk_at "dl"
      refine ⟨_, ixN_int (by omega) (by rw [iV_len, rowF_len]; omega), _, iV_get (rowF_get hr), ?_⟩
      rw [rowF_set hr]
      congr 3
      refine rowF_ext fun t ht => ?_
      simp only [hrc]
      by_cases htj : t = (dd + (j : Int) * pp).toNat
      · have htc : (t : Int) = dd + (j : Int) * pp := by omega
        have e0 : ((j + 1 : Nat) : Int) * pp = (j : Int) * pp + pp := by rw [Int.natCast_add, Int.add_mul]; simp
        rw [if_pos htj, htc, mod_near (t := t) p1 k2 k3, if_neg (by omega), if_pos ⟨rfl, by omega⟩, Int.add_zero]
      · rw [if_neg htj]
        congr 1
        have hiff : ((t : Int) % pp = dd ∧ (t : Int) < dd + (j : Int) * pp) ↔ ((t : Int) % pp = dd ∧ (t : Int) < dd + ((j + 1 : Nat) : Int) * pp) := by
          have e1 : ((j + 1 : Nat) : Int) * pp = (j : Int) * pp + pp := by rw [Int.natCast_add, Int.add_mul]; simp
          constructor
          · rintro ⟨z1, z2⟩; exact ⟨z1, by omega⟩
          · rintro ⟨z1, z2⟩
            refine ⟨z1, ?_⟩
            have e2 := Int.emod_add_mul_ediv (t : Int) pp
            rw [z1] at e2
            have e3 : (t : Int) / pp ≤ j := by
              have : pp * ((t : Int) / pp) < pp * ((j : Int) + 1) := by rw [Int.mul_add, Int.mul_comm pp j]; omega
              have := Int.lt_of_mul_lt_mul_left this (by omega)
              omega
            have e4 : (t : Int) / pp ≠ j := fun z => htj (by rw [z, Int.mul_comm] at e2; omega)
            have e5 : pp * ((t : Int) / pp) ≤ pp * ((j : Int) - 1) := Int.mul_le_mul_of_nonneg_left (by omega) (by omega)
            rw [Int.mul_sub, Int.mul_comm pp j] at e5
            omega
        simp only [hiff]
    · rintro ρ cs' ⟨rfl, a6, rfl⟩
      refine ⟨?_, _, _, _, _, rfl⟩
      congr 3
      refine rowF_ext fun t ht => ?_
      rw [take_snoc hoi, flowAt_snoc]
      congr 1
      have hq : 0 ≤ (c - dd - 1) / pp := Int.ediv_nonneg (by omega) (by omega)
      have hlen : (rangeD dd pp ((c - dd - 1) / pp + 1).toNat).length = ((c - dd - 1) / pp + 1).toNat := rangeD_len
      rw [hlen, Int.toNat_of_nonneg (by omega)]
      have hb : c - dd - 1 < ((c - dd - 1) / pp + 1) * pp := Int.lt_ediv_add_one_mul_self _ p1
      by_cases h1 : (t : Int) % pp = dd
      · rw [if_pos ⟨h1, by omega⟩, if_pos h1]
      · rw [if_neg (fun z => h1 z.1), if_neg h1]
  · rintro ρ cs' ⟨rfl, a3, a4, a5, a6, rfl⟩
    walk_at "dl"
    refine .now ?_
    have := q p hp
    unfold flowsL at this
    have hl : ((ordsD os).map Vl.dat).length = os.length := by simp [ordsD]
    rw [hl, List.take_of_length_le (Nat.le_refl _)]
    exact this
end DL
set_option maxRecDepth 100000
set_option maxHeartbeats 4000000
namespace DL
open PySem L2
local macro_rules | `(tactic| walk_at "dl") => `(tactic| simp only [wRet, wRetN, wSeq, wAsg, wIfS, wDrop, wNext, wVar, wC, wOp, wUn, wFn, wNil, wCons, wTest, wNot, wAnd, wOr, wAndV, wOrV, wNotV, wIf, wChain, wTup, wLst, wCall, wNever, gN, gT, gNil, gCons, gIx, wI, wI0, wNeg, wMax2, wMin2, wLen, wIsN, wNotN, isNon_non, isNon_bl, isNon_int, isNon_str, isNon_lst, isNon_tup, isNon_cell, wIx, wTuple, wAug, wAugIx, wPar, wIsi, wIsi2, isiT, tyD_non, tyD_bl, tyD_int, tyD_str, tyD_lst, tyD_tup, tyD_cell, coTy_lst, seqD_lst, seqD_tp, seqD_cell, coSeq_lst, seen_dat, seen_cell, coDat_lst, startD, wYes, wApp, wEq_int, wEq_bl, allDat_nil, allDat_cons, allDat_map, Option.map_some, List.map_cons, List.map_nil, List.cons_append, List.nil_append, List.length_cons, List.length_nil, List.replicate, List.getElem?_cons_zero, List.getElem?_cons_succ, List.set_cons_zero, List.set_cons_succ, Option.some.injEq, exists_eq_left', exists_eq_left, exists_and_left, exists_eq', exists_eq, Vl.dat.injEq, Vl.raw.injEq, V.ref.injEq, CO.lst.injEq, Dat.int.injEq, Dat.bl.injEq, Dat.tup.injEq, Dat.lst.injEq, List.cons.injEq, and_true, true_and, retE, Nat.reduceAdd, Nat.reduceSub, and_assoc, Prod.mk.injEq, if_true, if_false, Bool.false_eq_true, decide_eq_true_eq, Bool.not_true, Bool.not_false, Bool.not_eq_true', decide_eq_false_iff_not, if_false_left, if_false_right, beq_iff_eq, Bool.or_eq_true, Bool.and_eq_true, Bool.or_self, Bool.or_true, Bool.true_or, Bool.or_false, Bool.false_or, decide_true, decide_false, reduceCtorEq, Cells.put_same, gt_iff_lt, ge_iff_le, beq_self_eq_true, bne_self_eq_false, Bool.decide_eq_true, not_true_eq_false, not_false_eq_true, Decidable.not_not, false_and, and_false, Bool.not_eq_false, at_0, at_1, at_2, at_3, at_4, at_5, ix_0, ix_1, ix_2, ix_3, Nat.reduceLT, Int.reduceLT, Int.reduceLE, Int.reduceNeg, Int.reduceAdd, Int.reduceSub, Int.reduceEq, Int.reducePow, Int.reduceToNat, Cells.put_put])
/-! ### cycle_of, times_due, flows -/
def sp_cycle_of : DSp := fun xs cs Q _ => ∃ ps : List Int, xs = [.dat (cal ps)] ∧ CalOk ps ∧ Q (.int (cyc ps)) cs
theorem len_cycle_of : ∀ xs cs Q XP, sp_cycle_of xs cs Q XP → xs.length = 1 := by rintro xs cs Q XP ⟨ps, rfl, _⟩; rfl
def w_cycle_of : WS := (wSeq (wDrop (wCall sp_validate_calendar (wCons (wVar 0) wNil)))
    (wRet (wOp wIx (wVar 0) (wUn wNeg (wC (.int 1))))))
theorem pure_cycle_of (K : Frag) : ∀ xs cs Q XP, sp_cycle_of xs cs Q XP → w_cycle_of (retE K Q) (startD 1 xs) cs := by
  rintro xs cs Q XP ⟨ps, rfl, hc, q⟩
  unfold w_cycle_of
  walk_at "dl"
  exact ⟨ps, rfl, hc, _, _, seqD_cal, _, atI_cyc (cal_cyc hc), .now q⟩
def sp_times_due : DSp := fun xs cs Q _ => ∃ (ps : List Int) (o : Ord) (f l : Int), xs = [.dat (cal ps), .dat (ord o), .int f, .int l] ∧ CalOk ps ∧ ordB ps o = true ∧ Q (.int (daysDue o.1 o.2.1 f l)) cs
theorem len_times_due : ∀ xs cs Q XP, sp_times_due xs cs Q XP → xs.length = 4 := by rintro xs cs Q XP ⟨ps, o, f, l, rfl, _⟩; rfl
def w_times_due : WS := (wSeq (wDrop (wCall sp_validate_orders (wCons (wVar 0) (wCons (wLst (wCons (wVar 1) wNil)) wNil))))
    (wRet (wCall sp_days_due (wCons (wOp wIx (wVar 1) (wC (.int 0))) (wCons (wOp wIx (wVar 1) (wC (.int 1))) (wCons (wVar 2) (wCons (wVar 3) wNil)))))))
theorem pure_times_due (K : Frag) : ∀ xs cs Q XP, sp_times_due xs cs Q XP → w_times_due (retE K Q) (startD 4 xs) cs := by
  rintro xs cs Q XP ⟨ps, ⟨p, d, a⟩, f, l, rfl, hc, ho, q⟩
  obtain ⟨k1, k2, k3, k4⟩ := ordB_iff.mp ho
  have C := cal_cyc hc
  obtain ⟨p1, p2, p3⟩ := C.per _ k1
  have := C.le
  unfold w_times_due
  walk_at "dl"
  refine ⟨by decide, .inr ⟨[ord (p, d, a)], rfl, ps, [(p, d, a)], true, rfl, hc, fun o h => by simp at h; rw [h]; exact ho, ?_⟩⟩
  simp only [ord]
  walk_at "dl"
  exact ⟨p, d, f, l, rfl, p1, by omega, .now q⟩
abbrev sp_flows : DSp := sp_flow_list
theorem len_flows : ∀ xs cs Q XP, sp_flows xs cs Q XP → xs.length = 2 := len_flow_list
def w_flows : WS := (wSeq (wDrop (wCall sp_validate_orders (wCons (wVar 0) (wCons (wVar 1) wNil))))
    (wRet (wCall sp_flow_list (wCons (wVar 0) (wCons (wVar 1) wNil)))))
theorem pure_flows (K : Frag) : ∀ xs cs Q XP, sp_flows xs cs Q XP → w_flows (retE K Q) (startD 2 xs) cs := by
  rintro xs cs Q XP ⟨ps, os, b, rfl, hc, ho, q⟩
  unfold w_flows
  walk_at "dl"
  exact ⟨ps, os, b, rfl, hc, ho, ps, os, b, rfl, hc, ho, fun p hp => .now (q p hp)⟩
/-! ### draws -/
def DrSt (c : CO) : Prop := ∃ (ns : List Int) (pos seed rest : Int), c = .lst [.dat (.lst (iD ns)), .int pos, .int seed, .int rest] ∧ 0 ≤ pos
def sp_law_start : DSp := fun xs cs Q _ => ∃ ns : List Int, xs = [.dat (.lst (iD ns))] ∧ ∀ p c, cs p = none → DrSt c → Q (.cell p) (cs.put p c)
theorem len_law_start : ∀ xs cs Q XP, sp_law_start xs cs Q XP → xs.length = 1 := by rintro xs cs Q XP ⟨ns, rfl, _⟩; rfl
def w_law_start : WS := (wSeq (wAsg (wC (.int 1)) (gN 1))
    (wSeq (wFor (wiSeq (wVar 0)) (gN 2) (wAsg (wOp wMod (wOp wAdd (wOp wAdd (wOp wMul (wVar 1) (wC (.int 48271))) (wVar 2)) (wC (.int 7))) (wC (.int 2147483647))) (gN 1)))
    (wRet (wLst (wCons (wVar 0) (wCons (wC (.int 0)) (wCons (wVar 1) (wCons (wC (.int 0)) wNil))))))))
theorem pure_law_start (K : Frag) : ∀ xs cs Q XP, sp_law_start xs cs Q XP → w_law_start (retE K Q) (startD 3 xs) cs := by
  rintro xs cs Q XP ⟨ns, rfl, q⟩
  unfold w_law_start
  walk_at "dl"
  simp only [wFor, wiSeq]
  walk_at "dl"
  refine ⟨fun i ρ cs' => cs' = cs ∧ ∃ (m : Int) (a : Option Vl), ρ = [some (.dat (.lst (iD ns))), some (.int m), a], ⟨rfl, _, _, rfl⟩, fun _ _ _ _ _ => trivial, ?_, ?_⟩
  · rintro i x ρ cs' hx ⟨rfl, m, a, rfl⟩
    rw [iD_map] at hx
    unfold iV at hx
    rw [List.getElem?_map] at hx
    obtain ⟨n, hn, rfl⟩ := Option.map_eq_some_iff.mp hx
    walk_at "dl"
    exact mulR (by decide) (by decide)
  · rintro ρ cs' ⟨rfl, m, a, rfl⟩
    walk_at "dl"
    exact ⟨by decide, .inl fun p hp => .now (q p _ hp ⟨ns, 0, m, 0, rfl, by decide⟩)⟩
def sp_law_drawn : DSp := fun xs cs Q _ => ∃ (a : Addr) (n : Int) (c : CO), xs = [.cell a, .int n] ∧ cs a = some c ∧ DrSt c ∧ 0 < n ∧ n ≤ 1000000000000000000000000000000 ∧ ∀ r c', 0 ≤ r → r < n → DrSt c' → Q (.int r) (cs.put a c')
theorem len_law_drawn : ∀ xs cs Q XP, sp_law_drawn xs cs Q XP → xs.length = 2 := by rintro xs cs Q XP ⟨a, n, c, rfl, _⟩; rfl
def w_law_drawn : WS := (wSeq (wIfS (wTest (wOp wGt (wOp wIx (wVar 0) (wC (.int 3))) (wC (.int 0)))) (wSeq (wAsg (wOp wMod (wOp wIx (wVar 0) (wC (.int 3))) (wVar 1)) (gN 2))
    (wSeq (wAsg (wOp wDiv (wOp wIx (wVar 0) (wC (.int 3))) (wVar 1)) (gIx (wVar 0) (wC (.int 3))))
    (wRet (wVar 2)))) wNext)
    (wSeq (wAsg (wOp wAdd (wOp wIx (wVar 0) (wC (.int 1))) (wC (.int 1))) (gIx (wVar 0) (wC (.int 1))))
    (wSeq (wIfS (wTest (wOp wLe (wOp wIx (wVar 0) (wC (.int 1))) (wFn wLen (wCons (wOp wIx (wVar 0) (wC (.int 0))) wNil)))) (wSeq (wAsg (wOp wIx (wOp wIx (wVar 0) (wC (.int 0))) (wOp wSub (wOp wIx (wVar 0) (wC (.int 1))) (wC (.int 1)))) (gN 3))
    (wSeq (wAsg (wIf (wTest (wOp wGe (wVar 3) (wOp wPow (wC (.int 10)) (wC (.int 18))))) (wOp wDiv (wVar 3) (wVar 1)) (wC (.int 0))) (gIx (wVar 0) (wC (.int 3))))
    (wRet (wOp wMod (wVar 3) (wVar 1))))) wNext)
    (wSeq (wAsg (wOp wMod (wOp wAdd (wOp wMul (wOp wIx (wVar 0) (wC (.int 2))) (wC (.int 48271))) (wC (.int 11))) (wC (.int 2147483647))) (gIx (wVar 0) (wC (.int 2))))
    (wRet (wOp wMod (wOp wDiv (wOp wIx (wVar 0) (wC (.int 2))) (wC (.int 7))) (wVar 1)))))))
theorem pow10 (n : Nat) (h : (n : Int) ≤ 1000000) : CPow 10 (n : Int) := ⟨by omega, h, by decide⟩
theorem pure_law_drawn (K : Frag) : ∀ xs cs Q XP, sp_law_drawn xs cs Q XP → w_law_drawn (retE K Q) (startD 4 xs) cs := by
  rintro xs cs Q XP ⟨a, n, c, rfl, hc, ⟨ns, pos, seed, rest, rfl, hpos⟩, hn, hn2, q⟩
  unfold w_law_drawn
  walk_at "dl"
  simp only [hc]
  walk_at "dl"
  have m1 : ∀ x : Int, 0 ≤ x % n := fun x => Int.emod_nonneg _ (by omega)
  have m2 : ∀ x : Int, x % n < n := fun x => Int.emod_lt_of_pos _ hn
  split
  · exact ⟨hn, divOk hn hn2, .now (q _ _ (m1 _) (m2 _) ⟨ns, pos, seed, _, rfl, hpos⟩)⟩
  · split
    · rename_i h1 h2
      have hl : (List.map Vl.dat (iD ns)).length = ns.length := by simp [iD]
      rw [hl] at h2
      obtain ⟨z, hz⟩ : ∃ z, ns[pos.toNat]? = some z := ⟨_, List.getElem?_eq_getElem (by omega)⟩
      refine ⟨.int z, ?_, pow10 18 (by decide), z, rfl, ?_⟩
      · rw [show pos + 1 - 1 = pos by omega, iD_map]
        exact atI_int hpos (iV_get hz)
      · split
        · exact ⟨z, rfl, divOk hn hn2, z, rfl, hn, .now (q _ _ (m1 _) (m2 _) ⟨ns, _, seed, _, rfl, by omega⟩)⟩
        · exact ⟨z, rfl, hn, .now (q _ _ (m1 _) (m2 _) ⟨ns, _, seed, _, rfl, by omega⟩)⟩
    · exact ⟨mulR (by decide) (by decide), divOk (by decide) (by decide), hn, .now (q _ _ (m1 _) (m2 _) ⟨ns, _, _, _, rfl, by omega⟩)⟩
/-! ### random calendars and orders -/
theorem put_fresh {cs : Cells} {a p : Addr} {c c' : CO} (h : cs a = some c) (hp : cs p = none) : p ≠ a := by
  intro z; rw [z, h] at hp; cases hp
def sp_law_calendar : DSp := fun xs cs Q _ => ∃ (a : Addr) (n : Int) (c : CO), xs = [.cell a, .int n] ∧ cs a = some c ∧ DrSt c ∧ 1 ≤ n ∧ n ≤ 400 ∧ ∀ ps c', CalOk ps → (∀ p ∈ ps, p ≤ max 3 n) → ps.length ≤ 4 ∧ rat4 0 ps → DrSt c' → Q (.dat (cal ps)) (cs.put a c')
theorem len_law_calendar : ∀ xs cs Q XP, sp_law_calendar xs cs Q XP → xs.length = 2 := by rintro xs cs Q XP ⟨a, n, c, rfl, _⟩; rfl
def w_law_calendar : WS := (wSeq (wAsg (wLst (wCons (wOp wAdd (wC (.int 1)) (wCall sp_law_drawn (wCons (wVar 0) (wCons (wFn wMin2 (wCons (wC (.int 3)) (wCons (wVar 1) wNil))) wNil)))) wNil)) (gN 2))
    (wSeq (wFor (wiRng1 (wCons (wCall sp_law_drawn (wCons (wVar 0) (wCons (wC (.int 4)) wNil))) wNil)) (gN 3) (wSeq (wAsg (wOp wMul (wOp wIx (wVar 2) (wOp wSub (wC (.int 0)) (wC (.int 1)))) (wOp wAdd (wC (.int 2)) (wCall sp_law_drawn (wCons (wVar 0) (wCons (wC (.int 3)) wNil))))) (gN 4))
    (wIfS (wTest (wOp wLe (wVar 4) (wVar 1))) (wDrop (wApp (wVar 2) (wVar 4))) wNext)))
    (wRet (wFn wTuple (wCons (wVar 2) wNil)))))
theorem calFrom_snoc : ∀ {ps : List Int} {b c p : Int}, calFrom b ps → (ps.getLast?).getD b = c → c < p → p ≤ 400 → (c > 0 → p % c = 0) → calFrom b (ps ++ [p])
  | [], b, c, p, _, e, h1, h2, h3 => by
    simp at e; subst e; exact ⟨h1, h2, h3, trivial⟩
  | [a], b, c, p, h, e, h1, h2, h3 => by
    simp at e; subst e; exact ⟨h.1, h.2.1, h.2.2.1, h1, h2, h3, trivial⟩
  | a :: a2 :: r, b, c, p, h, e, h1, h2, h3 => by
    refine ⟨h.1, h.2.1, h.2.2.1, calFrom_snoc (ps := a2 :: r) h.2.2.2 ?_ h1 h2 h3⟩
    rw [List.getLast?_cons_cons] at e
    cases q : (a2 :: r).getLast? with
    | none => simp at q
    | some z => rw [q] at e; exact e
theorem rat4_snoc : ∀ {ps : List Int} {b c p : Int}, rat4 b ps → (ps.getLast?).getD b = c → p ≤ 4 * c → rat4 b (ps ++ [p])
  | [], b, c, p, _, e, h1 => by
    simp at e; subst e; exact ⟨fun _ => h1, trivial⟩
  | [a], b, c, p, h, e, h1 => by
    simp at e; subst e; exact ⟨h.1, fun _ => h1, trivial⟩
  | a :: a2 :: r, b, c, p, h, e, h1 => by
    refine ⟨h.1, rat4_snoc (ps := a2 :: r) h.2 ?_ h1⟩
    rw [List.getLast?_cons_cons] at e
    cases q : (a2 :: r).getLast? with
    | none => simp at q
    | some z => rw [q] at e; exact e
theorem iV_app (xs ys : List Int) : iV xs ++ iV ys = iV (xs ++ ys) := by simp [iV]
theorem pure_law_calendar (K : Frag) : ∀ xs cs Q XP, sp_law_calendar xs cs Q XP → w_law_calendar (retE K Q) (startD 5 xs) cs := by
  rintro xs cs Q XP ⟨a, n, c, rfl, hc, hD, hn, hn2, q⟩
  unfold w_law_calendar
  walk_at "dl"
  refine ⟨a, _, c, rfl, hc, hD, by split <;> omega, by split <;> omega, fun r c1 hr0 hr1 hD1 => ?_⟩
  walk_at "dl"
  refine ⟨by decide, .inl fun p hp => ?_⟩
  have hpa : p ≠ a := by
    intro z; rw [z, Cells.put_same] at hp; cases hp
  have hp0 : cs p = none := by rwa [Cells.put_ne hpa] at hp
  simp only [wFor, wiRng1]
  walk_at "dl"
  refine ⟨a, 4, c1, rfl, by rw [Cells.put_ne hpa.symm, Cells.put_same], hD1, by decide, by decide, fun k c2 hk0 hk1 hD2 => ?_⟩
  walk_at "dl"
  refine ⟨by omega, by omega, fun i ρ cs' => ∃ ps c', cs' = (cs.put a c').put p (.lst (iV ps)) ∧ DrSt c' ∧ (calFrom 0 ps ∧ rat4 0 ps) ∧ 1 ≤ ps.length ∧ ps.length ≤ i + 1 ∧ (∀ x ∈ ps, x ≤ max 3 n) ∧ ∃ a3 a4, ρ = [some (.cell a), some (.int n), some (.cell p), a3, a4], ?_, fun _ _ _ _ _ => trivial, ?_, ?_⟩
  · refine ⟨[1 + r], c2, ?_, hD2, ⟨⟨by omega, by split at hr1 <;> omega, fun z => absurd z (by decide), trivial⟩, fun z => absurd z (by decide), trivial⟩, by simp, by simp, by simp; split at hr1 <;> omega, _, _, rfl⟩
    rw [Cells.put_comm hpa, Cells.put_put]; rfl
  · rintro i x ρ cs' hx ⟨ps, c', rfl, hD', ⟨hcf, hrt⟩, hl1, hl2, hall, a3, a4, rfl⟩
    obtain ⟨hi, rfl⟩ := rangeD_at hx
    have hne : ps ≠ [] := by intro z; subst z; simp at hl1
    have hlast : ps.getLast? = some (ps.getLast hne) := List.getLast?_eq_some_getLast hne
    generalize hz : ps.getLast hne = z at hlast
    have hzm : z ∈ ps := List.mem_of_getLast? hlast
    have hza := calFrom_all (Int.le_refl 0) hcf z hzm
    walk_at "dl"
    refine ⟨.int z, atI_last (by unfold iV; rw [List.getLast?_map, hlast]; rfl), ?_⟩
    refine ⟨a, 3, c', rfl, by rw [Cells.put_ne hpa.symm, Cells.put_same], hD', by decide, by decide, fun r2 c3 hr20 hr21 hD3 => ?_⟩
    rw [Cells.put_comm hpa, Cells.put_put]
    walk_at "dl"
    refine ⟨mulL (by omega) (by omega), ?_⟩
    split
    · rename_i hle
      refine ⟨by rw [iV_len]; omega, ps ++ [z * (2 + r2)], c3, ?_, hD3, ?_, ?_, by simp, by simp; omega, ?_⟩
      · rw [← iV_app]; rfl
      · refine calFrom_snoc hcf (c := z) (by rw [hlast]; rfl) ?_ (by omega) (fun _ => by simp)
        have : z * 1 < z * (2 + r2) := Int.mul_lt_mul_of_pos_left (by omega) hza.1
        omega
      · refine rat4_snoc hrt (c := z) (by rw [hlast]; rfl) ?_
        have : z * (2 + r2) ≤ z * 4 := Int.mul_le_mul_of_nonneg_left (by omega) (by omega)
        omega
      · intro x hx
        rcases List.mem_append.mp hx with y | y
        · exact hall x y
        · simp at y; rw [y]; omega
    · exact ⟨ps, c3, rfl, hD3, hcf, hrt, hl1, by omega, hall⟩
  · rintro ρ cs' ⟨ps, c', rfl, hD', ⟨hcf, hrt⟩, hl1, hl2, hall, a3, a4, rfl⟩
    rw [rangeD_len] at hl2
    walk_at "dl"
    refine ⟨_, allDat_iV ps, ?_⟩
    refine .drop (SubC.put (by rw [Cells.put_ne hpa]; exact hp0)) (q ps c' ⟨hl1, by omega, hcf⟩ hall ⟨by omega, hrt⟩ hD')
def sp_law_order : DSp := fun xs cs Q _ => ∃ (a : Addr) (ps : List Int) (n : Int) (c : CO), xs = [.cell a, .dat (cal ps), .int n] ∧ cs a = some c ∧ DrSt c ∧ CalOk ps ∧ 0 < n ∧ n ≤ 1000000000000000000000000000000 ∧
  ∀ o c', ordB ps o = true → -n ≤ o.2.2 → o.2.2 ≤ n → DrSt c' → Q (.dat (ord o)) (cs.put a c')
theorem len_law_order : ∀ xs cs Q XP, sp_law_order xs cs Q XP → xs.length = 3 := by rintro xs cs Q XP ⟨a, ps, n, c, rfl, _⟩; rfl
def w_law_order : WS := (wSeq (wAsg (wOp wIx (wVar 1) (wCall sp_law_drawn (wCons (wVar 0) (wCons (wFn wLen (wCons (wVar 1) wNil)) wNil)))) (gN 3))
    (wSeq (wAsg (wOp wAdd (wCall sp_law_drawn (wCons (wVar 0) (wCons (wVar 2) wNil))) (wC (.int 1))) (gN 4))
    (wRet (wTup (wCons (wVar 3) (wCons (wCall sp_law_drawn (wCons (wVar 0) (wCons (wVar 3) wNil))) (wCons (wIf (wTest (wOp (wEqD false) (wCall sp_law_drawn (wCons (wVar 0) (wCons (wC (.int 2)) wNil))) (wC (.int 0)))) (wVar 4) (wOp wSub (wC (.int 0)) (wVar 4))) wNil)))))))
theorem pure_law_order (K : Frag) : ∀ xs cs Q XP, sp_law_order xs cs Q XP → w_law_order (retE K Q) (startD 5 xs) cs := by
  rintro xs cs Q XP ⟨a, ps, n, c, rfl, hc, hD, hcal, hn, hn2, q⟩
  have C := cal_cyc hcal
  have hcl := C.le
  obtain ⟨hl1, hl5, hcf⟩ := id hcal
  unfold w_law_order
  walk_at "dl"
  refine ⟨_, _, seqD_cal, ?_⟩
  rw [iV_len]
  refine ⟨a, _, c, rfl, hc, hD, by omega, by omega, fun r c1 hr0 hr1 hD1 => ?_⟩
  obtain ⟨p, hp⟩ : ∃ p, ps[r.toNat]? = some p := ⟨_, List.getElem?_eq_getElem (by omega)⟩
  obtain ⟨p1, p2, p3⟩ := C.per p (List.mem_of_getElem? hp)
  walk_at "dl"
  refine ⟨_, _, seqD_cal, _, atI_int hr0 (iV_get hp), ?_⟩
  refine ⟨a, n, c1, rfl, Cells.put_same, hD1, hn, hn2, fun r2 c2 h20 h21 hD2 => ?_⟩
  walk_at "dl"
  refine ⟨a, p, c2, rfl, Cells.put_same, hD2, p1, by omega, fun r3 c3 h30 h31 hD3 => ?_⟩
  walk_at "dl"
  refine ⟨a, 2, c3, rfl, Cells.put_same, hD3, by decide, by decide, fun r4 c4 h40 h41 hD4 => ?_⟩
  walk_at "dl"
  split
  · exact ⟨by decide, .now (q (p, r3, r2 + 1) c4 (ordB_iff.mpr ⟨List.mem_of_getElem? hp, h30, h31, by show r2 + 1 ≠ 0; omega⟩) (by show -n ≤ r2 + 1; omega) (by show r2 + 1 ≤ n; omega) hD4)⟩
  · exact ⟨by decide, .now (q (p, r3, 0 - (r2 + 1)) c4 (ordB_iff.mpr ⟨List.mem_of_getElem? hp, h30, h31, by show 0 - (r2 + 1) ≠ 0; omega⟩) (by show -n ≤ 0 - (r2 + 1); omega) (by show 0 - (r2 + 1) ≤ n; omega) hD4)⟩
def sp_law_orders : DSp := fun xs cs Q _ => ∃ (a : Addr) (ps : List Int) (m n : Int) (c : CO), xs = [.cell a, .dat (cal ps), .int m, .int n] ∧ cs a = some c ∧ DrSt c ∧ CalOk ps ∧ 0 ≤ m ∧ m ≤ 1000 ∧ 0 < n ∧ n ≤ 1000000000000000000000000000000 ∧
  ∀ os c', OrdsOk ps os → (∀ o ∈ os, -n ≤ o.2.2 ∧ o.2.2 ≤ n) → (os.length : Int) ≤ m → DrSt c' → Q (.dat (.lst (ordsD os))) (cs.put a c')
theorem len_law_orders : ∀ xs cs Q XP, sp_law_orders xs cs Q XP → xs.length = 4 := by rintro xs cs Q XP ⟨a, ps, m, n, c, rfl, _⟩; rfl
def w_law_orders : WS := (wRet (wLc (wiRng1 (wCons (wCall sp_law_drawn (wCons (wVar 0) (wCons (wOp wAdd (wVar 2) (wC (.int 1))) wNil))) wNil)) (gN 4) wYes (wCall sp_law_order (wCons (wVar 0) (wCons (wVar 1) (wCons (wVar 3) wNil)))) [4]))
theorem ordsD_map (os : List Ord) : (ordsD os).map Vl.dat = os.map fun o => .dat (ord o) := by simp [ordsD]
theorem pure_law_orders (K : Frag) : ∀ xs cs Q XP, sp_law_orders xs cs Q XP → w_law_orders (retE K Q) (startD 5 xs) cs := by
  rintro xs cs Q XP ⟨a, ps, m, n, c, rfl, hc, hD, hcal, hm0, hm, hn, hn2, q⟩
  unfold w_law_orders
  walk_at "dl"
  simp only [wLc, wiRng1]
  walk_at "dl"
  refine ⟨a, _, c, rfl, hc, hD, by omega, by omega, fun k c1 hk0 hk1 hD1 => ?_⟩
  walk_at "dl"
  refine ⟨by omega, by omega, fun D hD0 => ?_⟩
  have hDa : D ≠ a := by
    intro z; rw [z, Cells.put_same] at hD0; cases hD0
  have hD0' : cs D = none := by rwa [Cells.put_ne hDa] at hD0
  refine ⟨fun i cs' => ∃ os c', cs' = (cs.put a c').put D (.lst ((ordsD os).map .dat)) ∧ DrSt c' ∧ OrdsOk ps os ∧ (∀ o ∈ os, -n ≤ o.2.2 ∧ o.2.2 ≤ n) ∧ os.length = i, ⟨[], c1, rfl, hD1, fun _ h => by simp at h, fun _ h => by simp at h, rfl⟩, fun _ _ _ _ => trivial, ?_, ?_⟩
  · rintro i x cs' hx ⟨os, c', rfl, hD', ho, hb, hl⟩
    obtain ⟨hi, rfl⟩ := rangeD_at hx
    simp only [wipeD]
    walk_at "dl"
    refine ⟨a, ps, n, c', rfl, by rw [Cells.put_ne hDa.symm, Cells.put_same], hD', hcal, hn, hn2, fun o c2 h1 h2 h3 h4 => ?_⟩
    rw [Cells.put_comm hDa, Cells.put_put]
    walk_at "dl"
    refine ⟨by simp [ordsD]; omega, os ++ [o], c2, by simp [ordsD], h4, fun o' h' => ?_, fun o' h' => ?_, by simp [hl]⟩
    · rcases List.mem_append.mp h' with z | z
      · exact ho o' z
      · simp at z; rw [z]; exact h1
    · rcases List.mem_append.mp h' with z | z
      · exact hb o' z
      · simp at z; rw [z]; exact ⟨h2, h3⟩
  · rintro cs' ⟨os, c', rfl, hD', ho, hb, hl⟩
    rw [rangeD_len] at hl
    refine ⟨_, Cells.put_same, .inr ⟨_, allDat_map _, ?_⟩⟩
    rw [Cells.del_put (by rw [Cells.put_ne hDa]; exact hD0')]
    exact .now (q os c' ho hb (by omega) hD')
/-! ### _law_same: equal data are the same -/
def sp_law_same : Nat → DSp
  | 0 => fun _ _ _ _ => False
  | n + 1 => fun xs cs Q _ => ∃ (x y : Vl) (d : Dat), xs = [x, y] ∧ seen cs x = some d ∧ seen cs y = some d ∧ d.lv n ∧ n ≤ 10 ∧ Q (.bl true) cs
theorem len_law_same {n : Nat} : ∀ xs cs Q XP, sp_law_same (n + 1) xs cs Q XP → xs.length = 2 := by rintro xs cs Q XP ⟨x, y, d, rfl, _⟩; rfl
def w_law_same (n : Nat) : WS := (wSeq (wIfS (wTest (wIsi2 .tuple .list (wVar 1))) (wSeq (wIfS (wOr (wNot (wTest (wIsi2 .tuple .list (wVar 0)))) (wTest (wOp (wEqD true) (wIsi .list (wVar 0)) (wIsi .list (wVar 1))))) (wRet (wC (.bl false))) wNext)
    (wSeq (wIfS (wTest (wOp (wEqD true) (wFn wLen (wCons (wVar 0) wNil)) (wFn wLen (wCons (wVar 1) wNil)))) (wRet (wC (.bl false))) wNext)
    (wRet (wOp (wEqD false) (wLc (wiRng1 (wCons (wFn wLen (wCons (wVar 1) wNil)) wNil)) (gN 2) (wNot (wTest (wCall (sp_law_same n) (wCons (wOp wIx (wVar 0) (wVar 2)) (wCons (wOp wIx (wVar 1) (wVar 2)) wNil))))) (wVar 2) [2]) (wLst wNil))))) wNext)
    (wSeq (wIfS (wTest (wOp (wEqD true) (wIsi .bool (wVar 0)) (wIsi .bool (wVar 1)))) (wRet (wC (.bl false))) wNext)
    (wRet (wAndV (wOp (wEqD false) (wIsi .int (wVar 0)) (wIsi .int (wVar 1))) (wOp (wEqD false) (wVar 0) (wVar 1))))))
theorem seen_lstI {cs : Cells} {x : Vl} {ds : List Dat} (h : seen cs x = some (.lst ds)) : seqD cs x = some (true, ds.map .dat) ∧ tyD cs x = some .list := by
  match x, h with
  | .dat d, h => cases h; exact ⟨rfl, rfl⟩
  | .raw (.ref a), h =>
    have h : coDat (cs a) = some (.lst ds) := h
    cases e : cs a with
    | none => rw [e] at h; cases h
    | some c =>
      rw [e] at h
      cases c with
      | lst xs =>
        obtain ⟨es, e1, e2⟩ := Option.map_eq_some_iff.mp (show (allDat xs).map Dat.lst = some (.lst ds) from h)
        cases e2
        rw [seqD_cell, tyD_cell, e, coSeq_lst, coTy_lst, allDat_eq e1]
        exact ⟨rfl, rfl⟩
      | _ => cases h
theorem seen_else {cs : Cells} {x : Vl} {d : Dat} (h : seen cs x = some d) (hd : ∀ ds, d ≠ .lst ds) : x = .dat d := by
  match x, h with
  | .dat d', h => cases h; rfl
  | .raw (.ref a), h =>
    have h : coDat (cs a) = some d := h
    cases e : cs a with
    | none => rw [e] at h; cases h
    | some c =>
      rw [e] at h
      cases c with
      | lst xs =>
        obtain ⟨es, e1, e2⟩ := Option.map_eq_some_iff.mp (show (allDat xs).map Dat.lst = some d from h)
        exact absurd e2.symm (hd _)
      | _ => cases h
theorem seqD_put {cs : Cells} {x : Vl} {D : Addr} {c : CO} {r : Bool × List Vl} (hD : cs D = none) (h : seqD cs x = some r) : seqD (cs.put D c) x = some r := by
  match x, h with
  | .dat d, h => cases d <;> exact h
  | .raw (.ref a), h =>
    have h : coSeq (cs a) = some r := h
    show coSeq (cs.put D c a) = some r
    rw [Cells.put_ne (by intro z; rw [z, hD] at h; cases h)]
    exact h
theorem lst_nil_lv : (Dat.lst []).lv 1 := ⟨by decide, fun x h => by simp at h⟩
theorem same_seq {K : Frag} {n : Nat} {x y : Vl} {b : Bool} {ds : List Dat} {cs : Cells} {P : Vl → Cells → Prop} (hx : seqD cs x = some (b, ds.map .dat)) (hy : seqD cs y = some (b, ds.map .dat)) (hz : ds.length ≤ 16777216) (hlv : ∀ d ∈ ds, d.lv (n - 1)) (h1 : ds ≠ [] → 1 ≤ n) (hn : n ≤ 10) (q : P (.bl true) cs) :
    wOp (wEqD false) (wLc (wiRng1 (wCons (wFn wLen (wCons (wVar 1) wNil)) wNil)) (gN 2) (wNot (wTest (wCall (sp_law_same n) (wCons (wOp wIx (wVar 0) (wVar 2)) (wCons (wOp wIx (wVar 1) (wVar 2)) wNil))))) (wVar 2) [2]) (wLst wNil) [some x, some y, none] cs P := by
  walk_at "dl"
  simp only [wLc, wiRng1]
  walk_at "dl"
  refine ⟨_, _, hy, by omega, by rw [List.length_map]; omega, fun D hD => ?_⟩
  refine ⟨fun i cs' => cs' = cs.put D (.lst []), rfl, fun _ _ _ _ => trivial, ?_, ?_⟩
  · rintro i v cs' hv rfl
    obtain ⟨hi, rfl⟩ := rangeD_at hv
    rw [Int.toNat_natCast, List.length_map] at hi
    have hne : ds ≠ [] := by intro z; subst z; simp at hi
    obtain ⟨d, hd⟩ : ∃ d, ds[i]? = some d := ⟨_, List.getElem?_eq_getElem hi⟩
    have hdm : (ds.map Vl.dat)[i]? = some (.dat d) := by rw [List.getElem?_map, hd]; rfl
    simp only [wipeD]
    walk_at "dl"
    simp only [Int.mul_one, Int.zero_add]
    refine ⟨_, _, seqD_put hD hx, _, atI_nat hdm, _, _, seqD_put hD hy, _, atI_nat hdm, ?_⟩
    have := h1 hne
    obtain ⟨m, rfl⟩ : ∃ m, n = m + 1 := ⟨n - 1, by omega⟩
    refine ⟨_, _, d, rfl, rfl, rfl, hlv d (List.mem_of_getElem? hd), by omega, ?_⟩
    walk_at "dl"
  · rintro cs' rfl
    refine ⟨_, Cells.put_same, .inr ⟨[], rfl, ?_⟩⟩
    rw [Cells.del_put hD]
    walk_at "dl"
    refine ⟨by decide, .inr ⟨[], rfl, ?_⟩⟩
    exact wEq_of 1 (by decide) rfl rfl lst_nil_lv lst_nil_lv (fun _ => q) (fun z => absurd rfl z)
theorem pure_law_same (K : Frag) (n : Nat) : ∀ xs cs Q XP, sp_law_same (n + 1) xs cs Q XP → w_law_same n (retE K Q) (startD 3 xs) cs := by
  rintro xs cs Q XP ⟨x, y, d, rfl, hx, hy, hlv, hn, q⟩
  unfold w_law_same
  have fin := @same_seq K n x y
  generalize hw : wOp (wEqD false) (wLc (wiRng1 (wCons (wFn wLen (wCons (wVar 1) wNil)) wNil)) (gN 2) (wNot (wTest (wCall (sp_law_same n) (wCons (wOp wIx (wVar 0) (wVar 2)) (wCons (wOp wIx (wVar 1) (wVar 2)) wNil))))) (wVar 2) [2]) (wLst wNil) = W at fin
  cases d with
  | lst ds =>
    obtain ⟨x1, x2⟩ := seen_lstI hx
    obtain ⟨y1, y2⟩ := seen_lstI hy
    cases n with
    | zero => exact (show False from hlv).elim
    | succ n =>
      obtain ⟨hz, hl⟩ := hlv
      walk_at "dl"
      refine ⟨_, y2, ?_⟩
      walk_at "dl"
      refine ⟨_, x2, ?_⟩
      walk_at "dl"
      refine ⟨_, x2, _, y2, ?_⟩
      walk_at "dl"
      refine ⟨_, _, x1, _, _, y1, ?_⟩
      walk_at "dl"
      exact fin x1 y1 hz hl (fun _ => by omega) (by omega) (.now q)
  | tup ds =>
    have ex := seen_else hx (fun _ z => by cases z)
    have ey := seen_else hy (fun _ z => by cases z)
    subst ex ey
    cases n with
    | zero => exact (show False from hlv).elim
    | succ n =>
      obtain ⟨hz, hl⟩ := hlv
      walk_at "dl"
      exact fin rfl rfl hz hl (fun _ => by omega) (by omega) (.now q)
  | non =>
    have ex := seen_else hx (fun _ z => by cases z)
    have ey := seen_else hy (fun _ z => by cases z)
    subst ex ey
    walk_at "dl"
    exact wEq_of 1 (by decide) rfl rfl trivial trivial (fun _ => .now q) (fun z => absurd rfl z)
  | int i =>
    have ex := seen_else hx (fun _ z => by cases z)
    have ey := seen_else hy (fun _ z => by cases z)
    subst ex ey
    walk_at "dl"
    exact .now q
  | str z =>
    have ex := seen_else hx (fun _ z => by cases z)
    have ey := seen_else hy (fun _ z => by cases z)
    subst ex ey
    walk_at "dl"
    have h1 : (Dat.str z).lv 1 := by cases n <;> exact hlv
    exact wEq_of 1 (by decide) rfl rfl h1 h1 (fun _ => .now q) (fun z => absurd rfl z)
  | bl b => cases n <;> exact (show False from hlv).elim
  | obj C fs => cases n <;> exact (show False from hlv).elim
end DL
set_option maxRecDepth 100000
set_option maxHeartbeats 4000000
/-! Generators once more: what the one who wakes one knows (Hands), generators that walk generators, foreign pins. -/
namespace GN
open PySem L2 PySem.Spec PyProof.Rows GenW DL GT
/-! ### what slept in s sleeps on, through several steps -/
structure Sl (s s₁ s' : Shared) : Prop where
  eq : s' = thaw (real s) s₁
  good : Good (real s) s₁
  sz : s.gens.size ≤ s'.gens.size
theorem Sl.slept {s s₁ s' : Shared} (h : Sl s s₁ s') : Slept s s₁ s' := by rw [h.eq]; exact slept_of h.good
theorem wpAny_sl2 {α : Type} {M : Model} {A : Around} {t : Sem α} {Q : α → Shared → Prop} {E : Value → Shared → Prop} {s s₁ s' : Shared} (sl : Sl s s₁ s') (h : wpAny M A t Q E s₁) :
    wpAny M A t (fun a s2 => ∃ s3, Sl s s3 s2 ∧ Q a s3) (fun e s2 => ∃ s3, Sl s s3 s2 ∧ E e s3) s' := by
  refine wpAny_gsz sl.sz ?_
  intro Γ p hΓ
  have := wp_thaw (R := real s) t _ _ p s₁ sl.good (h Γ p hΓ)
  rw [← sl.eq] at this
  refine Sem.wp_mono M Γ t ?_ ?_ p s' this
  · rintro a p' s2 ⟨s3, rfl, G, q⟩ hz; exact ⟨s3, ⟨rfl, G, hz⟩, q⟩
  · rintro a p' s2 ⟨s3, rfl, G, q⟩ hz; exact ⟨s3, ⟨rfl, G, hz⟩, q⟩
theorem Sl.start (s : Shared) : Sl s (deafen s) s := ⟨(thaw_deafen s).symm, good_deafen s, Nat.le_refl _⟩
theorem wpAny_sl {α : Type} {M : Model} {A : Around} {t : Sem α} {Q : α → Shared → Prop} {E : Value → Shared → Prop} {s : Shared} (h : wpAny M A t Q E (deafen s)) :
    wpAny M A t (fun a s2 => ∃ s3, Sl s s3 s2 ∧ Q a s3) (fun e s2 => ∃ s3, Sl s s3 s2 ∧ E e s3) s := wpAny_sl2 (Sl.start s) h
/-- what the one who wakes it knows of it: where it was made -/
structure GC where
  P : Program
  w : World
  K : PySem.W.Frag
  mg : Str → Option Value
  base : Heap
  k : Nat
  outer : List Env
  L : Addr
  self : Addr × Obj
  g : Nat
  loc : Addr
/-- what stood when it was woken; fp: what must stay -/
structure Gh where
  s : Shared
  H : Hp
  M : Hp
  cs : Cells
  fp : List (Addr × Obj)
structure Wake (C : GC) (A : Around) (Gd : Cells → Prop) (M : Hp) (pv : List (Addr × Obj)) (gv : List (Nat × GenState)) (y : Gh) : Prop where
  room : Room C.k A
  env : Env0 C.P C.w C.K C.mg C.base A C.outer y.s y.H
  same : Same M y.M
  ok : Ok C.K y.M y.H y.cs
  gd : Gd y.cs
  dis : ∀ p ∈ pv, ∀ q ∈ y.fp, q.1 ≠ p.1
  pv : ∀ p ∈ pv, y.s.heap.get? p.1 = some p.2 ∧ y.H p.1 = none
  gv : ∀ p ∈ gv, y.s.gens[p.1]? = some p.2
  gz : C.g < y.s.gens.size
  fp : ∀ p ∈ y.fp, y.s.heap.get? p.1 = some p.2 ∧ y.H p.1 = none ∧ p.1 ≠ C.loc ∧ p.1 ∉ frs C.outer ∧ ∀ v, p.2.data ≠ .cell v
structure Left (C : GC) (y : Gh) (s' : Shared) (H' M' : Hp) : Prop where
  os : s'.os = y.s.os
  bare : AllBare s'.gens
  un : Un (frs C.outer) (young C.L y.s.heap) y.H H' y.s.heap s'.heap
  hok : HOk C.P C.w H' s'.heap
  same : Same y.M M'
  ok : Ok C.K M' H' y.cs
  fp : ∀ p ∈ y.fp, s'.heap.get? p.1 = some p.2 ∧ H' p.1 = none
structure PvOk (C : GC) (y : Gh) (pv : List (Addr × Obj)) (s' : Shared) (H' : Hp) : Prop where
  at_ : ∀ p ∈ pv, s'.heap.get? p.1 = some p.2 ∧ H' p.1 = none ∧ C.L ≤ p.1 ∧ ∀ v, p.2.data ≠ .cell v
  self : C.self ∈ pv
  loc : ∃ o, (C.loc, o) ∈ pv
  dis : ∀ p ∈ pv, ∀ q ∈ y.fp, q.1 ≠ p.1
structure GvOk (g : Nat) (gv : List (Nat × GenState)) (s' : Shared) : Prop where
  sz : g < s'.gens.size
  at_ : ∀ p ∈ gv, g < p.1 ∧ s'.gens[p.1]? = some p.2 ∧ susp p.2 = true
/-- how it ends behind what it hands out: nobody asks; it returns -/
inductive GEnd where
  | cut
  | done
def HEnd (C : GC) (y : Gh) (e : End) (s' : Shared) : GEnd → Prop
  | .cut => False
  | .done => (e = .ret (.ok (.ret .none)) ∨ e = .ret (.ok .next)) ∧ ∃ H' M', Left C y s' H' M'
/-- it was woken in y, and came to e in s': as it must if it has xs to hand out -/
def HZ (C : GC) (Gd : Cells → Prop) (fin : GEnd) : List Dat → Around → Gh → End → Shared → Prop
  | [], _, y, e, s' => HEnd C y e s' fin
  | d :: r, _, y, e, s' => ∃ v g l k c p fs, e = .susp v g l k c p fs ∧ e.quiet = true ∧ ∃ H' M' pv gv x, Left C y s' H' M' ∧ RelV x v ∧ Dr C.K M' x d ∧ PvOk C y pv s' H' ∧ GvOk C.g gv s' ∧
      ((r = [] ∧ fin = .cut) ∨ ∀ A2 y2, Wake C A2 Gd M' pv gv y2 → Wk (model C.P C.w) A2 (HZ C Gd fin r A2 y2) (End.susp v g l k c p fs).genState y2.s)
/-- in the state gs it has ds to hand out -/
def Hands (C : GC) (Gd : Cells → Prop) (fin : GEnd) (ds : List Dat) (M : Hp) (pv : List (Addr × Obj)) (gv : List (Nat × GenState)) (gs : GenState) : Prop :=
  (ds = [] ∧ fin = .cut) ∨ ∀ A y, Wake C A Gd M pv gv y → Wk (model C.P C.w) A (HZ C Gd fin ds A y) gs y.s
theorem hz_ends {C : GC} {Gd : Cells → Prop} {fin : GEnd} {ds : List Dat} {A : Around} {y : Gh} {e : End} {s' : Shared} (h : HZ C Gd fin ds A y e s') : e.quiet = true ∧ ((∃ v gd l k c p fs, e = .susp v gd l k c p fs) ∨ e = .ret (.ok (.ret .none)) ∨ e = .ret (.ok .next)) := by
  cases ds with
  | nil =>
    cases fin with
    | cut => exact (show False from h).elim
    | done =>
      obtain ⟨z, _⟩ := h
      rcases z with z | z <;> subst z
      · exact ⟨rfl, .inr (.inl rfl)⟩
      · exact ⟨rfl, .inr (.inr rfl)⟩
  | cons d r =>
    obtain ⟨v, g, l, k, c, p, fs, rfl, q, _⟩ := h
    exact ⟨q, .inl ⟨v, g, l, k, c, p, fs, rfl⟩⟩
/-! ### its own context -/
structure GP where
  P : Program
  w : World
  K : PySem.W.Frag
  mg : Str → Option Value
  base : Heap
  N : List Str
  env : Env
  outer : List Env
  k : Nat
  self : Addr × Obj
  g : Nat
  L : Addr
  Z : List (Nat × GenState) → Prop := fun _ => True
abbrev GP.C (G : GP) : GC := ⟨G.P, G.w, G.K, G.mg, G.base, G.k, G.outer, G.L, G.self, G.g, G.env.locals⟩
def GP.X (G : GP) (A : Around) (s : Shared) (H : Hp) : Cx where
  prog := G.P
  w := G.w
  K := G.K
  mg := G.mg
  base := G.base
  A := A.deeper G.env
  N := G.N
  s_0 := s
  H_0 := H
  env := G.env
  outer := G.outer
  stack := G.env :: G.outer
  ex := []
  calm := true
  fn := fun _ => true
  pn := [G.self]
  xe := fun _ _ => False
theorem rebase {G : GP} {A A2 : Around} {s₀ s s2 : Shared} {H₀ H H2 : Hp} {ip ip2 : List (Addr × Obj)} {σ : L2.St} (hz : s₀.heap.objs.size = G.L) (hle : G.L ≤ G.env.locals) (hcl : G.env.cells = []) (I : Inv (G.X A s₀ H₀) ip σ H s) (hfrm : G.env.frame = some G.env.locals) (hd2 : A2.handled = none) (hdf : (A2.deeper G.env).handled = none)
    (e0 : Env0 G.P G.w G.K G.mg G.base A2 G.outer s2 H2) (hL : ∀ o, s.heap.get? G.env.locals = some o → s2.heap.get? G.env.locals = some o) (hLH : H2 G.env.locals = none) (hp : ∀ p ∈ G.self :: ip2, s2.heap.get? p.1 = some p.2 ∧ H2 p.1 = none ∧ p.1 ≠ G.env.locals ∧ p.1 ∉ frs G.outer ∧ ∀ v, p.2.data ≠ .cell v)
    (hfr2 : (A2.deeper G.env).frames = some (G.env :: G.outer)) :
    Inv (G.X A2 (cutS G.L s2) H2) ip2 σ H2 s2 := by
  obtain ⟨m, hns, hloc⟩ := I.loc
  obtain ⟨oL, es, ep, hoL, hrest⟩ := id hns
  have hLlt : G.L < s2.heap.objs.size := Nat.lt_of_le_of_lt hle (Heap.lt_size (hL oL hoL))
  have hsz : (cutS G.L s2).heap.objs.size = G.L := cut_size (Nat.le_of_lt hLlt)
  have hfr : ∀ b ∈ frs G.outer, b < G.L := fun b hb => by
    obtain ⟨_, o, e, _⟩ := I.ok.funs.mem hb
    have := Heap.lt_size e
    rw [← hz]; exact this
  have nocell : ∀ x c, ¬ G.env.cells.lookup x = some c := fun x c h => by rw [hcl] at h; cases h
  refine ⟨⟨I.ok.mod, I.ok.kind, I.ok.glob, I.ok.blt, ?_, fun x y c h => (nocell x c h).elim, I.ok.has, fun x c _ h => (nocell x c h).elim, fun _ => hdf, hfr2, .inr ⟨rfl, hfrm⟩, fun b hb => absurd hb (by simp [GP.X]), fun b o e => ?_, ?_, fun b o e h => absurd h (by simp [GP.X]), fun b hb => absurd hb (by simp [GP.X]), ?_, e0.frf⟩, rfl, e0.bare, ?_, ⟨m, ⟨oL, es, ep, hL oL hoL, hrest⟩, fun i x v h1 h2 h3 => ?_⟩, fun x c h => (nocell x c h).elim, hLH, fun x c h => (nocell x c h).elim, fun p hp' => ?_, e0.hok, I.len⟩
  · show (cutS G.L s2).heap.objs.size ≤ G.env.locals
    rw [hsz]; exact hle
  · have hb : b < G.L := by
      have h1 := Heap.lt_size (I.ok.bs b o e).1
      exact Nat.lt_of_lt_of_eq h1 hz
    exact ⟨by show (cut G.L s2.heap).get? b = _; rw [cut_lt hb]; exact (e0.bs b o e).1, (e0.bs b o e).2⟩
  · show G.base.objs.size ≤ (cutS G.L s2).heap.objs.size
    rw [hsz, ← hz]; exact I.ok.bsz
  · exact funs_cut e0.funs hfr
  · refine ⟨fun b o e _ _ _ => (cut_some e).2, fun b o e _ _ _ => ⟨o.slots, (cut_some e).2⟩, fun b o _ n _ => n, fun b o e _ => ⟨o, (cut_some e).2⟩, fun _ _ q => q, fun _ _ _ q => q, fun b ps q => ⟨#[], by rw [show H2 b = some (HO.tbl ps) from q]; simp⟩⟩
  · obtain ⟨u, r, look⟩ := hloc i x v h1 h2 h3
    refine ⟨u, r, ?_⟩
    rcases look with look | ⟨_, c, hc, _⟩
    · exact .inl look
    · exact (nocell x c hc).elim
  · exact hp p hp'
theorem un_woken {G : GP} {A : Around} {s2 s' : Shared} {H2 H' : Hp} {ip : List (Addr × Obj)} {σ : L2.St} (I : Inv (G.X A (cutS G.L s2) H2) ip σ H' s') : Un (frs G.outer) (young G.L s2.heap) H2 H' s2.heap s'.heap := by
  have old : ∀ b o, s2.heap.get? b = some o → b ∉ young G.L s2.heap → (cut G.L s2.heap).get? b = some o := fun b o e hb => by
    have hlt : b < G.L := by
      apply Decidable.byContradiction
      intro z
      exact hb (mem_young.mpr ⟨Heap.lt_size e, Nat.le_of_not_lt z⟩)
    rw [cut_lt hlt]; exact e
  exact ⟨fun b o e n h1 h2 => I.base.keep b o (old b o e h2) n h1 (by simp [GP.X]), fun b o e n h1 h2 => I.base.slot b o (old b o e h2) n h1 (by simp [GP.X]), fun b o e n h2 => I.base.free b o (old b o e h2) n (by simp [GP.X]),
    fun b o e h2 => I.base.there b o (old b o e h2) (by simp [GP.X]), I.base.tups, I.base.frzs, I.base.tbls⟩
/-- running -/
def Dis (G : GP) (ip : List (Addr × Obj)) (y : Gh) : Prop := ∀ p ∈ G.self :: ip, ∀ q ∈ y.fp, q.1 ≠ p.1
def RunG (G : GP) (A : Around) (Mk : Hp) (y : Gh) (ip : List (Addr × Obj)) (gv : List (Nat × GenState)) (ρ : DEnv) (cs : Cells) (s : Shared) : Prop :=
  ∃ σ H M, Inv (G.X A (cutS G.L y.s) y.H) (ip ++ y.fp) σ H s ∧ Same Mk M ∧ Same y.M M ∧ Ok G.K M H cs ∧ Rho G.K M σ ρ ∧ GvOk G.g gv s ∧ Dis G ip y
abbrev GDs := GT.GDs
abbrev WGn := GT.WGn
def GSPd (G : GP) (A : Around) (Mk : Hp) (y : Gh) (ip : List (Addr × Obj)) (gv : List (Nat × GenState)) (D : GDs) (xs : List Dat) (f : Flow) (s : Shared) : Prop :=
  match f with
  | .next => ∃ ρ cs, RunG G A Mk y ip gv ρ cs s ∧ D.nx xs y.cs ρ cs
  | .brk => ∃ ρ cs, RunG G A Mk y ip gv ρ cs s ∧ D.bk xs y.cs ρ cs
  | .cont => ∃ ρ cs, RunG G A Mk y ip gv ρ cs s ∧ D.ct xs y.cs ρ cs
  | .ret u => ∃ v x σ H M cs, Inv (G.X A (cutS G.L y.s) y.H) (ip ++ y.fp) σ H s ∧ Same Mk M ∧ Same y.M M ∧ Ok G.K M H cs ∧ RelV v u ∧ RV G.K M v x ∧ D.rt xs y.cs x cs
/-- where its code stands -/
structure GCd (G : GP) (ip : List (Addr × Obj)) (gv : List (Nat × GenState)) (c : Code) (fs : List Frame) (gd : Bool → Bool) : Prop where
  cells : G.env.cells = []
  frm : G.env.frame = some G.env.locals
  kd : G.env.scope.kind = .function
  z : G.Z gv
  le : G.L ≤ G.env.locals
  yng : ∀ p ∈ G.self :: ip, G.L ≤ p.1
  over : ∀ A : Around, A.over c fs = A.deeper G.env
  split : splitAtGen fs = none
  guard : fs.any Frame.guarded = false
  gd : gd false = false
def Lg (G : GP) (y : Gh) : Prop := G.L ≤ y.s.heap.objs.size
abbrev Rm (G : GP) (A : Around) : Prop := Room G.k A
def GKd (G : GP) (Gd : Cells → Prop) (fin : GEnd) (Mk : Hp) (ip : List (Addr × Obj)) (gv : List (Nat × GenState)) (c : Code) (fs : List Frame) (K : Flow → Sem PySem.Fin) (D : GDs) : Prop :=
  ∀ (A : Around) (y : Gh) (xs : List Dat) (s : Shared) (f : Flow), Rm G A → Lg G y → GSPd G A Mk y ip gv D xs f s → SegZ (model G.P G.w) A (HZ G.C Gd fin xs A y) c (K f) fs s
structure DGS (G : GP) (Gd : Cells → Prop) (fin : GEnd) (st : Stmt) (t : WGn) : Prop where
  run : ∀ (A : Around) (Mk : Hp) (y : Gh) (ip : List (Addr × Obj)) (gv : List (Nat × GenState)) (c : Code) (fs : List Frame) (K : Flow → Sem PySem.Fin) (J : Value → Sem PySem.Fin) (gd : Bool → Bool) (lv : List Value → List Value) (s : Shared) (xs : List Dat) (ρ : DEnv) (cs : Cells) (D : GDs),
    GCd G ip gv c fs gd → Rm G A → Lg G y → GKd G Gd fin Mk ip gv c fs K D → RunG G A Mk y ip gv ρ cs s → t D xs y.cs ρ cs → SegZ (model G.P G.w) A (HZ G.C Gd fin xs A y) c ((exec st G.env).wrap K J gd lv) fs s
structure DGSs (G : GP) (Gd : Cells → Prop) (fin : GEnd) (st : List Stmt) (t : WGn) : Prop where
  run : ∀ (A : Around) (Mk : Hp) (y : Gh) (ip : List (Addr × Obj)) (gv : List (Nat × GenState)) (c : Code) (fs : List Frame) (K : Flow → Sem PySem.Fin) (J : Value → Sem PySem.Fin) (gd : Bool → Bool) (lv : List Value → List Value) (s : Shared) (xs : List Dat) (ρ : DEnv) (cs : Cells) (D : GDs),
    GCd G ip gv c fs gd → Rm G A → Lg G y → GKd G Gd fin Mk ip gv c fs K D → RunG G A Mk y ip gv ρ cs s → t D xs y.cs ρ cs → SegZ (model G.P G.w) A (HZ G.C Gd fin xs A y) c ((execs st G.env).wrap K J gd lv) fs s
/-- what slept sleeps on -/
theorem gv_slept {g : Nat} {gv : List (Nat × GenState)} {s s₁ s' : Shared} (h : GvOk g gv s) (sl : Sl s s₁ s') : GvOk g gv s' := ⟨Nat.lt_of_lt_of_le h.sz sl.sz, fun p hp => ⟨(h.at_ p hp).1, sl.slept.kept p.1 p.2 (h.at_ p hp).2.1 (h.at_ p hp).2.2, (h.at_ p hp).2.2⟩⟩
theorem inv_deaf {X : Cx} {pins : List (Addr × Obj)} {σ : L2.St} {H : Hp} {s : Shared} (I : Inv X pins σ H s) : Inv X pins σ H (deafen s) := inv_gens I rfl rfl (bare_deafen I.bare)
theorem inv_back {X : Cx} {pins : List (Addr × Obj)} {σ : L2.St} {H : Hp} {s s₁ s' : Shared} (sl : Sl s s₁ s') (hb : AllBare s.gens) (I : Inv X pins σ H s₁) : Inv X pins σ H s' := inv_gens I (by rw [sl.slept.eq]) (by rw [sl.slept.eq]) (sl.slept.bare hb I.bare)
section
variable {G : GP} {Gd : Cells → Prop} {fin : GEnd} {st : Stmt} {sts : List Stmt} {ws : WS} {t u : WGn}
theorem sp_gd {A : Around} {y : Gh} {ip : List (Addr × Obj)} {gv : List (Nat × GenState)} {D : GDs} {xs : List Dat} {f : Flow} {s s₁ s' : Shared} {M Mk : Hp} (hk : Same Mk M) (hM : Same y.M M) (hb : AllBare s.gens) (hv : GvOk G.g gv s) (hd : Dis G ip y) (sl : Sl s s₁ s')
    (h : SP (G.X A (cutS G.L y.s) y.H) (ip ++ y.fp) { nx := fun σ H => ∃ M' ρ cs, Same M M' ∧ Ok G.K M' H cs ∧ Rho G.K M' σ ρ ∧ D.nx xs y.cs ρ cs, rt := fun v H => ∃ M' x cs, Same M M' ∧ Ok G.K M' H cs ∧ RV G.K M' v x ∧ D.rt xs y.cs x cs, bk := fun σ H => ∃ M' ρ cs, Same M M' ∧ Ok G.K M' H cs ∧ Rho G.K M' σ ρ ∧ D.bk xs y.cs ρ cs, ct := fun σ H => ∃ M' ρ cs, Same M M' ∧ Ok G.K M' H cs ∧ Rho G.K M' σ ρ ∧ D.ct xs y.cs ρ cs } f s₁) :
    GSPd G A Mk y ip gv D xs f s' := by
  cases f with
  | next => obtain ⟨σ, H, I, M', ρ, cs, a, b, c, d⟩ := h; exact ⟨ρ, cs, ⟨σ, H, M', inv_back sl hb I, hk.trans a, hM.trans a, b, c, gv_slept hv sl, hd⟩, d⟩
  | brk => obtain ⟨σ, H, I, M', ρ, cs, a, b, c, d⟩ := h; exact ⟨ρ, cs, ⟨σ, H, M', inv_back sl hb I, hk.trans a, hM.trans a, b, c, gv_slept hv sl, hd⟩, d⟩
  | cont => obtain ⟨σ, H, I, M', ρ, cs, a, b, c, d⟩ := h; exact ⟨ρ, cs, ⟨σ, H, M', inv_back sl hb I, hk.trans a, hM.trans a, b, c, gv_slept hv sl, hd⟩, d⟩
  | ret u => obtain ⟨v, σ, H, I, r, M', x, cs, a, b, c, d⟩ := h; exact ⟨v, x, σ, H, M', cs, inv_back sl hb I, hk.trans a, hM.trans a, b, r, c, d⟩
theorem ends_gd {y : Gh} {D : GDs} {xs : List Dat} {M : Hp} : EndsOk G.K M (D.at xs y.cs) { nx := fun σ H => ∃ M' ρ cs, Same M M' ∧ Ok G.K M' H cs ∧ Rho G.K M' σ ρ ∧ D.nx xs y.cs ρ cs, rt := fun v H => ∃ M' x cs, Same M M' ∧ Ok G.K M' H cs ∧ RV G.K M' v x ∧ D.rt xs y.cs x cs, bk := fun σ H => ∃ M' ρ cs, Same M M' ∧ Ok G.K M' H cs ∧ Rho G.K M' σ ρ ∧ D.bk xs y.cs ρ cs, ct := fun σ H => ∃ M' ρ cs, Same M M' ∧ Ok G.K M' H cs ∧ Rho G.K M' σ ρ ∧ D.ct xs y.cs ρ cs } :=
  ⟨fun σ' ρ' M' H' cs' s o r p => ⟨M', ρ', cs', s, o, r, p⟩, fun v x M' H' cs' s o r p => ⟨M', x, cs', s, o, r, p⟩, fun σ' ρ' M' H' cs' s o r p => ⟨M', ρ', cs', s, o, r, p⟩, fun σ' ρ' M' H' cs' s o r p => ⟨M', ρ', cs', s, o, r, p⟩⟩
theorem dgs_plain (h : ∀ A s H, Room G.k A → DS (G.X A s H) st ws) : DGS G Gd fin st (wGP ws) := by
  refine ⟨fun A Mk y ip gv c fs K J gd lv s xs ρ cs D g hr hy k ⟨σ, H, M, I, hk, hM, o, r, hv, hd⟩ ht => sz_wrap ?_⟩
  rw [g.over]
  refine wpAny_mono (wpAny_sl ((h A _ _ hr).run (ip ++ y.fp) (deafen s) σ H _ (inv_deaf I) ⟨M, ρ, cs, D.at xs y.cs, o, r, ht, ends_gd⟩)) (fun f s' ⟨s₁, sl, hs⟩ => k A y xs s' f hr hy (sp_gd hk hM I.bare hv hd sl hs)) fun x s' ⟨_, _, hx⟩ => hx.elim
theorem dgss_plain (h : ∀ A s H, Room G.k A → DSs (G.X A s H) sts ws) : DGSs G Gd fin sts (wGP ws) := by
  refine ⟨fun A Mk y ip gv c fs K J gd lv s xs ρ cs D g hr hy k ⟨σ, H, M, I, hk, hM, o, r, hv, hd⟩ ht => sz_wrap ?_⟩
  rw [g.over]
  refine wpAny_mono (wpAny_sl ((h A _ _ hr).run (ip ++ y.fp) (deafen s) σ H _ (inv_deaf I) ⟨M, ρ, cs, D.at xs y.cs, o, r, ht, ends_gd⟩)) (fun f s' ⟨s₁, sl, hs⟩ => k A y xs s' f hr hy (sp_gd hk hM I.bare hv hd sl hs)) fun x s' ⟨_, _, hx⟩ => hx.elim
theorem dgss_nil : DGSs G Gd fin [] wG0 := ⟨fun A Mk y ip gv c fs K J gd lv s xs ρ cs D g hr hy k hR ht => k A y xs s .next hr hy ⟨ρ, cs, hR, ht⟩⟩
theorem dgss_cons (a : DGS G Gd fin st t) (b : DGSs G Gd fin sts u) : DGSs G Gd fin (st :: sts) (wGSeq t u) := by
  refine ⟨fun A Mk y ip gv c fs K J gd lv s xs ρ cs D g hr hy k hR ht => ?_⟩
  rw [execs_cons_wrap]
  refine a.run A Mk y ip gv c fs _ J gd lv s xs ρ cs { D with nx := u D } g hr hy (fun A' y' xs' s' f hr' hy' hs => ?_) hR ht
  cases f with
  | next =>
    obtain ⟨ρ', cs', hR', q⟩ := hs
    exact b.run A' Mk y' ip gv c fs K J gd lv s' xs' ρ' cs' D g hr' hy' k hR' q
  | brk => exact k A' y' xs' s' .brk hr' hy' hs
  | cont => exact k A' y' xs' s' .cont hr' hy' hs
  | ret v => exact k A' y' xs' s' (.ret v) hr' hy' hs
/-! ### if -/
theorem dgs_if {test : Expr} {sa sb : List Stmt} {pos : Pos} {w : WT} (hc : ∀ A s H, Room G.k A → DT (G.X A s H) test w) (ha : DGSs G Gd fin sa t) (hb : DGSs G Gd fin sb u) : DGS G Gd fin (.If test sa sb pos) (wGIf w t u) := by
  refine ⟨fun A Mk y ip gv c fs K J gd lv s xs ρ cs D g hr hy k ⟨σ, H, M, I, hk, hM, o, r, hv, hd⟩ ht => ?_⟩
  rw [exec_If]
  refine sz_at ?_
  show SegZ _ _ _ c ((isTrue test G.env (eval test G.env) >>= fun b => if b = true then execs sa G.env else execs sb G.env).wrap K J gd lv) fs s
  rw [Sem.bind_eq_wrap', Sem.wrap_wrap]
  refine sz_wrap ?_
  rw [g.over]
  refine wpAny_mono (wpAny_sl ((hc A _ _ hr).run (ip ++ y.fp) (deafen s) σ H (fun b H' => ∃ M' cs', Same M M' ∧ Ok G.K M' H' cs' ∧ if b = true then t D xs y.cs ρ cs' else u D xs y.cs ρ cs') (inv_deaf I) ⟨M, ρ, cs, _, o, r, ht, fun b M' H' cs' s o' p => ⟨M', cs', s, o', p⟩⟩)) (fun b s' ⟨s₁, sl, hs⟩ => ?_) fun x s' ⟨_, _, hx⟩ => hx.elim
  obtain ⟨H', I', M', cs', sm, o', p⟩ := hs
  have I2 := inv_back sl I.bare I'
  cases b with
  | true => exact ha.run A Mk y ip gv c fs K J gd lv s' xs ρ cs' D g hr hy k ⟨σ, H', M', I2, hk.trans sm, hM.trans sm, o', r.mono sm, gv_slept hv sl, hd⟩ (by simpa using p)
  | false => exact hb.run A Mk y ip gv c fs K J gd lv s' xs ρ cs' D g hr hy k ⟨σ, H', M', I2, hk.trans sm, hM.trans sm, o', r.mono sm, gv_slept hv sl, hd⟩ (by simpa using p)
/-! ### yield -/
def wGY (Gd : Cells → Prop) (fin : GEnd) (we : WE) : WGn := fun D xs c0 ρ cs => we ρ cs fun x cs1 => SubC c0 cs1 ∧ ∃ d r, x = .dat d ∧ xs = d :: r ∧ ((r = [] ∧ fin = .cut) ∨ ∀ c1, Gd c1 → D.nx r c1 ρ c1)
theorem dgs_yield {e : Expr} {yp pos : Pos} {we : WE} (he : ∀ A s H, Room G.k A → DE (G.X A s H) e we) (hco : G.env.scope.isCoroutine = false := by rfl) (hi : interactive G.env = false := by rfl) : DGS G Gd fin (.Expr (.Yield (some e) yp) pos) (wGY Gd fin we) := by
  refine ⟨fun A Mk y ip gv c fs K J gd lv s xs ρ cs D g hr hy k ⟨σ, H, M, I, hk, hM, o, r, hv, hd⟩ ht => ?_⟩
  rw [exec_Expr G.env _ pos hi rfl]
  show SegZ _ _ _ c (.at pos fun _ => ((eval e G.env >>= fun v => (standAt yp >>= fun _ => yieldOut G.env v)) >>= fun x => dropValue (.Yield (some e) yp) pos x).wrap K J gd lv) fs s
  have hyo : ∀ v, yieldOut G.env v = yieldValue v := fun v => by
    unfold yieldOut
    rw [if_neg (by rw [hco]; decide)]
  simp only [hyo]
  refine sz_at ?_
  rw [Sem.bind_eq_wrap', Sem.bind_eq_wrap', Sem.wrap_wrap, Sem.wrap_wrap]
  refine sz_wrap ?_
  rw [g.over]
  refine wpAny_mono (wpAny_sl ((he A _ _ hr).run (ip ++ y.fp) (deafen s) σ H (fun v H' => ∃ x M' cs', Same M M' ∧ Ok G.K M' H' cs' ∧ RV G.K M' v x ∧ SubC y.cs cs' ∧ ∃ d r, x = .dat d ∧ xs = d :: r ∧ ((r = [] ∧ fin = .cut) ∨ ∀ c1, Gd c1 → D.nx r c1 ρ c1)) (inv_deaf I) ⟨M, ρ, cs, _, o, r, ht, fun v x M' H' cs' s o' rv p => ⟨x, M', cs', s, o', rv, p.1, p.2⟩⟩)) (fun v s' ⟨s₁, sl, hs⟩ => ?_) fun x s' ⟨_, _, hx⟩ => hx.elim
  obtain ⟨x, H', I1, rx, xd, M', cs', sm, o', rv, hsub, d, rest, e1, e2, q⟩ := hs
  have I' := inv_back sl I.bare I1
  have hv' := gv_slept hv sl
  refine sz_at (sz_yield g.split fun p => ?_)
  have hq : ∀ l kk, (End.susp v (gd false) l kk c p fs).quiet = true := fun l kk => by simp [End.quiet, g.gd, g.guard]
  rw [e2]
  subst e1
  obtain ⟨m, hns, hloc⟩ := I'.loc
  obtain ⟨oL, es, ep, hoL, hdat, hrest⟩ := id hns
  have hoL : s'.heap.get? G.env.locals = some oL := hoL
  refine ⟨v, gd false, _, _, c, p, fs, rfl, hq _ _, H', M', (G.env.locals, oL) :: G.self :: ip, gv, x, ⟨I'.os, I'.bare, un_woken I', I'.hok, hM.trans sm, o'.sub hsub, fun q hq => ?_⟩, rx, rv, ⟨fun q hq => ?_, List.mem_cons_of_mem _ List.mem_cons_self, ⟨oL, List.mem_cons_self⟩, fun p hp q hq => ?_⟩, hv', ?_⟩
  · have := I'.pin q (List.mem_append_right _ (List.mem_append_right _ hq))
    exact ⟨this.1, this.2.1⟩
  · rcases List.mem_cons.mp hq with z | z
    · rw [z]
      exact ⟨hoL, I'.free, g.le, fun v z => by rw [hdat] at z; cases z⟩
    · obtain ⟨i1, i2, _, _, i5⟩ := I'.pin q (by
        rcases List.mem_cons.mp z with z | z
        · rw [z]; exact List.mem_append_left _ List.mem_cons_self
        · exact List.mem_append_right _ (List.mem_append_left _ z))
      exact ⟨i1, i2, g.yng q z, i5⟩
  · rcases List.mem_cons.mp hp with z | z
    · rw [z]
      exact (I'.pin q (List.mem_append_right _ (List.mem_append_right _ hq))).2.2.1
    · exact hd p z q hq
  · rcases q with z | q
    · exact .inl z
    · refine .inr fun A2 y2 W => ?_
      have hL := (W.pv (G.env.locals, oL) List.mem_cons_self)
      have hself : ∀ q ∈ G.self :: ip, G.L ≤ q.1 := g.yng
      have I2 : Inv (G.X A2 (cutS G.L y2.s) y2.H) (ip ++ y2.fp) σ y2.H y2.s := by
        refine rebase (cut_size hy) g.le g.cells I' g.frm W.room.hd (show (A2.deeper G.env).handled = none from W.room.hd) W.env (fun o e => by rw [hoL] at e; cases e; exact hL.1) hL.2 (fun q hq => ?_) ?_
        · have old : ∀ q, q ∈ G.self :: ip → y2.s.heap.get? q.1 = some q.2 ∧ y2.H q.1 = none ∧ q.1 ≠ G.env.locals ∧ q.1 ∉ frs G.outer ∧ ∀ v, q.2.data ≠ .cell v := fun q hq => by
            obtain ⟨j1, j2⟩ := W.pv q (List.mem_cons_of_mem _ hq)
            obtain ⟨_, _, i3, i4, i5⟩ := I'.pin q (by
              rcases List.mem_cons.mp hq with z | z
              · rw [z]; exact List.mem_append_left _ List.mem_cons_self
              · exact List.mem_append_right _ (List.mem_append_left _ z))
            exact ⟨j1, j2, i3, i4, i5⟩
          rcases List.mem_cons.mp hq with z | z
          · exact old q (by rw [z]; exact List.mem_cons_self)
          · rcases List.mem_append.mp z with z | z
            · exact old q (List.mem_cons_of_mem _ z)
            · exact W.fp q z
        · show A2.frames.map (G.env :: ·) = _
          rw [W.env.frames]; rfl
      have hy' : Lg G y2 := Nat.le_of_lt (Nat.lt_of_le_of_lt g.le (Heap.lt_size hL.1))
      have := k A2 y2 rest y2.s .next W.room hy' ⟨ρ, y2.cs, ⟨σ, y2.H, y2.M, I2, (hk.trans sm).trans W.same, Same.refl _, W.ok, (r.mono sm).mono W.same, ⟨W.gz, fun p hp => ⟨(hv'.at_ p hp).1, W.gv p hp, (hv'.at_ p hp).2.2⟩⟩, fun p hp q hq => W.dis p (List.mem_cons_of_mem _ hp) q hq⟩, q y2.cs W.gd⟩
      exact this
end
end GN
set_option maxRecDepth 100000
set_option maxHeartbeats 4000000
namespace GN
open PySem L2 PySem.Spec PyProof.Rows GenW DL GT
section
variable {G : GP} {Gd : Cells → Prop} {fin : GEnd}
theorem gcd_loop {ip : List (Addr × Obj)} {gv : List (Nat × GenState)} {c c' : Code} {fs : List Frame} {gd : Bool → Bool} {k : Result → Sem PySem.Fin} {l kp : List Value} {p : Pos} (g : GCd G ip gv c fs gd) (hw : c'.weight = 0) (hu : c'.cUnits = 0) : GCd G ip gv c' (.ret k none (gd false) l c p kp :: fs) id where
  cells := g.cells
  frm := g.frm
  kd := g.kd
  z := g.z
  le := g.le
  yng := g.yng
  over := fun A => (over_loop hw hu).trans (g.over A)
  split := by
    show (splitAtGen fs).map _ = none
    rw [g.split]; rfl
  guard := by
    show (gd false || fs.any Frame.guarded) = false
    rw [g.gd, g.guard]; rfl
  gd := rfl
theorem dgs_for {tg iter : Expr} {body : List Stmt} {pos : Pos} {js : List Nat} {wi : WI} {g : WG} {tb : WGn} (hi : ∀ A s H, Room G.k A → DI (G.X A s H) tg iter wi) (hg : ∀ A s H, Room G.k A → DG (G.X A s H) js tg g) (hb : DGSs G Gd fin body tb)
    (hs : ∀ x, foldedSetIterable iter G.env x = pure x := by intro _; rfl) : DGS G Gd fin (.For tg iter body [] pos) (wGFor wi g tb) := by
  refine ⟨fun A Mk y ip gv c fs K J gd lv s xs ρ cs D gc hr hy k ⟨σ, H, M, I, hk, hM, o, r, hv, hd⟩ ht => ?_⟩
  rw [exec_For]
  refine sz_at ?_
  show SegZ _ _ _ c ((eval iter G.env >>= fun v => foldedSetIterable iter G.env v >>= fun x => standAt iter.pos >>= fun _ => holding [x] (pyIter x) >>= fun it => runOwn (.forLoop tg it body [] G.env) G.env).wrap K J gd lv) fs s
  refine sz_bindw ?_
  rw [gc.over]
  refine wpAny_mono (wpAny_sl ((hi A _ _ hr).run (ip ++ y.fp) (deafen s) σ H (fun JJ H' => ∃ items Gi M' cs', Same M M' ∧ Ok G.K M' H' cs' ∧ ItOk G.K M' JJ items Gi ∧ ∃ Inv : Nat → List Dat → Cells → DEnv → Cells → Prop, Inv 0 xs y.cs ρ cs' ∧ (∀ i xs c0 ρ' cs', i ≤ items.length → Inv i xs c0 ρ' cs' → Gi cs') ∧
    (∀ i x xs c0 ρ' cs', items[i]? = some x → Inv i xs c0 ρ' cs' → g x ρ' cs' fun ρ2 cs2 => tb { D with nx := Inv (i + 1), ct := Inv (i + 1), bk := D.nx } xs c0 ρ2 cs2) ∧ ∀ xs c0 ρ' cs', Inv items.length xs c0 ρ' cs' → D.nx xs c0 ρ' cs') (inv_deaf I)
    ⟨M, ρ, cs, _, o, r, ht, fun JJ items Gi M' H' cs' sm o' it p => ⟨items, Gi, M', cs', sm, o', it, p⟩⟩)) (fun v s1 ⟨s10, sl1, h1⟩ => ?_) fun x s' ⟨_, _, hx⟩ => hx.elim
  rw [hs]
  refine sz_bindw (wpAny_pure ?_)
  refine sz_bindw (wpAny_standAt ?_)
  refine sz_bindw (wpAny_holding ?_)
  rw [gc.over]
  refine wpAny_mono (wpAny_sl2 sl1 h1) (fun itv s2 ⟨s20, sl2, h2⟩ => ?_) fun x s' ⟨_, _, hx⟩ => hx.elim
  obtain ⟨it, fp, tn, JJ, H2, rfl, I20, T, tn0, fpk, items, Gi, M1, cs1, sm1, o1, iok, Iv, iv0, ivG, turn, fin'⟩ := h2
  have I2 := inv_back sl2 I.bare I20
  have hv2 := gv_slept hv sl2
  have tn2 : tn 0 s2.heap := by rw [sl2.slept.eq]; exact tn0
  have hLb : ∀ b ∈ fp, G.L ≤ b := fun b hb => by
    rcases (fpk b hb).2.2.2.1 with z | z
    · exact absurd z (by simp [GP.X])
    · exact Nat.le_trans (Nat.le_of_eq (cut_size hy).symm) z
  have hdis : ∀ b ∈ fp, ∀ q ∈ y.fp, q.1 ≠ b := fun b hb q hq => (fpk b hb).2.2.2.2.2 q (List.mem_append_right _ (List.mem_append_right _ hq))
  have stat : ∀ {A' : Around} {y' : Gh} {H' : Hp}, Lg G y' → (∀ b ∈ fp, ∀ q ∈ y'.fp, q.1 ≠ b) → (∀ b ∈ fp, H' b = none) → ∀ b ∈ fp, FpOk (G.X A' (cutS G.L y'.s) y'.H) (ip ++ y'.fp) H' b := fun {A' y' H'} hy' hds hn b hb => by
    obtain ⟨_, f1, f2, _, f4, f5⟩ := fpk b hb
    refine ⟨hn b hb, f1, f2, .inr (Nat.le_trans (Nat.le_of_eq (cut_size hy')) (hLb b hb)), f4, fun p hp => ?_⟩
    rcases List.mem_append.mp hp with z | z
    · exact f5 p (List.mem_append_left _ z)
    · rcases List.mem_append.mp z with z | z
      · exact f5 p (List.mem_append_right _ (List.mem_append_left _ z))
      · exact hds b hb p z
  refine sz_call fun p => ?_
  have gl := fun (kk : Result → Sem PySem.Fin) => gcd_loop (k := kk) (c' := .forLoop tg (.ref it) body [] G.env) (l := lv []) (kp := []) (p := p) gc rfl rfl
  have loop : ∀ (m i : Nat) (A : Around) (y : Gh) (xs : List Dat) (s : Shared) (ρ : DEnv) (cs : Cells), m = items.length - i → i ≤ items.length → Rm G A → Lg G y → (∃ σ H M, Inv (G.X A (cutS G.L y.s) y.H) (ip ++ y.fp) σ H s ∧ Same Mk M ∧ Same M1 M ∧ Same y.M M ∧ Ok G.K M H cs ∧ Rho G.K M σ ρ ∧ GvOk G.g gv s ∧ Dis G ip y ∧ (∀ b ∈ fp, ∀ q ∈ y.fp, q.1 ≠ b) ∧ (∀ b ∈ fp, H b = none) ∧ tn i s.heap) → Iv i xs y.cs ρ cs →
      SegZ (model G.P G.w) A (HZ G.C Gd fin xs A y) (.forLoop tg (.ref it) body [] G.env) ((model G.P G.w).den (.forLoop tg (.ref it) body [] G.env))
        (.ret (fun r => ((match r with | .ok f => (.pure f : Sem Flow) | .error e => .raise e).onRaise (cameBack G.env)).wrap K J gd lv) none (gd false) (lv []) c p [] :: fs) s := by
    intro m
    induction m with
    | zero =>
      intro i A y xs s ρ cs hm hi hr hy ⟨σ, H, M, I, hk, h1, hM, o, r, hv, hd, hds, fr, ht⟩ iv
      have ei : i = items.length := by omega
      subst ei
      show SegZ _ _ _ _ ((forTurn tg (.ref it) body [] G.env).onRaise _) _ _
      rw [Sem.onRaise_eq_wrap]
      unfold forTurn
      refine sz_bindw (wpAny_standAt ?_)
      refine sz_bindw (wpAny_onRaise ?_)
      rw [(gl _).over]
      refine wpAny_mono (wpAny_sl (T.done (G.X A (cutS G.L y.s) y.H) rfl rfl rfl rfl items.length (ip ++ y.fp) (deafen s) σ H (fun _ _ => False) (inv_deaf I) (stat hy hds fr) ht (iok.stop M H cs h1 o (ivG _ _ _ _ _ hi iv)))) (fun rr s3 ⟨s30, sl3, h3⟩ => ?_) fun _ _ ⟨_, _, z⟩ => z.elim
      obtain ⟨rfl, I3⟩ := h3
      show SegZ _ _ _ _ (.pure (.again (.block [] G.env))) _ _
      refine sz_again rfl ?_
      show SegZ _ _ _ _ (.pure (.done .next)) _ _
      exact sz_leaf (.ok .next) (k A y xs s3 .next hr hy ⟨ρ, cs, ⟨σ, H, M, inv_back sl3 I.bare I3, hk, hM, o, r, gv_slept hv sl3, hd⟩, fin' _ _ _ _ iv⟩)
    | succ m ih =>
      intro i A y xs s ρ cs hm hi hr hy ⟨σ, H, M, I, hk, h1, hM, o, r, hv, hd, hds, fr, ht⟩ iv
      have hlt : i < items.length := by omega
      have gi := ivG _ _ _ _ _ hi iv
      show SegZ _ _ _ _ ((forTurn tg (.ref it) body [] G.env).onRaise _) _ _
      rw [Sem.onRaise_eq_wrap]
      unfold forTurn
      refine sz_bindw (wpAny_standAt ?_)
      refine sz_bindw (wpAny_onRaise ?_)
      rw [(gl _).over]
      refine wpAny_mono (wpAny_sl (T.item (G.X A (cutS G.L y.s) y.H) rfl rfl rfl rfl i (ip ++ y.fp) (deafen s) σ H (fun _ _ => False) (inv_deaf I) (stat hy hds fr) ht (iok.go i M H cs h1 o gi hlt))) (fun rr s3 ⟨s30, sl3, h3⟩ => ?_) fun _ _ ⟨_, _, z⟩ => z.elim
      obtain ⟨u, rfl, h3⟩ := h3
      refine sz_bindw ?_
      rw [(gl _).over]
      refine wpAny_mono (wpAny_sl2 sl3 h3) (fun _ s4 ⟨s40, sl4, h4⟩ => ?_) fun _ _ ⟨_, _, z⟩ => z.elim
      obtain ⟨x, H4, I40, rx, yl, t40, fr4⟩ := h4
      have I4 := inv_back sl4 I.bare I40
      have t4 : tn (i + 1) s4.heap := by rw [sl4.slept.eq]; exact t40
      have hv4 := gv_slept hv sl4
      obtain ⟨M4, xv, ex, s4', o4, rv⟩ := iok.yld i M H cs x H4 h1 o gi yl hlt
      have I4a := I4.pinned (stat hy hds fr4) (T.obj _ _ t4)
      have re : ∀ {A' : Around} {y' : Gh} {σ' : L2.St} {H' : Hp} {s' : Shared}, Inv (G.X A' (cutS G.L y'.s) y'.H) ((ip ++ y'.fp) ++ pinsAt fp s4.heap) σ' H' s' → Inv (G.X A' (cutS G.L y'.s) y'.H) ((ip ++ pinsAt fp s4.heap) ++ y'.fp) σ' H' s' := fun {A' y' σ' H' s'} J => J.pins_of fun p hp => by
        rcases List.mem_append.mp hp with z | z
        · rcases List.mem_append.mp z with z | z
          · exact J.pin p (List.mem_append_right _ (List.mem_append_left _ (List.mem_append_left _ z)))
          · exact J.pin p (List.mem_append_right _ (List.mem_append_right _ z))
        · exact J.pin p (List.mem_append_right _ (List.mem_append_left _ (List.mem_append_right _ z)))
      have I4' := re I4a
      refine sz_bindw ?_
      rw [(gl _).over]
      refine wpAny_mono (wpAny_sl ((hg A _ _ hr).run ((ip ++ pinsAt fp s4.heap) ++ y.fp) (deafen s4) σ H4 x u (fun σ' H' => ∃ M' ρ' cs', Same M4 M' ∧ Ok G.K M' H' cs' ∧ Rho G.K M' σ' ρ' ∧ tb { D with nx := Iv (i + 1), ct := Iv (i + 1), bk := D.nx } xs y.cs ρ' cs') (inv_deaf I4') rx
        ⟨M4, ρ, cs, xv, _, o4, r.mono s4', rv, turn i xv xs y.cs ρ cs ex iv, fun σ' ρ' M' H' cs' sm o' r' _ _ p => ⟨M', ρ', cs', sm, o', r', p⟩⟩)) (fun _ s5 ⟨s50, sl5, h5⟩ => ?_) fun _ _ ⟨_, _, z⟩ => z.elim
      obtain ⟨σ5, H5, I50, M5, ρ5, cs5, sm5, o5, r5, q5⟩ := h5
      have I5 := inv_back sl5 I4'.bare I50
      have hv5 := gv_slept hv4 sl5
      rw [Sem.bind_eq_wrap', Sem.wrap_wrap]
      have s15 : Same M M5 := s4'.trans sm5
      have gx : ∀ kk, GCd G (ip ++ pinsAt fp s4.heap) gv (.forLoop tg (.ref it) body [] G.env) (.ret kk none (gd false) (lv []) c p [] :: fs) id := fun kk => ⟨gc.cells, gc.frm, gc.kd, gc.z, gc.le, fun q hq => by
        rcases List.mem_cons.mp hq with z | z
        · exact gc.yng q (by rw [z]; exact List.mem_cons_self)
        · rcases List.mem_append.mp z with z | z
          · exact gc.yng q (List.mem_cons_of_mem _ z)
          · exact hLb _ (of_pinsAt z).1, (gl kk).over, (gl kk).split, (gl kk).guard, rfl⟩
      have hd5 : Dis G (ip ++ pinsAt fp s4.heap) y := fun p hp q hq => by
        rcases List.mem_cons.mp hp with z | z
        · exact hd p (by rw [z]; exact List.mem_cons_self) q hq
        · rcases List.mem_append.mp z with z | z
          · exact hd p (List.mem_cons_of_mem _ z) q hq
          · exact hds p.1 (of_pinsAt z).1 q hq
      have back : ∀ {A' : Around} {y' : Gh} {s7 : Shared} {σ7 : L2.St} {H7 : Hp}, Dis G (ip ++ pinsAt fp s4.heap) y' → Inv (G.X A' (cutS G.L y'.s) y'.H) ((ip ++ pinsAt fp s4.heap) ++ y'.fp) σ7 H7 s7 → Inv (G.X A' (cutS G.L y'.s) y'.H) (ip ++ y'.fp) σ7 H7 s7 ∧ (∀ b ∈ fp, H7 b = none) ∧ tn (i + 1) s7.heap ∧ Dis G ip y' ∧ (∀ b ∈ fp, ∀ q ∈ y'.fp, q.1 ≠ b) := fun {A' y' s7 σ7 H7} hd7 I7 => by
        have pin : ∀ b ∈ fp, ∀ o, s4.heap.get? b = some o → (b, o) ∈ (G.X A' (cutS G.L y'.s) y'.H).pn ++ ((ip ++ pinsAt fp s4.heap) ++ y'.fp) := fun b hb o e => List.mem_append_right _ (List.mem_append_left _ (List.mem_append_right _ (mem_pinsAt hb e)))
        refine ⟨I7.pins_of fun p hp => ?_, fun b hb => ?_, T.keep _ _ _ t4 fun b hb o e => (I7.pin (b, o) (pin b hb o e)).1, fun p hp q hq => ?_, fun b hb q hq => ?_⟩
        · rcases List.mem_append.mp hp with z | z
          · exact I7.pin p (List.mem_append_right _ (List.mem_append_left _ (List.mem_append_left _ z)))
          · exact I7.pin p (List.mem_append_right _ (List.mem_append_right _ z))
        · obtain ⟨o, e, _⟩ := T.obj _ _ t4 b hb
          exact (I7.pin (b, o) (pin b hb o e)).2.1
        · refine hd7 p ?_ q hq
          rcases List.mem_cons.mp hp with z | z
          · rw [z]; exact List.mem_cons_self
          · exact List.mem_cons_of_mem _ (List.mem_append_left _ z)
        · obtain ⟨o, e, _⟩ := T.obj _ _ t4 b hb
          exact hd7 (b, o) (List.mem_cons_of_mem _ (List.mem_append_right _ (mem_pinsAt hb e))) q hq
      refine hb.run A (fun b => M5 b) y (ip ++ pinsAt fp s4.heap) gv _ _ _ _ id id s5 xs ρ5 cs5 { D with nx := Iv (i + 1), ct := Iv (i + 1), bk := D.nx } (gx _) hr hy (fun A' y' xs' s7 f hr' hy' hs7 => ?_) ⟨σ5, H5, M5, I5, Same.refl _, hM.trans s15, o5, r5, hv5, hd5⟩ q5
      have hk5 := hk.trans s15
      have h15 := h1.trans s15
      cases f with
      | next =>
        obtain ⟨ρ7, cs7, ⟨σ7, H7, M7, I7, k7, m7, o7, r7, v7, d7⟩, q7⟩ := hs7
        obtain ⟨b1, b2, b3, b4, b5⟩ := back d7 I7
        exact sz_again rfl (ih (i + 1) A' y' xs' s7 ρ7 cs7 (by omega) hlt hr' hy' ⟨σ7, H7, M7, b1, hk5.trans k7, h15.trans k7, m7, o7, r7, v7, b4, b5, b2, b3⟩ q7)
      | cont =>
        obtain ⟨ρ7, cs7, ⟨σ7, H7, M7, I7, k7, m7, o7, r7, v7, d7⟩, q7⟩ := hs7
        obtain ⟨b1, b2, b3, b4, b5⟩ := back d7 I7
        exact sz_again rfl (ih (i + 1) A' y' xs' s7 ρ7 cs7 (by omega) hlt hr' hy' ⟨σ7, H7, M7, b1, hk5.trans k7, h15.trans k7, m7, o7, r7, v7, b4, b5, b2, b3⟩ q7)
      | brk =>
        obtain ⟨ρ7, cs7, ⟨σ7, H7, M7, I7, k7, m7, o7, r7, v7, d7⟩, q7⟩ := hs7
        obtain ⟨b1, b2, b3, b4, b5⟩ := back d7 I7
        exact sz_leaf (.ok .next) (k A' y' xs' s7 .next hr' hy' ⟨ρ7, cs7, ⟨σ7, H7, M7, b1, hk5.trans k7, m7, o7, r7, v7, b4⟩, q7⟩)
      | ret v =>
        obtain ⟨v7, x7, σ7, H7, M7, cs7, I7, k7, m7, o7, rv7, rx7, q7⟩ := hs7
        exact sz_leaf (.ok (.ret v)) (k A' y' xs' s7 (.ret v) hr' hy' ⟨v7, x7, σ7, H7, M7, cs7, I7.pins_of fun p hp => by
          rcases List.mem_append.mp hp with z | z
          · exact I7.pin p (List.mem_append_right _ (List.mem_append_left _ (List.mem_append_left _ z)))
          · exact I7.pin p (List.mem_append_right _ (List.mem_append_right _ z)), hk5.trans k7, m7, o7, rv7, rx7, q7⟩)
  exact loop (items.length - 0) 0 A y xs s2 ρ cs1 rfl (Nat.zero_le _) hr hy ⟨σ, H2, M1, I2, hk.trans sm1, Same.refl _, hM.trans sm1, o1, r.mono sm1, hv2, hd, hdis, fun b hb => (fpk b hb).1, tn2⟩ iv0
end
end GN
set_option maxRecDepth 100000
set_option maxHeartbeats 4000000
namespace GN
open PySem L2 PySem.Spec PyProof.Rows GenW DL GT
section
variable {G : GP} {Gd : Cells → Prop} {fin : GEnd}
/-! ### while -/
def wGWhile (wt : WT) (tb : WGn) : WGn := fun D xs c0 ρ cs => ∃ Iv : Nat → List Dat → Cells → DEnv → Cells → Prop, (∃ n, Iv n xs c0 ρ cs) ∧ ∀ n xs c0 ρ cs, Iv n xs c0 ρ cs → wt ρ cs fun b cs1 =>
  if b = true then tb { D with nx := fun xs' c0' ρ' cs' => ∃ m, m < n ∧ Iv m xs' c0' ρ' cs', ct := fun xs' c0' ρ' cs' => ∃ m, m < n ∧ Iv m xs' c0' ρ' cs', bk := D.nx } xs c0 ρ cs1 else D.nx xs c0 ρ cs1
theorem dgs_while {test : Expr} {body : List Stmt} {pos : Pos} {wt : WT} {tb : WGn} (hc : ∀ A s H, Room G.k A → DT (G.X A s H) test wt) (hb : DGSs G Gd fin body tb) : DGS G Gd fin (.While test body [] pos) (wGWhile wt tb) := by
  refine ⟨fun A Mk y ip gv c fs K J gd lv s xs ρ cs D gc hr hy k hR ht => ?_⟩
  obtain ⟨Iv, ⟨n0, iv0⟩, turn⟩ := ht
  rw [exec_While]
  refine sz_at ?_
  show SegZ _ _ _ c ((runOwn (.whileLoop test body [] G.env) G.env).wrap K J gd lv) fs s
  refine sz_call fun p => ?_
  have gl := fun (kk : Result → Sem PySem.Fin) => gcd_loop (k := kk) (c' := .whileLoop test body [] G.env) (l := lv []) (kp := []) (p := p) gc rfl rfl
  have loop : ∀ (n : Nat) (A : Around) (y : Gh) (xs : List Dat) (s : Shared) (ρ : DEnv) (cs : Cells), Rm G A → Lg G y → RunG G A Mk y ip gv ρ cs s → Iv n xs y.cs ρ cs →
      SegZ (model G.P G.w) A (HZ G.C Gd fin xs A y) (.whileLoop test body [] G.env) ((model G.P G.w).den (.whileLoop test body [] G.env))
        (.ret (fun r => ((match r with | .ok f => (.pure f : Sem Flow) | .error e => .raise e).onRaise (cameBack G.env)).wrap K J gd lv) none (gd false) (lv []) c p [] :: fs) s := by
    intro n
    induction n using Nat.strongRecOn with
    | ind n ih =>
      intro A y xs s ρ cs hr hy ⟨σ, H, M, I, hk, hM, o, r, hv, hd⟩ iv
      show SegZ _ _ _ _ ((whileTurn test body [] G.env).onRaise _) _ _
      rw [Sem.onRaise_eq_wrap]
      unfold whileTurn
      refine sz_bindw ?_
      rw [(gl _).over]
      refine wpAny_mono (wpAny_sl ((hc A _ _ hr).run (ip ++ y.fp) (deafen s) σ H (fun b H' => ∃ M' cs', Same M M' ∧ Ok G.K M' H' cs' ∧ if b = true then tb { D with nx := fun xs' c0' ρ' cs' => ∃ m, m < n ∧ Iv m xs' c0' ρ' cs', ct := fun xs' c0' ρ' cs' => ∃ m, m < n ∧ Iv m xs' c0' ρ' cs', bk := D.nx } xs y.cs ρ cs' else D.nx xs y.cs ρ cs') (inv_deaf I) ⟨M, ρ, cs, _, o, r, turn n xs y.cs ρ cs iv, fun b M' H' cs' s o' p => ⟨M', cs', s, o', p⟩⟩)) (fun b s' ⟨s₁, sl, hs⟩ => ?_) fun x s' ⟨_, _, hx⟩ => hx.elim
      obtain ⟨H', I', M', cs', sm, o', p⟩ := hs
      have I2 := inv_back sl I.bare I'
      have hv2 := gv_slept hv sl
      cases b with
      | true =>
        have p : tb { D with nx := fun xs' c0' ρ' cs' => ∃ m, m < n ∧ Iv m xs' c0' ρ' cs', ct := fun xs' c0' ρ' cs' => ∃ m, m < n ∧ Iv m xs' c0' ρ' cs', bk := D.nx } xs y.cs ρ cs' := by simpa using p
        rw [if_pos rfl, Sem.bind_eq_wrap', Sem.wrap_wrap]
        refine hb.run A Mk y ip gv _ _ _ _ id id s' xs ρ cs' _ (gl _) hr hy (fun A' y' xs' s7 f hr' hy' hs7 => ?_) ⟨σ, H', M', I2, hk.trans sm, hM.trans sm, o', r.mono sm, hv2, hd⟩ p
        cases f with
        | next =>
          obtain ⟨ρ7, cs7, hR7, m, hm, q7⟩ := hs7
          exact sz_again rfl (ih m hm A' y' xs' s7 ρ7 cs7 hr' hy' hR7 q7)
        | cont =>
          obtain ⟨ρ7, cs7, hR7, m, hm, q7⟩ := hs7
          exact sz_again rfl (ih m hm A' y' xs' s7 ρ7 cs7 hr' hy' hR7 q7)
        | brk =>
          obtain ⟨ρ7, cs7, hR7, q7⟩ := hs7
          exact sz_leaf (.ok .next) (k A' y' xs' s7 .next hr' hy' ⟨ρ7, cs7, hR7, q7⟩)
        | ret v => exact sz_leaf (.ok (.ret v)) (k A' y' xs' s7 (.ret v) hr' hy' hs7)
      | false =>
        have p : D.nx xs y.cs ρ cs' := by simpa using p
        rw [if_neg (by decide)]
        show SegZ _ _ _ _ (.pure (.done .next)) _ _
        exact sz_leaf (.ok .next) (k A y xs s' .next hr hy ⟨ρ, cs', ⟨σ, H', M', I2, hk.trans sm, hM.trans sm, o', r.mono sm, hv2, hd⟩, p⟩)
  exact loop n0 A y xs s ρ cs hr hy hR iv0
end
/-! ### a generator made by a call -/
abbrev GSpec := List Vl → Cells → List Dat → GEnd → (Cells → Prop) → Prop
structure MadeD (P : Program) (w : World) (K : Frag) (mg : Str → Option Value) (base : Heap) (k : Nat) (outer : List Env) (M : Hp) (s : Shared) (ds : List Dat) (fin : GEnd) (Gd : Cells → Prop) (a : Addr) (s' : Shared) (C : GC) (g : Nat) (go oL : Obj) (c : Code) : Prop where
  eqC : C = ⟨P, w, K, mg, base, k, outer, s.heap.objs.size, (a, go), g, s.heap.objs.size⟩
  gen : ∀ h : Heap, h.get? a = some go → h.IsGen a g
  cls : go.cls = .type "generator" ∧ ∃ vs, go.data = .fields vs
  obj : s'.heap.get? a = some go ∧ s'.heap.get? s.heap.objs.size = some oL ∧ s.heap.objs.size < a ∧ (∀ v, go.data ≠ .cell v) ∧ (∀ v, oL.data ≠ .cell v)
  new : s'.gens[g]? = some (.fresh c)
  num : g = s.gens.size
  os : s'.os = s.os
  bare : AllBare s'.gens
  keep : ∀ b o, s.heap.get? b = some o → s'.heap.get? b = some o
  gens : ∀ (i : Nat) (x : GenState), s.gens[i]? = some x → s'.gens[i]? = some x
  hands : Hands C Gd fin ds M [(s.heap.objs.size, oL), (a, go)] [] (.fresh c)
structure GFnD (P : Program) (w : World) (K : Frag) (mg : Str → Option Value) (base : Heap) (k : Nat) (f : Addr) (fd : FuncData) (ps : List Str) (sp : GSpec) : Prop where
  len : ∀ xs cs ds fin Gd, sp xs cs ds fin Gd → xs.length = ps.length
  run : ∀ (A : Around) (outer : List Env) (s : Shared) (H M : Hp) (cs : Cells) (args : Args) (us : List Value) (vs : List V) (xs : List Vl) (ds : List Dat) (fin : GEnd) (Gd : Cells → Prop), Room k A → Env0 P w K mg base A outer s H → BindsTo s fd args (ps.zip us) → Vals vs us → Ok K M H cs → Paired (RV K M) vs xs → sp xs cs ds fin Gd →
    codeAny (model P w) A (.call (.ref f) args) (fun r s' => ∃ a C g go oL c, r = .ok (.ret (.ref a)) ∧ MadeD P w K mg base k outer M s ds fin Gd a s' C g go oL c) s
/-- the ends of a generator's body -/
def genE (fin : GEnd) : GDs := { nx := fun xs c0 _ cs => xs = [] ∧ fin = .done ∧ SubC c0 cs, rt := fun xs c0 x cs => x = .dat .non ∧ xs = [] ∧ fin = .done ∧ SubC c0 cs }
theorem gfn_data {P : Program} {w : World} {K : Frag} {mg : Str → Option Value} {base : Heap} {x qual : Str} {st : Stmt} {f : Addr} {fd : FuncData} {N ps : List Str} {k : Nat} {sp : GSpec} {t : (Cells → Prop) → GEnd → WGn} (F : Fun K x qual st f fd) (S : GScope N ps (defScope st)) (hnc : ∀ y ∈ (defScope st).names, y.2 ≠ .cell)
    (len : ∀ xs cs ds fin Gd, sp xs cs ds fin Gd → xs.length = ps.length)
    (body : ∀ (cdv : Value) (outer : List Env) (L : Addr) (self : Addr × Obj) (g : Nat) (Gd : Cells → Prop) (fin : GEnd), DGSs ⟨P, w, K, mg, base, N, envOfC qual (defScope st) L f cdv, outer, k + 1, self, g, L, fun gv => gv = []⟩ Gd fin (defBody st) (t Gd fin))
    (pure : ∀ xs cs ds fin Gd, sp xs cs ds fin Gd → (ds = [] ∧ fin = .cut) ∨ ∀ c1, Gd c1 → t Gd fin (genE fin) ds c1 (startD N.length xs) c1) : GFnD P w K mg base (k + 1) f fd ps sp := by
  obtain ⟨oc, od, kV, doc, pm, an, cdv, ct, osl, rfl, lk, hcd⟩ := F.ex
  refine ⟨len, fun A outer s H M cs args us vs xs ds fin Gd hr e0 hb rvs o rxs hsp => ?_⟩
  have hl := (Paired.len rxs).trans (len _ _ _ _ _ hsp)
  have KX : K.In s.heap := e0.mod.kin.keeps fun b o e => (e0.bs b o e).1
  have lim : s.heap.NoLimit := e0.mod.nolimit.keeps fun b o e => (e0.bs b o e).1
  have hkind : ∀ y ∈ ps.zip us, (defScope st).names.lookup y.1 = some .local ∨ ((defScope st).names.lookup y.1 = some .cell ∧ ((cellsFrom (s.heap.objs.size + 1) (defScope st).names []).lookup y.1).isSome = true) := fun ⟨n, v⟩ hy => by
    rcases S.par n (List.of_mem_zip hy).1 with q | q
    · exact .inl q
    · exact .inr ⟨q, PySem.W.cellsFrom_some _ _ _ (.inl q)⟩
  refine codeAny_call_generator hr.depth (KX _ _ lk) rfl S.co S.gen rfl (PySem.W.codeRec_of KX hcd) (hb _ _ _ _ ?_)
  refine wpAny_newFunctionEnv_cells S.kind hkind fun env he s1 xc => ?_
  subst he
  have lim1 : s1.heap.NoLimit := lim.keeps xc.toInCall.keep
  refine ⟨lim1, ?_⟩
  obtain ⟨h1, tk, es1, hk1⟩ := xc.done
  have os1 : s1.os = s.os := by rw [es1]
  have gen1 : s1.gens = s.gens := by rw [es1]
  have lt1 : s.heap.objs.size < s1.heap.objs.size := xc.toInCall.ns.lt
  have kp1 : ∀ b o, s.heap.get? b = some o → s1.heap.get? b = some o := xc.toInCall.keep
  obtain ⟨oL, es, ep, hoL, hdat, hrest⟩ := xc.toInCall.ns
  have hoL : s1.heap.get? s.heap.objs.size = some oL := hoL
  have hcl : (envOfC qual (defScope st) s.heap.objs.size f cdv).cells = [] := cells_nil _ _ hnc
  generalize hgo : ({ cls := .type "generator", data := .fields #[.int s1.gens.size 0, .str x s1.toks, .str qual (s1.toks + 1)] } : Obj) = go
  have hgod : go.cls = .type "generator" ∧ go.data = .fields #[.int s1.gens.size 0, .str x s1.toks, .str qual (s1.toks + 1)] := by rw [← hgo]; exact ⟨rfl, rfl⟩
  refine ⟨s1.heap.objs.size, _, s1.gens.size, go, oL, _, rfl, ⟨rfl, fun h e => by rw [← hgo] at e; exact ⟨_, _, _, e, rfl, rfl, rfl⟩, ⟨hgod.1, _, hgod.2⟩, ⟨by rw [← hgo]; exact Heap.get?_push_size _ rfl, Heap.get?_push_of_some _ hoL, lt1, fun v z => (by rw [hgod.2] at z; cases z), fun v z => (by rw [hdat] at z; cases z)⟩, Array.getElem?_push_size .., by rw [gen1], os1, AllBare.push (by rw [gen1]; exact e0.bare) rfl, fun b o e => Heap.get?_push_of_some _ (kp1 b o e), fun i x e => ?_, ?_⟩⟩
  · show (s1.gens.push _)[i]? = some x
    rw [gen1]
    have hi := (Array.getElem?_eq_some_iff.mp e).1
    rw [Array.getElem?_push, if_neg (Nat.ne_of_lt hi)]; exact e
  rcases pure xs cs ds fin Gd hsp with z | pure
  · exact .inl z
  refine .inr fun Aw y W => ?_
  have hrw : Room (k + 1) Aw := W.room
  have hfr : Aw.frames = some outer := W.env.frames
  have e0w : Env0 P w K mg base Aw outer s H := ⟨hfr, e0.mod, e0.bs, e0.bsz, e0.funs, e0.frf, e0.hok, e0.bare⟩
  have I1 : Inv (gcxOf P w K mg base N qual (defScope st) f cdv Aw outer s H E0 []) [] (start N vs) H s1 := inv_startG S hrw.hd e0w hl rvs xc
  have hL1 := W.pv (s.heap.objs.size, oL) List.mem_cons_self
  have hA1 := W.pv (s1.heap.objs.size, go) (List.mem_cons_of_mem _ List.mem_cons_self)
  have hga : H s1.heap.objs.size = none := I1.hok.fresh (Nat.le_refl _)
  have hafs : s1.heap.objs.size ∉ frs outer := I1.nofs (Nat.le_refl _)
  have I2 := I1.kept (t' := s1.toks) (h' := s1.heap.push go) fun b u e => Heap.get?_push_of_some _ e
  let Gn : GP := ⟨P, w, K, mg, base, N, envOfC qual (defScope st) s.heap.objs.size f cdv, outer, k + 1, (s1.heap.objs.size, go), s1.gens.size, s.heap.objs.size, fun gv => gv = []⟩
  have I3 : Inv (Gn.X Aw s H) [] (start N vs) H { s1 with heap := s1.heap.push go, toks := s1.toks } := by
    refine ⟨⟨I2.ok.mod, I2.ok.kind, I2.ok.glob, I2.ok.blt, I2.ok.above, I2.ok.inj, I2.ok.has, I2.ok.cab, I2.ok.hd, I2.ok.frames, I2.ok.stk, I2.ok.exf, I2.ok.bs, I2.ok.bsz, I2.ok.noex, I2.ok.exfs, I2.ok.funs, I2.ok.frf⟩, I2.os, I2.bare, I2.base, I2.loc, I2.cell, I2.free, I2.freeC, fun p hp => ?_, I2.hok, I2.len⟩
    rw [List.mem_singleton.mp (show p ∈ [_] from hp)]
    refine ⟨?_, hga, Nat.ne_of_gt lt1, hafs, fun v z => by rw [hgod.2] at z; cases z⟩
    exact Heap.get?_push_size _ (by rw [← hgo]; rfl)
  have hy : Lg Gn y := Nat.le_of_lt (Heap.lt_size hL1.1)
  have hfs' : (Aw.deeper Gn.env).frames = some (Gn.env :: outer) := by
    show Aw.frames.map (Gn.env :: ·) = _
    rw [hfr]; rfl
  have I4 : Inv (Gn.X Aw (cutS Gn.L y.s) y.H) ([] ++ y.fp) (start N vs) y.H y.s := by
    refine rebase (G := Gn) rfl (Nat.le_refl _) hcl I3 rfl hrw.hd hrw.hd W.env (fun o e => ?_) hL1.2 (fun q hq => ?_) hfs'
    · have e' : (s1.heap.push _).get? s.heap.objs.size = some o := e
      rw [Heap.get?_push_of_some _ hoL] at e'
      cases e'
      exact hL1.1
    · rcases List.mem_cons.mp hq with z | z
      · rw [z]
        exact ⟨hA1.1, hA1.2, Nat.ne_of_gt lt1, hafs, fun v z => by rw [hgod.2] at z; cases z⟩
      · exact W.fp q z
  refine sz_func ?_
  refine (body cdv outer s.heap.objs.size (s1.heap.objs.size, go) s1.gens.size Gd fin).run Aw y.M y [] [] _ [] _ _ id id y.s ds (startD N.length xs) y.cs (genE fin) ⟨hcl, rfl, S.kind, rfl, Nat.le_refl _, fun q hq => ?_, fun A => over_func, rfl, rfl, rfl⟩ hrw hy (fun A' y' xs' s' fl hr' hy' hs => ?_) ⟨start N vs, y.H, y.M, I4, Same.refl _, Same.refl _, W.ok, (start_rho rxs).mono W.same, ⟨W.gz, fun p hp => by cases hp⟩, (fun p hp q hq => W.dis p (by rw [List.mem_singleton.mp (show p ∈ [_] from hp)]; exact List.mem_cons_of_mem _ List.mem_cons_self) q hq)⟩ (pure y.cs W.gd)
  · rw [List.mem_singleton.mp (show q ∈ [_] from hq)]
    exact Nat.le_of_lt lt1
  · cases fl with
    | next =>
      obtain ⟨ρ', cs', ⟨σ', H', M', I', k', m', o', r', v', d'⟩, rfl, rfl, sub⟩ := hs
      exact sz_end (.ok (.ret .none)) ⟨.inl rfl, H', M', ⟨I'.os, I'.bare, un_woken I', I'.hok, m', o'.sub sub, fun q hq => ⟨(I'.pin q (List.mem_append_right _ (List.mem_append_right _ hq))).1, (I'.pin q (List.mem_append_right _ (List.mem_append_right _ hq))).2.1⟩⟩⟩
    | brk => obtain ⟨ρ', cs', _, z⟩ := hs; exact z.elim
    | cont => obtain ⟨ρ', cs', _, z⟩ := hs; exact z.elim
    | ret u =>
      obtain ⟨v', x', σ', H', M', cs', I', k', m', o', rv', rx', rfl, rfl, rfl, sub⟩ := hs
      rw [inv_non rx'] at rv'
      have eu : u = Value.none := rv'
      subst eu
      exact sz_end (.ok (.ret .none)) ⟨.inl rfl, H', M', ⟨I'.os, I'.bare, un_woken I', I'.hok, m', o'.sub sub, fun q hq => ⟨(I'.pin q (List.mem_append_right _ (List.mem_append_right _ hq))).1, (I'.pin q (List.mem_append_right _ (List.mem_append_right _ hq))).2.1⟩⟩⟩
end GN
set_option maxRecDepth 100000
set_option maxHeartbeats 4000000
namespace GN
open PySem L2 PySem.Spec PyProof.Rows GenW DL GT
section
variable {P : Program} {w : World} {A : Around} {E : Value → Shared → Prop} {s : Shared}
theorem next_Z {a : Addr} {g : Nat} {gs : GenState} {Z : End → Shared → Prop} {Q : Option Value → Shared → Prop} (hh : A.handled = none) (hl : s.heap.NoLimit) (hroom : A.depth < recursionLimit) (hg : s.heap.IsGen a g) (hgs : s.gens[g]? = some gs)
    (hgo : Wk (model P w) A.in1 Z gs (s.setGen g .running)) (hq : ∀ e s₁, Z e s₁ → e.quiet = true ∧ ((∃ v gd l k c p fs, e = .susp v gd l k c p fs) ∨ e = .ret (.ok (.ret .none)) ∨ e = .ret (.ok .next)))
    (hY : ∀ v s₁ gd l k c p fs, Z (.susp v gd l k c p fs) s₁ → Q (some v) (s₁.setGen g (End.susp v gd l k c p fs).genState))
    (hP : ∀ e s₁, e = .ret (.ok (.ret .none)) ∨ e = .ret (.ok .next) → Z e s₁ → ∀ h', (∀ b o, s₁.heap.get? b = some o → h'.get? b = some o) → Q none { s₁.setGen g .finished with heap := h' }) : wpAny (model P w) A (pyNext (.ref a)) Q E s := by
  unfold pyNext
  refine wpAny_bind (wpAny_attempt (wpAny_callSpecial?_slot (name := Str.ofString "__next__") hg.typeIs slot_gen_next (wpAny_call_entry slot_gen_next hg.typeIs entry_gen_next ?_ (args_gen_next _))))
  show wpAny _ A.in1 (Builtin.Generator.genWake (.ref a) (.send .none)) _ _ s
  unfold Builtin.Generator.genWake
  refine wpAny_bind (wpAny_holding (wpAny_genNumber hg (wpAny_bind (wpAny_genState hgs ?_))))
  cases gs with
  | running => exact hgo.elim
  | finished => exact hgo.elim
  | _ =>
    refine wpAny_bind (wpAny_roomToWake hl hroom ?_)
    show wpAny _ A.in1 (.resume g (.send .none) [] _) _ _ s
    refine wp_resumeZ hgs hgo fun e s₁ he => ⟨(hq e s₁ he).1, ?_⟩
    rcases (hq e s₁ he).2 with ⟨v, gd, l, k, c, p, fs, rfl⟩ | hend
    · exact wpAny_pure ⟨v, rfl, wpAny_pure (hY v s₁ gd l k c p fs he)⟩
    · have hres : e.result = .returned .none := by rcases hend with z | z <;> subst z <;> rfl
      have hst : e.genState = .finished := by rcases hend with z | z <;> subst z <;> rfl
      rw [hres, hst]
      show wpAny _ A.in1 (newExc (.type "StopIteration") [] >>= _) _ _ _
      refine wpAny_bind ?_
      simp only [newExc, newTuple]
      refine wpAny_bind (wpAny_newObj_type ?_ (by size_fits))
      refine wpAny_bind (m := firstArgMember _ _) (wpAny_of_eq (a := Value.none) (by first | rfl | (simp only [firstArgMember]; rfl)) ?_)
      refine wpAny_newObj_type ?_ (by size_fits)
      simp only [raiseNew]
      refine wpAny_bind (wpAny_bind (wpAny_handled ?_))
      first | rw [show A.in1.handled = none from hh] | rw [hh]
      refine wpAny_throw ?_
      refine wpAny_bind (wpAny_isInstance (T := "StopIteration") (b := true) ⟨_, Heap.get?_push_size _ rfl, rfl⟩ isSubtype_stop ?_)
      exact wpAny_pure (hP e s₁ hend he _ fun b o hb => Heap.get?_push_of_some _ (Heap.get?_push_of_some _ hb))
end
/-! ### it is woken -/
theorem next_hands {C : GC} {A : Around} {s : Shared} {H M M' : Hp} {cs : Cells} {fp : List (Addr × Obj)} {Gd : Cells → Prop} {fin : GEnd} {ds : List Dat} {pv : List (Addr × Obj)} {gv : List (Nat × GenState)} {gs : GenState} {Q : Option Value → Shared → Prop} {E : Value → Shared → Prop}
    (hh : A.handled = none) (lim : s.heap.NoLimit) (dp : A.depth < recursionLimit) (hg : s.heap.IsGen C.self.1 C.g) (hgs : s.gens[C.g]? = some gs) (hw : Hands C Gd fin ds M pv gv gs) (hne : ¬ (ds = [] ∧ fin = .cut)) (W : Wake C A.in1 Gd M pv gv ⟨s.setGen C.g .running, H, M', cs, fp⟩)
    (hY : ∀ d r v x s₁ gs' H' M2 pv' gv', ds = d :: r → susp gs' = true → gs'.bare = true → Left C ⟨s.setGen C.g .running, H, M', cs, fp⟩ s₁ H' M2 → RelV x v → Dr C.K M2 x d → PvOk C ⟨s.setGen C.g .running, H, M', cs, fp⟩ pv' s₁ H' → GvOk C.g gv' s₁ → Hands C Gd fin r M2 pv' gv' gs' → Q (some v) (s₁.setGen C.g gs'))
    (hD : ∀ s₁ H' M2 h', ds = [] → fin = .done → Left C ⟨s.setGen C.g .running, H, M', cs, fp⟩ s₁ H' M2 → (∀ b o, s₁.heap.get? b = some o → h'.get? b = some o) → Q none { s₁.setGen C.g .finished with heap := h' }) :
    wpAny (model C.P C.w) A (pyNext (.ref C.self.1)) Q E s := by
  rcases hw with z | hw
  · exact absurd z hne
  have wk := hw A.in1 _ W
  refine next_Z hh lim dp hg hgs wk (fun e s₁ he => hz_ends he) (fun v s₁ gd l kk c' p fs hz => ?_) (fun e s₁ hend hz h' hk => ?_)
  · cases ds with
    | nil =>
      cases fin with
      | cut => exact (show False from hz).elim
      | done => obtain ⟨z, _⟩ := hz; rcases z with z | z <;> cases z
    | cons d r =>
      obtain ⟨v', gd', l', kk', c'', p', fs', heq, hqt, H', M2, pv', gv', x, lf, rv, dr, pvk', gvk', wk'⟩ := hz
      cases heq
      exact hY d r v x s₁ _ H' M2 pv' gv' rfl rfl (End.bare_of_quiet hqt) lf rv dr pvk' gvk' wk'
  · cases ds with
    | nil =>
      cases fin with
      | cut => exact (show False from hz).elim
      | done =>
        obtain ⟨_, H', M2, lf⟩ := hz
        exact hD s₁ H' M2 h' rfl rfl lf hk
    | cons d r =>
      obtain ⟨v', gd', l', kk', c'', p', fs', heq, _⟩ := hz
      rcases hend with z | z <;> rw [z] at heq <;> cases heq
/-- what a consumer X knows of a generator that it holds -/
structure Held (X : Cx) (pins : List (Addr × Obj)) (C : GC) : Prop where
  P : C.P = X.prog
  w : C.w = X.w
  K : C.K = X.K
  mg : C.mg = X.mg
  base : C.base = X.base
  outer : C.outer = X.stack
  pinl : ∀ p ∈ X.pn ++ pins, p.1 < C.L
  locl : X.env.locals < C.L
  celll : ∀ x c, X.env.cells.lookup x = some c → c < C.L
  szl : X.s_0.heap.objs.size ≤ C.L
  fsl : ∀ b ∈ X.fs, b < C.L
  stl : ∀ b ∈ frs X.stack, b < C.L
  cls : C.self.2.cls = .type "generator" ∧ ∃ vs, C.self.2.data = .fields vs
  gen : ∀ h : Heap, h.get? C.self.1 = some C.self.2 → h.IsGen C.self.1 C.g
theorem held_of {X : Cx} {pins : List (Addr × Obj)} {σ : L2.St} {H : Hp} {k : Nat} {M : Hp} {s s' : Shared} {ds : List Dat} {fin : GEnd} {Gd : Cells → Prop} {a : Addr} {C : GC} {g : Nat} {go oL : Obj} {c : Code} (I : Inv X pins σ H s)
    (mk : MadeD X.prog X.w X.K X.mg X.base k X.stack M s ds fin Gd a s' C g go oL c) : Held X pins C := by
  have e := mk.eqC
  subst e
  refine ⟨rfl, rfl, rfl, rfl, rfl, rfl, fun p hp => Heap.lt_size (I.pin p hp).1, I.lt, fun x c hx => ?_, I.sz, fun b hb => ?_, fun b hb => ?_, mk.cls, mk.gen⟩
  · obtain ⟨v, q⟩ := I.cell x c hx
    exact q.lt
  · apply Nat.lt_of_not_le
    intro z
    exact I.nofs z hb
  · rcases List.mem_cons.mp (I.stkSub b hb) with z | z
    · rw [z]; exact I.lt
    · apply Nat.lt_of_not_le
      intro z2
      exact I.nofs z2 z
/-! ### an expression whose value is a new generator -/
structure Made (X : Cx) (pins : List (Addr × Obj)) (σ : L2.St) (k n0 : Nat) (M : Hp) (cs : Cells) (ds : List Dat) (fin : GEnd) (Gd : Cells → Prop) (a : Addr) (s' : Shared) (H : Hp) (C : GC) (gs : GenState) (pv : List (Addr × Obj)) (gv : List (Nat × GenState)) : Prop where
  held : Held X pins C
  ek : C.k = k
  ea : C.self.1 = a
  inv : Inv X pins σ H s'
  ok : Ok X.K M H cs
  gsk : s'.gens[C.g]? = some gs
  num : n0 ≤ C.g
  pvk : ∀ p ∈ pv, s'.heap.get? p.1 = some p.2 ∧ H p.1 = none ∧ C.L ≤ p.1 ∧ ∀ v, p.2.data ≠ .cell v
  self : C.self ∈ pv
  loc : ∃ o, (C.loc, o) ∈ pv
  gvk : GvOk C.g gv s'
  hands : Hands C Gd fin ds M pv gv gs
theorem made_of {X : Cx} {pins : List (Addr × Obj)} {σ : L2.St} {H : Hp} {k n0 : Nat} {M : Hp} {cs : Cells} {s s' : Shared} {ds : List Dat} {fin : GEnd} {Gd : Cells → Prop} {a : Addr} {C : GC} {g : Nat} {go oL : Obj} {c : Code} (I : Inv X pins σ H s) (o : Ok X.K M H cs) (hn : n0 ≤ s.gens.size)
    (mk : MadeD X.prog X.w X.K X.mg X.base k X.stack M s ds fin Gd a s' C g go oL c) : Made X pins σ k n0 M cs ds fin Gd a s' H C (.fresh c) [(s.heap.objs.size, oL), (a, go)] [] := by
  have hC := held_of I mk
  have eC := mk.eqC
  obtain ⟨ob1, ob2, ob3, ob4, ob5⟩ := mk.obj
  have eL : C.L = s.heap.objs.size := by rw [eC]
  have eg : C.g = g := by rw [eC]
  refine ⟨hC, by rw [eC], by rw [eC], I.call' (ch := []) mk.os (Un.kept mk.keep) (I.hok.kept mk.keep) mk.bare (fun b z => by simp at z), o, by rw [eg]; exact mk.new, by rw [eg, mk.num]; exact hn, fun p hp => ?_, by rw [eC]; exact List.mem_cons_of_mem _ List.mem_cons_self, ⟨oL, by rw [eC]; exact List.mem_cons_self⟩, ⟨by rw [eg]; exact (Array.getElem?_eq_some_iff.mp mk.new).1, fun p hp => by cases hp⟩, mk.hands⟩
  rcases List.mem_cons.mp hp with z | z
  · rw [z]
    exact ⟨ob2, I.hok.fresh (Nat.le_refl _), by rw [eL]; exact Nat.le_refl _, ob5⟩
  · rw [List.mem_singleton.mp z]
    exact ⟨ob1, I.hok.fresh (Nat.le_of_lt ob3), by rw [eL]; exact Nat.le_of_lt ob3, ob4⟩
abbrev WGe := DEnv → Cells → (List Dat → GEnd → (Cells → Prop) → Cells → Prop) → Prop
structure DGe (X : Cx) (k : Nat) (e : Expr) (wg : WGe) : Prop where
  run : ∀ (pins : List (Addr × Obj)) (s : Shared) (σ : L2.St) (H M : Hp) (ρ : DEnv) (cs : Cells) (R : List Dat → GEnd → (Cells → Prop) → Cells → Prop), Inv X pins σ H s → Ok X.K M H cs → Rho X.K M σ ρ → wg ρ cs R →
    wpAny (model X.prog X.w) X.A (eval e X.env) (fun u s' => ∃ a H1 M1 cs1 ds fin Gd C gs pv gv, u = .ref a ∧ Same M M1 ∧ Made X pins σ k s.gens.size M1 cs1 ds fin Gd a s' H1 C gs pv gv ∧ R ds fin Gd cs1) X.xe s
section
variable {X : Cx} {pins fp : List (Addr × Obj)} {C : GC} {σ : L2.St} {H : Hp} {s : Shared}
theorem Held.young (h : Held X pins C) (hp : Heap) : ∀ b ∈ young C.L hp, (b ∈ X.ex ∨ X.s_0.heap.objs.size ≤ b) ∧ b ≠ X.env.locals ∧ (∀ x c, X.env.cells.lookup x = some c → c ≠ b) ∧ ∀ p ∈ X.pn ++ pins, p.1 ≠ b := fun b hb => by
  have hb := (mem_young.mp hb).2
  exact ⟨.inr (Nat.le_trans h.szl hb), Nat.ne_of_gt (Nat.lt_of_lt_of_le h.locl hb), fun x c hx => Nat.ne_of_lt (Nat.lt_of_lt_of_le (h.celll x c hx) hb), fun p hp => Nat.ne_of_lt (Nat.lt_of_lt_of_le (h.pinl p hp) hb)⟩
/-- it may be woken -/
theorem Held.wake {pins2 : List (Addr × Obj)} (h : Held X pins C) (I : Inv X pins2 σ H s) {A : Around} (hA : A.frames = X.A.frames) (hr : Room C.k A) {M M' : Hp} {cs : Cells} (o : Ok X.K M' H cs) (sm : Same M M') {Gd : Cells → Prop} (gd : Gd cs) {pv : List (Addr × Obj)} {gv : List (Nat × GenState)}
    (pvk : ∀ p ∈ pv, s.heap.get? p.1 = some p.2 ∧ H p.1 = none) (gvk : GvOk C.g gv s) (dis : ∀ p ∈ pv, ∀ q ∈ fp, q.1 ≠ p.1) (hfp : ∀ p ∈ fp, s.heap.get? p.1 = some p.2 ∧ H p.1 = none ∧ p.1 ≠ C.loc ∧ p.1 ∉ frs C.outer ∧ ∀ v, p.2.data ≠ .cell v) :
    Wake C A Gd M pv gv ⟨s.setGen C.g .running, H, M', cs, fp⟩ := by
  refine ⟨hr, ?_, sm, by show Ok C.K _ _ _; rw [h.K]; exact o, gd, dis, pvk, fun p hp => ?_, ?_, hfp⟩
  · rw [h.P, h.w, h.K, h.mg, h.base, h.outer]
    have e := I.env0
    exact ⟨hA.trans e.frames, e.mod, e.bs, e.bsz, e.funs, e.frf, e.hok, allBare_setGen e.bare rfl⟩
  · obtain ⟨g1, g2, _⟩ := gvk.at_ p hp
    show (s.setGen C.g .running).gens[p.1]? = some p.2
    rw [show (s.setGen C.g .running).gens = s.gens.setIfInBounds C.g .running from rfl, Array.getElem?_setIfInBounds, if_neg (Nat.ne_of_lt g1)]
    exact g2
  · show C.g < (s.setGen C.g .running).gens.size
    rw [setGen_size]; exact gvk.sz
/-- back from it -/
theorem Held.back (h : Held X pins C) (I : Inv X (pins ++ fp) σ H s) {M' : Hp} {cs : Cells} {s₁ : Shared} {H' M2 : Hp} (lf : Left C ⟨s.setGen C.g .running, H, M', cs, fp⟩ s₁ H' M2) {g' : Array GenState} (hg : AllBare g') (h' : Heap) (hk : ∀ b o, s₁.heap.get? b = some o → h'.get? b = some o) :
    Inv X (pins ++ fp) σ H' { s₁ with gens := g', heap := h' } ∧ Same M' M2 ∧ Ok X.K M2 H' cs := by
  have un : Un (frs X.stack) (GT.young C.L s.heap) H H' s.heap s₁.heap := by rw [← h.outer]; exact lf.un
  have hok : HOk X.prog X.w H' s₁.heap := by
    have := lf.hok
    rw [h.P, h.w] at this
    exact this
  let ch := (GT.young C.L s.heap).filter fun b => decide (∀ q ∈ fp, q.1 ≠ b)
  have out : ∀ b, b ∉ ch → b ∉ GT.young C.L s.heap ∨ ∃ q ∈ fp, q.1 = b := fun b hb => by
    by_cases hy : b ∈ GT.young C.L s.heap
    · right
      apply Decidable.byContradiction
      intro z
      exact hb (List.mem_filter.mpr ⟨hy, decide_eq_true fun q hq e => z ⟨q, hq, e⟩⟩)
    · exact .inl hy
  have fpI : ∀ q ∈ fp, s.heap.get? q.1 = some q.2 := fun q hq => (I.pin q (List.mem_append_right _ (List.mem_append_right _ hq))).1
  have un2 : Un (frs X.stack) ch H H' s.heap s₁.heap := by
    refine ⟨fun b o e n hf hx => ?_, fun b o e n hf hx => ?_, fun b o e n hx => ?_, fun b o e hx => ?_, un.tups, un.frzs, un.tbls⟩
    · rcases out b hx with z | ⟨q, hq, rfl⟩
      · exact un.keep b o e n hf z
      · rw [fpI q hq] at e; cases e; exact (lf.fp q hq).1
    · rcases out b hx with z | ⟨q, hq, rfl⟩
      · exact un.slot b o e n hf z
      · rw [fpI q hq] at e; cases e; exact ⟨_, (lf.fp q hq).1⟩
    · rcases out b hx with z | ⟨q, hq, rfl⟩
      · exact un.free b o e n z
      · exact (lf.fp q hq).2
    · rcases out b hx with z | ⟨q, hq, rfl⟩
      · exact un.there b o e z
      · exact ⟨_, (lf.fp q hq).1⟩
  refine ⟨I.call' (s' := { s₁ with gens := g', heap := h' }) (ch := ch) lf.os (un2.trans (Un.kept hk)) (hok.kept hk) hg (fun b hb => ?_), lf.same, ?_⟩
  · obtain ⟨hb1, hb2⟩ := List.mem_filter.mp hb
    obtain ⟨y1, y2, y3, y4⟩ := h.young s.heap b hb1
    refine ⟨y1, y2, y3, fun p hp => ?_⟩
    rcases List.mem_append.mp hp with z | z
    · exact y4 p (List.mem_append_left _ z)
    · rcases List.mem_append.mp z with z | z
      · exact y4 p (List.mem_append_right _ z)
      · exact of_decide_eq_true hb2 p z
  · have := lf.ok
    rw [h.K] at this
    exact this
end
def wForG (wg : WGe) (g : WG) (wb : WS) : WS := fun D ρ cs => wg ρ cs fun ds fin Gd cs1 => ∃ Iv : Nat → DEnv → Cells → Prop, Iv 0 ρ cs1 ∧ (∀ i ρ' cs', i ≤ ds.length → Iv i ρ' cs' → Gd cs') ∧
  (∀ i d ρ' cs', ds[i]? = some d → Iv i ρ' cs' → g (.dat d) ρ' cs' fun ρ2 cs2 => wb { D with nx := Iv (i + 1), ct := Iv (i + 1), bk := D.nx } ρ2 cs2) ∧ ∀ ρ' cs', Iv ds.length ρ' cs' → fin = .done ∧ D.nx ρ' cs'
theorem ds_forG {X : Cx} {k : Nat} {tg iter : Expr} {body : List Stmt} {pos : Pos} {js : List Nat} {wg : WGe} {g : WG} {wb : WS} (hx0 : ∀ e s, ¬ X.xe e s) (hc : X.calm = true) (hr : Room (k + 1) X.A) (hi : DGe X k iter wg) (hg : DG X js tg g) (hb : DSs X body wb)
    (hs : ∀ x, foldedSetIterable iter X.env x = pure x := by intro _; rfl) : DS X (.For tg iter body [] pos) (wForG wg g wb) := by
  refine ⟨fun pins s σ H E I ⟨M, ρ, cs, D, o, r, h, eo⟩ => ?_⟩
  have hh : X.A.handled = none := I.ok.hd hc
  refine wpAny_For (wpAny_mono (hi.run pins s σ H M ρ cs _ I o r h) (fun u s1 h1 => ?_) fun e s' hx => (hx0 e s' hx).elim) hs
  obtain ⟨a, H1, M1, cs1, ds, fin, Gd, C, gs0, pv0, gv0, rfl, sm1, mk, Iv, iv0, ivG, turn, fin'⟩ := h1
  have hC := mk.held
  have ea : C.self.1 = a := mk.ea
  have ek : C.k = k := mk.ek
  refine wpAny_pyIter_gen (by have := hC.gen _ (mk.pvk _ mk.self).1; rw [ea] at this; exact this) ?_
  have room1 : Room C.k X.A.in1 := by rw [ek]; exact hr.in1
  have frm1 : X.A.in1.frames = X.A.frames := rfl
  refine codeAny_forLoop_any (fun n s' => ∃ i σ' H' M' ρ' cs' gs pv gv, n = ds.length - i ∧ i ≤ ds.length ∧ Inv X pins σ' H' s' ∧ Same M1 M' ∧ Ok X.K M' H' cs' ∧ Rho X.K M' σ' ρ' ∧ Iv i ρ' cs' ∧ s'.gens[C.g]? = some gs ∧ (∀ p ∈ pv, s'.heap.get? p.1 = some p.2 ∧ H' p.1 = none ∧ C.L ≤ p.1 ∧ ∀ v, p.2.data ≠ .cell v) ∧ C.self ∈ pv ∧ GvOk C.g gv s' ∧ Hands C Gd fin (ds.drop i) M' pv gv gs) ?_ ds.length ?_
  · rintro n s3 ⟨i, σ3, H3, M3, ρ3, cs3, gs, pv, gv, rfl, hi3, I3, sm3, o3, r3, iv3, hgs, pvk, slf, gvk, hw⟩
    have gd3 := ivG i ρ3 cs3 hi3 iv3
    have ha3 : s3.heap.get? C.self.1 = some C.self.2 := (pvk _ slf).1
    have hW := hC.wake (fp := []) I3 frm1 room1 o3 (Same.refl M3) gd3 (fun p hp => ⟨(pvk p hp).1, (pvk p hp).2.1⟩) gvk (fun p _ q hq => by cases hq) (fun p hp => by cases hp)
    have hn0 : ¬ (ds.drop i = [] ∧ fin = .cut) := by
      rintro ⟨z1, z2⟩
      have : ds.length ≤ i := by
        have := congrArg List.length z1
        rw [List.length_drop, List.length_nil] at this
        omega
      have ei : i = ds.length := by omega
      rw [ei] at iv3
      have := (fin' ρ3 cs3 iv3).1
      rw [z2] at this
      cases this
    have key := fun (Q : Option Value → Shared → Prop) (E : Value → Shared → Prop) => next_hands (Q := Q) (E := E) hh I3.nolimit hr.depth (hC.gen _ ha3) hgs hw hn0 hW
    rw [hC.P, hC.w, ea] at key
    refine key _ _ (fun d rr v x s₁ gs' H' M' pv' gv' hds hsus hbare' lf rv dr pvk' gvk' hw' => ?_) (fun s₁ H' M' h' hds hfin lf hk => ?_)
    · have hlt : i < ds.length := by
        have := congrArg List.length hds
        rw [List.length_drop, List.length_cons] at this
        omega
      have hd : ds[i]? = some d ∧ ds.drop (i + 1) = rr := by
        have e1 := drop_cons (List.getElem?_eq_getElem hlt)
        rw [hds] at e1
        cases e1
        exact ⟨List.getElem?_eq_getElem hlt, rfl⟩
      rw [← hd.2] at hw'
      obtain ⟨I4, sm4, o4⟩ := hC.back (fp := []) (by rw [List.append_nil]; exact I3) lf (allBare_setGen (s := s₁) (g := C.g) (x := gs') lf.bare hbare') s₁.heap (fun _ _ e => e)
      rw [List.append_nil] at I4
      have I4 : Inv X pins σ3 H' (s₁.setGen C.g gs') := I4
      have hg4 : (s₁.setGen C.g gs').gens[C.g]? = some gs' := setGen_at gvk'.sz
      have hb4 : AllBare (s₁.setGen C.g gs').gens := I4.bare
      have hh4 : (s₁.setGen C.g gs').heap = s₁.heap := rfl
      have gvk4 : GvOk C.g gv' (s₁.setGen C.g gs') := ⟨by rw [setGen_size]; exact gvk'.sz, fun p hp => by
        obtain ⟨g1, g2, g3⟩ := gvk'.at_ p hp
        refine ⟨g1, ?_, g3⟩
        rw [show (s₁.setGen C.g gs').gens = s₁.gens.setIfInBounds C.g gs' from rfl, Array.getElem?_setIfInBounds, if_neg (Nat.ne_of_lt g1)]
        exact g2⟩
      have ha5 : s₁.heap.get? C.self.1 = some C.self.2 := (pvk'.at_ _ pvk'.self).1
      generalize s₁.setGen C.g gs' = s4 at I4 hg4 hb4 hh4 gvk4 ⊢
      show wpAny _ _ (letOwnedTupleGo tg (.ref a) v) _ _ s4
      obtain ⟨vsD, hdD⟩ := hC.cls.2
      rw [← ea]
      refine go_of (by rw [hh4]; exact ha5) hC.cls.1 hdD (by decide) ?_
      have pinv : ∀ p ∈ pv', s4.heap.get? p.1 = some p.2 ∧ H' p.1 = none ∧ p.1 ≠ X.env.locals ∧ p.1 ∉ X.fs ∧ ∀ v, p.2.data ≠ .cell v := fun p hp => by
        obtain ⟨q1, q2, q3, q4⟩ := pvk'.at_ p hp
        exact ⟨by rw [hh4]; exact q1, q2, Nat.ne_of_gt (Nat.lt_of_lt_of_le hC.locl q3), fun z => Nat.lt_irrefl _ (Nat.lt_of_lt_of_le (hC.fsl _ z) q3), q4⟩
      have I5 : Inv X (pins ++ pv') σ3 H' s4 := I4.pins_of fun p hp => by
        rcases List.mem_append.mp hp with z | z
        · exact I4.pin p (List.mem_append_right _ z)
        · exact pinv p z
      have dr' : RV X.K M' x (.dat d) := by
        have : Dr C.K M' x d := dr
        rw [hC.K] at this
        exact this
      -- the target is stored
      refine wpAny_mono (wpAny_sl (hg.run (pins ++ pv') (deafen s4) σ3 H' x v (fun σ' H2 => ∃ M2 ρ2 cs2, Same M' M2 ∧ Ok X.K M2 H2 cs2 ∧ Rho X.K M2 σ' ρ2 ∧ wb { D with nx := Iv (i + 1), ct := Iv (i + 1), bk := D.nx } ρ2 cs2) (inv_deaf I5) rv
        ⟨M', ρ3, cs3, .dat d, _, o4, r3.mono sm4, dr', turn i d ρ3 cs3 hd.1 iv3, fun σ' ρ' M2 H2 cs' sm o' r' _ _ p => ⟨M2, ρ', cs', sm, o', r', p⟩⟩)) (fun _ s6 h6 => ?_) (fun e s' ⟨_, _, hx⟩ => (hx0 _ _ hx).elim)
      obtain ⟨s60, sl6, σ6, H6, I60, M6, ρ6, cs6, sm6, o6, r6, q6⟩ := h6
      have I6 : Inv X (pins ++ pv') σ6 H6 s6 := inv_back sl6 hb4 I60
      have g6 := sl6.slept.kept C.g gs' hg4 hsus
      have gvk6 := gv_slept gvk4 sl6
      -- the body
      refine wpAny_mono (wpAny_sl (hb.run (pins ++ pv') (deafen s6) σ6 H6 { nx := fun σ' H2 => ∃ M2 ρ2 cs2, Same M6 M2 ∧ Ok X.K M2 H2 cs2 ∧ Rho X.K M2 σ' ρ2 ∧ Iv (i + 1) ρ2 cs2, rt := E.rt, bk := E.nx, ct := fun σ' H2 => ∃ M2 ρ2 cs2, Same M6 M2 ∧ Ok X.K M2 H2 cs2 ∧ Rho X.K M2 σ' ρ2 ∧ Iv (i + 1) ρ2 cs2 } (inv_deaf I6)
        ⟨M6, ρ6, cs6, _, o6, r6, q6, ⟨fun σ' ρ' M2 H2 cs' sm o' r' p => ⟨M2, ρ', cs', sm, o', r', p⟩, eo.rt.mono (sm1.trans (sm3.trans (sm4.trans sm6))), eo.nx.mono (sm1.trans (sm3.trans (sm4.trans sm6))), fun σ' ρ' M2 H2 cs' sm o' r' p => ⟨M2, ρ', cs', sm, o', r', p⟩⟩⟩)) (fun f s7 h7 => ?_) (fun e s' ⟨_, _, hx⟩ => (hx0 _ _ hx).elim)
      obtain ⟨s70, sl7, q7⟩ := h7
      have g7 := sl7.slept.kept C.g gs' g6 hsus
      have gvk7 := gv_slept gvk6 sl7
      have real7 : ∀ {σ7 : L2.St} {H7 : Hp}, Inv X (pins ++ pv') σ7 H7 s70 → Inv X (pins ++ pv') σ7 H7 s7 := fun {σ7 H7} I7 => inv_back sl7 I6.bare I7
      have again : ∀ {σ7 : L2.St} {H7 : Hp}, Inv X (pins ++ pv') σ7 H7 s70 → (∃ M2 ρ2 cs2, Same M6 M2 ∧ Ok X.K M2 H7 cs2 ∧ Rho X.K M2 σ7 ρ2 ∧ Iv (i + 1) ρ2 cs2) → ∃ m, m < ds.length - i ∧ ∃ i σ' H' M' ρ' cs' gs pv gv, m = ds.length - i ∧ i ≤ ds.length ∧ Inv X pins σ' H' s7 ∧ Same M1 M' ∧ Ok X.K M' H' cs' ∧ Rho X.K M' σ' ρ' ∧ Iv i ρ' cs' ∧ s7.gens[C.g]? = some gs ∧ (∀ p ∈ pv, s7.heap.get? p.1 = some p.2 ∧ H' p.1 = none ∧ C.L ≤ p.1 ∧ ∀ v, p.2.data ≠ .cell v) ∧ C.self ∈ pv ∧ GvOk C.g gv s7 ∧ Hands C Gd fin (ds.drop i) M' pv gv gs := fun {σ7 H7} I70 ⟨M7, ρ7, cs7, sm7, o7, r7, iv7⟩ => by
        have I7 := real7 I70
        refine ⟨ds.length - (i + 1), by omega, i + 1, σ7, H7, M7, ρ7, cs7, gs', pv', gv', rfl, hlt, I7.unpinned, sm3.trans (sm4.trans (sm6.trans sm7)), o7, r7, iv7, g7, fun p hp => ?_, pvk'.self, gvk7, ?_⟩
        · obtain ⟨z1, z2, _⟩ := I7.pin p (List.mem_append_right _ (List.mem_append_right _ hp))
          obtain ⟨_, _, q3, q4⟩ := pvk'.at_ p hp
          exact ⟨z1, z2, q3, q4⟩
        · rcases hw' with z | hw'
          · exact .inl z
          · exact .inr fun A y W => hw' A y ⟨W.room, W.env, (sm6.trans sm7).trans W.same, W.ok, W.gd, W.dis, W.pv, W.gv, W.gz, W.fp⟩
      cases f with
      | next => obtain ⟨σ7, H7, I7, n7⟩ := q7; exact again I7 n7
      | cont => obtain ⟨σ7, H7, I7, n7⟩ := q7; exact again I7 n7
      | brk => obtain ⟨σ7, H7, I7, n7⟩ := q7; exact ⟨σ7, H7, (real7 I7).unpinned, n7⟩
      | ret v => obtain ⟨x7, σ7, H7, I7, r7, n7⟩ := q7; exact ⟨x7, σ7, H7, (real7 I7).unpinned, r7, n7⟩
    · have ei : i = ds.length := by
        have := congrArg List.length hds
        rw [List.length_drop, List.length_nil] at this
        omega
      subst ei
      obtain ⟨_, hnx⟩ := fin' ρ3 cs3 iv3
      obtain ⟨I4, sm4, o4⟩ := hC.back (fp := []) (by rw [List.append_nil]; exact I3) lf (allBare_setGen (g := C.g) (x := .finished) lf.bare rfl) h' hk
      rw [List.append_nil] at I4
      exact wpAny_execs_nil ⟨σ3, H', I4, eo.nx σ3 ρ3 M' H' cs3 (sm1.trans (sm3.trans sm4)) o4 (r3.mono sm4) hnx⟩
  · exact ⟨0, σ, H1, M1, ρ, cs1, gs0, pv0, gv0, rfl, Nat.zero_le _, mk.inv, Same.refl _, mk.ok, r.mono sm1, iv0, mk.gsk, mk.pvk, mk.self, mk.gvk, by rw [List.drop_zero]; exact mk.hands⟩
end GN
set_option maxRecDepth 100000
set_option maxHeartbeats 4000000
namespace GN
open PySem L2 PySem.Spec PyProof.Rows GenW DL GT
/-! ### a generator that walks a generator -/
def wGForG (wg : WGe) (g : WG) (tb : WGn) : WGn := fun D xs c0 ρ cs => wg ρ cs fun ds finI GdI cs1 => ∃ Iv : Nat → List Dat → Cells → DEnv → Cells → Prop, Iv 0 xs c0 ρ cs1 ∧ (∀ i xs c0 ρ' cs', i ≤ ds.length → Iv i xs c0 ρ' cs' → GdI cs') ∧
  (∀ i d xs c0 ρ' cs', ds[i]? = some d → Iv i xs c0 ρ' cs' → g (.dat d) ρ' cs' fun ρ2 cs2 => tb { D with nx := Iv (i + 1), ct := Iv (i + 1), bk := D.nx } xs c0 ρ2 cs2) ∧ ∀ xs c0 ρ' cs', Iv ds.length xs c0 ρ' cs' → finI = .done ∧ D.nx xs c0 ρ' cs'
theorem room_in {k : Nat} {A : Around} {env : Env} (h : Room (k + 2) A) : Room k (A.deeper env).in1 := (h.deeper env).in1
theorem Hands.mono {C : GC} {Gd : Cells → Prop} {fin : GEnd} {ds : List Dat} {M M' : Hp} {pv : List (Addr × Obj)} {gv : List (Nat × GenState)} {gs : GenState} (sm : Same M M') (h : Hands C Gd fin ds M pv gv gs) : Hands C Gd fin ds M' pv gv gs := by
  rcases h with z | h
  · exact .inl z
  · exact .inr fun A y W => h A y ⟨W.room, W.env, sm.trans W.same, W.ok, W.gd, W.dis, W.pv, W.gv, W.gz, W.fp⟩
theorem gvOk_set {g : Nat} {gv : List (Nat × GenState)} {s : Shared} {x : GenState} (h : GvOk g gv s) : GvOk g gv (s.setGen g x) := ⟨by rw [setGen_size]; exact h.sz, fun p hp => by
  obtain ⟨g1, g2, g3⟩ := h.at_ p hp
  refine ⟨g1, ?_, g3⟩
  rw [show (s.setGen g x).gens = s.gens.setIfInBounds g x from rfl, Array.getElem?_setIfInBounds, if_neg (Nat.ne_of_lt g1)]
  exact g2⟩
theorem dgs_forG {G : GP} {Gd : Cells → Prop} {fin : GEnd} {kk : Nat} {tg iter : Expr} {body : List Stmt} {pos : Pos} {js : List Nat} {wg : WGe} {g : WG} {tb : WGn} (hkk : kk + 2 ≤ G.k) (hZ : ∀ gv, G.Z gv → gv = []) (hi : ∀ A s H, Room G.k A → DGe (G.X A s H) kk iter wg) (hg : ∀ A s H, Room G.k A → DG (G.X A s H) js tg g)
    (hb : DGSs { G with Z := fun _ => True } Gd fin body tb) (hs : ∀ x, foldedSetIterable iter G.env x = pure x := by intro _; rfl) : DGS G Gd fin (.For tg iter body [] pos) (wGForG wg g tb) := by
  refine ⟨fun A Mk y ip gv c fs K J gd lv s xs ρ cs D gc hr hy k ⟨σ, H, M, I, hk, hM, o, r, hv, hd⟩ ht => ?_⟩
  have egv := hZ gv gc.z
  subst egv
  rw [exec_For]
  refine sz_at ?_
  show SegZ _ _ _ c ((eval iter G.env >>= fun v => foldedSetIterable iter G.env v >>= fun x => standAt iter.pos >>= fun _ => holding [x] (pyIter x) >>= fun it => runOwn (.forLoop tg it body [] G.env) G.env).wrap K J gd lv) fs s
  refine sz_bindw ?_
  rw [gc.over]
  refine wpAny_gsz (n := G.g + 1) hv.sz (wpAny_mono ((hi A _ _ hr).run (ip ++ y.fp) s σ H M ρ cs _ I o r ht) (fun v s1 h1 hsz1 => ?_) fun x s' hx => hx.elim)
  obtain ⟨a, H1, M1, cs1, ds, finI, GdI, C, gs0, pv0, gv0, rfl, sm1, mk, Iv, iv0, ivG, turn, fin'⟩ := h1
  have hC0 : Held (G.X A (cutS G.L y.s) y.H) (ip ++ y.fp) C := mk.held
  have ea : C.self.1 = a := mk.ea
  have ek : C.k = kk := mk.ek
  have hC : ∀ (A' : Around) (y' : Gh), Lg G y' → Held (G.X A' (cutS G.L y'.s) y'.H) ip C := fun A' y' hy' =>
    ⟨hC0.P, hC0.w, hC0.K, hC0.mg, hC0.base, hC0.outer, fun p hp => hC0.pinl p (by
      rcases List.mem_append.mp hp with z | z
      · exact List.mem_append_left _ z
      · exact List.mem_append_right _ (List.mem_append_left _ z)), hC0.locl, hC0.celll, by
        show (cutS G.L y'.s).heap.objs.size ≤ C.L
        rw [show (cutS G.L y'.s).heap.objs.size = G.L from cut_size hy']
        exact Nat.le_trans gc.le (Nat.le_of_lt hC0.locl), hC0.fsl, hC0.stl, hC0.cls, hC0.gen⟩
  -- its number is behind ours
  have hgn : G.g < C.g := by
    exact Nat.lt_of_lt_of_le hv.sz mk.num
  rw [hs]
  refine sz_bindw (wpAny_pure ?_)
  refine sz_bindw (wpAny_standAt ?_)
  refine sz_bindw (wpAny_holding ?_)
  rw [gc.over]
  refine wpAny_pyIter_gen (by have := hC0.gen _ (mk.pvk _ mk.self).1; rw [ea] at this; exact this) ?_
  refine sz_call fun p => ?_
  have gl := fun (kf : Result → Sem PySem.Fin) => gcd_loop (k := kf) (c' := .forLoop tg (.ref a) body [] G.env) (l := lv []) (kp := []) (p := p) gc rfl rfl
  have hrI : ∀ {A' : Around}, Room G.k A' → Room C.k (A'.deeper G.env).in1 := fun {A'} h => by rw [ek]; exact room_in (h.mono hkk)
  have loop : ∀ (m i : Nat) (A : Around) (y : Gh) (xs : List Dat) (s : Shared) (ρ : DEnv) (cs : Cells), m = ds.length - i → i ≤ ds.length → Rm G A → Lg G y →
      (∃ σ H M gs pv gv, Inv (G.X A (cutS G.L y.s) y.H) (ip ++ y.fp) σ H s ∧ Same Mk M ∧ Same M1 M ∧ Same y.M M ∧ Ok G.K M H cs ∧ Rho G.K M σ ρ ∧ G.g < s.gens.size ∧ Dis G ip y ∧ s.gens[C.g]? = some gs ∧ (∀ p ∈ pv, s.heap.get? p.1 = some p.2 ∧ H p.1 = none ∧ C.L ≤ p.1 ∧ ∀ v, p.2.data ≠ .cell v) ∧ C.self ∈ pv ∧ (∃ o, (C.loc, o) ∈ pv) ∧ GvOk C.g gv s ∧ (∀ p ∈ pv, ∀ q ∈ y.fp, q.1 ≠ p.1) ∧ Hands C GdI finI (ds.drop i) M pv gv gs) → Iv i xs y.cs ρ cs →
      SegZ (model G.P G.w) A (HZ G.C Gd fin xs A y) (.forLoop tg (.ref a) body [] G.env) ((model G.P G.w).den (.forLoop tg (.ref a) body [] G.env))
        (.ret (fun r => ((match r with | .ok f => (.pure f : Sem Flow) | .error e => .raise e).onRaise (cameBack G.env)).wrap K J gd lv) none (gd false) (lv []) c p [] :: fs) s := by
    intro m
    induction m using Nat.strongRecOn with
    | ind m ih =>
      intro i A y xs s ρ cs hm hi hr hy ⟨σ, H, M, gs, pv, gv, I, hk, h1, hM, o, r, hgz, hd, hgs, pvk, slf, ⟨oLo, hLo⟩, gvk, hds, hw⟩ iv
      have gi := ivG _ _ _ _ _ hi iv
      have hX := hC A y hy
      have ha3 : s.heap.get? C.self.1 = some C.self.2 := (pvk _ slf).1
      have hfpI : ∀ q ∈ y.fp, s.heap.get? q.1 = some q.2 ∧ H q.1 = none ∧ q.1 ≠ C.loc ∧ q.1 ∉ frs C.outer ∧ ∀ v, q.2.data ≠ .cell v := fun q hq => by
        obtain ⟨i1, i2, i3, i4, i5⟩ := I.pin q (List.mem_append_right _ (List.mem_append_right _ hq))
        refine ⟨i1, i2, hds _ hLo q hq, fun z => ?_, i5⟩
        rw [hX.outer] at z
        rcases List.mem_cons.mp (I.stkSub _ z) with z | z
        · exact i3 z
        · exact i4 z
      have hW := hX.wake (fp := y.fp) I (A := (A.deeper G.env).in1) rfl (hrI hr) o (Same.refl M) gi (fun p hp => ⟨(pvk p hp).1, (pvk p hp).2.1⟩) gvk hds hfpI
      have hn0 : ¬ (ds.drop i = [] ∧ finI = .cut) := by
        rintro ⟨z1, z2⟩
        have : ds.length ≤ i := by
          have := congrArg List.length z1
          rw [List.length_drop, List.length_nil] at this
          omega
        have ei : i = ds.length := by omega
        rw [ei] at iv
        have := (fin' _ _ _ _ iv).1
        rw [z2] at this
        cases this
      have hrd : Room (G.k - 1) (A.deeper G.env) := (show Room (G.k - 1 + 1) A from hr.mono (by omega)).deeper G.env
      have key := fun (Q : Option Value → Shared → Prop) (E : Value → Shared → Prop) => next_hands (Q := Q) (E := E) (A := A.deeper G.env) hr.hd I.nolimit hrd.depth (hX.gen _ ha3) hgs hw hn0 hW
      rw [hX.P, hX.w, ea] at key
      show SegZ _ _ _ _ ((forTurn tg (.ref a) body [] G.env).onRaise _) _ _
      rw [Sem.onRaise_eq_wrap]
      unfold forTurn
      refine sz_bindw (wpAny_standAt ?_)
      refine sz_bindw (wpAny_onRaise ?_)
      rw [(gl _).over]
      refine wpAny_gsz (n := G.g + 1) hgz (key _ _ (fun d rr v x s₁ gs' H' M' pv' gv' hdsE hsus hbare' lf rv dr pvk' gvk' hw' _ => ?_) (fun s₁ H' M' h' hdsE hfin lf hk' hsz9 => ?_))
      · have hlt : i < ds.length := by
          have := congrArg List.length hdsE
          rw [List.length_drop, List.length_cons] at this
          omega
        have hd' : ds[i]? = some d ∧ ds.drop (i + 1) = rr := by
          have e1 := drop_cons (List.getElem?_eq_getElem hlt)
          rw [hdsE] at e1
          cases e1
          exact ⟨List.getElem?_eq_getElem hlt, rfl⟩
        rw [← hd'.2] at hw'
        obtain ⟨I4, sm4, o4⟩ := hX.back I lf (allBare_setGen (s := s₁) (g := C.g) (x := gs') lf.bare hbare') s₁.heap (fun _ _ e => e)
        have I4 : Inv (G.X A (cutS G.L y.s) y.H) (ip ++ y.fp) σ H' (s₁.setGen C.g gs') := I4
        have hg4 : (s₁.setGen C.g gs').gens[C.g]? = some gs' := setGen_at gvk'.sz
        have hh4 : (s₁.setGen C.g gs').heap = s₁.heap := rfl
        have gvk4 : GvOk C.g gv' (s₁.setGen C.g gs') := gvOk_set gvk'
        have ha5 : s₁.heap.get? C.self.1 = some C.self.2 := (pvk'.at_ _ pvk'.self).1
        generalize s₁.setGen C.g gs' = s4 at I4 hg4 hh4 gvk4 ⊢
        have gvb : GvOk G.g ((C.g, gs') :: gv') s4 := ⟨Nat.lt_trans hgn gvk4.sz, fun p hp => by
          rcases List.mem_cons.mp hp with z | z
          · rw [z]; exact ⟨hgn, hg4, hsus⟩
          · obtain ⟨g1, g2, g3⟩ := gvk4.at_ p z
            exact ⟨Nat.lt_trans hgn g1, g2, g3⟩⟩
        refine sz_bindw ?_
        rw [(gl _).over]
        obtain ⟨vsD, hdD⟩ := hX.cls.2
        show wpAny _ _ (letOwnedTupleGo tg (.ref a) v) _ _ s4
        rw [← ea]
        refine go_of (by rw [hh4]; exact ha5) hX.cls.1 hdD (by decide) ?_
        have pinv : ∀ p ∈ pv', s4.heap.get? p.1 = some p.2 ∧ H' p.1 = none ∧ p.1 ≠ G.env.locals ∧ p.1 ∉ frs G.outer ∧ ∀ v, p.2.data ≠ .cell v := fun p hp => by
          obtain ⟨q1, q2, q3, q4⟩ := pvk'.at_ p hp
          exact ⟨by rw [hh4]; exact q1, q2, Nat.ne_of_gt (Nat.lt_of_lt_of_le hX.locl q3), fun z => Nat.lt_irrefl _ (Nat.lt_of_lt_of_le (hX.fsl _ z) q3), q4⟩
        have I5 : Inv (G.X A (cutS G.L y.s) y.H) ((ip ++ pv') ++ y.fp) σ H' s4 := I4.pins_of fun p hp => by
          rcases List.mem_append.mp hp with z | z
          · rcases List.mem_append.mp z with z | z
            · exact I4.pin p (List.mem_append_right _ (List.mem_append_left _ z))
            · exact pinv p z
          · exact I4.pin p (List.mem_append_right _ (List.mem_append_right _ z))
        have dr' : RV G.K M' x (.dat d) := by
          have : Dr C.K M' x d := dr
          rw [hX.K] at this
          exact this
        have hd5 : Dis G (ip ++ pv') y := fun p hp q hq => by
          rcases List.mem_cons.mp hp with z | z
          · exact hd p (by rw [z]; exact List.mem_cons_self) q hq
          · rcases List.mem_append.mp z with z | z
            · exact hd p (List.mem_cons_of_mem _ z) q hq
            · exact pvk'.dis p z q hq
        -- the target is stored
        rw [ea]
        refine sz_bindw ?_
        rw [(gl _).over]
        refine wpAny_mono (wpAny_sl ((hg A _ _ hr).run ((ip ++ pv') ++ y.fp) (deafen s4) σ H' x v (fun σ' H2 => ∃ M2 ρ2 cs2, Same M' M2 ∧ Ok G.K M2 H2 cs2 ∧ Rho G.K M2 σ' ρ2 ∧ tb { D with nx := Iv (i + 1), ct := Iv (i + 1), bk := D.nx } xs y.cs ρ2 cs2) (inv_deaf I5) rv
          ⟨M', ρ, cs, .dat d, _, o4, r.mono sm4, dr', turn i d xs y.cs ρ cs hd'.1 iv, fun σ' ρ' M2 H2 cs' sm o' r' _ _ p => ⟨M2, ρ', cs', sm, o', r', p⟩⟩)) (fun _ s6 ⟨s60, sl6, h6⟩ => ?_) (fun _ _ ⟨_, _, z⟩ => z.elim)
        obtain ⟨σ6, H6, I60, M6, ρ6, cs6, sm6, o6, r6, q6⟩ := h6
        have I6 := inv_back sl6 I5.bare I60
        have gvb6 := gv_slept gvb sl6
        rw [Sem.bind_eq_wrap', Sem.wrap_wrap]
        have s16 : Same M M6 := sm4.trans sm6
        have gx : ∀ kf, GCd { G with Z := fun _ => True } (ip ++ pv') ((C.g, gs') :: gv') (.forLoop tg (.ref a) body [] G.env) (.ret kf none (gd false) (lv []) c p [] :: fs) id := fun kf => ⟨gc.cells, gc.frm, gc.kd, trivial, gc.le, fun q hq => by
          rcases List.mem_cons.mp hq with z | z
          · exact gc.yng q (by rw [z]; exact List.mem_cons_self)
          · rcases List.mem_append.mp z with z | z
            · exact gc.yng q (List.mem_cons_of_mem _ z)
            · exact Nat.le_trans gc.le (Nat.le_trans (Nat.le_of_lt hX.locl) (pvk'.at_ q z).2.2.1), (gl kf).over, (gl kf).split, (gl kf).guard, rfl⟩
        have hk6 := hk.trans s16
        have h16 := h1.trans s16
        refine hb.run A (fun b => M6 b) y (ip ++ pv') ((C.g, gs') :: gv') _ _ _ _ id id s6 xs ρ6 cs6 { D with nx := Iv (i + 1), ct := Iv (i + 1), bk := D.nx } (gx _) hr hy (fun A' y' xs' s7 f hr' hy' hs7 => ?_) ⟨σ6, H6, M6, I6, Same.refl _, hM.trans s16, o6, r6, gvb6, hd5⟩ q6
        have pinB : ∀ {σ7 : L2.St} {H7 : Hp}, Inv (G.X A' (cutS G.L y'.s) y'.H) ((ip ++ pv') ++ y'.fp) σ7 H7 s7 → Inv (G.X A' (cutS G.L y'.s) y'.H) (ip ++ y'.fp) σ7 H7 s7 := fun {σ7 H7} I7 => I7.pins_of fun p hp => by
          rcases List.mem_append.mp hp with z | z
          · exact I7.pin p (List.mem_append_right _ (List.mem_append_left _ (List.mem_append_left _ z)))
          · exact I7.pin p (List.mem_append_right _ (List.mem_append_right _ z))
        have disB : Dis G (ip ++ pv') y' → Dis G ip y' := fun h p hp q hq => by
          refine h p ?_ q hq
          rcases List.mem_cons.mp hp with z | z
          · rw [z]; exact List.mem_cons_self
          · exact List.mem_cons_of_mem _ (List.mem_append_left _ z)
        have again : ∀ {ρ7 : DEnv} {cs7 : Cells}, RunG { G with Z := fun _ => True } A' (fun b => M6 b) y' (ip ++ pv') ((C.g, gs') :: gv') ρ7 cs7 s7 → Iv (i + 1) xs' y'.cs ρ7 cs7 →
            SegZ (model G.P G.w) A' (HZ G.C Gd fin xs' A' y') (.forLoop tg (.ref a) body [] G.env) ((model G.P G.w).den (.forLoop tg (.ref a) body [] G.env))
              (.ret (fun r => ((match r with | .ok f => (.pure f : Sem Flow) | .error e => .raise e).onRaise (cameBack G.env)).wrap K J gd lv) none (gd false) (lv []) c p [] :: fs) s7 := fun {ρ7 cs7} hR q7 => by
          obtain ⟨σ7, H7, M7, I7, k7, m7, o7, r7, v7, d7⟩ := hR
          have I7 : Inv (G.X A' (cutS G.L y'.s) y'.H) ((ip ++ pv') ++ y'.fp) σ7 H7 s7 := I7
          have hgC := (v7.at_ (C.g, gs') List.mem_cons_self).2.1
          refine ih (ds.length - (i + 1)) (by omega) (i + 1) A' y' xs' s7 ρ7 cs7 rfl hlt hr' hy' ⟨σ7, H7, M7, gs', pv', gv', pinB I7, hk6.trans k7, h16.trans k7, m7, o7, r7, v7.sz, disB d7, hgC, fun q hq => ?_, pvk'.self, pvk'.loc, ⟨(Array.getElem?_eq_some_iff.mp hgC).1, fun q hq => ?_⟩, fun q hq q2 hq2 => d7 q (List.mem_cons_of_mem _ (List.mem_append_right _ hq)) q2 hq2, hw'.mono (sm6.trans k7)⟩ q7
          · obtain ⟨z1, z2, _⟩ := I7.pin q (List.mem_append_right _ (List.mem_append_left _ (List.mem_append_right _ hq)))
            obtain ⟨_, _, q3, q4⟩ := pvk'.at_ q hq
            exact ⟨z1, z2, q3, q4⟩
          · exact ⟨(gvk'.at_ q hq).1, (v7.at_ q (List.mem_cons_of_mem _ hq)).2⟩
        cases f with
        | next =>
          obtain ⟨ρ7, cs7, hR7, q7⟩ := hs7
          exact sz_again rfl (again hR7 q7)
        | cont =>
          obtain ⟨ρ7, cs7, hR7, q7⟩ := hs7
          exact sz_again rfl (again hR7 q7)
        | brk =>
          obtain ⟨ρ7, cs7, ⟨σ7, H7, M7, I7, k7, m7, o7, r7, v7, d7⟩, q7⟩ := hs7
          exact sz_leaf (.ok .next) (k A' y' xs' s7 .next hr' hy' ⟨ρ7, cs7, ⟨σ7, H7, M7, pinB I7, hk6.trans k7, m7, o7, r7, ⟨v7.sz, fun q hq => by cases hq⟩, disB d7⟩, q7⟩)
        | ret v =>
          obtain ⟨v7, x7, σ7, H7, M7, cs7, I7, k7, m7, o7, rv7, rx7, q7⟩ := hs7
          exact sz_leaf (.ok (.ret v)) (k A' y' xs' s7 (.ret v) hr' hy' ⟨v7, x7, σ7, H7, M7, cs7, pinB I7, hk6.trans k7, m7, o7, rv7, rx7, q7⟩)
      · have ei : i = ds.length := by
          have := congrArg List.length hdsE
          rw [List.length_drop, List.length_nil] at this
          omega
        subst ei
        obtain ⟨_, hnx⟩ := fin' _ _ _ _ iv
        obtain ⟨I4, sm4, o4⟩ := hX.back I lf (allBare_setGen (g := C.g) (x := .finished) lf.bare rfl) h' hk'
        show SegZ _ _ _ _ (.pure (.again (.block [] G.env))) _ _
        refine sz_again rfl ?_
        show SegZ _ _ _ _ (.pure (.done .next)) _ _
        refine sz_leaf (.ok .next) (k A y xs _ .next hr hy ⟨ρ, cs, ⟨σ, H', M', I4, hk.trans sm4, hM.trans sm4, o4, r.mono sm4, ⟨hsz9, fun q hq => by cases hq⟩, hd⟩, hnx⟩)
  refine loop _ 0 A y xs s1 ρ cs1 rfl (Nat.zero_le _) hr hy ⟨σ, H1, M1, gs0, pv0, gv0, mk.inv, hk.trans sm1, Same.refl _, hM.trans sm1, mk.ok, r.mono sm1, hsz1, hd, mk.gsk, mk.pvk, mk.self, mk.loc, mk.gvk, fun q hq q2 hq2 => ?_, by rw [List.drop_zero]; exact mk.hands⟩ iv0
  exact Nat.ne_of_lt (Nat.lt_of_lt_of_le (hC0.pinl q2 (List.mem_append_right _ (List.mem_append_right _ hq2))) (mk.pvk q hq).2.2.1)
end GN
set_option maxRecDepth 100000
set_option maxHeartbeats 4000000
namespace GN
open PySem L2 PySem.Spec PyProof.Rows GenW DL GT
/-! ### generators by call -/
structure DGok (P : Program) (w : World) (K : Frag) (mg : Str → Option Value) (base : Heap) (x : Str) (ps : List Str) (k : Nat) (sp : GSpec) : Prop where
  ex : ∃ f fd, GFnD P w K mg base k f fd ps sp ∧ mg x = some (.ref f) ∧ PySem.W.keepIn K (.ref f) = true ∧ Binds K fd ps []
def wGCall (sp : GSpec) (wr : WA) : WGe := fun ρ cs R => wr ρ cs fun xs cs1 => ∃ ds fin Gd, sp xs cs1 ds fin Gd ∧ R ds fin Gd cs1
section
variable {X : Cx} {e o : Expr} {es : List Expr} {wo : WE} {wr : WA} {pos : Pos} {k : Nat} {ps : List Str} {sp : GSpec}
theorem run_gd {pins : List (Addr × Obj)} {σ : L2.St} {H M : Hp} {cs : Cells} {s : Shared} {us : List Value} {vs : List V} {xs : List Vl} {ds : List Dat} {fin : GEnd} {Gd : Cells → Prop} {f : Addr} {fd : FuncData} {R : List Dat → GEnd → (Cells → Prop) → Cells → Prop} {M0 : Hp} {n : Nat} (F : GFnD X.prog X.w X.K X.mg X.base k f fd ps sp) (hr : Room k X.A) (hb : Binds X.K fd ps [])
    (I : Inv X pins σ H s) (hn : n ≤ s.gens.size) (rv : Vals vs us) (o : Ok X.K M H cs) (rx : Paired (RV X.K M) vs xs) (hs : sp xs cs ds fin Gd) (sm : Same M0 M) (hR : R ds fin Gd cs) :
    wpAny (model X.prog X.w) X.A (call (.ref f) us) (fun u s' => ∃ a H1 M1 cs1 ds fin Gd C gs pv gv, u = .ref a ∧ Same M0 M1 ∧ Made X pins σ k n M1 cs1 ds fin Gd a s' H1 C gs pv gv ∧ R ds fin Gd cs1) X.xe s := by
  have hl2 : us.length = ps.length := by rw [← rv.length, Paired.len rx]; exact F.len _ _ _ _ _ hs
  have hbb := hb s us I.kIn (by rw [List.append_nil]; exact hl2)
  rw [List.append_nil] at hbb
  refine PySem.wpAny_call (codeAny_mono (F.run X.A X.stack s H M cs ⟨us, []⟩ us vs xs ds fin Gd hr I.env0 hbb rv o rx hs) fun r s' hq => ?_)
  obtain ⟨a, C, g, go, oL, c, rfl, mk⟩ := hq
  exact ⟨a, H, M, cs, ds, fin, Gd, C, _, _, _, rfl, sm, made_of I o hn mk, hR⟩
theorem dge_call {x : Str} {p : Pos} (G : DGok X.prog X.w X.K X.mg X.base x ps k sp) (hr : Room k X.A) (ha : DA X (e :: es) wr) (hg : Gl X x := by rfl) (hdb : (x == ("__debug__" : Str)) = false := by decide)
    (he : starEach (e :: es) X.env = (false, eval e X.env) :: starEach es X.env := by rfl) (hpl : (backTo pos (starEach es X.env)).any (·.1) = false := by rfl) : DGe X k (.Call (.Name x p) (e :: es) [] pos) (wGCall sp wr) := by
  obtain ⟨f, fd, F, hm, hk, hb⟩ := G.ex
  refine ⟨fun pins s σ H M ρ cs R I o r h => ?_⟩
  refine wpAny_Call_Name_kw (ld_glob I hg hm ?_ hdb)
  refine PySem.W.callWith_K (h₀ := X.base) I.ok.mod.kin hk (wpAny_gsz (n := s.gens.size) (Nat.le_refl _) (wpAny_mono (ha.run pos pins s σ H (fun vs H1 => ∃ M1 xs cs1, Same M M1 ∧ Ok X.K M1 H1 cs1 ∧ Paired (RV X.K M1) vs xs ∧ ∃ ds fin Gd, sp xs cs1 ds fin Gd ∧ R ds fin Gd cs1) I ⟨M, ρ, cs, _, o, r, h, fun vs xs M1 H1 cs1 s1 o1 r1 p1 => ⟨M1, xs, cs1, s1, o1, r1, p1⟩⟩) (fun us s1 ⟨vs, H1, I1, rv, q⟩ hsz => ⟨I1.kIn, ?_⟩) fun _ _ x _ => x)) he hpl
  obtain ⟨M1, xs, cs1, sm, o1, r1, ds, fin, Gd, hs, hR⟩ := q
  exact run_gd F hr hb I1 hsz rv o1 r1 hs sm hR
end
/-! ### a private object of the consumer, kept while the generator runs -/
section
variable {X : Cx} {pins : List (Addr × Obj)} {σ : L2.St} {H : Hp} {s : Shared}
/-- a pinned object is changed -/
theorem inv_repin {S : Addr} {oS oS' : Obj} (I : Inv X (pins ++ [(S, oS)]) σ H s) (hy : X.s_0.heap.objs.size ≤ S) (hc : ∀ x c, X.env.cells.lookup x = some c → c ≠ S) (hp : ∀ p ∈ X.pn ++ pins, p.1 ≠ S) {h' : Heap} (hk : ∀ b o, b ≠ S → s.heap.get? b = some o → h'.get? b = some o) (hS : h'.get? S = some oS') (hd : ∀ v, oS'.data ≠ .cell v) :
    Inv X (pins ++ [(S, oS')]) σ H { s with heap := h' } := by
  obtain ⟨p1, p2, p3, p4, p5⟩ := I.pin (S, oS) (List.mem_append_right _ (List.mem_append_right _ List.mem_cons_self))
  have I0 : Inv X pins σ H s := I.pins_of fun p hp => I.pin p (List.mem_append_right _ (List.mem_append_left _ hp))
  have J : Inv X pins σ H { s with heap := h' } := by
    refine I0.call' (s' := { s with heap := h' }) (ch := [S]) rfl ⟨fun b o e n _ hx => hk b o (fun z => hx (by rw [z]; exact List.mem_cons_self)) e, fun b o e n _ hx => ⟨o.slots, hk b o (fun z => hx (by rw [z]; exact List.mem_cons_self)) e⟩, fun b o _ n _ => n, fun b o e hx => ⟨o, hk b o (fun z => hx (by rw [z]; exact List.mem_cons_self)) e⟩, fun _ _ q => q, fun _ _ _ q => q, fun b ps q => ⟨#[], by rw [q]; simp⟩⟩ ?_ I0.bare fun b hb => ?_
    · intro b u q
      refine (I0.hok b u q).stay (fun d v hd q2 => hk d v ?_ q2) (fun _ z => z) fun _ _ z => z
      rcases hd with z | z
      · rw [z]; intro z2; rw [z2, p2] at q; cases q
      · intro z2; rw [z2, p2] at z; cases z
    · rw [List.mem_singleton.mp hb]
      exact ⟨.inr hy, p3, hc, hp⟩
  exact J.pins_of fun p hp => by
    rcases List.mem_append.mp hp with z | z
    · exact J.pin p (List.mem_append_right _ z)
    · rw [List.mem_singleton.mp z]
      exact ⟨hS, p2, p3, p4, hd⟩
/-- a pinned list becomes a tracked one -/
theorem inv_adopt {S : Addr} {acc : Array Value} {c : Nat} {ys : List V} (I : Inv X (pins ++ [(S, lstObj acc c)]) σ H s) (hy : X.s_0.heap.objs.size ≤ S) (hc : ∀ x c, X.env.cells.lookup x = some c → c ≠ S) (hp : ∀ p ∈ X.pn ++ pins, p.1 ≠ S) (hv : Vals ys acc.toList) (hl : ys.length ≤ sizeLine) :
    Inv X pins σ (upd H S (.lst ys)) s := by
  obtain ⟨p1, p2, p3, p4, p5⟩ := I.pin (S, lstObj acc c) (List.mem_append_right _ (List.mem_append_right _ List.mem_cons_self))
  have I0 : Inv X pins σ H s := I.pins_of fun p hp => I.pin p (List.mem_append_right _ (List.mem_append_left _ hp))
  refine I0.call' (s' := s) (ch := [S]) rfl ⟨fun b o e n _ hx => e, fun b o e n _ hx => ⟨o.slots, e⟩, fun b o _ n hx => ?_, fun b o e hx => ⟨o, e⟩, fun b xs q => ?_, fun b o xs q => ?_, fun b ps q => ⟨#[], ?_⟩⟩ (fun b u q => ?_) I0.bare fun b hb => ?_
  · rw [upd_ne (fun z => hx (by rw [z]; exact List.mem_cons_self))]; exact n
  · rw [upd_ne (ne_of_none q p2)]; exact q
  · rw [upd_ne (ne_of_none q p2)]; exact q
  · rw [upd_ne (ne_of_none q p2), q]; simp
  · by_cases hb : b = S
    · subst hb
      rw [upd_same] at q
      cases q
      exact ⟨hl, acc.toList, c, hv, by rw [p1]⟩
    · rw [upd_ne hb] at q
      exact (I0.hok b u q).stay (fun _ _ _ z => z) (fun d z => by rw [upd_ne (ne_of_none z p2)]; exact z) fun d xs z => by rw [upd_ne (ne_of_none z p2)]; exact z
  · rw [List.mem_singleton.mp hb]
    exact ⟨.inr hy, p3, hc, hp⟩
end
theorem take_snoc' {α : Type} {os : List α} {i : Nat} {o : α} (h : os[i]? = some o) : os.take (i + 1) = os.take i ++ [o] := by rw [List.take_succ, h]; rfl
/-! ### list(g) -/
/-- what the consumer holds at turn i: its own object oS at S, and the generator -/
structure Cons (X : Cx) (pins : List (Addr × Obj)) (C : GC) (Gd : Cells → Prop) (fin : GEnd) (ds : List Dat) (cs : Cells) (σ : L2.St) (M1 : Hp) (S : Addr) (i : Nat) (s : Shared) (oS : Obj) (H M : Hp) (gs : GenState) (pv : List (Addr × Obj)) (gv : List (Nat × GenState)) : Prop where
  inv : Inv X (pins ++ [(S, oS)]) σ H s
  same : Same M1 M
  ok : Ok X.K M H cs
  gsk : s.gens[C.g]? = some gs
  pvk : ∀ p ∈ pv, s.heap.get? p.1 = some p.2 ∧ H p.1 = none ∧ C.L ≤ p.1 ∧ ∀ v, p.2.data ≠ .cell v
  self : C.self ∈ pv
  loc : ∃ o, (C.loc, o) ∈ pv
  gvk : GvOk C.g gv s
  dis : ∀ p ∈ pv, S ≠ p.1
  hands : Hands C Gd fin (ds.drop i) M pv gv gs
section
variable {X : Cx} {pins : List (Addr × Obj)} {C : GC} {Gd : Cells → Prop} {fin : GEnd} {ds : List Dat} {cs : Cells} {σ : L2.St} {M1 : Hp} {S : Addr} {i : Nat} {s : Shared} {oS : Obj} {H M : Hp} {gs : GenState} {pv : List (Addr × Obj)} {gv : List (Nat × GenState)}
/-- the consumer wakes it -/
theorem Cons.next (c : Cons X pins C Gd fin ds cs σ M1 S i s oS H M gs pv gv) (hC : Held X pins C) (hf : fin = .done) {A : Around} (hh : A.handled = none) (hA : A.frames = X.A.frames) (dp : A.depth < recursionLimit) (hr : Room C.k A.in1) (gd : Gd cs) (hi : i ≤ ds.length) {Q : Option Value → Shared → Prop} {E : Value → Shared → Prop}
    (hY : ∀ d v x s' H' M' gs' pv' gv', ds[i]? = some d → RelV x v → RV X.K M' x (.dat d) → Same M M' → Cons X pins C Gd fin ds cs σ M1 S (i + 1) s' oS H' M' gs' pv' gv' → Q (some v) s')
    (hD : ∀ s' H' M', i = ds.length → Inv X (pins ++ [(S, oS)]) σ H' s' → Same M M' → Ok X.K M' H' cs → Q none s') :
    wpAny (model X.prog X.w) A (pyNext (.ref C.self.1)) Q E s := by
  have ha : s.heap.get? C.self.1 = some C.self.2 := (c.pvk _ c.self).1
  obtain ⟨oL, hL⟩ := c.loc
  have hS := c.inv.pin (S, oS) (List.mem_append_right _ (List.mem_append_right _ List.mem_cons_self))
  have hW := hC.wake (A := A.in1) (fp := [(S, oS)]) c.inv hA hr c.ok (Same.refl M) gd (fun p hp => ⟨(c.pvk p hp).1, (c.pvk p hp).2.1⟩) c.gvk (fun p hp q hq => by rw [List.mem_singleton.mp hq]; exact c.dis p hp) (fun p hp => by
    rw [List.mem_singleton.mp hp]
    refine ⟨hS.1, hS.2.1, c.dis _ hL, fun z => ?_, hS.2.2.2.2⟩
    rw [hC.outer] at z
    rcases List.mem_cons.mp (c.inv.stkSub _ z) with z | z
    · exact hS.2.2.1 z
    · exact hS.2.2.2.1 z)
  have hn0 : ¬ (ds.drop i = [] ∧ fin = .cut) := fun z => by rw [hf] at z; cases z.2
  have key := fun (Q : Option Value → Shared → Prop) (E : Value → Shared → Prop) => next_hands (Q := Q) (E := E) (A := A) hh c.inv.nolimit dp (hC.gen _ ha) c.gsk c.hands hn0 hW
  rw [hC.P, hC.w] at key
  refine key _ _ (fun d rr v x s₁ gs' H' M' pv' gv' hds hsus hbare' lf rv dr pvk' gvk' hw' => ?_) (fun s₁ H' M' h' hds hfin lf hk => ?_)
  · have hlt : i < ds.length := by
      have := congrArg List.length hds
      rw [List.length_drop, List.length_cons] at this
      omega
    have hd : ds[i]? = some d ∧ ds.drop (i + 1) = rr := by
      have e1 := drop_cons (List.getElem?_eq_getElem hlt)
      rw [hds] at e1
      cases e1
      exact ⟨List.getElem?_eq_getElem hlt, rfl⟩
    rw [← hd.2] at hw'
    obtain ⟨I4, sm4, o4⟩ := hC.back c.inv lf (allBare_setGen (s := s₁) (g := C.g) (x := gs') lf.bare hbare') s₁.heap (fun _ _ e => e)
    refine hY d v x (s₁.setGen C.g gs') H' M' gs' pv' gv' hd.1 rv (by have : Dr C.K M' x d := dr; rw [hC.K] at this; exact this) sm4 ⟨I4, c.same.trans sm4, o4, setGen_at gvk'.sz, pvk'.at_, pvk'.self, pvk'.loc, gvOk_set gvk', fun p hp => pvk'.dis p hp (S, oS) List.mem_cons_self, hw'⟩
  · obtain ⟨I4, sm4, o4⟩ := hC.back c.inv lf (allBare_setGen (g := C.g) (x := .finished) lf.bare rfl) h' hk
    refine hD _ H' M' ?_ I4 sm4 o4
    have := congrArg List.length hds
    rw [List.length_drop, List.length_nil] at this
    omega
theorem Cons.repin (c : Cons X pins C Gd fin ds cs σ M1 S i s oS H M gs pv gv) (hC : Held X pins C) (hSy : C.L ≤ S) {h' : Heap} {oS' : Obj} (hk : ∀ b o, b ≠ S → s.heap.get? b = some o → h'.get? b = some o) (hS : h'.get? S = some oS') (hd : ∀ v, oS'.data ≠ .cell v) {tk : Nat} :
    Cons X pins C Gd fin ds cs σ M1 S i { s with heap := h', toks := tk } oS' H M gs pv gv := by
  have J := inv_repin c.inv (Nat.le_trans hC.szl hSy) (fun x cc hx => Nat.ne_of_lt (Nat.lt_of_lt_of_le (hC.celll x cc hx) hSy)) (fun p hp => Nat.ne_of_lt (Nat.lt_of_lt_of_le (hC.pinl p hp) hSy)) hk hS hd
  refine ⟨J.kept (t' := tk) fun _ _ e => e, c.same, c.ok, c.gsk, fun p hp => ?_, c.self, c.loc, ⟨c.gvk.sz, c.gvk.at_⟩, c.dis, c.hands⟩
  obtain ⟨q1, q2, q3, q4⟩ := c.pvk p hp
  exact ⟨hk _ _ (Ne.symm (c.dis p hp)) q1, q2, q3, q4⟩
theorem drain_list (hC : Held X pins C) (hSy : C.L ≤ S) (hf : fin = .done) {A : Around} {R : Result → Shared → Prop} {res : Value} (hh : A.handled = none) (hA : A.frames = X.A.frames) (dp : A.depth < recursionLimit) (hr : Room C.k A.in1.in1) (gd : Gd cs) (hz : ds.length ≤ 16777216)
    (hend : ∀ s' H' M' acc c ys, Inv X (pins ++ [(S, lstObj acc c)]) σ H' s' → Same M1 M' → Ok X.K M' H' cs → Vals ys acc.toList → Paired (RV X.K M') ys (ds.map .dat) → R (.ok (.ret res)) s') :
    ∀ (m i : Nat) (s : Shared) (H M : Hp) (gs : GenState) (pv : List (Addr × Obj)) (gv : List (Nat × GenState)) (acc : Array Value) (c : Nat) (ys : List V), m = ds.length - i → i ≤ ds.length → Cons X pins C Gd fin ds cs σ M1 S i s (lstObj acc c) H M gs pv gv → Vals ys acc.toList → Paired (RV X.K M) ys ((ds.take i).map .dat) →
      codeAny (model X.prog X.w) A (.builtin "list.extend.loop" ⟨[.ref S, .ref C.self.1, res], []⟩) R s := by
  intro m
  induction m using Nat.strongRecOn with
  | ind m ih =>
    intro i s H M gs pv gv acc c ys hm hi co hv hp
    refine codeAny_builtin F.entry_extend_loop ?_
    rw [Around.under_plainId F.plain_extend_loop _]
    show wpAny _ A.in1 (pyNext (.ref C.self.1) >>= _) _ _ s
    refine wpAny_bind (co.next (A := A.in1) hC hf hh hA dp hr gd hi (fun d v x s' H' M' gs' pv' gv' hd rv rx sm co' => ?_) (fun s' H' M' hi' I' sm o' => ?_))
    · have hlt := (List.getElem?_eq_some_iff.mp hd).1
      have hS := (co'.inv.pin (S, lstObj acc c) (List.mem_append_right _ (List.mem_append_right _ List.mem_cons_self))).1
      have hlen : acc.size = i := by
        have h1 := hv.length
        have h2 := Paired.len hp
        rw [List.length_map, List.length_take] at h2
        have h3 : acc.toList.length = acc.size := Array.length_toList
        have h4 : ys.length = min i ds.length := h2
        have h5 : ys.length = acc.toList.length := h1
        omega
      have hasz : acc.size < sizeLine := by rw [sizeLine_eq, hlen]; omega
      show wpAny _ A.in1 (updateSeq S (·.push v) >>= _) _ _ _
      refine wpAny_bind ?_
      refine wpAny_updateSeq hS rfl (wpAny_pure ⟨plainId_quiet F.plain_extend_loop _, ?_⟩) (Nat.le_of_lt hasz) (by show (acc.push v).size ≤ sizeLine + 1; rw [Array.size_push]; omega)
      have hS2 := Heap.get?_update_self (Obj.mapSeq (·.push v)) hS rfl
      obtain ⟨c', hS3⟩ : ∃ c', (s'.heap.update S (Obj.mapSeq (·.push v))).get? S = some (lstObj (acc.push v) c') := ⟨_, hS2⟩
      have co2 := co'.repin (tk := s'.toks) hC hSy (h' := s'.heap.update S (Obj.mapSeq (·.push v))) (fun b o hb e => (Heap.get?_update_other _ _ (Ne.symm hb)).trans e) hS3 (fun v z => by cases z)
      refine ih (ds.length - (i + 1)) (by omega) (i + 1) _ H' M' gs' pv' gv' (acc.push v) c' (ys ++ [x]) rfl hlt co2 ?_ ?_
      · rw [Array.toList_push]; exact hv.append (.cons rv .nil)
      · rw [take_snoc' hd, List.map_append]
        exact Paired.app (paired_mono (fun _ _ q => q.mono sm) hp) (.cons rx .nil)
    · subst hi'
      rw [List.take_of_length_le (Nat.le_refl _)] at hp
      exact wpAny_pure (hend s' H' M' acc c ys I' (co.same.trans sm) o' hv (paired_mono (fun _ _ q => q.mono sm) hp))
end
section
variable {X : Cx} {e : Expr} {pos p : Pos} {k : Nat}
def wListG (wg : WGe) : WE := fun ρ cs P => wg ρ cs fun ds fin Gd cs1 => fin = .done ∧ Gd cs1 ∧ ds.length ≤ 16777216 ∧ newL (ds.map .dat) cs1 P
theorem de_listG {wg : WGe} (hc : X.calm = true) (hi : DGe X k e wg) (hr : Room (k + 3) X.A) (hm : X.mg "list" = none) (hg : Gl X "list" := by rfl) (he : starEach [e] X.env = (false, eval e X.env) :: starEach [] X.env := by rfl) : DE X (.Call (.Name "list" p) [e] [] pos) (wListG wg) := by
  refine ⟨fun pins s σ H Q I ⟨M, ρ, cs, P, o, r, h, kk⟩ => ?_⟩
  have hh : X.A.handled = none := I.ok.hd hc
  refine wpAny_Call_Name_kw (ld_blt I hg hm (show bootBuiltins "list" = some (.type "list") by decide +kernel) ?_ (by decide) (by decide))
  refine PyProof.Rows.callWith_type1 ?_ he rfl
  rw [he]
  show wpAny _ _ (spliced ((false, eval e X.env) :: backTo pos (starEach [] X.env))) _ _ s
  refine Calls.spliced_cons (thn (hi.run pins s σ H M ρ cs _ I o r h) fun u s1 h1 => ?_)
  obtain ⟨a, H1, M1, cs1, ds, fin, Gd, C, gs0, pv0, gv0, rfl, sm1, mk, hfin, gd, hz, hnew⟩ := h1
  refine Calls.spliced_nil ?_
  have hC := mk.held
  have ea : C.self.1 = a := mk.ea
  have ek : C.k = k := mk.ek
  have I2 : Inv X pins σ H1 s1 := mk.inv
  have hself := mk.pvk _ mk.self
  have hSa : s1.heap.objs.size ≠ a := by rw [← ea]; exact Nat.ne_of_gt (Heap.lt_size hself.1)
  have hSy : C.L ≤ s1.heap.objs.size := Nat.le_trans hself.2.2.1 (Nat.le_of_lt (Heap.lt_size hself.1))
  have hgA : s1.heap.IsGen a C.g := by have := hC.gen _ hself.1; rw [ea] at this; exact this
  have nS : H1 s1.heap.objs.size = none := I2.hok.fresh (Nat.le_refl _)
  refine callType_codes (Q₁ := fun obj s₁ => obj = .ref s1.heap.objs.size ∧ s₁ = { s1 with heap := s1.heap.push { cls := .type "list", data := .seq #[] } }) F.called_list (F.typeCall_list_1 _) F.entry_list_init
    (code_list_new _ ⟨rfl, rfl⟩) fun obj s₁ h₁ => ?_
  obtain ⟨rfl, rfl⟩ := h₁
  have hS : (s1.heap.push { cls := .type "list", data := .seq #[] }).get? s1.heap.objs.size = some { cls := .type "list", data := .seq #[] } := Heap.get?_push_size _ rfl
  refine ⟨⟨_, hS, rfl⟩, F.args_list_init_2 _ _, ?_⟩
  show wpAny _ X.A.in1.in1 (do let old ← Builtin.List.listItems (.ref s1.heap.objs.size); Builtin.List.listUpdate (.ref s1.heap.objs.size) (fun _ => #[]); letGo old.toList.reverse; Builtin.List.listExtendWith (.ref s1.heap.objs.size) (.ref a) .none) _ _ _
  refine wpAny_bind ?_
  unfold Builtin.List.listItems
  refine wpAny_bind (wpAny_seqItems hS rfl (wpAny_pure ?_))
  show wpAny _ X.A.in1.in1 (updateSeq s1.heap.objs.size (fun _ => #[]) >>= fun _ => letGo (#[] : Array Value).toList.reverse >>= fun _ => Builtin.List.listExtendWith (.ref s1.heap.objs.size) (.ref a) .none) _ _ _
  refine wpAny_bind (wpAny_updateSeq hS rfl ?_)
  have hS2 := Heap.get?_update_self (Obj.mapSeq (fun _ => (#[] : Array Value))) hS rfl
  refine wpAny_bind (wpAny_letGo ?_)
  unfold Builtin.List.listExtendWith
  have up : ∀ (h : Heap) (f : Obj → Obj), (∀ b o, s1.heap.get? b = some o → h.get? b = some o) → ∀ b o, s1.heap.get? b = some o → (h.update s1.heap.objs.size f).get? b = some o := fun h f q b o e =>
    (Heap.get?_update_other _ _ (Ne.symm (Nat.ne_of_lt (Heap.lt_size e)))).trans (q b o e)
  have k1 : ∀ b o, s1.heap.get? b = some o → (s1.heap.push { cls := .type "list", data := .seq #[] }).get? b = some o := fun b o e => Heap.get?_push_of_some _ e
  have k2 := up _ (Obj.mapSeq (fun _ => (#[] : Array Value))) k1
  have gty : ∀ {h : Heap}, (∀ b o, s1.heap.get? b = some o → h.get? b = some o) → h.IsGen a C.g := fun {h} q => hgA.keeps q
  refine wpAny_bind (wpAny_typeOf (Heap.IsGen.typeIs (s := { s1 with heap := _ }) (gty k2)) ?_)
  have h1 : Builtin.List.listSameRef (.ref s1.heap.objs.size) (.ref a) = false := by simp [Builtin.List.listSameRef, hSa]
  have h2 : (Value.type "generator" == Value.type "list") = false := by decide
  have h3 : (Value.type "generator" == Value.type "tuple") = false := by decide
  simp only [h1, h2, h3, Bool.or_false, Bool.false_eq_true, if_false]
  refine wpAny_bind (wpAny_pyIter_gen (s := { s1 with heap := _ }) (gty k2) ?_)
  refine wpAny_bind (wpAny_holding ?_)
  unfold Builtin.List.listLengthHint
  refine wpAny_bind (wpAny_specialOf (Heap.IsGen.typeIs (s := { s1 with heap := _ }) (gty k2)) F.gen_no_len ?_)
  show wpAny _ X.A.in1.in1 (specialOf (Value.ref a) (Str.ofString "__length_hint__") >>= _) _ _ _
  refine wpAny_bind (wpAny_specialOf (Heap.IsGen.typeIs (s := { s1 with heap := _ }) (gty k2)) F.gen_no_hint ?_)
  refine wpAny_pure ?_
  show wpAny _ X.A.in1.in1 (rule "list.extend.makes-room" >>= fun _ => Builtin.List.listTouch (.ref s1.heap.objs.size) >>= fun _ =>
    again (.builtin "list.extend.loop" ⟨[.ref s1.heap.objs.size, .ref a, .none], []⟩)) _ _ _
  refine wpAny_bind (wpAny_rule ?_)
  refine wpAny_bind ?_
  show wpAny _ X.A.in1.in1 (updateSeq s1.heap.objs.size (·.push .none) >>= fun _ => updateSeq s1.heap.objs.size (·.pop)) _ _ _
  refine wpAny_bind (wpAny_updateSeq hS2 rfl ?_)
  have hS3 := Heap.get?_update_self (Obj.mapSeq (·.push Value.none)) hS2 rfl
  refine wpAny_updateSeq (hz := by seq_fits) hS3 rfl ?_
  have hS4 := Heap.get?_update_self (Obj.mapSeq (·.pop)) hS3 rfl
  have k4 := up _ (Obj.mapSeq (·.pop)) (up _ (Obj.mapSeq (·.push Value.none)) k2)
  refine wpAny_pure ⟨plainId_quiet F.plain_extend_loop _, ?_⟩
  show codeAny _ _ _ _ { s1 with heap := (((s1.heap.push { cls := .type "list", data := .seq #[] }).update s1.heap.objs.size (Obj.mapSeq (fun _ => (#[] : Array Value)))).update s1.heap.objs.size (Obj.mapSeq (·.push Value.none))).update s1.heap.objs.size (Obj.mapSeq (·.pop)) }
  generalize hh4 : ((((s1.heap.push { cls := .type "list", data := .seq #[] }).update s1.heap.objs.size (Obj.mapSeq (fun _ => (#[] : Array Value)))).update s1.heap.objs.size (Obj.mapSeq (·.push Value.none))).update s1.heap.objs.size (Obj.mapSeq (·.pop))) = h4 at hS4 k4 ⊢
  obtain ⟨c4, hS5⟩ : ∃ c4, h4.get? s1.heap.objs.size = some (lstObj #[] c4) := ⟨_, hS4⟩
  have I4 : Inv X pins σ H1 { s1 with heap := h4 } := I2.kept (t' := s1.toks) k4
  have pS : ∀ q ∈ X.pn ++ pins, q.1 ≠ s1.heap.objs.size := fun q hq => Nat.ne_of_lt (Nat.lt_of_lt_of_le (hC.pinl q hq) hSy)
  have I5 : Inv X (pins ++ [(s1.heap.objs.size, lstObj #[] c4)]) σ H1 { s1 with heap := h4 } := I4.pins_of fun q hq => by
    rcases List.mem_append.mp hq with z | z
    · exact I4.pin q (List.mem_append_right _ z)
    · rw [List.mem_singleton.mp z]
      exact ⟨hS5, nS, Nat.ne_of_gt (Nat.lt_of_lt_of_le hC.locl hSy), fun z => Nat.lt_irrefl _ (Nat.lt_of_lt_of_le (hC.fsl _ z) hSy), fun v z => by cases z⟩
  have e1 : (C.self.1 : Addr) = a := ea
  have key := fun (R : Result → Shared → Prop) => drain_list (R := R) (σ := σ) (M1 := M1) (S := s1.heap.objs.size) (cs := cs1) (Gd := Gd) (ds := ds) (res := .none) (A := X.A.in1) hC hSy hfin hh rfl (by have := hr.dp; show X.A.depth < _; omega) (by rw [ek]; exact ⟨hr.hd, by have := hr.dp; show X.A.depth + 3 * k + 5 < _; omega, by have := hr.un; show X.A.units + 1 + 1 + 1 + 16 * k + 200 < _; omega⟩) gd hz
  rw [e1] at key
  refine key _ (fun s' H' M' acc c ys I' sm o' hv hp => ?_) _ 0 { s1 with heap := h4 } H1 M1 gs0 pv0 gv0 #[] c4 [] rfl (Nat.zero_le _) ⟨I5, Same.refl _, mk.ok, mk.gsk, fun q hq => ?_, mk.self, mk.loc, ⟨mk.gvk.sz, mk.gvk.at_⟩, fun q hq => ?_, by rw [List.drop_zero]; exact mk.hands⟩ .nil .nil
  · have hl : ys.length ≤ sizeLine := by
      have := Paired.len hp
      rw [List.length_map] at this
      rw [this, sizeLine_eq]
      exact hz
    have J := inv_adopt I' (Nat.le_trans hC.szl hSy) (fun x cc hx => Nat.ne_of_lt (Nat.lt_of_lt_of_le (hC.celll x cc hx) hSy)) pS hv hl
    have hn := (I'.pin (s1.heap.objs.size, lstObj acc c) (List.mem_append_right _ (List.mem_append_right _ List.mem_cons_self))).2.1
    exact ⟨rfl, .ref s1.heap.objs.size, _, J, rfl, newL_ok o' hp hnew (kk.mono (sm1.trans sm)) _ hn⟩
  · obtain ⟨q1, q2, q3, q4⟩ := mk.pvk q hq
    exact ⟨k4 _ _ q1, q2, q3, q4⟩
  · exact Nat.ne_of_gt (Heap.lt_size (mk.pvk q hq).1)
end
end GN
set_option maxRecDepth 100000
set_option maxHeartbeats 4000000
namespace GN
open PySem L2 PySem.Spec PyProof.Rows GenW DL GT
/-! ### a generator expression is made -/
/-- what stands when it has been made -/
structure GxAt (X : Cx) (pins : List (Addr × Obj)) (σ : L2.St) (P : Addr) (ge : Expr) (scope : Scope) (cl : List (Str × Addr)) (it : Value) (s2 : Shared) (H2 : Hp) (ps : Array Value) (code : Value) (Lf a : Addr) (oL go : Obj) (more : Array Value) (s5 : Shared) : Prop where
  gens : s5.gens = s2.gens.push (.fresh (.compStart ge 0 it .none (genEnv scope cl Lf code builtinsNs X.env)))
  os : s5.os = s2.os
  lf : s2.heap.objs.size ≤ Lf
  la : Lf < a
  ns : s5.heap.Ns Lf (fun y => if y = ".0" then some it else none)
  hoL : s5.heap.get? Lf = some oL
  hgo : s5.heap.get? a = some go
  gen : ∀ h : Heap, h.get? a = some go → h.IsGen a s2.gens.size
  cls : go.cls = .type "generator" ∧ ∃ vs, go.data = .fields vs
  keep : ∀ b o, b ≠ P → s2.heap.get? b = some o → s5.heap.get? b = some o
  tri : TriplesOk (ps ++ more).toList
  inv : Inv X pins σ (upd H2 P (.tbl (ps ++ more))) s5
  lim : s5.heap.NoLimit
section
variable {X : Cx} {pins : List (Addr × Obj)} {σ : L2.St} {s : Shared} {c P : Addr} {elt tg iter : Expr} {scope : Scope} {gpos : Pos} {cl : List (Str × Addr)} {Q' : Value → Shared → Prop}
theorem gx_make (hroom : X.A.depth < recursionLimit) (TB : GxR.TabB X.base X.mg c P) (hcode : X.env.code = .ref c) (hco : scope.isCoroutine = false) (hclos : closureFor scope X.env = pure cl) (hcell : ∀ y ∈ scope.names, y.2 ≠ .cell) (h0 : scope.names.lookup (".0" : Str) = some NameKind.local) (hkind : scope.kind = .function) (hs : ∀ v, genFold iter X.env v = pure v)
    (h : wpAny (model X.prog X.w) X.A (eval iter X.env) (fun xv s1 => wpAny (model X.prog X.w) X.A (pyIter xv) (fun it s2 => ∃ H2 ps, Inv X pins σ H2 s2 ∧ H2 P = some (.tbl ps) ∧ TriplesOk ps.toList ∧
      ∀ code Lf a oL go more s5, GxAt X pins σ P (.GeneratorExp elt [⟨tg, iter, [], 0⟩] scope gpos) scope cl it s2 H2 ps code Lf a oL go more s5 → Q' (.ref a) s5) X.xe s1) X.xe s) :
    wpAny (model X.prog X.w) X.A (eval (.GeneratorExp elt [⟨tg, iter, [], 0⟩] scope gpos) X.env) Q' X.xe s := by
  refine wpAny_GeneratorExp_make hco hclos hcell h0 hkind hroom (wpAny_mono h (fun xv s1 h1 => wpAny_mono h1 (fun it s2 h2 => ?_) fun _ _ e => e) fun _ _ e => e) hs
  obtain ⟨H2, ps, I2, hP, ht, hQ⟩ := h2
  have hPs : s2.heap.get? P = some { cls := .none, data := .fields ps } := I2.hok P _ hP
  have cd : PySem.W.CodeHd s2.heap c P := TB.code.keeps fun b u e => I2.bk b u e
  refine ⟨I2.nolimit, ?_⟩
  have cont : ∀ (code : Value) (h3 : Heap) (tk : Nat) (ps' : Array Value), Heap.ExtBut P s2.heap h3 → s2.heap.objs.size ≤ h3.objs.size → h3.get? P = some { cls := .none, data := .fields ps' } → (∃ more, ps' = ps ++ more) → TriplesOk ps'.toList →
      wpAny (model X.prog X.w) X.A (builtinsFor X.env.globals X.env.builtins) (fun bi s₄ =>
        ∀ h', h'.Ns s₄.heap.objs.size (fun y => if y = ".0" then some it else none) → Heap.SameBut s₄.heap.objs.size (s₄.heap.push { cls := .type "frame", data := .dict #[] }) h' →
          Q' (.ref h'.objs.size) { s₄ with
            gens := s₄.gens.push (.fresh (.compStart (.GeneratorExp elt [⟨tg, iter, [], 0⟩] scope gpos) 0 it .none (genEnv scope cl s₄.heap.objs.size code bi X.env))),
            toks := s₄.toks + 1 + 1 + 1,
            heap := h'.push { cls := .type "generator", data := .fields #[.int s₄.gens.size 0, .str "<genexpr>" (s₄.toks + 1), .str (X.env.qual ++ "<genexpr>") (s₄.toks + 1 + 1)] } }) X.xe { s2 with heap := h3, toks := tk } := by
    intro code h3 tk ps' hx hsz hP3 hmore ht3
    obtain ⟨bm, ob, e1, e2, e3, e4, e5, e6, e7, e8⟩ := TB.bm
    have hcP : cStatics ≠ P := fun e => by
      obtain ⟨_, hns, _⟩ := I2.nolimit
      obtain ⟨o', es, ep, ho, hd, _⟩ := hns
      rw [e, hPs] at ho
      cases ho
      cases hd
    refine wpAny_builtinsFor (m := X.mg) (by rw [I2.ok.glob]; exact (I2.mod.glob.keeps I2.bk).extBut hx TB.gP) e1 e2 (hx _ _ e4 (I2.bk _ _ e5)) e6 e7 e8 ?_
    intro h' hn hsb
    obtain ⟨more, em⟩ := hmore
    have szh : h'.objs.size = h3.objs.size + 1 := by rw [hsb.1, Heap.size_push]
    have keep' : ∀ b o, h3.get? b = some o → h'.get? b = some o := fun b o e => hsb.extBut b o (Nat.ne_of_lt (Heap.lt_size e)) (Heap.get?_push_of_some _ e)
    generalize hgo : ({ cls := .type "generator", data := .fields #[.int s2.gens.size 0, .str "<genexpr>" (tk + 1), .str (X.env.qual ++ "<genexpr>") (tk + 1 + 1)] } : Obj) = go
    have hgo' : go.cls = .type "generator" ∧ go.data = .fields #[.int s2.gens.size 0, .str "<genexpr>" (tk + 1), .str (X.env.qual ++ "<genexpr>") (tk + 1 + 1)] := by rw [← hgo]; exact ⟨rfl, rfl⟩
    have hgs : h'.objs.size < (h'.push go).objs.size := by rw [Heap.size_push]; exact Nat.lt_succ_self _
    have hpg : (h'.push go).get? h'.objs.size = some go := Heap.get?_push_size _ (by rw [← hgo]; rfl)
    obtain ⟨oL, es, ep, hoL, hdL, hrL⟩ := id hn
    have kp : ∀ b o, b ≠ P → s2.heap.get? b = some o → (h'.push go).get? b = some o := fun b o hb e => Heap.get?_push_of_some _ (keep' b o (hx b o hb e))
    show Q' (.ref h'.objs.size) { s2 with heap := h'.push go, gens := s2.gens.push _, toks := tk + 1 + 1 + 1 }
    refine hQ code h3.objs.size h'.objs.size oL go more _ ⟨rfl, rfl, hsz, by rw [szh]; exact Nat.lt_succ_self _, hn.push _, Heap.get?_push_of_some _ hoL, hpg, fun h e => ?_, ⟨hgo'.1, _, hgo'.2⟩, kp, by rw [← em]; exact ht3, ?_, ?_⟩
    · exact ⟨_, _, _, e, hgo'.1, hgo'.2, by rw [← hgo]⟩
    · exact GxR.inv_tab (more := more) I2 hP kp (by rw [← em]; exact Heap.get?_push_of_some _ (keep' _ _ hP3)) (I2.bare.push rfl)
    · exact (I2.nolimit.extBut hx hcP).keeps fun b o e => Heap.get?_push_of_some _ (keep' b o e)
  cases hf : codeAmong gpos ps.toList with
  | none =>
    refine wpAny_genexprCodeX hcode (cd.code hPs ht) (cd.tab hPs) hf fun c' h' tk hx hge hlt hco' _ htab' _ => ?_
    obtain ⟨o1, vs, f1, tf, fl, tg, inF, tx, tt, op, _, _, _, _, _, _, _, _, _, htr, _⟩ := hco'
    exact cont _ h' tk _ hx (Nat.le_trans hge (Nat.le_of_lt hlt)) htab'.2 ⟨_, rfl⟩ htr
  | some cv =>
    refine wpAny_genexprCode_hit hcode (cd.code hPs ht) hf ?_
    exact cont cv s2.heap s2.toks ps (Heap.ExtBut.refl _ _) (Nat.le_refl _) hPs ⟨#[], by simp⟩ ht
end
end GN
set_option maxRecDepth 100000
set_option maxHeartbeats 4000000
namespace GN
open PySem L2 PySem.Spec PyProof.Rows GenW DL GT
/-! ### a generator expression runs: over a list -/
theorem over_comp {A : Around} {elt : Expr} {cls : List Comprehension} {scope : Scope} {pos : Pos} {it acc : Value} {env : Env} : A.over (.compLoop (.GeneratorExp elt cls scope pos) 0 it acc env) [] = A.deeper env := by
  first
    | rfl
    | (obtain ⟨hd, d, fr, gs, u⟩ := A; simp [Around.over, Around.deeper, marksOver, frameCount, unitsOf, envsOf, guardsOf, pushEnvs, pushGuards, Code.envs, Code.env?, Code.isFrame, Code.guards, Code.isGuard, Code.weight, Code.frames, Code.isCreation, Code.isCaller, Code.cUnits])
/-- its invariant when it is woken first -/
theorem inv_gx {G : GP} {A : Around} {s : Shared} {H : Hp} {ip : List (Addr × Obj)} (hle : G.L ≤ G.env.locals) (hcl : G.env.cells = []) (hk : G.env.scope.kind = .function) (hgl : G.env.globals = mainGlobals) (hbl : G.env.builtins = builtinsNs) (hfrm : G.env.frame = some G.env.locals) (hnf : ∀ x, G.env.kindOf x ≠ some .cell ∧ G.env.kindOf x ≠ some .free)
    (hbz : G.base.objs.size ≤ G.L) (hfr : ∀ b ∈ frs G.outer, b < G.L) (hd : A.handled = none) (e0 : Env0 G.P G.w G.K G.mg G.base A G.outer s H) {m : Str → Option Value} (hns : s.heap.Ns G.env.locals m) (hLH : H G.env.locals = none)
    (hp : ∀ p ∈ G.self :: ip, s.heap.get? p.1 = some p.2 ∧ H p.1 = none ∧ p.1 ≠ G.env.locals ∧ p.1 ∉ frs G.outer ∧ ∀ v, p.2.data ≠ .cell v) :
    Inv (G.X A (cutS G.L s) H) ip (List.replicate G.N.length none) H s := by
  have hLlt : G.L < s.heap.objs.size := Nat.lt_of_le_of_lt hle hns.lt
  have hsz : (cutS G.L s).heap.objs.size = G.L := cut_size (Nat.le_of_lt hLlt)
  have nocell : ∀ x c, ¬ G.env.cells.lookup x = some c := fun x c h => by rw [hcl] at h; cases h
  refine ⟨⟨e0.mod, hk, hgl, hbl, ?_, fun x y c h => (nocell x c h).elim, fun x h => ?_, fun x c _ h => (nocell x c h).elim, fun _ => hd, ?_, .inr ⟨rfl, hfrm⟩, fun b hb => absurd hb (by simp [GP.X]), fun b o e => ?_, ?_, fun b o e h => absurd h (by simp [GP.X]), fun b hb => absurd hb (by simp [GP.X]), funs_cut e0.funs hfr, e0.frf⟩, rfl, e0.bare, ?_, ⟨m, hns, fun i x v h1 h2 h3 => ?_⟩, fun x c h => (nocell x c h).elim, hLH, fun x c h => (nocell x c h).elim, hp, e0.hok, List.length_replicate⟩
  · show (cutS G.L s).heap.objs.size ≤ G.env.locals
    rw [hsz]; exact hle
  · rcases h with h | h
    · exact ((hnf x).1 h).elim
    · exact ((hnf x).2 h).elim
  · show A.frames.map (G.env :: ·) = _
    rw [e0.frames]; rfl
  · have hb : b < G.L := Nat.lt_of_lt_of_le (Heap.lt_size e) hbz
    exact ⟨by show (cut G.L s.heap).get? b = _; rw [cut_lt hb]; exact (e0.bs b o e).1, (e0.bs b o e).2⟩
  · show G.base.objs.size ≤ (cutS G.L s).heap.objs.size
    rw [hsz]; exact hbz
  · refine ⟨fun b o e _ _ _ => (cut_some e).2, fun b o e _ _ _ => ⟨o.slots, (cut_some e).2⟩, fun b o _ n _ => n, fun b o e _ => ⟨o, (cut_some e).2⟩, fun _ _ q => q, fun _ _ _ q => q, fun b ps q => ⟨#[], by rw [show H b = some (HO.tbl ps) from q]; simp⟩⟩
  · rw [List.getElem?_replicate] at h2
    split at h2 <;> simp at h2
section
variable {G : GP} {Gd : Cells → Prop} {elt tg iter : Expr} {scope : Scope} {gpos : Pos} {js : List Nat} {g : WG} {we : WE} {I0 : Addr} {J : It} {tn : Nat → Heap → Prop} {M1 : Hp} {xs : List Vl} {items : List Dat}
theorem gx_loop (hcl : G.env.cells = []) (hfrm : G.env.frame = some G.env.locals) (hle : G.L ≤ G.env.locals) (hI : G.L ≤ I0) (hIl : I0 ≠ G.env.locals) (hIf : I0 ∉ frs G.outer) (hIs : G.self.1 ≠ I0) (hsl : G.L ≤ G.self.1) (hco : G.env.scope.isCoroutine = false)
    (T : Turn G.P G.w G.K tg J [I0] I0 tn) {Gi : Cells → Prop} (iok : ItOk G.K M1 J xs Gi) (hGi : ∀ c, Gd c → Gi c) (hlen : items.length = xs.length)
    (hg : ∀ A s H, Room G.k A → DG (G.X A s H) js tg g) (he : ∀ A s H, Room G.k A → DE (G.X A s H) elt we)
    (body : ∀ (i : Nat) (x : Vl), xs[i]? = some x → ∀ c1, Gd c1 → ∀ ρ : DEnv, ρ.length = G.N.length → g x ρ c1 fun ρ2 c2 => we ρ2 c2 fun y c3 => SubC c1 c3 ∧ ∃ d, items[i]? = some d ∧ y = .dat d) :
    ∀ (m i : Nat) (A : Around) (y : Gh) (s : Shared) (σ : L2.St) (H M : Hp) (ρ : DEnv), m = xs.length - i → i ≤ xs.length → Rm G A → Lg G y → Inv (G.X A (cutS G.L y.s) y.H) y.fp σ H s → Same M1 M → Same y.M M → Ok G.K M H y.cs → Rho G.K M σ ρ → G.g < s.gens.size → (∀ q ∈ y.fp, q.1 ≠ G.self.1) → (∀ q ∈ y.fp, q.1 ≠ I0) → H I0 = none → tn i s.heap → Gd y.cs →
      SegZ (model G.P G.w) A (HZ G.C Gd .done (items.drop i) A y) (.compLoop (.GeneratorExp elt [⟨tg, iter, [], 0⟩] scope gpos) 0 (.ref I0) .none G.env) ((model G.P G.w).den (.compLoop (.GeneratorExp elt [⟨tg, iter, [], 0⟩] scope gpos) 0 (.ref I0) .none G.env)) [] s := by
  have hLb : ∀ b ∈ [I0], G.L ≤ b := fun b hb => by rw [List.mem_singleton.mp hb]; exact hI
  have stat : ∀ {A' : Around} {y' : Gh} {H' : Hp}, Lg G y' → (∀ q ∈ y'.fp, q.1 ≠ I0) → H' I0 = none → ∀ b ∈ [I0], FpOk (G.X A' (cutS G.L y'.s) y'.H) y'.fp H' b := fun {A' y' H'} hy' hds hn b hb => by
    rw [List.mem_singleton.mp hb]
    refine ⟨hn, hIl, hIf, .inr (Nat.le_trans (Nat.le_of_eq (cut_size hy')) hI), fun x c h => (by have h : G.env.cells.lookup x = some c := h; rw [hcl] at h; cases h), fun p hp => ?_⟩
    rcases List.mem_append.mp hp with z | z
    · rw [List.mem_singleton.mp (show p ∈ [_] from z)]; exact hIs
    · exact hds p z
  intro m
  induction m with
  | zero =>
    intro i A y s σ H M ρ hm hi hr hy I h1 hM o r hgz hd1 hd2 hIn ht gd
    have ei : i = xs.length := by omega
    subst ei
    show SegZ _ A _ _ ((compTurn (.GeneratorExp elt [⟨tg, iter, [], 0⟩] scope gpos) 0 (.ref I0) .none G.env).onRaise (leaving G.env)) [] s
    rw [compTurn_gen, Sem.onRaise_eq_wrap]
    refine sz_bindw (wpAny_standAt ?_)
    refine sz_bindw ?_
    rw [over_comp]
    refine wpAny_mono (wpAny_sl (T.done (G.X A (cutS G.L y.s) y.H) rfl rfl rfl rfl xs.length y.fp (deafen s) σ H (fun _ _ => False) (inv_deaf I) (stat hy hd2 hIn) ht (iok.stop M H y.cs h1 o (hGi _ gd)))) (fun rr s3 ⟨s30, sl3, h3⟩ => ?_) fun _ _ ⟨_, _, z⟩ => z.elim
    obtain ⟨rfl, I3⟩ := h3
    have I' := inv_back sl3 I.bare I3
    rw [show items.drop xs.length = [] by rw [← hlen]; exact List.drop_length ..]
    exact sz_end (.ok .next) ⟨.inr rfl, H, M, ⟨I'.os, I'.bare, un_woken I', I'.hok, hM, o, fun q hq => ⟨(I'.pin q (List.mem_append_right _ hq)).1, (I'.pin q (List.mem_append_right _ hq)).2.1⟩⟩⟩
  | succ m ih =>
    intro i A y s σ H M ρ hm hi hr hy I h1 hM o r hgz hd1 hd2 hIn ht gd
    have hlt : i < xs.length := by omega
    have gi := hGi _ gd
    show SegZ _ A _ _ ((compTurn (.GeneratorExp elt [⟨tg, iter, [], 0⟩] scope gpos) 0 (.ref I0) .none G.env).onRaise (leaving G.env)) [] s
    rw [compTurn_gen, Sem.onRaise_eq_wrap]
    refine sz_bindw (wpAny_standAt ?_)
    refine sz_bindw ?_
    rw [over_comp]
    have hv : GvOk G.g [] s := ⟨hgz, fun p hp => by cases hp⟩
    refine wpAny_mono (wpAny_sl (T.item (G.X A (cutS G.L y.s) y.H) rfl rfl rfl rfl i y.fp (deafen s) σ H (fun _ _ => False) (inv_deaf I) (stat hy hd2 hIn) ht (iok.go i M H y.cs h1 o gi hlt))) (fun rr s3 ⟨s30, sl3, h3⟩ => ?_) fun _ _ ⟨_, _, z⟩ => z.elim
    obtain ⟨u, rfl, h3⟩ := h3
    refine sz_bindw ?_
    rw [over_comp]
    refine wpAny_mono (wpAny_sl2 sl3 h3) (fun _ s4 ⟨s40, sl4, h4⟩ => ?_) fun _ _ ⟨_, _, z⟩ => z.elim
    obtain ⟨x, H4, I40, rx, yl, t40, fr4⟩ := h4
    have I4 := inv_back sl4 I.bare I40
    have t4 : tn (i + 1) s4.heap := by rw [sl4.slept.eq]; exact t40
    have hv4 := gv_slept hv sl4
    obtain ⟨M4, xv, ex, s4', o4, rv⟩ := iok.yld i M H y.cs x H4 h1 o gi yl hlt
    have hI4 : H4 I0 = none := fr4 I0 List.mem_cons_self
    have I4a := I4.pinned (stat hy hd2 hI4 (A' := A)) (T.obj _ _ t4)
    refine sz_bindw ?_
    rw [over_comp]
    have hrl : ρ.length = G.N.length := by rw [← r.len]; exact I.len
    refine wpAny_mono (wpAny_sl ((hg A _ _ hr).run (y.fp ++ pinsAt [I0] s4.heap) (deafen s4) σ H4 x u (fun σ' H' => ∃ M' ρ' cs', Same M4 M' ∧ Ok G.K M' H' cs' ∧ Rho G.K M' σ' ρ' ∧ we ρ' cs' fun yv c3 => SubC y.cs c3 ∧ ∃ d, items[i]? = some d ∧ yv = .dat d) (inv_deaf I4a) rx
      ⟨M4, ρ, y.cs, xv, _, o4, r.mono s4', rv, body i xv ex y.cs gd ρ hrl, fun σ' ρ' M' H' cs' sm o' r' _ _ p => ⟨M', ρ', cs', sm, o', r', p⟩⟩)) (fun _ s5 ⟨s50, sl5, h5⟩ => ?_) fun _ _ ⟨_, _, z⟩ => z.elim
    obtain ⟨σ5, H5, I50, M5, ρ5, cs5, sm5, o5, r5, q5⟩ := h5
    have I5 := inv_back sl5 I4a.bare I50
    have hv5 := gv_slept hv4 sl5
    simp only [List.forIn_nil]
    refine sz_bindw (wpAny_pure ?_)
    simp only [if_true]
    have hyo : ∀ v, yieldOut G.env v = yieldValue v := fun v => by
      unfold yieldOut
      rw [if_neg (by rw [hco]; decide)]
    simp only [hyo]
    rw [Sem.bind_eq_wrap', Sem.bind_eq_wrap', Sem.wrap_wrap, Sem.wrap_wrap]
    refine sz_wrap ?_
    rw [over_comp]
    refine wpAny_mono (wpAny_sl ((he A _ _ hr).run (y.fp ++ pinsAt [I0] s4.heap) (deafen s5) σ5 H5 (fun v H' => ∃ x M' cs', Same M5 M' ∧ Ok G.K M' H' cs' ∧ RV G.K M' v x ∧ SubC y.cs cs' ∧ ∃ d, items[i]? = some d ∧ x = .dat d) (inv_deaf I5) ⟨M5, ρ5, cs5, _, o5, r5, q5, fun v x M' H' cs' s o' rv p => ⟨x, M', cs', s, o', rv, p.1, p.2⟩⟩)) (fun v s' ⟨s₁, sl, hs⟩ => ?_) fun x s' ⟨_, _, hx⟩ => hx.elim
    obtain ⟨yx, H', I1, ry, xd, M', cs', sm, o', rv', hsub, d, hd, rfl⟩ := hs
    have I' := inv_back sl I5.bare I1
    have hv' := gv_slept hv5 sl
    refine sz_at (sz_yield rfl fun p => ?_)
    have ed : items.drop i = d :: items.drop (i + 1) := drop_cons hd
    rw [ed]
    obtain ⟨mm, hns, hloc⟩ := I'.loc
    obtain ⟨oL, es, ep, hoL, hdat, hrest⟩ := id hns
    have hoL : s'.heap.get? G.env.locals = some oL := hoL
    obtain ⟨oI, heI, hoc⟩ := T.obj _ _ t4 I0 List.mem_cons_self
    have mI : (I0, oI) ∈ pinsAt [I0] s4.heap := mem_pinsAt List.mem_cons_self heI
    have hIp := I'.pin (I0, oI) (List.mem_append_right _ (List.mem_append_right _ mI))
    have hSp := I'.pin G.self (List.mem_append_left _ List.mem_cons_self)
    refine ⟨v, _, _, _, _, p, [], rfl, rfl, H', M', [(G.env.locals, oL), G.self, (I0, oI)], [], yx, ⟨I'.os, I'.bare, un_woken I', I'.hok, hM.trans (s4'.trans (sm5.trans sm)), o'.sub hsub, fun q hq => ?_⟩, ry, rv', ⟨fun q hq => ?_, List.mem_cons_of_mem _ List.mem_cons_self, ⟨oL, List.mem_cons_self⟩, fun p hp q hq => ?_⟩, hv', ?_⟩
    · have := I'.pin q (List.mem_append_right _ (List.mem_append_left _ hq))
      exact ⟨this.1, this.2.1⟩
    · rcases List.mem_cons.mp hq with z | z
      · rw [z]
        exact ⟨hoL, I'.free, hle, fun v z => by rw [hdat] at z; cases z⟩
      · rcases List.mem_cons.mp z with z | z
        · rw [z]; exact ⟨hSp.1, hSp.2.1, hsl, hSp.2.2.2.2⟩
        · rw [List.mem_singleton.mp z]; exact ⟨hIp.1, hIp.2.1, hI, hIp.2.2.2.2⟩
    · rcases List.mem_cons.mp hp with z | z
      · rw [z]
        exact (I'.pin q (List.mem_append_right _ (List.mem_append_left _ hq))).2.2.1
      · rcases List.mem_cons.mp z with z | z
        · rw [z]; exact hd1 q hq
        · rw [List.mem_singleton.mp z]; exact hd2 q hq
    · refine .inr fun A2 y2 W => ?_
      have hL := (W.pv (G.env.locals, oL) List.mem_cons_self)
      have hW := W.pv
      have hS2 := W.pv G.self (List.mem_cons_of_mem _ List.mem_cons_self)
      have hI2 := W.pv (I0, oI) (List.mem_cons_of_mem _ (List.mem_cons_of_mem _ List.mem_cons_self))
      have I2 : Inv (G.X A2 (cutS G.L y2.s) y2.H) y2.fp σ5 y2.H y2.s := by
        refine rebase (cut_size hy) hle hcl I' hfrm W.room.hd (show (A2.deeper G.env).handled = none from W.room.hd) W.env (fun o e => by rw [hoL] at e; cases e; exact hL.1) hL.2 (fun q hq => ?_) ?_
        · rcases List.mem_cons.mp hq with z | z
          · rw [z]
            exact ⟨hS2.1, hS2.2, hSp.2.2.1, hSp.2.2.2.1, hSp.2.2.2.2⟩
          · exact W.fp q z
        · show A2.frames.map (G.env :: ·) = _
          rw [W.env.frames]; rfl
      have hy' : Lg G y2 := Nat.le_of_lt (Nat.lt_of_le_of_lt hle (Heap.lt_size hL.1))
      have t2 : tn (i + 1) y2.s.heap := T.keep _ _ _ t4 fun b hb o e => by
        rw [List.mem_singleton.mp hb] at e ⊢
        rw [heI] at e
        cases e
        exact hI2.1
      refine sz_again rfl ?_
      exact ih (i + 1) A2 y2 y2.s σ5 y2.H y2.M ρ5 (by omega) hlt W.room hy' I2 (h1.trans (s4'.trans (sm5.trans (sm.trans W.same)))) (Same.refl _) W.ok ((r5.mono sm).mono W.same) W.gz (fun q hq => W.dis G.self (List.mem_cons_of_mem _ List.mem_cons_self) q hq) (fun q hq => W.dis (I0, oI) (List.mem_cons_of_mem _ (List.mem_cons_of_mem _ List.mem_cons_self)) q hq) hI2.2 t2 W.gd
end
end GN
set_option maxRecDepth 100000
set_option maxHeartbeats 4000000
namespace GN
open PySem L2 PySem.Spec PyProof.Rows GenW DL GT
/-- a generator expression over a list; P: the table of its code objects; n: its slots -/
def wGx (P : Addr) (n : Nat) (wl : WE) (g : WG) (we : WE) : WGe := fun ρ cs R => wl ρ cs fun x cs1 => cs1 P = some .tg ∧ ∃ xs items Gd, seqD cs1 x = some (true, xs) ∧ (∀ c, Gd c → seqD c x = some (true, xs)) ∧ items.length = xs.length ∧
  (∀ (i : Nat) (x' : Vl), xs[i]? = some x' → ∀ c1, Gd c1 → ∀ ρ' : DEnv, ρ'.length = n → g x' ρ' c1 fun ρ2 c2 => we ρ2 c2 fun y c3 => SubC c1 c3 ∧ ∃ d, items[i]? = some d ∧ y = .dat d) ∧ R items .done Gd cs1
theorem Ok.tbl {K : Frag} {M H : Hp} {cs : Cells} {P : Addr} {ps : Array Value} (o : Ok K M H cs) (h : cs P = some .tg) (ht : TriplesOk ps.toList) : Ok K M (upd H P (.tbl ps)) cs := by
  have := o.setC h (u := .tbl ps) (c := .tg) ht
  rw [Cells.put_self h] at this
  exact this
theorem ok_tg {K : Frag} {M H : Hp} {cs : Cells} {P : Addr} (o : Ok K M H cs) (h : cs P = some .tg) : ∃ ps, H P = some (.tbl ps) ∧ TriplesOk ps.toList := by
  obtain ⟨_, u, e, r⟩ := o.cell P _ h
  cases u <;> first | exact (show False from r).elim | exact ⟨_, e, r⟩
abbrev gxG (X : Cx) (N : List Str) (scope : Scope) (Lf : Addr) (code : Value) (k : Nat) (self : Addr × Obj) (gn : Nat) (L : Addr) : GP := ⟨X.prog, X.w, X.K, X.mg, X.base, N, genEnv scope [] Lf code builtinsNs X.env, X.stack, k, self, gn, L, fun _ => True⟩
theorem dge_gx {X : Cx} {c P : Addr} {N : List Str} {elt tg iter : Expr} {scope : Scope} {gpos : Pos} {js : List Nat} {wl : WE} {g : WG} {we : WE} {k : Nat} (hroom : X.A.depth < recursionLimit) (TB : GxR.TabB X.base X.mg c P) (hcode : X.env.code = .ref c) (hl : DE X iter wl)
    (hg : ∀ Lf code self gn L A s H, Room k A → DG ((gxG X N scope Lf code k self gn L).X A s H) js tg g) (he : ∀ Lf code self gn L A s H, Room k A → DE ((gxG X N scope Lf code k self gn L).X A s H) elt we)
    (hco : scope.isCoroutine = false := by rfl) (hcell : ∀ y ∈ scope.names, y.2 ≠ .cell ∧ y.2 ≠ .free := by decide) (h0 : scope.names.lookup (".0" : Str) = some NameKind.local := by rfl) (hkind : scope.kind = .function := by rfl) (hclos : closureFor scope X.env = pure [] := by rfl) (hs : ∀ v, genFold iter X.env v = pure v := by intro _; rfl) :
    DGe X k (.GeneratorExp elt [⟨tg, iter, [], 0⟩] scope gpos) (wGx P N.length wl g we) := by
  refine ⟨fun pins s σ H M ρ cs R I o r h => ?_⟩
  refine gx_make (pins := pins) (σ := σ) hroom TB hcode hco hclos (fun y hy => (hcell y hy).1) h0 hkind hs ?_
  refine wpAny_gsz (n := s.gens.size) (Nat.le_refl _) (wpAny_mono (hl.run pins s σ H (fun v H1 => ∃ x M1 cs1, Same M M1 ∧ Ok X.K M1 H1 cs1 ∧ RV X.K M1 v x ∧ cs1 P = some .tg ∧ ∃ xs items Gd, seqD cs1 x = some (true, xs) ∧ (∀ c, Gd c → seqD c x = some (true, xs)) ∧ items.length = xs.length ∧
    (∀ (i : Nat) (x' : Vl), xs[i]? = some x' → ∀ c1, Gd c1 → ∀ ρ' : DEnv, ρ'.length = N.length → g x' ρ' c1 fun ρ2 c2 => we ρ2 c2 fun y c3 => SubC c1 c3 ∧ ∃ d, items[i]? = some d ∧ y = .dat d) ∧ R items .done Gd cs1) I ⟨M, ρ, cs, _, o, r, h, fun v x M' H' cs' sm o' rv p => ⟨x, M', cs', sm, o', rv, p⟩⟩) (fun xv s1 ⟨v, H1, I1, rv1, q1⟩ hsz => ?_) fun _ _ x _ => x)
  obtain ⟨x, M1, cs1, sm1, o1, rx, hP, xs, items, Gd, hsq, hGd, hlen, body, hR⟩ := q1
  obtain ⟨yl, vs, ev, hyl, _⟩ := seqD_list o1 rx hsq
  subst ev
  obtain rfl : xv = Value.ref yl := rv1
  obtain ⟨its, rvs, hl', hz⟩ := I1.list hyl
  have hIL := hl'.isList
  refine wpAny_pyIter_list hIL ?_
  generalize ho : ({ cls := .type "list_iterator", data := .fields #[.ref yl, .int 0 0] } : Obj) = oI
  have hIt : (s1.heap.push oI).IsListIter s1.heap.objs.size yl 0 := by
    subst ho
    exact ⟨_, Heap.get?_push_size _ rfl, rfl, rfl⟩
  have hIo : (s1.heap.push oI).get? s1.heap.objs.size = some oI := Heap.get?_push_size _ (by rw [← ho]; rfl)
  have hoI : ∀ v, oI.data ≠ .cell v := fun v z => by rw [← ho] at z; cases z
  have I2 : Inv X pins σ H1 { s1 with heap := s1.heap.push oI } := I1.kept (t' := s1.toks) fun b u e => Heap.get?_push_of_some _ e
  obtain ⟨ps, hPs, htr⟩ := ok_tg o1 hP
  refine ⟨H1, ps, I2, hPs, htr, fun code Lf a oL go more s5 at5 => ?_⟩
  have hI0 : H1 s1.heap.objs.size = none := I1.hok.fresh (Nat.le_refl _)
  have sz2 : (s1.heap.push oI).objs.size = s1.heap.objs.size + 1 := Heap.size_push ..
  have hLf : s1.heap.objs.size + 1 ≤ Lf := by rw [← sz2]; exact at5.lf
  have hla : Lf < a := at5.la
  have hIL2 : s1.heap.objs.size < Lf := hLf
  have hIa : s1.heap.objs.size < a := Nat.lt_trans hIL2 hla
  have hn : ∀ b, s1.heap.objs.size ≤ b → upd H1 P (.tbl (ps ++ more)) b = none := fun b hb => by
    have : b ≠ P := fun z => by
      have := I1.hok.fresh hb
      rw [z, hPs] at this
      cases this
    rw [upd_ne this]
    exact I1.hok.fresh hb
  have hIP : s1.heap.objs.size ≠ P := fun z => by rw [← z, hI0] at hPs; cases hPs
  have o5 : Ok X.K M1 (upd H1 P (.tbl (ps ++ more))) cs1 := Ok.tbl o1 hP at5.tri
  let G : GP := gxG X N scope Lf code k (a, go) s1.gens.size s1.heap.objs.size
  have hloL : ∀ v, oL.data ≠ .cell v := fun v z => by
    obtain ⟨oL', es, ep, e1, e2, _⟩ := at5.ns
    rw [at5.hoL] at e1
    cases e1
    rw [e2] at z
    cases z
  have hgo : ∀ v, go.data ≠ .cell v := fun v z => by
    obtain ⟨vs, e⟩ := at5.cls.2
    rw [e] at z
    cases z
  have nfs : ∀ b ∈ frs X.stack, b < s1.heap.objs.size := fun b hb => by
    rcases List.mem_cons.mp (I1.stkSub b hb) with z | z
    · rw [z]; exact I1.lt
    · apply Nat.lt_of_not_le
      intro z2
      exact I1.nofs z2 z
  refine ⟨a, _, M1, cs1, items, .done, Gd, G.C, .fresh (.compStart (.GeneratorExp elt [⟨tg, iter, [], 0⟩] scope gpos) 0 (.ref s1.heap.objs.size) .none G.env), [(Lf, oL), (a, go), (s1.heap.objs.size, oI)], [], rfl, sm1, ⟨⟨rfl, rfl, rfl, rfl, rfl, rfl, fun p hp => Heap.lt_size (I1.pin p hp).1, I1.lt, fun x c hx => ?_, I1.sz, fun b hb => ?_, nfs, at5.cls, at5.gen⟩, rfl, rfl, at5.inv, o5, ?_, hsz, fun p hp => ?_, List.mem_cons_of_mem _ List.mem_cons_self, ⟨oL, List.mem_cons_self⟩, ⟨?_, fun p hp => by cases hp⟩, ?_⟩, hR⟩
  · obtain ⟨v, q⟩ := I1.cell x c hx
    exact q.lt
  · apply Nat.lt_of_not_le
    intro z
    exact I1.nofs z hb
  · show s5.gens[s1.gens.size]? = some _
    rw [at5.gens]
    exact Array.getElem?_push_size ..
  · rcases List.mem_cons.mp hp with z | z
    · rw [z]
      exact ⟨at5.hoL, hn _ (Nat.le_of_lt hIL2), Nat.le_of_lt hIL2, hloL⟩
    · rcases List.mem_cons.mp z with z | z
      · rw [z]
        exact ⟨at5.hgo, hn _ (Nat.le_of_lt hIa), Nat.le_of_lt hIa, hgo⟩
      · rw [List.mem_singleton.mp z]
        exact ⟨at5.keep _ _ hIP hIo, hn _ (Nat.le_refl _), Nat.le_refl _, hoI⟩
  · show s1.gens.size < s5.gens.size
    rw [at5.gens, Array.size_push]
    exact Nat.lt_succ_self _
  · refine .inr fun A y W => ?_
    have pL := W.pv (Lf, oL) List.mem_cons_self
    have pS := W.pv (a, go) (List.mem_cons_of_mem _ List.mem_cons_self)
    have pI := W.pv (s1.heap.objs.size, oI) (List.mem_cons_of_mem _ (List.mem_cons_of_mem _ List.mem_cons_self))
    have hns : y.s.heap.Ns Lf (fun y => if y = ".0" then some (.ref s1.heap.objs.size) else none) := at5.ns.at' fun o e => by rw [at5.hoL] at e; cases e; exact pL.1
    have hnf : ∀ x, G.env.kindOf x ≠ some .cell ∧ G.env.kindOf x ≠ some .free := fun x => by
      have key : ∀ kd, scope.names.lookup x = some kd → kd ≠ .cell ∧ kd ≠ .free := fun kd e => hcell (x, kd) (PySem.mem_of_lookup e)
      exact ⟨fun e => (key _ e).1 rfl, fun e => (key _ e).2 rfl⟩
    have Iy : Inv (G.X A (cutS G.L y.s) y.H) y.fp (List.replicate N.length none) y.H y.s := by
      refine inv_gx (G := G) (Nat.le_of_lt hIL2) rfl hkind I1.ok.glob rfl rfl hnf (Nat.le_trans I1.ok.bsz I1.sz) nfs W.room.hd W.env hns pL.2 (fun p hp => ?_)
      rcases List.mem_cons.mp hp with z | z
      · rw [z]
        refine ⟨pS.1, pS.2, Nat.ne_of_gt hla, fun z => ?_, hgo⟩
        exact Nat.lt_irrefl _ (Nat.lt_trans hIa (nfs _ z))
      · exact W.fp p z
    have hy : Lg G y := Nat.le_of_lt (Heap.lt_size pI.1)
    have tI : y.s.heap.IsListIter s1.heap.objs.size yl 0 := by
      obtain ⟨o', e1, e2⟩ := hIt
      rw [hIo] at e1
      cases e1
      exact ⟨_, pI.1, e2⟩
    have rho : Rho X.K y.M (List.replicate N.length none) (List.replicate N.length none) := ⟨by rw [List.length_replicate, List.length_replicate], fun i x e => by
      rw [List.getElem?_replicate] at e
      split at e <;> simp at e⟩
    have loop := gx_loop (G := G) (Gd := Gd) (elt := elt) (tg := tg) (iter := iter) (scope := scope) (gpos := gpos) (js := js) (g := g) (we := we) (I0 := s1.heap.objs.size) (xs := xs) (items := items) (M1 := M1) rfl rfl (Nat.le_of_lt hIL2) (Nat.le_refl _) (Nat.ne_of_lt hIL2) (fun z => Nat.lt_irrefl _ (nfs _ z)) (Nat.ne_of_gt hIa) (Nat.le_of_lt hIa) hco
      (turn_list yl s1.heap.objs.size) (it_list rx) hGd hlen (fun A s H => hg Lf code (a, go) s1.gens.size s1.heap.objs.size A s H) (fun A s H => he Lf code (a, go) s1.gens.size s1.heap.objs.size A s H) body
      (xs.length - 0) 0 A y y.s _ y.H y.M _ rfl (Nat.zero_le _) W.room hy Iy W.same (Same.refl _) W.ok rho W.gz (fun q hq => W.dis (a, go) (List.mem_cons_of_mem _ List.mem_cons_self) q hq) (fun q hq => W.dis (s1.heap.objs.size, oI) (List.mem_cons_of_mem _ (List.mem_cons_of_mem _ List.mem_cons_self)) q hq) pI.2 tI W.gd
    rw [List.drop_zero] at loop
    show SegZ _ A _ _ ((compStart (.GeneratorExp elt [⟨tg, iter, [], 0⟩] scope gpos) 0 (.ref s1.heap.objs.size) .none G.env).onRaise (leaving G.env)) [] y.s
    unfold compStart
    rw [Sem.onRaise_eq_wrap]
    show SegZ _ A _ _ ((ask >>= _).wrap _ _ _ _) [] y.s
    refine sz_bindw (wpAny_askSetting ?_)
    split
    · exact sz_again rfl loop
    · refine sz_bindw (wpAny_rule ?_)
      show SegZ _ A _ _ ((standAt iter.pos >>= _).wrap _ _ _ _) [] y.s
      exact sz_bindw (wpAny_standAt (sz_bindw ((turn_list (P := X.prog) (w := X.w) (K := X.K) (tg := tg) yl s1.heap.objs.size).self _ 0 _ _ _ tI (sz_again rfl loop))))
end GN
set_option maxRecDepth 100000
set_option maxHeartbeats 4000000
namespace GN
open PySem L2 PySem.Spec PyProof.Rows GenW DL GT
/-! ### sum(g) -/
abbrev sumObj (i : Int) (t : Tok) (c : Nat) : Obj := { cls := .type "list", dict := none, data := .seq #[.int i t] c, slots := #[] }
theorem sum_take {is : List Int} {i : Nat} {x : Int} (h : is[i]? = some x) : (is.take (i + 1)).sum = (is.take i).sum + x := by
  rw [take_snoc' h, List.sum_append]; simp
section
variable {X : Cx} {pins : List (Addr × Obj)} {C : GC} {Gd : Cells → Prop} {fin : GEnd} {is : List Int} {cs : Cells} {σ : L2.St} {M1 : Hp} {S : Addr}
theorem drain_sum (hC : Held X pins C) (hSy : C.L ≤ S) (hf : fin = .done) {A : Around} {R : Result → Shared → Prop} (hh : A.handled = none) (hA : A.frames = X.A.frames) (dp : A.depth < recursionLimit) (hr : Room C.k A.in1.in1) (gd : Gd cs)
    (hend : ∀ s' H' M' t c, Inv X (pins ++ [(S, sumObj is.sum t c)]) σ H' s' → Same M1 M' → Ok X.K M' H' cs → R (.ok (.ret (.int is.sum t))) s') :
    ∀ (m i : Nat) (s : Shared) (H M : Hp) (gs : GenState) (pv : List (Addr × Obj)) (gv : List (Nat × GenState)) (t : Tok) (c : Nat) (stage : Int), (stage = 0 ∨ stage = 2) → m = is.length - i → i ≤ is.length → Cons X pins C Gd fin (is.map .int) cs σ M1 S i s (sumObj (is.take i).sum t c) H M gs pv gv →
      codeAny (model X.prog X.w) A (.builtin "sum.loop" ⟨[.ref C.self.1, .ref S, rawInt stage, rawInt 0], []⟩) R s := by
  intro m
  induction m using Nat.strongRecOn with
  | ind m ih =>
    intro i s H M gs pv gv t c stage hstage hm hi co
    have hS0 := (co.inv.pin (S, _) (List.mem_append_right _ (List.mem_append_right _ List.mem_cons_self))).1
    refine codeAny_builtin F.entry_sum_loop ?_
    rw [Around.under_plainId F.plain_sum_loop _]
    show wpAny _ A.in1 (seqItems? (.ref S) >>= _) _ _ s
    refine wpAny_bind (wpAny_seqItems hS0 rfl ?_)
    show wpAny _ A.in1 (tryCatch (pyNext (.ref C.self.1)) _ >>= _) _ _ s
    refine wpAny_bind (wpAny_tryCatch (co.next (A := A.in1) hC hf hh hA dp hr gd (by rw [List.length_map]; exact hi) (fun d v x s' H' M' gs' pv' gv' hd rv rx sm co' => ?_) (fun s' H' M' hi' I' sm o' => ?_)))
    · rw [List.getElem?_map] at hd
      obtain ⟨z, hz, ed⟩ := Option.map_eq_some_iff.mp hd
      subst ed
      have hlt := (List.getElem?_eq_some_iff.mp hz).1
      have ex : x = .int z := by cases rx; rfl
      subst ex
      obtain ⟨tz, rfl⟩ : ∃ tz, v = .int z tz := rv
      have hS := (co'.inv.pin (S, _) (List.mem_append_right _ (List.mem_append_right _ List.mem_cons_self))).1
      have fin1 : ∀ (h' : Heap) (tk : Nat) (t' : Tok) (c' : Nat) (stage' : Int), (stage' = 0 ∨ stage' = 2) → (∀ b o, b ≠ S → s'.heap.get? b = some o → h'.get? b = some o) → h'.get? S = some (sumObj ((is.take i).sum + z) t' c') → codeAny (model X.prog X.w) A (.builtin "sum.loop" ⟨[.ref C.self.1, .ref S, rawInt stage', rawInt 0], []⟩) R { s' with heap := h', toks := tk } := fun h' tk t' c' stage' hst' hk hS' => by
        have co2 := co'.repin (tk := tk) hC hSy hk hS' (fun v z => by cases z)
        rw [← sum_take hz] at co2
        exact ih (is.length - (i + 1)) (by omega) (i + 1) _ H' M' gs' pv' gv' t' c' stage' hst' rfl hlt co2
      have upd1 : ∀ (h : Heap) (f : Obj → Obj) b o, b ≠ S → h.get? b = some o → (h.update S f).get? b = some o := fun h f b o hb e => (Heap.get?_update_other _ _ (Ne.symm hb)).trans e
      rcases hstage with rfl | rfl
      · show wpAny _ A.in1 (if (_ : Bool) = true then (mkInt ((is.take i).sum + z) >>= _) else _) _ _ _
        split
        · refine wpAny_bind (wpAny_mkInt ?_)
          show wpAny _ A.in1 (updateSeq S (fun _ => #[.int ((is.take i).sum + z) s'.toks]) >>= _) _ _ _
          refine wpAny_bind ?_
          refine wpAny_updateSeq hS rfl (wpAny_pure ⟨plainId_quiet F.plain_sum_loop _, fin1 _ _ s'.toks _ 0 (.inl rfl) (fun b o hb e => upd1 _ _ b o hb e) (Heap.get?_update_self _ hS rfl)⟩)
        · refine wpAny_bind (wpAny_rule ?_)
          refine wpAny_bind (wpAny_attempt (wpAny_holding (PySem.P.add_int ?_)))
          show wpAny _ A.in1 (updateSeq S (fun _ => #[.int ((is.take i).sum + z) s'.toks]) >>= _) _ _ _
          refine wpAny_bind ?_
          refine wpAny_updateSeq hS rfl ?_
          have hS2 := Heap.get?_update_self (Obj.mapSeq fun _ => #[Value.int ((is.take i).sum + z) s'.toks]) hS rfl
          refine wpAny_bind (wpAny_letGo ?_)
          refine wpAny_bind ?_
          refine wpAny_updateSeq hS2 rfl (wpAny_pure ⟨plainId_quiet F.plain_sum_loop _, fin1 _ _ s'.toks _ 2 (.inr rfl) (fun b o hb e => upd1 _ _ b o hb (upd1 _ _ b o hb e)) (Heap.get?_update_self _ hS2 rfl)⟩)
      · show wpAny _ A.in1 ((holding [Value.int z tz] (binaryOp .Add (.int (is.take i).sum t) (.int z tz))).attempt >>= _) _ _ _
        refine wpAny_bind (wpAny_attempt (wpAny_holding (PySem.P.add_int ?_)))
        show wpAny _ A.in1 (updateSeq S (fun _ => #[.int ((is.take i).sum + z) s'.toks]) >>= _) _ _ _
        refine wpAny_bind ?_
        refine wpAny_updateSeq hS rfl ?_
        have hS2 := Heap.get?_update_self (Obj.mapSeq fun _ => #[Value.int ((is.take i).sum + z) s'.toks]) hS rfl
        refine wpAny_bind (wpAny_letGo ?_)
        refine wpAny_bind ?_
        refine wpAny_updateSeq hS2 rfl (wpAny_pure ⟨plainId_quiet F.plain_sum_loop _, fin1 _ _ s'.toks _ 2 (.inr rfl) (fun b o hb e => upd1 _ _ b o hb (upd1 _ _ b o hb e)) (Heap.get?_update_self _ hS2 rfl)⟩)
    · rw [List.length_map] at hi'
      subst hi'
      rw [List.take_of_length_le (Nat.le_refl _)] at I'
      have := hend s' H' M' t c I' (co.same.trans sm) o'
      rw [List.take_of_length_le (Nat.le_refl _)]
      exact wpAny_pure this
end
def wSumG (wg : WGe) : WE := fun ρ cs P => wg ρ cs fun ds fin Gd cs1 => fin = .done ∧ Gd cs1 ∧ ∃ is : List Int, ds = is.map .int ∧ P (.int is.sum) cs1
section
variable {X : Cx} {e : Expr} {pos p : Pos} {k : Nat}
theorem de_sumG {wg : WGe} (hc : X.calm = true) (hi : DGe X k e wg) (hr : Room (k + 3) X.A) (hm : X.mg "sum" = none) (hg : Gl X "sum" := by rfl) (he : starEach [e] X.env = (false, eval e X.env) :: starEach [] X.env := by rfl) : DE X (.Call (.Name "sum" p) [e] [] pos) (wSumG wg) := by
  refine ⟨fun pins s σ H Q I ⟨M, ρ, cs, P, o, r, h, kk⟩ => ?_⟩
  have hh : X.A.handled = none := I.ok.hd hc
  refine wpAny_Call_Name_kw (ld_blt I hg hm (show bootBuiltins "sum" = some (.builtin "sum") by decide +kernel) ?_ (by decide) (by decide))
  rw [he]
  refine Calls.callWith_builtin (by rfl) (Calls.evalArgs_plain ?_)
  show wpAny _ _ (spliced ((false, eval e X.env) :: backTo pos (starEach [] X.env))) _ _ s
  refine Calls.spliced_cons (thn (hi.run pins s σ H M ρ cs _ I o r h) fun u s1 h1 => ?_)
  obtain ⟨a, H1, M1, cs1, ds, fin, Gd, C, gs0, pv0, gv0, rfl, sm1, mk, hfin, gd, is, rfl, hnew⟩ := h1
  refine Calls.spliced_nil ?_
  have hC := mk.held
  have ea : C.self.1 = a := mk.ea
  have ek : C.k = k := mk.ek
  have I2 : Inv X pins σ H1 s1 := mk.inv
  have hself := mk.pvk _ mk.self
  have hSy : C.L ≤ s1.heap.objs.size := Nat.le_trans hself.2.2.1 (Nat.le_of_lt (Heap.lt_size hself.1))
  have hgA : s1.heap.IsGen a C.g := by have := hC.gen _ hself.1; rw [ea] at this; exact this
  have nS : H1 s1.heap.objs.size = none := I2.hok.fresh (Nat.le_refl _)
  refine call_function_tree F.kind_sum F.plain_sum F.entry_sum (F.args_sum1 _) ?_
  unfold Builtin.«sum»
  show wpAny _ _ (if ([Value.ref a].length + 0 > 2) then _ else _) _ _ _
  rw [if_neg (by show ¬ (1 + 0 > 2); decide)]
  refine wpAny_bind (wpAny_of_eq (show Builtin.Builtins.bindParams "sum" ["start"] 0 { } = pure [none] from rfl) ?_)
  refine wpAny_bind (wpAny_pyIter_gen hgA ?_)
  refine wpAny_bind (wpAny_mkInt ?_)
  refine wpAny_bind (wpAny_pure ?_)
  simp only [List.forIn_cons, List.forIn_nil]
  refine wpAny_bind (wpAny_bind (wpAny_bind (wpAny_isInstance (T := "int") (b := false) (typeIs_int _ _ _) PySem.sub_int_str ?_)))
  simp only [Bool.false_eq_true, if_false]
  refine wpAny_pure (wpAny_bind (wpAny_bind (wpAny_isInstance (T := "int") (b := false) (typeIs_int _ _ _) PySem.sub_int_bytes ?_)))
  simp only [Bool.false_eq_true, if_false]
  refine wpAny_pure (wpAny_bind (wpAny_bind (wpAny_isInstance (T := "int") (b := false) (typeIs_int _ _ _) PySem.sub_int_bytearray ?_)))
  simp only [Bool.false_eq_true, if_false]
  refine wpAny_pure (wpAny_pure ?_)
  refine wpAny_bind (wpAny_newObj_type ?_)
  refine wpAny_pure ⟨plainId_quiet F.plain_sum_loop _, ?_⟩
  have k4 : ∀ b o, s1.heap.get? b = some o → (s1.heap.push { cls := .type "list", data := .seq #[.int 0 s1.toks] }).get? b = some o := fun b o e => Heap.get?_push_of_some _ e
  have hS5 : (s1.heap.push { cls := .type "list", data := .seq #[.int 0 s1.toks] }).get? s1.heap.objs.size = some (sumObj 0 s1.toks 0) := Heap.get?_push_size _ rfl
  have I4 : Inv X pins σ H1 { s1 with heap := s1.heap.push { cls := .type "list", data := .seq #[.int 0 s1.toks] }, toks := s1.toks + 1 } := I2.kept (t' := s1.toks + 1) k4
  have I5 : Inv X (pins ++ [(s1.heap.objs.size, sumObj 0 s1.toks 0)]) σ H1 { s1 with heap := s1.heap.push { cls := .type "list", data := .seq #[.int 0 s1.toks] }, toks := s1.toks + 1 } := I4.pins_of fun q hq => by
    rcases List.mem_append.mp hq with z | z
    · exact I4.pin q (List.mem_append_right _ z)
    · rw [List.mem_singleton.mp z]
      exact ⟨hS5, nS, Nat.ne_of_gt (Nat.lt_of_lt_of_le hC.locl hSy), fun z => Nat.lt_irrefl _ (Nat.lt_of_lt_of_le (hC.fsl _ z) hSy), fun v z => by cases z⟩
  have e1 : (C.self.1 : Addr) = a := ea
  have key := fun (R : Result → Shared → Prop) => drain_sum (R := R) (σ := σ) (M1 := M1) (S := s1.heap.objs.size) (cs := cs1) (Gd := Gd) (is := is) (A := X.A) hC hSy hfin hh rfl (by have := hr.dp; show X.A.depth < _; omega) (by rw [ek]; exact ⟨hr.hd, by have := hr.dp; show X.A.depth + 3 * k + 5 < _; omega, by have := hr.un; show X.A.units + 1 + 1 + 16 * k + 200 < _; omega⟩) gd
  rw [e1] at key
  refine key _ (fun s' H' M' t c I' sm o' => ?_) _ 0 _ H1 M1 gs0 pv0 gv0 s1.toks 0 0 (.inl rfl) rfl (Nat.zero_le _) ⟨I5, Same.refl _, mk.ok, mk.gsk, fun q hq => ?_, mk.self, mk.loc, ⟨mk.gvk.sz, mk.gvk.at_⟩, fun q hq => ?_, by rw [List.drop_zero]; exact mk.hands⟩
  · have J : Inv X pins σ H' s' := I'.pins_of fun p hp => I'.pin p (List.mem_append_right _ (List.mem_append_left _ hp))
    exact ⟨.int is.sum, H', J, ⟨t, rfl⟩, kk _ _ M' H' cs1 (sm1.trans sm) o' (rv_dat (.int _)) hnew⟩
  · obtain ⟨q1, q2, q3, q4⟩ := mk.pvk q hq
    exact ⟨k4 _ _ q1, q2, q3, q4⟩
  · exact Nat.ne_of_gt (Heap.lt_size (mk.pvk q hq).1)
end
end GN
set_option maxRecDepth 100000
set_option maxHeartbeats 4000000
/-! the end of a law whose defs hold generator expressions or lambdas: tables of code objects -/
namespace DL
open PySem L2 PySem.Spec PyProof.Rows
theorem fn_dataC {P : Program} {w : World} {K : Frag} {mg : Str → Option Value} {base : Heap} {x qual : Str} {st : Stmt} {f : Addr} {fd : FuncData} {N ps : List Str} {k : Nat} {dsp : DSp} {ws : WS} {cdv : Value} (F : Fun K x qual st f fd) (hcd : fd.code = cdv) (S : FnScope N ps (defScope st))
    (len : ∀ xs cs Q XP, dsp xs cs Q XP → xs.length = ps.length)
    (body : ∀ (A : Around) (outer : List Env) (s : Shared) (H : Hp) (E : XK), Room k (A.deeper (PyProof.Rows.envOfC qual (defScope st) s.heap.objs.size f cdv)) → DSs (cxOf CX0 P w K mg base N qual (defScope st) f cdv A outer s H E).nox (defBody st) ws)
    (pure : ∀ xs cs Q XP, dsp xs cs Q XP → ws (retE K Q) (startD N.length xs) cs) : FnOk P w K mg base CX0 (k + 1) f fd ps (liftSp K dsp) := by
  obtain ⟨oc, od, kV, doc, pm, an, cdv', ct, osl, rfl, lk, hcd'⟩ := F.ex
  have e : cdv' = cdv := hcd
  subst e
  refine fn_of lk hcd' S (fun vs H Q E ⟨M, xs, cs, P', XP, o, r, d, _⟩ => (Paired.len r).trans (len xs cs P' XP d)) fun A outer s H vs Q E hr ⟨M, xs, cs, P', XP, o, r, d, kk, _⟩ => ⟨_, (body A outer s H E hr).nox, ?_⟩
  exact ⟨M, startD N.length xs, cs, retE K P', o, start_rho r, pure xs cs P' XP d, ⟨fun σ' ρ' M' H' cs' s o' _ p => kk.gh _ _ M' H' cs' s o' (rv_dat .non) p, kk.gh, fun _ _ _ _ _ _ _ _ p => p.elim, fun _ _ _ _ _ _ _ _ p => p.elim⟩⟩
/-- the law's promise, with tables -/
def spLawT (K : Frag) (ts : List Addr) : Sp := fun vs H Q _ => ∃ (a : Addr) (ns : List Int), vs = [.ref a] ∧ SqL K H a (ns.map V.int) ∧ ns.length ≤ 63 ∧ (∀ P ∈ ts, H P = some (.tbl #[])) ∧ ∀ H', Q (.bl true) H'
theorem law_impT {K : Frag} {ts : List Addr} {cs0 : Cells} {dsp : DSp} (hcs : ∀ b c, cs0 b = some c → b ∈ ts ∧ (c = .tg ∨ ∃ q, c = .tl q)) (h : ∀ (ns : List Int) Q XP, ns.length ≤ 63 → (∀ cs', Q (.dat (.bl true)) cs') → dsp [.dat (.lst (ns.map .int))] cs0 Q XP) : ∀ vs H Q E, spLawT K ts vs H Q E → liftSp K dsp vs H Q E := by
  rintro vs H Q E ⟨a, ns, rfl, hS, hl, hT, k⟩
  let M : Hp := fun b => if b ∈ ts then none else H b
  have sm : Same M H := fun b u e => by
    have e : (if b ∈ ts then none else H b) = some u := e
    split at e
    · cases e
    · exact e
  have hS' : SqL K M a (ns.map V.int) := by
    have hn : ∀ {u : HO}, H a = some u → (∀ q, u ≠ .tbl q) → M a = some u := fun {u} e hu => by
      show (if a ∈ ts then none else H a) = some u
      rw [if_neg (fun z => by rw [hT a z] at e; cases e; exact hu _ rfl)]
      exact e
    rcases hS with (h | ⟨o, h⟩) | h
    · exact .inl (.inl (hn h fun q z => by cases z))
    · exact .inl (.inr ⟨o, hn h fun q z => by cases z⟩)
    · exact .inr h
  have hd : DrAll K M (ns.map V.int) (ns.map Dat.int) := by
    clear hS hS' hl
    induction ns with
    | nil => exact .nil
    | cons n r ih => exact .cons (.int n) ih
  refine ⟨M, [.dat (.lst (ns.map .int))], cs0, fun v _ => v = .dat (.bl true), X0, ⟨sm, fun b c e => ?_⟩, .cons (.lst hS' hd) .nil, h ns _ _ hl (fun _ => rfl), ?_, fun _ _ _ _ _ _ _ _ _ z => z.elim⟩
  · obtain ⟨hb, hc⟩ := hcs b c e
    refine ⟨if_pos hb, _, hT b hb, ?_⟩
    rcases hc with rfl | ⟨q, rfl⟩
    · exact (by unfold CRep; exact trivial)
    · exact (by unfold CRep; exact ⟨trivial, fun pos cv z => by cases z⟩)
  · intro v x M' H' cs' _ _ r p
    subst p
    rw [inv_bl r]
    exact k H'
def tabsC (l : List (Addr × CO)) : Cells := fun b => (l.find? fun p => p.1 == b).map (·.2)
theorem tabs_ok (l : List (Addr × CO)) (h : ∀ p ∈ l, p.2 = .tg ∨ ∃ q, p.2 = .tl q) : ∀ b c, tabsC l b = some c → b ∈ l.map (·.1) ∧ (c = .tg ∨ ∃ q, c = .tl q) := fun b c e => by
  obtain ⟨p, hp, rfl⟩ := Option.map_eq_some_iff.mp e
  have hm := List.mem_of_find?_eq_some hp
  have hb : p.1 = b := beq_iff_eq.mp (List.find?_some (p := fun p : Addr × CO => p.1 == b) hp)
  exact ⟨List.mem_map.mpr ⟨p, hm, hb⟩, h p hm⟩
/-- the tables of the defs by name -/
def TabsOf (K : Frag) (q : Program) (mg : Str → Option Value) (h : Heap) : Prop := ∀ (x : Str) (fb : Addr), ((recsOf q).any fun e => e.name == x) = true → mg x = some (.ref fb) → LamX.OwnTab K fb h
theorem walk_tabs {l : PySem.W.OpenLaw} {n k : Nat} {q : Program} {loose : List Str} {XP : (Str → Option Value) → Heap → Prop} {YP : World → Heap → Prop} {d : DefRec} {K : Params → PySem.W.Frag} {CX : World → CXT} {x : Str}
    (hn : l.most = some n) (hn2 : n ≤ sizeLine) (hdf : d.params.defaults = []) (hr : Room k callerA) (hY : ∀ (w : World) (h : Heap), YP w h → (K w.params).In h)
    (F : ∀ (w : World) (mg : Str → Option Value) (fa : Addr) (h : Heap), YP w h → (K w.params).In h → h.Ns mainGlobals mg → mg d.name = some (.ref fa) → TabsOf (K w.params) q mg h → LamX.LawAtS l w (K w.params) (CX w) k n x mg fa h)
    (hCX : ∀ (w : World) (H : Hp) (s : Shared) (e : Value) (s' : Shared), CX w [] H s (fun _ _ _ => False) e s' → False) :
    PySem.W.WalkO q loose XP YP l.row.toRowW d [] (fun f vs => PySem.call f vs) := by
  refine Att.attach_callB hn hdf fun w s₀ s₁ mg mb fa o pm cd doc a vs ns G Y ho hd hcd hmg hobj hints hlen hbits hg => ?_
  have KX := hY w _ Y
  have own : TabsOf (K w.params) q mg s₁.heap := fun x fb hrec hmx c P o1 fd1 e dd vs1 sl k1 k2 k3 k4 k5 => by
    obtain ⟨dL, hm, hn1⟩ := List.any_eq_true.mp hrec
    have hn2 : dL.name = x := beq_iff_eq.mp hn1
    obtain ⟨a', o', fd', c', P', h1, h2, h3, h4, h5, h6⟩ := G.T.tab dL hm
    rw [hn2, hmx] at h1
    cases h1
    have g1 := KX _ _ k1
    rw [g1] at h2
    cases h2
    rw [k2] at h3
    cases h3
    rw [k3] at h4
    cases h4
    obtain ⟨⟨oc, vc, e1, _, e3, e4⟩, hP⟩ := h6
    have g2 := KX _ _ k4
    rw [g2] at e1
    cases e1
    cases e3
    rw [k5] at e4
    cases e4
    exact hP
  obtain ⟨fd, cs, sp, hT, nT, C, hb, hsp, hF⟩ := F w mg fa _ Y KX G.T.g hmg own
  exact LamX.law_callTs KX G.T.g G.T.b G.T.builtins G.T.nolimit hg hT nT C G.T.bmain hobj hints (Nat.le_trans hlen hn2) hr hF hb (fun H hH hS => hsp H a ns hlen hbits hH hS) fun H e s' => hCX w H s₁ e s'
/-- the head of a code object -/
def hdB (c P : Addr) (vs : Array Value) : Bool := (match (vs[11]? : Option Value) with | some (.ref P') => P' == P | _ => false) &&
      (match vs.getD 18 .none with | .str _ _ => true | _ => false) && (match vs.getD 7 .none with | .int _ _ => true | _ => false) &&
      (match vs.getD 9 .none with | .bool _ => true | _ => false) && (match vs.getD 10 .none with | .int _ _ => true | _ => false) && c != P
/-- a def's table, from what the fragment knows -/
theorem tab_at {K : Frag} {q : Program} {mg : Str → Option Value} {h : Heap} {x qual : Str} {st : Stmt} {f c P : Addr} {fd : FuncData} {dd : Option Addr} {vs : Array Value} {sl : Array (Option Value)} (T : TabsOf K q mg h) (KX : K.In h) (hrec : ((recsOf q).any fun e => e.name == x) = true) (hm : mg x = some (.ref f)) (F : Fun K x qual st f fd) (hc : fd.code = .ref c) (hk : K.lookup c = some ⟨.type "code", dd, .fields vs, sl⟩) (hh : hdB c P vs = true) :
    h.get? P = some { cls := .none, data := .fields #[] } ∧ PySem.W.CodeHd h c P := by
  have h1 : PySem.W.codeHdIn K c P = true := by
    unfold PySem.W.codeHdIn
    rw [hk]
    exact hh
  refine ⟨?_, PySem.W.codeHd_of_K KX h1⟩
  obtain ⟨oc, od, kV, doc, pm, an, cdv', ct, osl, rfl, lk, hcd'⟩ := F.ex
  unfold hdB at hh
  simp only [Bool.and_eq_true] at hh
  obtain ⟨⟨⟨⟨⟨e1, _⟩, _⟩, _⟩, _⟩, _⟩ := hh
  split at e1
  · rename_i P' h11
    have hP : P' = P := beq_iff_eq.mp e1
    subst hP
    exact T x f hrec hm c P' _ _ _ _ vs _ lk rfl hc hk h11
  · cases e1
end DL
set_option maxRecDepth 100000
set_option maxHeartbeats 4000000
namespace DL
/-! ### plans: the mathematics -/
abbrev Ph := Int × List Ord
/-- an order of a phase: where it stands, when it applies -/
structure Cl where
  k : Int
  i : Int
  f : Int
  l : Option Int
  o : Ord
abbrev Span := Int × Int × Option Int × List Ord
def spansF : Int → List Ph → List Span
  | _, [] => []
  | k, [(s, os)] => [(k, s, none, os)]
  | k, (s, os) :: (t, os') :: r => (k, s, some (t - 1), os) :: spansF (k + 1) ((t, os') :: r)
def cellsF (k f : Int) (l : Option Int) : Int → List Ord → List Cl
  | _, [] => []
  | i, o :: r => ⟨k, i, f, l, o⟩ :: cellsF k f l (i + 1) r
def cellsS (sp : Span) : List Cl := cellsF sp.1 sp.2.1 sp.2.2.1 0 sp.2.2.2
def cellsL (sps : List Span) : List Cl := sps.flatMap cellsS
def endOf (day : Int) : Option Int → Int
  | none => day
  | some l => min day l
def dueT (day : Int) (c : Cl) : Int := if c.f ≤ endOf day c.l then daysDue c.o.1 c.o.2.1 c.f (endOf day c.l) else 0
abbrev Tot := Int × Int × Int × Int
def totC (day : Int) (c : Cl) : Option Tot := if 0 < dueT day c then some (c.k, c.i, dueT day c, dueT day c * c.o.2.2) else none
def totL (sps : List Span) (day : Int) : List Tot := (cellsL sps).filterMap (totC day)
def inB (day f : Int) (l : Option Int) : Bool := decide (f ≤ day) && (match l with | none => true | some z => decide (day ≤ z))
def actC (day : Int) (c : Cl) : Bool := inB day c.f c.l && decide ((day - c.o.2.1) % c.o.1 = 0)
abbrev Pay := Int × Int × Int
def payC (day : Int) (c : Cl) : Option Pay := if actC day c = true then some (c.k, c.i, c.o.2.2) else none
def payL (sps : List Span) (day : Int) : List Pay := (cellsL sps).filterMap (payC day)
def balAt (phs : List Ph) (op day : Int) : Int := op + ((totL (spansF 0 phs) day).map (·.2.2.2)).sum
def PhsOk (ps : List Int) (phs : List Ph) : Prop := 1 ≤ phs.length ∧ phs.length ≤ 20 ∧ phs.Pairwise (fun p q => p.1 < q.1) ∧ ∀ p ∈ phs, OrdsOk ps p.2 ∧ p.2.length ≤ 60
/-- what the law counts with -/
def onF (day : Int) : Int → Int × List Ord → List Ph → Int × List Ord
  | _, acc, [] => acc
  | k, acc, (s, os) :: r => onF day (k + 1) (if s ≤ day then (k, os) else acc) r
def duesC (day : Int) (c : Cl) : Option Pay := if day % c.o.1 = c.o.2.1 then some (c.k, c.i, c.o.2.2) else none
def lawPay (phs : List Ph) (day : Int) : List Pay := (cellsF (onF day 0 (-1, []) phs).1 0 none 0 (onF day 0 (-1, []) phs).2).filterMap (duesC day)
/-! lists -/
theorem cellsF_app {k f : Int} {l : Option Int} : ∀ {i : Int} {a b : List Ord}, cellsF k f l i (a ++ b) = cellsF k f l i a ++ cellsF k f l (i + a.length) b
  | i, [], b => by simp [cellsF]
  | i, o :: a, b => by
    have e : i + 1 + (a.length : Int) = i + ((o :: a).length : Nat) := by rw [List.length_cons]; omega
    rw [List.cons_append, cellsF, cellsF, cellsF_app, List.cons_append, e]
theorem cellsF_len {k f : Int} {l : Option Int} : ∀ {i : Int} {a : List Ord}, (cellsF k f l i a).length = a.length
  | _, [] => rfl
  | _, _ :: a => by rw [cellsF, List.length_cons, cellsF_len, List.length_cons]
theorem cellsF_mem {k f : Int} {l : Option Int} : ∀ {i : Int} {a : List Ord} {c : Cl}, c ∈ cellsF k f l i a → c.k = k ∧ c.f = f ∧ c.l = l ∧ c.o ∈ a ∧ i ≤ c.i
  | _, [], c, h => by cases h
  | i, o :: a, c, h => by
    rcases List.mem_cons.mp h with e | h
    · subst e; exact ⟨rfl, rfl, rfl, List.mem_cons_self, Int.le_refl _⟩
    · obtain ⟨h1, h2, h3, h4, h5⟩ := cellsF_mem h
      exact ⟨h1, h2, h3, List.mem_cons_of_mem _ h4, by omega⟩
theorem cellsF_sorted {k f : Int} {l : Option Int} : ∀ {i : Int} {a : List Ord}, (cellsF k f l i a).Pairwise (fun c d => c.i < d.i)
  | _, [] => .nil
  | i, o :: a => by
    rw [cellsF]
    exact .cons (fun d hd => by have := (cellsF_mem hd).2.2.2.2; show i < d.i; omega) cellsF_sorted
theorem spansF_len : ∀ {k : Int} {phs : List Ph}, (spansF k phs).length = phs.length
  | _, [] => rfl
  | _, [_] => rfl
  | k, (s, os) :: (t, os') :: r => by rw [spansF, List.length_cons, spansF_len]; rfl
theorem spansF_at : ∀ {k : Int} {phs : List Ph} {i : Nat} {p : Ph}, phs[i]? = some p → (spansF k phs)[i]? = some (k + i, p.1, (phs[i + 1]?).map (fun q => q.1 - 1), p.2)
  | _, [], i, p, h => by simp at h
  | k, [(s, os)], 0, p, h => by simp at h; subst h; simp [spansF]
  | k, [(s, os)], i + 1, p, h => by simp at h
  | k, (s, os) :: (t, os') :: r, 0, p, h => by simp at h; subst h; simp [spansF]
  | k, (s, os) :: (t, os') :: r, i + 1, p, h => by
    rw [spansF, List.getElem?_cons_succ, spansF_at (k := k + 1) (phs := (t, os') :: r) (i := i) (p := p) (by simpa using h)]
    rw [List.getElem?_cons_succ]
    congr 2
    simp; omega
theorem spansF_mem {k : Int} {phs : List Ph} {sp : Span} (h : sp ∈ spansF k phs) : ∃ p ∈ phs, sp.2.1 = p.1 ∧ sp.2.2.2 = p.2 := by
  obtain ⟨i, hi⟩ := List.getElem?_of_mem h
  have hlt := (List.getElem?_eq_some_iff.mp hi).1
  rw [spansF_len] at hlt
  have e := spansF_at (k := k) (List.getElem?_eq_getElem hlt)
  rw [e] at hi
  cases hi
  exact ⟨_, List.getElem_mem hlt, rfl, rfl⟩
/-! days -/
theorem ite_iff {a b : Prop} [Decidable a] [Decidable b] {x y : Int} (h : a ↔ b) : (if a then x else y) = if b then x else y := by
  by_cases hb : b
  · rw [if_pos hb, if_pos (h.mpr hb)]
  · rw [if_neg hb, if_neg fun z => hb (h.mp z)]
theorem div_stepP {x p : Int} (hp : 0 < p) : x / p - (x - 1) / p = if x % p = 0 then 1 else 0 := by
  have h1 := Int.emod_add_mul_ediv x p
  have h2 := Int.emod_nonneg x (by omega : p ≠ 0)
  have h3 := Int.emod_lt_of_pos x hp
  have uq : ∀ q r : Int, 0 ≤ r → r < p → x - 1 = r + p * q → (x - 1) / p = q := fun q r h0 hl e => by
    rw [e, Int.add_mul_ediv_left _ _ (by omega), Int.ediv_eq_zero_of_lt h0 hl]; omega
  split
  · rename_i h
    rw [uq (x / p - 1) (p - 1) (by omega) (by omega) (by rw [Int.mul_sub]; omega)]
    omega
  · rename_i h
    rw [uq (x / p) (x % p - 1) (by omega) (by omega) (by omega)]
    omega
theorem div_mono {x y p : Int} (hp : 0 < p) (h : x ≤ y) : x / p ≤ y / p := Int.ediv_le_ediv hp h
theorem dueT_nonneg {day : Int} {c : Cl} : 0 ≤ dueT day c := by
  unfold dueT daysDue
  split
  · omega
  · omega
theorem dueT_step {day : Int} {c : Cl} (hp : 0 < c.o.1) : dueT day c = dueT (day - 1) c + if actC day c = true then 1 else 0 := by
  obtain ⟨k, i, f, l, p, r, a⟩ := c
  have hp : 0 < p := hp
  have core : ∀ e : Int, (if f ≤ e then daysDue p r f e else 0) = (if f ≤ e - 1 then daysDue p r f (e - 1) else 0) + if f ≤ e ∧ (e - r) % p = 0 then 1 else 0 := fun e => by
    have hs := div_stepP (x := e - r) hp
    have e1 : e - r - 1 = e - 1 - r := by omega
    rw [e1] at hs
    unfold daysDue
    by_cases h1 : f ≤ e
    · have m1 := div_mono hp (show f - 1 - r ≤ e - 1 - r by omega)
      have m2 := div_mono hp (show f - 1 - r ≤ e - r by omega)
      by_cases h2 : f ≤ e - 1
      · rw [if_pos h1, if_pos h2]
        by_cases h3 : (e - r) % p = 0
        · rw [if_pos h3] at hs; rw [if_pos ⟨h1, h3⟩]; omega
        · rw [if_neg h3] at hs; rw [if_neg (fun z => h3 z.2)]; omega
      · have : f = e := by omega
        subst this
        rw [if_pos h1, if_neg h2]
        by_cases h3 : (f - r) % p = 0
        · rw [if_pos h3] at hs; rw [if_pos ⟨h1, h3⟩]; omega
        · rw [if_neg h3] at hs; rw [if_neg (fun z => h3 z.2)]; omega
    · rw [if_neg h1, if_neg (by omega), if_neg (fun z => h1 z.1)]; rfl
  show (if f ≤ endOf day l then daysDue p r f (endOf day l) else 0) = (if f ≤ endOf (day - 1) l then daysDue p r f (endOf (day - 1) l) else 0) + if actC day ⟨k, i, f, l, p, r, a⟩ = true then 1 else 0
  have hact : actC day ⟨k, i, f, l, p, r, a⟩ = (inB day f l && decide ((day - r) % p = 0)) := rfl
  cases l with
  | none =>
    have : (actC day ⟨k, i, f, none, p, r, a⟩ = true) ↔ (f ≤ day ∧ (day - r) % p = 0) := by rw [hact]; simp [inB]
    rw [ite_iff this]
    exact core day
  | some z =>
    by_cases hz : day ≤ z
    · have : (actC day ⟨k, i, f, some z, p, r, a⟩ = true) ↔ (f ≤ day ∧ (day - r) % p = 0) := by rw [hact]; simp [inB, hz]
      rw [ite_iff this]
      have e1 : endOf day (some z) = day := by show min day z = day; omega
      have e2 : endOf (day - 1) (some z) = day - 1 := by show min (day - 1) z = day - 1; omega
      rw [e1, e2]
      exact core day
    · have : ¬ (actC day ⟨k, i, f, some z, p, r, a⟩ = true) := by rw [hact]; simp [inB, hz]
      rw [if_neg this]
      have e1 : endOf day (some z) = z := by show min day z = z; omega
      have e2 : endOf (day - 1) (some z) = z := by show min (day - 1) z = z; omega
      rw [e1, e2]; omega
theorem dueT_before {day : Int} {c : Cl} (h : day < c.f) : dueT day c = 0 := by
  unfold dueT
  rw [if_neg]
  cases hl : c.l with
  | none => show ¬ c.f ≤ day; omega
  | some z => show ¬ c.f ≤ min day z; omega
/-! sums -/
def sumC (cs : List Cl) (day : Int) : Int := (cs.map fun c => dueT day c * c.o.2.2).sum
theorem tot_sum (day : Int) : ∀ cs : List Cl, ((cs.filterMap (totC day)).map (·.2.2.2)).sum = sumC cs day
  | [] => rfl
  | c :: cs => by
    have ih := tot_sum day cs
    unfold sumC at *
    rw [List.map_cons, List.sum_cons, ← ih, List.filterMap_cons]
    unfold totC
    by_cases h : 0 < dueT day c
    · rw [if_pos h]; rfl
    · have : dueT day c = 0 := by have := dueT_nonneg (day := day) (c := c); omega
      rw [if_neg h, this]; simp
theorem sumC_step {day : Int} : ∀ {cs : List Cl}, (∀ c ∈ cs, 0 < c.o.1) → sumC cs day = sumC cs (day - 1) + ((cs.filterMap (payC day)).map (·.2.2)).sum
  | [], _ => rfl
  | c :: cs, h => by
    have ih := sumC_step (day := day) (cs := cs) fun d hd => h d (List.mem_cons_of_mem _ hd)
    have hs := dueT_step (day := day) (h c List.mem_cons_self)
    have e1 : ∀ d, sumC (c :: cs) d = dueT d c * c.o.2.2 + sumC cs d := fun d => rfl
    rw [e1, e1, ih, List.filterMap_cons]
    unfold payC
    by_cases ha : actC day c = true
    · rw [if_pos ha] at hs ⊢
      show _ = _ + (c.o.2.2 + ((cs.filterMap (payC day)).map (·.2.2)).sum)
      rw [hs, Int.add_mul]
      unfold payC
      omega
    · rw [if_neg ha] at hs ⊢
      rw [hs]
      show _ = _ + ((cs.filterMap (payC day)).map (·.2.2)).sum
      unfold payC
      simp
      omega
theorem bal_step {phs : List Ph} {op day : Int} (h : ∀ c ∈ cellsL (spansF 0 phs), 0 < c.o.1) : balAt phs op day = balAt phs op (day - 1) + ((payL (spansF 0 phs) day).map (·.2.2)).sum := by
  unfold balAt totL payL
  rw [tot_sum, tot_sum, sumC_step h]; omega
theorem bal_before {phs : List Ph} {op day : Int} (h : ∀ c ∈ cellsL (spansF 0 phs), day < c.f) : balAt phs op day = op := by
  unfold balAt totL
  rw [tot_sum]
  have : ∀ cs : List Cl, (∀ c ∈ cs, day < c.f) → sumC cs day = 0 := fun cs => by
    induction cs with
    | nil => intro _; rfl
    | cons c cs ih =>
      intro h
      show dueT day c * c.o.2.2 + sumC cs day = 0
      rw [ih fun d hd => h d (List.mem_cons_of_mem _ hd), dueT_before (h c List.mem_cons_self)]; omega
  rw [this _ h]; omega
theorem cellsL_mem {k : Int} {phs : List Ph} {c : Cl} (h : c ∈ cellsL (spansF k phs)) : ∃ p ∈ phs, c.f = p.1 ∧ c.o ∈ p.2 := by
  obtain ⟨sp, hs, hc⟩ := List.mem_flatMap.mp h
  obtain ⟨p, hp, e1, e2⟩ := spansF_mem hs
  obtain ⟨_, h2, _, h4, _⟩ := cellsF_mem hc
  exact ⟨p, hp, by rw [h2, e1], by rw [← e2]; exact h4⟩
/-! payments -/
theorem onF_acc {day : Int} : ∀ {phs : List Ph} {k : Int} {acc : Int × List Ord}, (∀ p ∈ phs, day < p.1) → onF day k acc phs = acc
  | [], _, _, _ => rfl
  | (s, os) :: r, k, acc, h => by
    have h1 : day < s := h (s, os) List.mem_cons_self
    rw [onF, if_neg (by omega)]
    exact onF_acc fun p hp => h p (List.mem_cons_of_mem _ hp)
theorem pay_rows {k f g day : Int} {l m : Option Int} : ∀ {os : List Ord} {i : Int}, (∀ o ∈ os, 0 < o.1 ∧ 0 ≤ o.2.1 ∧ o.2.1 < o.1) → inB day f l = true → (cellsF k f l i os).filterMap (payC day) = (cellsF k g m i os).filterMap (duesC day)
  | [], _, _, _ => rfl
  | o :: os, i, h, ha => by
    obtain ⟨h0, h1, h2⟩ := h o List.mem_cons_self
    rw [cellsF, cellsF, List.filterMap_cons, List.filterMap_cons, pay_rows (g := g) (m := m) (i := i + 1) (fun q hq => h q (List.mem_cons_of_mem _ hq)) ha]
    have : payC day ⟨k, i, f, l, o⟩ = duesC day ⟨k, i, g, m, o⟩ := by
      unfold payC duesC actC
      have e : ((day - o.2.1) % o.1 = 0) ↔ (day % o.1 = o.2.1) := by
        constructor
        · intro z
          have := Int.emod_emod_of_dvd day (Int.dvd_refl o.1)
          have e2 : day = o.2.1 + o.1 * ((day - o.2.1) / o.1) := by
            have := Int.emod_add_mul_ediv (day - o.2.1) o.1
            omega
          rw [e2, Int.add_mul_emod_self_left, Int.emod_eq_of_lt h1 h2]
        · intro z
          have := Int.emod_add_mul_ediv day o.1
          have e2 : day - o.2.1 = o.1 * (day / o.1) := by omega
          rw [e2]; exact Int.mul_emod_right _ _
      simp [ha, e]
    rw [this]
theorem pay_none {k f day : Int} {l : Option Int} : ∀ {os : List Ord} {i : Int}, inB day f l = false → (cellsF k f l i os).filterMap (payC day) = []
  | [], _, _ => rfl
  | o :: os, i, ha => by
    rw [cellsF, List.filterMap_cons, pay_none ha]
    unfold payC actC
    simp [ha]
theorem pay_law {day : Int} : ∀ {phs : List Ph} {k : Int} {acc : Int × List Ord}, phs.Pairwise (fun p q => p.1 < q.1) → (∀ p ∈ phs, ∀ o ∈ p.2, 0 < o.1 ∧ 0 ≤ o.2.1 ∧ o.2.1 < o.1) → (∃ p ∈ phs, p.1 ≤ day) →
    payL (spansF k phs) day = (cellsF (onF day k acc phs).1 0 none 0 (onF day k acc phs).2).filterMap (duesC day)
  | [], _, _, _, _, ⟨p, hp, _⟩ => by cases hp
  | [(s, os)], k, acc, _, ho, ⟨p, hp, hd⟩ => by
    rw [List.mem_singleton.mp hp] at hd
    have hd : s ≤ day := hd
    unfold payL cellsL
    rw [spansF, List.flatMap_cons, List.flatMap_nil, List.append_nil]
    show (cellsF k s none 0 os).filterMap (payC day) = _
    rw [onF, if_pos hd, onF]
    exact pay_rows (fun o h => ho (s, os) List.mem_cons_self o h) (by simp [inB, hd])
  | (s, os) :: (t, os') :: r, k, acc, hw, ho, ⟨p, hp, hd⟩ => by
    obtain ⟨hw1, hw2⟩ := List.pairwise_cons.mp hw
    have hst : s < t := hw1 (t, os') List.mem_cons_self
    unfold payL cellsL
    rw [spansF, List.flatMap_cons, List.filterMap_append]
    show (cellsF k s (some (t - 1)) 0 os).filterMap (payC day) ++ payL (spansF (k + 1) ((t, os') :: r)) day = _
    rw [onF]
    by_cases ht : t ≤ day
    · rw [pay_none (by simp [inB]; omega), List.nil_append]
      exact pay_law hw2 (fun q hq => ho q (List.mem_cons_of_mem _ hq)) ⟨_, List.mem_cons_self, ht⟩
    · have hall : ∀ q ∈ (t, os') :: r, day < q.1 := fun q hq => by
        rcases List.mem_cons.mp hq with e | hq
        · rw [e]; show day < t; omega
        · have := (List.pairwise_cons.mp hw2).1 q hq
          have : t < q.1 := this
          omega
      have hs : s ≤ day := by
        rcases List.mem_cons.mp hp with e | hp
        · rw [e] at hd; exact hd
        · have := hall p hp; omega
      rw [if_pos hs, onF_acc hall]
      have : payL (spansF (k + 1) ((t, os') :: r)) day = [] := by
        unfold payL
        rw [List.filterMap_eq_nil_iff]
        intro c hc
        obtain ⟨q, hq, e, _⟩ := cellsL_mem hc
        have := hall q hq
        unfold payC actC inB
        have : ¬ c.f ≤ day := by omega
        simp [this]
      rw [this, List.append_nil]
      exact pay_rows (fun o h => ho (s, os) List.mem_cons_self o h) (by simp [inB, hs]; omega)
theorem pay_eq {ps : List Int} {phs : List Ph} {day : Int} (hw : phs.Pairwise (fun p q => p.1 < q.1)) (ho : ∀ p ∈ phs, ∀ o ∈ p.2, 0 < o.1 ∧ 0 ≤ o.2.1 ∧ o.2.1 < o.1) : payL (spansF 0 phs) day = lawPay phs day := by
  by_cases h : ∃ p ∈ phs, p.1 ≤ day
  · exact pay_law hw ho h
  · have hall : ∀ q ∈ phs, day < q.1 := fun q hq => by
      apply Int.lt_of_not_ge
      intro z
      exact h ⟨q, hq, z⟩
    unfold lawPay
    rw [onF_acc hall]
    show _ = []
    unfold payL
    rw [List.filterMap_eq_nil_iff]
    intro c hc
    obtain ⟨q, hq, e, _⟩ := cellsL_mem hc
    have := hall q hq
    unfold payC actC inB
    have : ¬ c.f ≤ day := by omega
    simp [this]
end DL
set_option maxRecDepth 100000
set_option maxHeartbeats 4000000
namespace DL
open PySem L2 GT
local macro_rules | `(tactic| walk_at "dl") => `(tactic| simp only [wGSeq, wGIf, wGP, wG0, GDs.at, wFld, wSetF, wMeth, wMake, wGMeth, wGCall, wDNewK, wDNewT, CO.ins.injEq, CO.dk.injEq, CO.dt.injEq, Cells.put_put, wRet, wRetN, wSeq, wAsg, wIfS, wDrop, wNext, wVar, wC, wOp, wUn, wFn, wNil, wCons, wTest, wNot, wAnd, wOr, wAndV, wOrV, wNotV, wIf, wChain, wTup, wLst, wCall, wNever, gN, gT, gNil, gCons, gIx, wI, wI0, wNeg, wMax2, wMin2, wLen, wIsN, wNotN, isNon_non, isNon_bl, isNon_int, isNon_str, isNon_lst, isNon_tup, isNon_cell, wIx, wTuple, wAug, wAugIx, wPar, wPar3, wSlL, wSlT, wPart, wNoPart, wCatT, wIsi, wIsi2, isiT, tyD_non, tyD_bl, tyD_int, tyD_str, tyD_lst, tyD_tup, tyD_cell, coTy_lst, seqD_lst, seqD_tp, seqD_cell, coSeq_lst, seen_dat, seen_cell, coDat_lst, startD, wYes, wApp, wEq_int, wEq_bl, allDat_nil, allDat_cons, allDat_map, Option.map_some, List.map_cons, List.map_nil, List.cons_append, List.nil_append, List.length_cons, List.length_nil, List.replicate, List.getElem?_cons_zero, List.getElem?_cons_succ, List.set_cons_zero, List.set_cons_succ, Option.some.injEq, exists_eq_left', exists_eq_left, exists_and_left, exists_eq', exists_eq, Vl.dat.injEq, Vl.raw.injEq, V.ref.injEq, CO.lst.injEq, Dat.int.injEq, Dat.bl.injEq, Dat.tup.injEq, Dat.lst.injEq, List.cons.injEq, and_true, true_and, retE, Nat.reduceAdd, Nat.reduceSub, and_assoc, Prod.mk.injEq, if_true, if_false, Bool.false_eq_true, decide_eq_true_eq, Bool.not_true, Bool.not_false, Bool.not_eq_true', decide_eq_false_iff_not, if_false_left, if_false_right, beq_iff_eq, Bool.or_eq_true, Bool.and_eq_true, Bool.or_self, Bool.or_true, Bool.true_or, Bool.or_false, Bool.false_or, decide_true, decide_false, reduceCtorEq, Cells.put_same, gt_iff_lt, ge_iff_le, beq_self_eq_true, bne_self_eq_false, Bool.decide_eq_true, not_true_eq_false, not_false_eq_true, Decidable.not_not, false_and, and_false, Bool.not_eq_false, at_0, at_1, at_2, at_3, at_4, at_5, ix_0, ix_1, ix_2, ix_3, Nat.reduceLT, Int.reduceLT, Int.reduceLE, Int.reduceNeg, Int.reduceAdd, Int.reduceSub, Int.reduceEq, Int.reducePow, Int.reduceToNat, Cells.put_put])

/-! ### plans as data -/
def phD (p : Ph) : Dat := .tup [.int p.1, .tup (ordsD p.2)]
def phsD (phs : List Ph) : Dat := .tup (phs.map phD)
def planD (ps : List Int) (phs : List Ph) : Dat := .tup [cal ps, phsD phs]
def optD : Option Int → Dat
  | none => .non
  | some z => .int z
def spD (s : Span) : Dat := .tup [.int s.1, .int s.2.1, optD s.2.2.1, .tup (ordsD s.2.2.2)]
def totD (t : Tot) : Dat := .tup [.int t.1, .int t.2.1, .int t.2.2.1, .int t.2.2.2]
def payD (p : Pay) : Dat := .tup [.int p.1, .int p.2.1, .int p.2.2]
theorem seqD_phs {cs : Cells} {phs : List Ph} : seqD cs (.dat (phsD phs)) = some (false, (phs.map phD).map .dat) := rfl
theorem seqD_ords {cs : Cells} {os : List Ord} : seqD cs (.dat (.tup (ordsD os))) = some (false, (ordsD os).map .dat) := rfl
theorem at_nat {α : Type} {xs : List α} {i : Nat} {x : α} (h : xs[i]? = some x) : atI xs (i : Int) = some x := atI_nat h
theorem seqd_f (ds : List Dat) : seqd false ds = .tup ds := rfl
/-! ### validate_phases, validate_plan -/
def sp_validate_phases : DSp := fun xs cs Q _ => ∃ (ps : List Int) (phs : List Ph), xs = [.dat (cal ps), .dat (phsD phs)] ∧ PhsOk ps phs ∧ Q .non cs
theorem len_validate_phases : ∀ xs cs Q XP, sp_validate_phases xs cs Q XP → xs.length = 2 := by rintro xs cs Q XP ⟨_, _, rfl, _⟩; rfl
def w_validate_phases : WS := (wSeq (wIfS (wNot (wTest (wChain wLe wLe (wC (.int 1)) (wFn wLen (wCons (wVar 1) wNil)) (wC (.int 20))))) wNever wNext)
    (wFor (wiEnum (wCons (wVar 1) wNil)) (gT 2 (gCons (gN 2) (gCons (gT 2 (gCons (gN 3) (gCons (gN 4) gNil))) gNil))) (wSeq (wIfS (wOr (wNot (wTest (wCall sp_is_integer (wCons (wVar 3) wNil)))) (wOr (wAnd (wTest (wOp wGt (wVar 2) (wC (.int 0)))) (wTest (wOp wLe (wVar 3) (wOp wIx (wOp wIx (wVar 1) (wOp wSub (wVar 2) (wC (.int 1)))) (wC (.int 0)))))) (wTest (wOp wGt (wFn wLen (wCons (wVar 4) wNil)) (wC (.int 60)))))) wNever wNext)
    (wSeq (wAsg (wCall sp_first_invalid_order (wCons (wVar 0) (wCons (wVar 4) wNil))) (gN 5))
    (wIfS (wTest (wOp wNotN (wVar 5) (wC .non))) wNever wNext)))))
theorem pure_validate_phases (K : Frag) : ∀ xs cs Q XP, sp_validate_phases xs cs Q XP → w_validate_phases (retE K Q) (startD 6 xs) cs := by
  rintro xs cs Q XP ⟨ps, phs, rfl, ⟨h1, h20, hw, ho⟩, q⟩
  unfold w_validate_phases
  simp only [phsD]
  walk_at "dl"
  simp only [List.length_map]
  refine ⟨by omega, by omega, ?_⟩
  simp only [wFor, wiEnum]
  walk_at "dl"
  refine ⟨fun i ρ cs' => cs' = cs ∧ ∃ a b c d, ρ = [some (.dat (cal ps)), some (.dat (.tup (phs.map phD))), a, b, c, d], ⟨rfl, _, _, _, _, rfl⟩, fun _ _ _ _ _ => trivial, ?_, ?_⟩
  · rintro i x ρ cs' hx ⟨rfl, a, b, c, d, rfl⟩
    obtain ⟨d0, hd, rfl⟩ := enumF_at hx
    rw [List.getElem?_map] at hd
    obtain ⟨⟨s, os⟩, hp, rfl⟩ := Option.map_eq_some_iff.mp hd
    obtain ⟨ho1, ho2⟩ := ho _ (List.mem_of_getElem? hp)
    simp only at ho1 ho2
    simp only [phD, sp_is_integer]
    walk_at "dl"
    have fin : sp_first_invalid_order [Vl.dat (cal ps), .dat (.tup (ordsD os))] cs' (fun x cs1 => isNon x = true ∧ cs1 = cs') X0 := by
      refine ⟨ps, os, false, rfl, ?_⟩
      rw [firstBad_ok ho1]
      exact ⟨rfl, rfl⟩
    have hl : ¬ (60 : Int) < ((List.map Vl.dat (ordsD os)).length : Nat) := by simp [ordsD]; omega
    split
    · rename_i h0
      obtain ⟨j, rfl⟩ : ∃ j, i = j + 1 := ⟨i - 1, by omega⟩
      have hlt := (List.getElem?_eq_some_iff.mp hp).1
      obtain ⟨p0, hp0⟩ : ∃ p0, phs[j]? = some p0 := ⟨phs[j]'(by omega), List.getElem?_eq_getElem (by omega)⟩
      have hlt2 : p0.1 < s := by
        have := List.pairwise_iff_getElem.mp hw j (j + 1) (by omega) hlt (by omega)
        rw [(List.getElem?_eq_some_iff.mp hp).2, (List.getElem?_eq_some_iff.mp hp0).2] at this
        exact this
      refine ⟨.dat (phD p0), ?_, ?_⟩
      · rw [show ((j + 1 : Nat) : Int) - 1 = (j : Nat) by omega]
        refine at_nat ?_
        rw [List.getElem?_map, List.getElem?_map, hp0]; rfl
      · simp only [phD]
        walk_at "dl"
        exact ⟨by omega, by simpa using hl, fin⟩
    · exact ⟨hl, fin⟩
  · rintro ρ cs' ⟨rfl, _⟩
    exact .now q
def sp_validate_plan : DSp := fun xs cs Q _ => ∃ (ps : List Int) (phs : List Ph), xs = [.dat (planD ps phs)] ∧ CalOk ps ∧ PhsOk ps phs ∧ Q .non cs
theorem len_validate_plan : ∀ xs cs Q XP, sp_validate_plan xs cs Q XP → xs.length = 1 := by rintro xs cs Q XP ⟨_, _, rfl, _⟩; rfl
def w_validate_plan : WS := (wSeq (wDrop (wCall sp_validate_calendar (wCons (wOp wIx (wVar 0) (wC (.int 0))) wNil)))
    (wDrop (wCall sp_validate_phases (wCons (wOp wIx (wVar 0) (wC (.int 0))) (wCons (wOp wIx (wVar 0) (wC (.int 1))) wNil)))))
theorem pure_validate_plan (K : Frag) : ∀ xs cs Q XP, sp_validate_plan xs cs Q XP → w_validate_plan (retE K Q) (startD 1 xs) cs := by
  rintro xs cs Q XP ⟨ps, phs, rfl, hc, hp, q⟩
  unfold w_validate_plan
  simp only [planD]
  walk_at "dl"
  exact ⟨ps, rfl, hc, ps, phs, rfl, hp, .now q⟩
/-! ### spans_of -/
def sp_spans_of : DSp := fun xs cs Q _ => ∃ phs : List Ph, xs = [.dat (phsD phs)] ∧ phs.length ≤ 1000 ∧ Q (.dat (.lst ((spansF 0 phs).map spD))) cs
theorem len_spans_of : ∀ xs cs Q XP, sp_spans_of xs cs Q XP → xs.length = 1 := by rintro xs cs Q XP ⟨_, rfl, _⟩; rfl
def w_spans_of : WS := (wSeq (wAsg (wLst wNil) (gN 1))
    (wSeq (wFor (wiEnum (wCons (wVar 0) wNil)) (gT 2 (gCons (gN 2) (gCons (gT 2 (gCons (gN 3) (gCons (gN 4) gNil))) gNil))) (wSeq (wAsg (wIf (wTest (wOp wLt (wOp wAdd (wVar 2) (wC (.int 1))) (wFn wLen (wCons (wVar 0) wNil)))) (wOp wSub (wOp wIx (wOp wIx (wVar 0) (wOp wAdd (wVar 2) (wC (.int 1)))) (wC (.int 0))) (wC (.int 1))) (wC .non)) (gN 5))
    (wDrop (wApp (wVar 1) (wTup (wCons (wVar 2) (wCons (wVar 3) (wCons (wVar 5) (wCons (wVar 4) wNil)))))))))
    (wRet (wVar 1))))
theorem map_dat_spD (l : List Span) : (l.map fun s => Vl.dat (spD s)) = (l.map spD).map .dat := by rw [List.map_map]; rfl
theorem pure_spans_of (K : Frag) : ∀ xs cs Q XP, sp_spans_of xs cs Q XP → w_spans_of (retE K Q) (startD 6 xs) cs := by
  rintro xs cs Q XP ⟨phs, rfl, h20, q⟩
  unfold w_spans_of
  simp only [phsD]
  walk_at "dl"
  refine ⟨by decide, .inl fun p hp => ?_⟩
  simp only [wFor, wiEnum]
  walk_at "dl"
  refine ⟨fun i ρ cs' => cs' = cs.put p (.lst ((((spansF 0 phs).take i).map spD).map .dat)) ∧ ∃ a b c d, ρ = [some (.dat (.tup (phs.map phD))), some (.cell p), a, b, c, d], ⟨by simp, _, _, _, _, rfl⟩, fun _ _ _ _ _ => trivial, ?_, ?_⟩
  · rintro i x ρ cs' hx ⟨rfl, a, b, c, d, rfl⟩
    obtain ⟨d0, hd, rfl⟩ := enumF_at hx
    rw [List.getElem?_map] at hd
    obtain ⟨⟨s, os⟩, hph, rfl⟩ := Option.map_eq_some_iff.mp hd
    have hlt := (List.getElem?_eq_some_iff.mp hph).1
    have hsp := spansF_at (k := 0) hph
    have htk : (spansF 0 phs).take (i + 1) = (spansF 0 phs).take i ++ [(0 + (i : Int), s, (phs[i + 1]?).map (fun q => q.1 - 1), os)] := by rw [List.take_succ, hsp]; rfl
    simp only [phD]
    walk_at "dl"
    have hsm : (List.map Vl.dat (List.map spD (List.take i (spansF 0 phs)))).length < 16777216 := by simp; omega
    split
    · rename_i h0
      have hlt2 : i + 1 < phs.length := by simp at h0; omega
      obtain ⟨p1, hp1⟩ : ∃ p1, phs[i + 1]? = some p1 := ⟨phs[i + 1], List.getElem?_eq_getElem hlt2⟩
      refine ⟨.dat (phD p1), ?_, ?_⟩
      · rw [show (i : Int) + 1 = ((i + 1 : Nat) : Int) by omega]
        refine at_nat ?_
        rw [List.getElem?_map, List.getElem?_map, hp1]; rfl
      · simp only [phD]
        walk_at "dl"
        refine ⟨by decide, hsm, ?_⟩
        rw [htk, hp1, List.map_append, List.map_append]
        simp [spD, optD]
    · rename_i h0
      have hn : phs[i + 1]? = none := List.getElem?_eq_none (by simp at h0; omega)
      refine ⟨by decide, hsm, ?_⟩
      rw [htk, hn, List.map_append, List.map_append]
      simp [spD, optD]
  · rintro ρ cs' ⟨rfl, a, b, c, d, rfl⟩
    walk_at "dl"
    refine ⟨_, _, Gh.frz Cells.put_same, ?_⟩
    rw [Cells.del_put hp]
    rw [enumF_len, List.length_map, List.take_of_length_le (by rw [spansF_len]; exact Nat.le_refl _)]
    exact q
/-! ### totals_until, balance_at -/
/-- small enough -/
def PhsSm (phs : List Ph) : Prop := phs.length ≤ 20 ∧ ∀ p ∈ phs, p.2.length ≤ 60 ∧ ∀ o ∈ p.2, 0 < o.1 ∧ o.1 ≤ 400 ∧ -18446744073709551616 < o.2.2 ∧ o.2.2 < 18446744073709551616
def AmtOk (phs : List Ph) : Prop := ∀ p ∈ phs, ∀ o ∈ p.2, -18446744073709551616 < o.2.2 ∧ o.2.2 < 18446744073709551616
theorem PhsOk.sm {ps : List Int} {phs : List Ph} (hc : CalOk ps) (h : PhsOk ps phs) (ha : AmtOk phs) : PhsSm phs := ⟨h.2.1, fun p hp => ⟨(h.2.2.2 p hp).2, fun o ho => by
  have C := cal_cyc hc
  have := ordB_iff.mp ((h.2.2.2 p hp).1 o ho)
  obtain ⟨p1, p2, _⟩ := C.per _ this.1
  have := C.le
  exact ⟨p1, by omega, ha p hp o ho⟩⟩⟩
def sp_totals_until : DSp := fun xs cs Q _ => ∃ (ps : List Int) (phs : List Ph) (day : Int), xs = [.dat (planD ps phs), .int day] ∧ PhsSm phs ∧ Q (.dat (.lst ((totL (spansF 0 phs) day).map totD))) cs
theorem len_totals_until : ∀ xs cs Q XP, sp_totals_until xs cs Q XP → xs.length = 2 := by rintro xs cs Q XP ⟨_, _, _, rfl, _⟩; rfl
def w_tot_in : WS := (wFor (wiEnum (wCons (wVar 6) wNil)) (gT 2 (gCons (gN 8) (gCons (gT 3 (gCons (gN 9) (gCons (gN 10) (gCons (gN 11) gNil)))) gNil))) (wSeq (wAsg (wIf (wTest (wOp wGe (wVar 7) (wVar 4))) (wCall sp_days_due (wCons (wVar 9) (wCons (wVar 10) (wCons (wVar 4) (wCons (wVar 7) wNil))))) (wC (.int 0))) (gN 12))
    (wIfS (wTest (wOp wGt (wVar 12) (wC (.int 0)))) (wDrop (wApp (wVar 2) (wTup (wCons (wVar 3) (wCons (wVar 8) (wCons (wVar 12) (wCons (wOp wMul (wVar 12) (wVar 11)) wNil))))))) wNext)))
def w_totals_until : WS := (wSeq (wAsg (wLst wNil) (gN 2))
    (wSeq (wFor (wiSeq (wCall sp_spans_of (wCons (wOp wIx (wVar 0) (wC (.int 1))) wNil))) (gT 4 (gCons (gN 3) (gCons (gN 4) (gCons (gN 5) (gCons (gN 6) gNil))))) (wSeq (wAsg (wIf (wTest (wOp wIsN (wVar 5) (wC .non))) (wVar 1) (wFn wMin2 (wCons (wVar 1) (wCons (wVar 5) wNil)))) (gN 7))
    w_tot_in))
    (wRet (wVar 2))))
def totV (l : List Tot) : List Vl := (l.map totD).map .dat
theorem totV_app (a b : List Tot) : totV (a ++ b) = totV a ++ totV b := by simp [totV]
theorem cells_len {phs : List Ph} (h : PhsSm phs) {j : Nat} : (cellsL ((spansF 0 phs).take j)).length ≤ 60 * j := by
  induction j with
  | zero => simp [cellsL]
  | succ j ih =>
    by_cases hj : j < (spansF 0 phs).length
    · have hg := List.getElem?_eq_getElem hj
      rw [List.take_succ, hg]
      unfold cellsL at *
      rw [List.flatMap_append, List.length_append]
      obtain ⟨p, hp, _, e⟩ := spansF_mem (List.getElem_mem hj)
      have := (h.2 p hp).1
      have e2 : ((some (spansF 0 phs)[j]).toList.flatMap cellsS).length = (spansF 0 phs)[j].2.2.2.length := by
        simp [cellsS, cellsF_len]
      rw [e2, e]
      omega
    · rw [List.take_of_length_le (by omega)] at ih ⊢
      omega
theorem filterMap_len {α β : Type} (f : α → Option β) : ∀ l : List α, (l.filterMap f).length ≤ l.length
  | [] => by simp
  | a :: l => by
    rw [List.filterMap_cons]
    have := filterMap_len f l
    cases f a with
    | none => show (l.filterMap f).length ≤ _; rw [List.length_cons]; omega
    | some b => show (b :: l.filterMap f).length ≤ _; rw [List.length_cons, List.length_cons]; omega
theorem totC_add {k f day : Int} {l : Option Int} {os : List Ord} {i : Nat} {o : Ord} (h : os[i]? = some o) : (cellsF k f l 0 (os.take (i + 1))).filterMap (totC day) = (cellsF k f l 0 (os.take i)).filterMap (totC day) ++ (totC day ⟨k, i, f, l, o⟩).toList := by
  have hlt := (List.getElem?_eq_some_iff.mp h).1
  rw [List.take_succ, h, cellsF_app, List.filterMap_append]
  congr 1
  have : (0 : Int) + ((os.take i).length : Nat) = (i : Int) := by rw [List.length_take]; omega
  rw [this]
  show (cellsF k f l (i : Int) [o]).filterMap (totC day) = _
  rw [cellsF, cellsF, List.filterMap_cons, List.filterMap_nil]
  cases totC day ⟨k, i, f, l, o⟩ <;> rfl
theorem tot_in {D : DEnds} {x0 : Vl} {day k f e : Int} {l : Option Int} {os : List Ord} {p : Addr} {cs : Cells} {V0 : List Vl} {a8 a9 a10 a11 a12 : Option Vl} (he : e = endOf day l) (hor : os.length ≤ 60 ∧ ∀ o ∈ os, 0 < o.1 ∧ o.1 ≤ 400 ∧ -18446744073709551616 < o.2.2 ∧ o.2.2 < 18446744073709551616) (hV : V0.length ≤ 100000)
    (h : ∀ a8 a9 a10 a11 a12, D.nx [some x0, some (.int day), some (.cell p), some (.int k), some (.int f), some (.dat (optD l)), some (.dat (.tup (ordsD os))), some (.int e), a8, a9, a10, a11, a12] (cs.put p (.lst (V0 ++ totV ((cellsF k f l 0 os).filterMap (totC day)))))) :
    w_tot_in D [some x0, some (.int day), some (.cell p), some (.int k), some (.int f), some (.dat (optD l)), some (.dat (.tup (ordsD os))), some (.int e), a8, a9, a10, a11, a12] (cs.put p (.lst V0)) := by
  unfold w_tot_in
  simp only [wFor, wiEnum]
  walk_at "dl"
  refine ⟨fun i ρ cs' => cs' = cs.put p (.lst (V0 ++ totV ((cellsF k f l 0 (os.take i)).filterMap (totC day)))) ∧ ∃ a8 a9 a10 a11 a12, ρ = [some x0, some (.int day), some (.cell p), some (.int k), some (.int f), some (.dat (optD l)), some (.dat (.tup (ordsD os))), some (.int e), a8, a9, a10, a11, a12], ⟨by simp [cellsF, totV], _, _, _, _, _, rfl⟩, fun _ _ _ _ _ => trivial, ?_, ?_⟩
  · rintro i x ρ cs' hx ⟨rfl, a8, a9, a10, a11, a12, rfl⟩
    obtain ⟨d0, hd, rfl⟩ := enumF_at hx
    unfold ordsD at hd
    rw [List.getElem?_map] at hd
    obtain ⟨⟨pp, rr, aa⟩, ho, rfl⟩ := Option.map_eq_some_iff.mp hd
    have hlt := (List.getElem?_eq_some_iff.mp ho).1
    obtain ⟨hp0, hp1, hp2, hp3⟩ := hor.2 _ (List.mem_of_getElem? ho)
    simp only at hp0 hp1 hp2 hp3
    have hadd := totC_add (k := k) (f := f) (day := day) (l := l) ho
    have hlen : (V0 ++ totV ((cellsF k f l 0 (os.take i)).filterMap (totC day))).length < 16777216 := by
      have h1 := filterMap_len (totC day) (cellsF k f l 0 (os.take i))
      rw [cellsF_len, List.length_take] at h1
      rw [List.length_append]
      unfold totV
      rw [List.length_map, List.length_map]
      have := hor.1
      omega
    have key : ∀ t : Int, t = dueT day ⟨k, i, f, l, pp, rr, aa⟩ → if 0 < t then 4 ≤ 16777216 ∧ (V0 ++ totV ((cellsF k f l 0 (os.take i)).filterMap (totC day))).length < 16777216 ∧ cs.put p (.lst ((V0 ++ totV ((cellsF k f l 0 (os.take i)).filterMap (totC day))) ++ [.dat (.tup [.int k, .int (i : Int), .int t, .int (t * aa)])])) = cs.put p (.lst (V0 ++ totV ((cellsF k f l 0 (os.take (i + 1))).filterMap (totC day)))) else cs.put p (.lst (V0 ++ totV ((cellsF k f l 0 (os.take i)).filterMap (totC day)))) = cs.put p (.lst (V0 ++ totV ((cellsF k f l 0 (os.take (i + 1))).filterMap (totC day)))) := by
      intro t ht
      rw [hadd, totV_app]
      unfold totC
      rw [← ht]
      split
      · refine ⟨by decide, hlen, ?_⟩
        rw [List.append_assoc]
        rfl
      · show _ = cs.put p (.lst (V0 ++ (totV _ ++ [])))
        rw [List.append_nil]
    simp only [ord]
    walk_at "dl"
    by_cases hfe : f ≤ e
    · rw [if_pos hfe]
      have ht : daysDue pp rr f e = dueT day ⟨k, i, f, l, pp, rr, aa⟩ := by
        unfold dueT
        show _ = if f ≤ endOf day l then daysDue pp rr f (endOf day l) else 0
        rw [← he, if_pos hfe]
      have k2 := key _ ht
      refine ⟨pp, rr, f, e, rfl, hp0, hp1, _, rfl, ?_⟩
      split
      · rename_i h0
        rw [if_pos h0] at k2
        obtain ⟨k3, k4, k5⟩ := k2
        refine ⟨_, Cells.put_same, _, rfl, mulR hp2 hp3, _, rfl, k3, _, Cells.put_same, k4, ?_⟩
        rw [Cells.put_put]
        exact k5
      · rename_i h0
        rw [if_neg h0] at k2
        exact k2
    · rw [if_neg hfe]
      have ht : (0 : Int) = dueT day ⟨k, i, f, l, pp, rr, aa⟩ := by
        unfold dueT
        show _ = if f ≤ endOf day l then daysDue pp rr f (endOf day l) else 0
        rw [← he, if_neg hfe]
      have k2 := key _ ht
      rw [if_neg (by omega)] at k2
      exact k2
  · rintro ρ cs' ⟨rfl, a8, a9, a10, a11, a12, rfl⟩
    rw [enumF_len, show (ordsD os).length = os.length by simp [ordsD], List.take_of_length_le (Nat.le_refl _)]
    exact h _ _ _ _ _
theorem pure_totals_until (K : Frag) : ∀ xs cs Q XP, sp_totals_until xs cs Q XP → w_totals_until (retE K Q) (startD 13 xs) cs := by
  rintro xs cs Q XP ⟨ps, phs, day, rfl, hs, q⟩
  unfold w_totals_until
  simp only [planD]
  walk_at "dl"
  refine ⟨by decide, .inl fun p hp => ?_⟩
  simp only [wFor, wiSeq]
  walk_at "dl"
  refine ⟨phs, rfl, by have := hs.1; omega, ?_⟩
  walk_at "dl"
  refine ⟨fun j ρ cs' => cs' = cs.put p (.lst (totV (totL ((spansF 0 phs).take j) day))) ∧ ∃ a3 a4 a5 a6 a7 a8 a9 a10 a11 a12, ρ = [some (.dat (.tup [cal ps, phsD phs])), some (.int day), some (.cell p), a3, a4, a5, a6, a7, a8, a9, a10, a11, a12], ⟨by simp [totV, totL, cellsL], _, _, _, _, _, _, _, _, _, _, rfl⟩, fun _ _ _ _ _ => trivial, ?_, ?_⟩
  · rintro j x ρ cs' hx ⟨rfl, a3, a4, a5, a6, a7, a8, a9, a10, a11, a12, rfl⟩
    rw [List.getElem?_map, List.getElem?_map] at hx
    obtain ⟨d0, hd0, rfl⟩ := Option.map_eq_some_iff.mp hx
    obtain ⟨⟨k, f, l, os⟩, hsp, rfl⟩ := Option.map_eq_some_iff.mp hd0
    have htk : (spansF 0 phs).take (j + 1) = (spansF 0 phs).take j ++ [(k, f, l, os)] := by rw [List.take_succ, hsp]; rfl
    obtain ⟨ph, hph, e1, e2⟩ := spansF_mem (List.mem_of_getElem? hsp)
    obtain ⟨hol, hor⟩ := hs.2 ph hph
    have e2 : os = ph.2 := e2
    rw [← e2] at hol hor
    have hj : j < 20 := by
      have := (List.getElem?_eq_some_iff.mp hsp).1
      rw [spansF_len] at this
      have := hs.1
      omega
    have hcl := cells_len hs (j := j)
    simp only [spD]
    walk_at "dl"
    have hV : (totV (totL ((spansF 0 phs).take j) day)).length ≤ 100000 := by
      have h1 := filterMap_len (totC day) (cellsL ((spansF 0 phs).take j))
      unfold totV totL
      rw [List.length_map, List.length_map]
      omega
    have hnx : totV (totL ((spansF 0 phs).take (j + 1)) day) = totV (totL ((spansF 0 phs).take j) day) ++ totV ((cellsF k f l 0 os).filterMap (totC day)) := by
      rw [htk, ← totV_app]
      unfold totL cellsL
      rw [List.flatMap_append, List.filterMap_append]
      simp [cellsS]
    cases l with
    | none =>
      rw [if_pos (by rfl)]
      refine tot_in rfl ⟨hol, hor⟩ hV fun a8 a9 a10 a11 a12 => ⟨by rw [hnx], _, _, _, _, _, _, _, _, _, _, rfl⟩
    | some z =>
      rw [if_neg (by simp [isNon, optD])]
      refine ⟨z, rfl, ?_⟩
      refine tot_in (by show (if z < day then z else day) = min day z; split <;> omega) ⟨hol, hor⟩ hV fun a8 a9 a10 a11 a12 => ⟨by rw [hnx], _, _, _, _, _, _, _, _, _, _, rfl⟩
  · rintro ρ cs' ⟨rfl, a3, a4, a5, a6, a7, a8, a9, a10, a11, a12, rfl⟩
    walk_at "dl"
    refine ⟨_, _, Gh.frz Cells.put_same, ?_⟩
    rw [Cells.del_put hp]
    simp only [List.length_map]
    rw [List.take_of_length_le (Nat.le_refl _)]
    exact q
end DL
set_option maxRecDepth 100000
set_option maxHeartbeats 4000000
namespace DL
open PySem L2 GT
local macro_rules | `(tactic| walk_at "dl") => `(tactic| simp only [wGSeq, wGIf, wGP, wG0, GDs.at, wFld, wSetF, wMeth, wMake, wGMeth, wGCall, wDNewK, wDNewT, CO.ins.injEq, CO.dk.injEq, CO.dt.injEq, Cells.put_put, wRet, wRetN, wSeq, wAsg, wIfS, wDrop, wNext, wVar, wC, wOp, wUn, wFn, wNil, wCons, wTest, wNot, wAnd, wOr, wAndV, wOrV, wNotV, wIf, wChain, wTup, wLst, wCall, wNever, gN, gT, gNil, gCons, gIx, wI, wI0, wNeg, wMax2, wMin2, wLen, wIsN, wNotN, isNon_non, isNon_bl, isNon_int, isNon_str, isNon_lst, isNon_tup, isNon_cell, wIx, wTuple, wAug, wAugIx, wPar, wPar3, wSlL, wSlT, wPart, wNoPart, wCatT, wIsi, wIsi2, isiT, tyD_non, tyD_bl, tyD_int, tyD_str, tyD_lst, tyD_tup, tyD_cell, coTy_lst, seqD_lst, seqD_tp, seqD_cell, coSeq_lst, seen_dat, seen_cell, coDat_lst, startD, wYes, wApp, wEq_int, wEq_bl, allDat_nil, allDat_cons, allDat_map, Option.map_some, List.map_cons, List.map_nil, List.cons_append, List.nil_append, List.length_cons, List.length_nil, List.replicate, List.getElem?_cons_zero, List.getElem?_cons_succ, List.set_cons_zero, List.set_cons_succ, Option.some.injEq, exists_eq_left', exists_eq_left, exists_and_left, exists_eq', exists_eq, Vl.dat.injEq, Vl.raw.injEq, V.ref.injEq, CO.lst.injEq, Dat.int.injEq, Dat.bl.injEq, Dat.tup.injEq, Dat.lst.injEq, List.cons.injEq, and_true, true_and, retE, Nat.reduceAdd, Nat.reduceSub, and_assoc, Prod.mk.injEq, if_true, if_false, Bool.false_eq_true, decide_eq_true_eq, Bool.not_true, Bool.not_false, Bool.not_eq_true', decide_eq_false_iff_not, if_false_left, if_false_right, beq_iff_eq, Bool.or_eq_true, Bool.and_eq_true, Bool.or_self, Bool.or_true, Bool.true_or, Bool.or_false, Bool.false_or, decide_true, decide_false, reduceCtorEq, Cells.put_same, gt_iff_lt, ge_iff_le, beq_self_eq_true, bne_self_eq_false, Bool.decide_eq_true, not_true_eq_false, not_false_eq_true, Decidable.not_not, false_and, and_false, Bool.not_eq_false, at_0, at_1, at_2, at_3, at_4, at_5, ix_0, ix_1, ix_2, ix_3, Nat.reduceLT, Int.reduceLT, Int.reduceLE, Int.reduceNeg, Int.reduceAdd, Int.reduceSub, Int.reduceEq, Int.reducePow, Int.reduceToNat, Cells.put_put])

def sp_balance_at (C : CE) : DSp := fun xs cs Q _ => ∃ (ps : List Int) (phs : List Ph) (op day : Int), xs = [.dat (planD ps phs), .int op, .int day] ∧ PhsSm phs ∧ cs C.T_balance_at = some .tg ∧ Q (.int (balAt phs op day)) cs
theorem len_balance_at {C : CE} : ∀ xs cs Q XP, sp_balance_at C xs cs Q XP → xs.length = 3 := by rintro xs cs Q XP ⟨_, _, _, _, rfl, _⟩; rfl
def w_balance_at (C : CE) : WS := (wRet (wOp wAdd (wVar 1) (GN.wSumG (GN.wGx C.T_balance_at 4 (wCall sp_totals_until (wCons (wVar 0) (wCons (wVar 2) wNil))) (gT 4 (gCons (gN 0) (gCons (gN 1) (gCons (gN 2) (gCons (gN 3) gNil))))) (wVar 3)))))
theorem pure_balance_at (K : Frag) (C : CE) : ∀ xs cs Q XP, sp_balance_at C xs cs Q XP → w_balance_at C (retE K Q) (startD 7 xs) cs := by
  rintro xs cs Q XP ⟨ps, phs, op, day, rfl, hs, hT, q⟩
  unfold w_balance_at
  walk_at "dl"
  simp only [GN.wSumG, GN.wGx]
  walk_at "dl"
  refine ⟨ps, phs, day, rfl, hs, hT, _, rfl, ?_⟩
  refine ⟨((totL (spansF 0 phs) day).map fun t : Tot => t.2.2.2).map .int, fun _ => True, fun _ _ => rfl, by simp, ?_, trivial, (totL (spansF 0 phs) day).map fun t : Tot => t.2.2.2, rfl, .now q⟩
  · intro i x hx c1 _ ρ hρ
    rw [List.getElem?_map, List.getElem?_map] at hx
    obtain ⟨d0, hd0, rfl⟩ := Option.map_eq_some_iff.mp hx
    obtain ⟨⟨k, j, t, v⟩, ht, rfl⟩ := Option.map_eq_some_iff.mp hd0
    match ρ, hρ with
    | [r0, r1, r2, r3], _ =>
      simp only [totD]
      walk_at "dl"
      refine ⟨fun _ _ h => h, .int v, ?_, rfl⟩
      rw [List.getElem?_map, List.getElem?_map, ht]; rfl
/-! ### balance, contributions -/
def sp_balance (C : CE) : DSp := fun xs cs Q _ => ∃ (ps : List Int) (phs : List Ph) (op day : Int), xs = [.dat (planD ps phs), .int op, .int day] ∧ CalOk ps ∧ PhsOk ps phs ∧ AmtOk phs ∧ cs C.T_balance_at = some .tg ∧ Q (.int (balAt phs op day)) cs
theorem len_balance {C : CE} : ∀ xs cs Q XP, sp_balance C xs cs Q XP → xs.length = 3 := by rintro xs cs Q XP ⟨_, _, _, _, rfl, _⟩; rfl
def w_balance (C : CE) : WS := (wSeq (wDrop (wCall sp_validate_plan (wCons (wVar 0) wNil)))
    (wRet (wCall (sp_balance_at C) (wCons (wVar 0) (wCons (wVar 1) (wCons (wVar 2) wNil))))))
theorem pure_balance (K : Frag) (C : CE) : ∀ xs cs Q XP, sp_balance C xs cs Q XP → w_balance C (retE K Q) (startD 3 xs) cs := by
  rintro xs cs Q XP ⟨ps, phs, op, day, rfl, hc, hp, ha, hT, q⟩
  unfold w_balance
  walk_at "dl"
  exact ⟨ps, phs, rfl, hc, hp, ps, phs, op, day, rfl, hp.sm hc ha, hT, .now q⟩
def sp_contributions : DSp := fun xs cs Q _ => ∃ (ps : List Int) (phs : List Ph) (op day : Int), xs = [.dat (planD ps phs), .int op, .int day] ∧ CalOk ps ∧ PhsOk ps phs ∧ AmtOk phs ∧ Q (.dat (.lst ((totL (spansF 0 phs) day).map totD))) cs
theorem len_contributions : ∀ xs cs Q XP, sp_contributions xs cs Q XP → xs.length = 3 := by rintro xs cs Q XP ⟨_, _, _, _, rfl, _⟩; rfl
def w_contributions : WS := (wSeq (wDrop (wCall sp_validate_plan (wCons (wVar 0) wNil)))
    (wRet (wCall sp_totals_until (wCons (wVar 0) (wCons (wVar 2) wNil)))))
theorem pure_contributions (K : Frag) : ∀ xs cs Q XP, sp_contributions xs cs Q XP → w_contributions (retE K Q) (startD 3 xs) cs := by
  rintro xs cs Q XP ⟨ps, phs, op, day, rfl, hc, hp, ha, q⟩
  unfold w_contributions
  walk_at "dl"
  exact ⟨ps, phs, rfl, hc, hp, ps, phs, day, rfl, hp.sm hc ha, .now q⟩
/-! ### payments_on -/
def sp_payments_on : GN.GSpec := fun xs cs ds fin Gd => ∃ (sps : List Span) (day : Int), xs = [.dat (.lst (sps.map spD)), .int day] ∧ (∀ s ∈ sps, ∀ o ∈ s.2.2.2, 0 < o.1) ∧ ds = (payL sps day).map payD ∧ fin = .done ∧ Gd = fun _ => True
theorem len_payments_on : ∀ xs cs ds fin Gd, sp_payments_on xs cs ds fin Gd → xs.length = 2 := by rintro xs cs ds fin Gd ⟨_, _, rfl, _⟩; rfl
def w_pay_in (Gd : Cells → Prop) (fin : GN.GEnd) : WGn := (wGFor (wiEnum (wCons (wVar 5) wNil)) (gT 2 (gCons (gN 6) (gCons (gT 3 (gCons (gN 7) (gCons (gN 8) (gCons (gN 9) gNil)))) gNil))) (wGSeq (wGIf (wTest (wOp (wEqD false) (wOp wMod (wOp wSub (wVar 1) (wVar 8)) (wVar 7)) (wC (.int 0)))) (wGSeq (GN.wGY Gd fin (wTup (wCons (wVar 2) (wCons (wVar 6) (wCons (wVar 9) wNil)))))
    wG0) wG0)
    wG0))
def w_payments_on (Gd : Cells → Prop) (fin : GN.GEnd) : WGn := (wGSeq (wGFor (wiSeq (wVar 0)) (gT 4 (gCons (gN 2) (gCons (gN 3) (gCons (gN 4) (gCons (gN 5) gNil))))) (wGSeq (wGIf (wAnd (wTest (wOp wLe (wVar 3) (wVar 1))) (wOr (wTest (wOp wIsN (wVar 4) (wC .non))) (wTest (wOp wLe (wVar 1) (wVar 4))))) (wGSeq (w_pay_in Gd fin)
    wG0) wG0)
    wG0))
    wG0)
theorem pay_in {D : GDs} {x0 : Vl} {day k f : Int} {l : Option Int} {os : List Ord} {R : List Dat} (hin : inB day f l = true) (hos : ∀ o ∈ os, 0 < o.1)
    (h : ∀ c a6 a7 a8 a9, D.nx R c [some x0, some (.int day), some (.int k), some (.int f), some (.dat (optD l)), some (.dat (.tup (ordsD os))), a6, a7, a8, a9] c) {c0 : Cells} {a6 a7 a8 a9 : Option Vl} :
    w_pay_in (fun _ => True) .done D (((cellsF k f l 0 os).filterMap (payC day)).map payD ++ R) c0 [some x0, some (.int day), some (.int k), some (.int f), some (.dat (optD l)), some (.dat (.tup (ordsD os))), a6, a7, a8, a9] c0 := by
  unfold w_pay_in
  simp only [wGFor, wiEnum]
  walk_at "dl"
  refine ⟨fun i xs c0 ρ cs' => cs' = c0 ∧ xs = ((cellsF k f l i (os.drop i)).filterMap (payC day)).map payD ++ R ∧ ∃ a6 a7 a8 a9, ρ = [some x0, some (.int day), some (.int k), some (.int f), some (.dat (optD l)), some (.dat (.tup (ordsD os))), a6, a7, a8, a9], ⟨rfl, rfl, _, _, _, _, rfl⟩, fun _ _ _ _ _ _ _ => trivial, ?_, ?_⟩
  · rintro i x xs c1 ρ cs' hx ⟨rfl, rfl, a6, a7, a8, a9, rfl⟩
    obtain ⟨d0, hd, rfl⟩ := enumF_at hx
    unfold ordsD at hd
    rw [List.getElem?_map] at hd
    obtain ⟨⟨pp, rr, aa⟩, ho, rfl⟩ := Option.map_eq_some_iff.mp hd
    have hp0 := hos _ (List.mem_of_getElem? ho)
    simp only at hp0
    have hdr : os.drop i = (pp, rr, aa) :: os.drop (i + 1) := drop_cons ho
    rw [hdr]
    simp only [ord, GN.wGY]
    walk_at "dl"
    refine ⟨hp0, ?_⟩
    have ec : cellsF k f l (i : Int) ((pp, rr, aa) :: os.drop (i + 1)) = ⟨k, i, f, l, pp, rr, aa⟩ :: cellsF k f l ((i + 1 : Nat) : Int) (os.drop (i + 1)) := by rw [cellsF]; rfl
    rw [ec, List.filterMap_cons]
    have ea : actC day ⟨k, i, f, l, pp, rr, aa⟩ = decide ((day - rr) % pp = 0) := by
      show (inB day f l && decide ((day - rr) % pp = 0)) = _
      rw [hin, Bool.true_and]
    unfold payC
    rw [ea]
    split
    · rename_i hz
      rw [if_pos (by simpa using hz)]
      exact ⟨by decide, fun _ _ h => h, _, rfl, .inr fun _ _ => rfl⟩
    · rename_i hz
      rw [if_neg (by simpa using hz)]
  · rintro xs c1 ρ cs' ⟨rfl, rfl, a6, a7, a8, a9, rfl⟩
    rw [enumF_len, show (ordsD os).length = os.length by simp [ordsD], List.drop_length]
    exact h _ _ _ _ _
theorem pure_payments_on : ∀ xs cs ds fin Gd, sp_payments_on xs cs ds fin Gd → (ds = [] ∧ fin = .cut) ∨ ∀ c1, Gd c1 → w_payments_on Gd fin (GN.genE fin) ds c1 (startD 10 xs) c1 := by
  rintro xs cs ds fin Gd ⟨sps, day, rfl, hp, rfl, rfl, rfl⟩
  refine .inr fun c1 _ => ?_
  unfold w_payments_on
  walk_at "dl"
  simp only [wGFor, wiSeq]
  walk_at "dl"
  refine ⟨fun j xs c0 ρ cs' => cs' = c0 ∧ xs = (payL (sps.drop j) day).map payD ∧ ∃ a2 a3 a4 a5 a6 a7 a8 a9, ρ = [some (.dat (.lst (sps.map spD))), some (.int day), a2, a3, a4, a5, a6, a7, a8, a9], ⟨rfl, rfl, _, _, _, _, _, _, _, _, rfl⟩, fun _ _ _ _ _ _ _ => trivial, ?_, ?_⟩
  · rintro j x xs c1 ρ cs' hx ⟨rfl, rfl, a2, a3, a4, a5, a6, a7, a8, a9, rfl⟩
    rw [List.getElem?_map, List.getElem?_map] at hx
    obtain ⟨d0, hd0, rfl⟩ := Option.map_eq_some_iff.mp hx
    obtain ⟨⟨k, f, l, os⟩, hsp, rfl⟩ := Option.map_eq_some_iff.mp hd0
    have hos : ∀ o ∈ os, 0 < o.1 := hp _ (List.mem_of_getElem? hsp)
    have hdr : sps.drop j = (k, f, l, os) :: sps.drop (j + 1) := drop_cons hsp
    have hpl : payL (sps.drop j) day = (cellsF k f l 0 os).filterMap (payC day) ++ payL (sps.drop (j + 1)) day := by
      rw [hdr]
      unfold payL cellsL
      rw [List.flatMap_cons, List.filterMap_append]
      rfl
    simp only [spD]
    walk_at "dl"
    rw [hpl, List.map_append]
    have off : inB day f l = false → (cellsF k f l 0 os).filterMap (payC day) = [] := pay_none
    by_cases hf : f ≤ day
    · rw [if_pos hf]
      cases l with
      | none =>
        rw [if_pos (by rfl)]
        refine pay_in (by simp [inB, hf]) hos fun c a6 a7 a8 a9 => ?_
        unfold wG0
        exact ⟨rfl, rfl, _, _, _, _, _, _, _, _, rfl⟩
      | some z =>
        rw [if_neg (by simp [isNon, optD])]
        refine ⟨z, rfl, ?_⟩
        split
        · rename_i hz
          refine pay_in (by simp [inB, hf, hz]) hos fun c a6 a7 a8 a9 => ?_
          unfold wG0
          exact ⟨rfl, rfl, _, _, _, _, _, _, _, _, rfl⟩
        · rename_i hz
          rw [off (by simp [inB, hf, hz])]
          rfl
    · rw [if_neg hf, off (by simp [inB, hf])]
      rfl
  · rintro xs c1 ρ cs' ⟨rfl, rfl, a2, a3, a4, a5, a6, a7, a8, a9, rfl⟩
    simp only [List.length_map, List.drop_length]
    exact ⟨rfl, rfl, fun _ _ h => h⟩
end DL
set_option maxRecDepth 100000
set_option maxHeartbeats 4000000
namespace DL
open PySem L2 GT
local macro_rules | `(tactic| walk_at "dl") => `(tactic| simp only [wGSeq, wGIf, wGP, wG0, GDs.at, wFld, wSetF, wMeth, wMake, wGMeth, wGCall, wDNewK, wDNewT, CO.ins.injEq, CO.dk.injEq, CO.dt.injEq, Cells.put_put, wRet, wRetN, wSeq, wAsg, wIfS, wDrop, wNext, wVar, wC, wOp, wUn, wFn, wNil, wCons, wTest, wNot, wAnd, wOr, wAndV, wOrV, wNotV, wIf, wChain, wTup, wLst, wCall, wNever, gN, gT, gNil, gCons, gIx, wI, wI0, wNeg, wMax2, wMin2, wLen, wIsN, wNotN, isNon_non, isNon_bl, isNon_int, isNon_str, isNon_lst, isNon_tup, isNon_cell, wIx, wTuple, wAug, wAugIx, wPar, wPar3, wSlL, wSlT, wPart, wNoPart, wCatT, wIsi, wIsi2, isiT, tyD_non, tyD_bl, tyD_int, tyD_str, tyD_lst, tyD_tup, tyD_cell, coTy_lst, seqD_lst, seqD_tp, seqD_cell, coSeq_lst, seen_dat, seen_cell, coDat_lst, startD, wYes, wApp, wEq_int, wEq_bl, allDat_nil, allDat_cons, allDat_map, Option.map_some, List.map_cons, List.map_nil, List.cons_append, List.nil_append, List.length_cons, List.length_nil, List.replicate, List.getElem?_cons_zero, List.getElem?_cons_succ, List.set_cons_zero, List.set_cons_succ, Option.some.injEq, exists_eq_left', exists_eq_left, exists_and_left, exists_eq', exists_eq, Vl.dat.injEq, Vl.raw.injEq, V.ref.injEq, CO.lst.injEq, Dat.int.injEq, Dat.bl.injEq, Dat.tup.injEq, Dat.lst.injEq, List.cons.injEq, and_true, true_and, retE, Nat.reduceAdd, Nat.reduceSub, and_assoc, Prod.mk.injEq, if_true, if_false, Bool.false_eq_true, decide_eq_true_eq, Bool.not_true, Bool.not_false, Bool.not_eq_true', decide_eq_false_iff_not, if_false_left, if_false_right, beq_iff_eq, Bool.or_eq_true, Bool.and_eq_true, Bool.or_self, Bool.or_true, Bool.true_or, Bool.or_false, Bool.false_or, decide_true, decide_false, reduceCtorEq, Cells.put_same, gt_iff_lt, ge_iff_le, beq_self_eq_true, bne_self_eq_false, Bool.decide_eq_true, not_true_eq_false, not_false_eq_true, Decidable.not_not, false_and, and_false, Bool.not_eq_false, at_0, at_1, at_2, at_3, at_4, at_5, ix_0, ix_1, ix_2, ix_3, Nat.reduceLT, Int.reduceLT, Int.reduceLE, Int.reduceNeg, Int.reduceAdd, Int.reduceSub, Int.reduceEq, Int.reducePow, Int.reduceToNat, Cells.put_put])

/-! ### entries -/
abbrev Ent := Int × Int × Int × Int × Int
def entD (e : Ent) : Dat := .tup [.int e.1, .int e.2.1, .int e.2.2.1, .int e.2.2.2.1, .int e.2.2.2.2]
def entR (day : Int) : Int → List Pay → List Ent
  | _, [] => []
  | cur, p :: r => (day, p.1, p.2.1, p.2.2, cur + p.2.2) :: entR day (cur + p.2.2) r
def paySum (l : List Pay) : Int := (l.map (·.2.2)).sum
def entF (sps : List Span) : Nat → Int → Int → List Ent
  | 0, _, _ => []
  | n + 1, day, cur => entR day cur (payL sps day) ++ entF sps n (day + 1) (cur + paySum (payL sps day))
def entL (phs : List Ph) (op f l : Int) : List Ent := entF (spansF 0 phs) (l + 1 - f).toNat f (balAt phs op (f - 1))
/-- what is still to be handed out -/
def Rl (fin : GN.GEnd) (xs L : List Dat) : Prop := (fin = .done ∧ xs = L) ∨ (fin = .cut ∧ xs ≠ [] ∧ ∃ tail, xs ++ tail = L)
theorem Rl.cons {fin : GN.GEnd} {xs L : List Dat} {d : Dat} (h : Rl fin xs (d :: L)) : ∃ r, xs = d :: r ∧ ((r = [] ∧ fin = .cut) ∨ Rl fin r L) := by
  rcases h with ⟨hf, rfl⟩ | ⟨hf, hne, tail, e⟩
  · exact ⟨L, rfl, .inr (.inl ⟨hf, rfl⟩)⟩
  · cases xs with
    | nil => exact absurd rfl hne
    | cons x r =>
      rw [List.cons_append] at e
      injection e with e1 e2
      subst e1
      refine ⟨r, rfl, ?_⟩
      by_cases hr : r = []
      · exact .inl ⟨hr, hf⟩
      · exact .inr (.inr ⟨hf, hr, tail, e2⟩)
theorem Rl.nil {fin : GN.GEnd} {xs : List Dat} (h : Rl fin xs []) : xs = [] ∧ fin = .done := by
  rcases h with ⟨hf, rfl⟩ | ⟨hf, hne, tail, e⟩
  · exact ⟨rfl, hf⟩
  · exact absurd (List.append_eq_nil_iff.mp e).1 hne
def lastOf : GN.GEnd → Int → Vl
  | .done, l => .int l
  | .cut, _ => .non
def sp_entries (C : CE) : GN.GSpec := fun xs cs ds fin Gd => ∃ (ps : List Int) (phs : List Ph) (op f l : Int), xs = [.dat (planD ps phs), .int op, .int f, lastOf fin l] ∧ CalOk ps ∧ PhsOk ps phs ∧ AmtOk phs ∧ Gd = (fun c => c C.T_balance_at = some .tg) ∧ ((ds = [] ∧ fin = .cut) ∨ Rl fin ds ((entL phs op f l).map entD))
theorem len_entries {C : CE} : ∀ xs cs ds fin Gd, sp_entries C xs cs ds fin Gd → xs.length = 4 := by rintro xs cs ds fin Gd ⟨_, _, _, _, _, rfl, _⟩; rfl
def w_ent_in (Gd : Cells → Prop) (fin : GN.GEnd) : WGn := (GN.wGForG (GN.wGCall sp_payments_on (wCons (wVar 4) (wCons (wVar 5) wNil))) (gT 3 (gCons (gN 7) (gCons (gN 8) (gCons (gN 9) gNil)))) (wGSeq (wGP (wAug 6 (wVar 9) (fun i j => i + j)))
    (wGSeq (GN.wGY Gd fin (wTup (wCons (wVar 5) (wCons (wVar 7) (wCons (wVar 8) (wCons (wVar 9) (wCons (wVar 6) wNil)))))))
    wG0)))
def w_ent_wh (Gd : Cells → Prop) (fin : GN.GEnd) : WGn := (GN.wGWhile (wOr (wTest (wOp wIsN (wVar 3) (wC .non))) (wTest (wOp wLe (wVar 5) (wVar 3)))) (wGSeq (w_ent_in Gd fin)
    (wGSeq (wGP (wAug 5 (wC (.int 1)) (fun i j => i + j)))
    wG0)))
def w_entries (C : CE) (Gd : Cells → Prop) (fin : GN.GEnd) : WGn := (wGSeq (wGP (wDrop (wCall sp_validate_plan (wCons (wVar 0) wNil))))
    (wGSeq (wGP (wAsg (wCall sp_spans_of (wCons (wOp wIx (wVar 0) (wC (.int 1))) wNil)) (gN 4)))
    (wGSeq (wGP (wPar 5 6 (wCons (wVar 2) (wCons (wCall (sp_balance_at C) (wCons (wVar 0) (wCons (wVar 1) (wCons (wOp wSub (wVar 2) (wC (.int 1))) wNil)))) wNil))))
    (wGSeq (w_ent_wh Gd fin)
    wG0))))
theorem ent_in {Gd : Cells → Prop} {fin : GN.GEnd} {D : GDs} {x0 x1 x2 x3 : Vl} {sps : List Span} {day cur : Int} {R : List Dat} (hp : ∀ s ∈ sps, ∀ o ∈ s.2.2.2, 0 < o.1)
    (h : ∀ xs c a7 a8 a9, Rl fin xs R → D.nx xs c [some x0, some x1, some x2, some x3, some (.dat (.lst (sps.map spD))), some (.int day), some (.int (cur + paySum (payL sps day))), a7, a8, a9] c) {xs : List Dat} {c0 : Cells} {a7 a8 a9 : Option Vl} (hx : Rl fin xs ((entR day cur (payL sps day)).map entD ++ R)) :
    w_ent_in Gd fin D xs c0 [some x0, some x1, some x2, some x3, some (.dat (.lst (sps.map spD))), some (.int day), some (.int cur), a7, a8, a9] c0 := by
  unfold w_ent_in
  simp only [GN.wGForG, GN.wGCall]
  walk_at "dl"
  refine ⟨_, _, _, ⟨sps, day, rfl, hp, rfl, rfl, rfl⟩, fun j xs c0 ρ cs' => cs' = c0 ∧ Rl fin xs ((entR day (cur + paySum ((payL sps day).take j)) ((payL sps day).drop j)).map entD ++ R) ∧ ∃ a7 a8 a9, ρ = [some x0, some x1, some x2, some x3, some (.dat (.lst (sps.map spD))), some (.int day), some (.int (cur + paySum ((payL sps day).take j))), a7, a8, a9], ⟨rfl, ?_, a7, a8, a9, ?_⟩, fun _ _ _ _ _ _ _ => trivial, ?_, ?_⟩
  · simp only [List.take_zero, List.drop_zero, paySum, List.map_nil, List.sum_nil, Int.add_zero]
    exact hx
  · simp only [List.take_zero, paySum, List.map_nil, List.sum_nil, Int.add_zero]
  · rintro j d xs c1 ρ cs' hd ⟨rfl, hr, a7, a8, a9, rfl⟩
    rw [List.getElem?_map] at hd
    obtain ⟨⟨k, i, a⟩, hpj, rfl⟩ := Option.map_eq_some_iff.mp hd
    have hdr : (payL sps day).drop j = (k, i, a) :: (payL sps day).drop (j + 1) := drop_cons hpj
    have hsum : paySum ((payL sps day).take (j + 1)) = paySum ((payL sps day).take j) + a := by
      unfold paySum
      rw [List.take_succ, hpj, List.map_append, List.sum_append]
      simp
    rw [hdr] at hr
    obtain ⟨r, rfl, hr2⟩ := Rl.cons hr
    simp only [payD, GN.wGY]
    walk_at "dl"
    refine ⟨by decide, fun _ _ h => h, rfl, ?_⟩
    rcases hr2 with z | hr2
    · exact .inl z
    · refine .inr fun c1 _ => ⟨?_, by rw [hsum]; omega⟩
      rw [hsum, ← Int.add_assoc]
      exact hr2
  · rintro xs c1 ρ cs' ⟨rfl, hr, a7, a8, a9, rfl⟩
    rw [List.length_map, List.drop_length] at hr
    refine ⟨rfl, ?_⟩
    rw [List.length_map, List.take_of_length_le (Nat.le_refl _)]
    exact h _ _ _ _ _ hr
theorem ent_wh {Gd : Cells → Prop} {fin : GN.GEnd} {D : GDs} {x0 x1 x2 : Vl} {sps : List Span} {day cur l : Int} (hp : ∀ s ∈ sps, ∀ o ∈ s.2.2.2, 0 < o.1)
    (h : fin = .done → ∀ c ρ, D.nx [] c ρ c) {xs : List Dat} {c0 : Cells} {a7 a8 a9 : Option Vl} (hx : Rl fin xs ((entF sps (l + 1 - day).toNat day cur).map entD)) :
    w_ent_wh Gd fin D xs c0 [some x0, some x1, some x2, some (lastOf fin l), some (.dat (.lst (sps.map spD))), some (.int day), some (.int cur), a7, a8, a9] c0 := by
  unfold w_ent_wh
  simp only [GN.wGWhile]
  refine ⟨fun n xs c0 ρ cs' => cs' = c0 ∧ ∃ day cur a7 a8 a9, n = (l + 1 - day).toNat ∧ Rl fin xs ((entF sps n day cur).map entD) ∧ ρ = [some x0, some x1, some x2, some (lastOf fin l), some (.dat (.lst (sps.map spD))), some (.int day), some (.int cur), a7, a8, a9], ⟨_, rfl, day, cur, a7, a8, a9, rfl, hx, rfl⟩, ?_⟩
  rintro n xs c0 ρ cs' ⟨rfl, day, cur, a7, a8, a9, rfl, hx, rfl⟩
  have go : day ≤ l → ∀ D' : GDs, (∀ xs' c a7 a8 a9, Rl fin xs' ((entF sps (l + 1 - (day + 1)).toNat (day + 1) (cur + paySum (payL sps day))).map entD) → D'.nx xs' c [some x0, some x1, some x2, some (lastOf fin l), some (.dat (.lst (sps.map spD))), some (.int day), some (.int (cur + paySum (payL sps day))), a7, a8, a9] c) → w_ent_in Gd fin D' xs cs' [some x0, some x1, some x2, some (lastOf fin l), some (.dat (.lst (sps.map spD))), some (.int day), some (.int cur), a7, a8, a9] cs' := by
    intro hd D' hD
    have hm : (l + 1 - day).toNat = (l + 1 - (day + 1)).toNat + 1 := by omega
    rw [hm, entF, List.map_append] at hx
    exact ent_in hp hD hx
  have hstop : ¬ day ≤ l → xs = [] ∧ fin = .done := fun hd => by
    rw [show (l + 1 - day).toNat = 0 by omega, entF, List.map_nil] at hx
    exact hx.nil
  cases fin with
  | done =>
    simp only [lastOf]
    walk_at "dl"
    simp only [lastOf] at go
    by_cases hd : day ≤ l
    · rw [if_pos hd]
      refine go hd _ fun xs' c a7 a8 a9 hr => ?_
      walk_at "dl"
      exact ⟨_, by omega, day + 1, rfl, _, hr, rfl, rfl⟩
    · rw [if_neg hd]
      obtain ⟨rfl, _⟩ := hstop hd
      exact h rfl _ _
  | cut =>
    have hd : day ≤ l := by
      apply Decidable.byContradiction
      intro z
      have := (hstop z).2
      cases this
    simp only [lastOf]
    walk_at "dl"
    simp only [lastOf] at go
    refine go hd _ fun xs' c a7 a8 a9 hr => ?_
    walk_at "dl"
    exact ⟨_, by omega, day + 1, rfl, _, hr, rfl, rfl⟩
theorem pure_entries (C : CE) : ∀ xs cs ds fin Gd, sp_entries C xs cs ds fin Gd → (ds = [] ∧ fin = .cut) ∨ ∀ c1, Gd c1 → w_entries C Gd fin (GN.genE fin) ds c1 (startD 10 xs) c1 := by
  rintro xs cs ds fin Gd ⟨ps, phs, op, f, l, rfl, hc, hp, ha, rfl, hr⟩
  rcases hr with z | hr
  · exact .inl z
  refine .inr fun c1 hT => ?_
  unfold w_entries
  simp only [planD]
  walk_at "dl"
  refine ⟨ps, phs, rfl, hc, hp, ?_⟩
  refine ⟨phs, rfl, by have := hp.2.1; omega, ?_⟩
  walk_at "dl"
  refine ⟨ps, phs, op, f - 1, rfl, hp.sm hc ha, hT, ?_⟩
  walk_at "dl"
  refine ent_wh (fun s hs o ho => ?_) (fun hf c ρ => ?_) hr
  · obtain ⟨p, hpm, _, e⟩ := spansF_mem hs
    rw [e] at ho
    exact ((hp.sm hc ha).2 p hpm).2 o ho |>.1
  · walk_at "dl"
    exact ⟨rfl, hf, fun _ _ h => h⟩
end DL
set_option maxRecDepth 100000
set_option maxHeartbeats 4000000
namespace DL
open PySem L2 GT
local macro_rules | `(tactic| walk_at "dl") => `(tactic| simp only [wGSeq, wGIf, wGP, wG0, GDs.at, wFld, wSetF, wMeth, wMake, wGMeth, wGCall, wDNewK, wDNewT, CO.ins.injEq, CO.dk.injEq, CO.dt.injEq, Cells.put_put, wRet, wRetN, wSeq, wAsg, wIfS, wDrop, wNext, wVar, wC, wOp, wUn, wFn, wNil, wCons, wTest, wNot, wAnd, wOr, wAndV, wOrV, wNotV, wIf, wChain, wTup, wLst, wCall, wNever, gN, gT, gNil, gCons, gIx, wI, wI0, wNeg, wMax2, wMin2, wLen, wIsN, wNotN, isNon_non, isNon_bl, isNon_int, isNon_str, isNon_lst, isNon_tup, isNon_cell, wIx, wTuple, wAug, wAugIx, wPar, wPar3, wSlL, wSlT, wPart, wNoPart, wCatT, wIsi, wIsi2, isiT, tyD_non, tyD_bl, tyD_int, tyD_str, tyD_lst, tyD_tup, tyD_cell, coTy_lst, seqD_lst, seqD_tp, seqD_cell, coSeq_lst, seen_dat, seen_cell, coDat_lst, startD, wYes, wApp, wEq_int, wEq_bl, allDat_nil, allDat_cons, allDat_map, Option.map_some, List.map_cons, List.map_nil, List.cons_append, List.nil_append, List.length_cons, List.length_nil, List.replicate, List.getElem?_cons_zero, List.getElem?_cons_succ, List.set_cons_zero, List.set_cons_succ, Option.some.injEq, exists_eq_left', exists_eq_left, exists_and_left, exists_eq', exists_eq, Vl.dat.injEq, Vl.raw.injEq, V.ref.injEq, CO.lst.injEq, Dat.int.injEq, Dat.bl.injEq, Dat.tup.injEq, Dat.lst.injEq, List.cons.injEq, and_true, true_and, retE, Nat.reduceAdd, Nat.reduceSub, and_assoc, Prod.mk.injEq, if_true, if_false, Bool.false_eq_true, decide_eq_true_eq, Bool.not_true, Bool.not_false, Bool.not_eq_true', decide_eq_false_iff_not, if_false_left, if_false_right, beq_iff_eq, Bool.or_eq_true, Bool.and_eq_true, Bool.or_self, Bool.or_true, Bool.true_or, Bool.or_false, Bool.false_or, decide_true, decide_false, reduceCtorEq, Cells.put_same, gt_iff_lt, ge_iff_le, beq_self_eq_true, bne_self_eq_false, Bool.decide_eq_true, not_true_eq_false, not_false_eq_true, Decidable.not_not, false_and, and_false, Bool.not_eq_false, at_0, at_1, at_2, at_3, at_4, at_5, ix_0, ix_1, ix_2, ix_3, Nat.reduceLT, Int.reduceLT, Int.reduceLE, Int.reduceNeg, Int.reduceAdd, Int.reduceSub, Int.reduceEq, Int.reducePow, Int.reduceToNat, Cells.put_put])

/-! ### _law_plan -/
def PhsDr (ps : List Int) (m : Int) (phs : List Ph) : Prop := phs.Pairwise (fun p q => p.1 < q.1) ∧ ∀ p ∈ phs, OrdsOk ps p.2 ∧ p.2.length ≤ 4 ∧ (∀ o ∈ p.2, -m ≤ o.2.2 ∧ o.2.2 ≤ m) ∧ -20 ≤ p.1 ∧ p.1 ≤ 80
def sp_law_plan : DSp := fun xs cs Q _ => ∃ (a : Addr) (n m : Int) (c : CO), xs = [.cell a, .int n, .int m] ∧ cs a = some c ∧ DrSt c ∧ 1 ≤ n ∧ n ≤ 400 ∧ 0 < m ∧ m ≤ 1000000000000000000 ∧
  ∀ ps phs c', CalOk ps → (∀ p ∈ ps, p ≤ max 3 n) → 1 ≤ phs.length → phs.length ≤ 3 → PhsDr ps m phs → DrSt c' → Q (.dat (planD ps phs)) (cs.put a c')
theorem len_law_plan : ∀ xs cs Q XP, sp_law_plan xs cs Q XP → xs.length = 3 := by rintro xs cs Q XP ⟨_, _, _, _, rfl, _⟩; rfl
def w_law_plan : WS := (wSeq (wPar 3 4 (wCons (wCall sp_law_calendar (wCons (wVar 0) (wCons (wVar 1) wNil))) (wCons (wOp wSub (wCall sp_law_drawn (wCons (wVar 0) (wCons (wC (.int 40)) wNil))) (wC (.int 20))) wNil)))
    (wSeq (wAsg (wLst wNil) (gN 5))
    (wSeq (wFor (wiRng1 (wCons (wOp wAdd (wC (.int 1)) (wCall sp_law_drawn (wCons (wVar 0) (wCons (wC (.int 3)) wNil)))) wNil)) (gN 6) (wSeq (wDrop (wApp (wVar 5) (wTup (wCons (wVar 4) (wCons (wFn wTuple (wCons (wCall sp_law_orders (wCons (wVar 0) (wCons (wVar 3) (wCons (wC (.int 4)) (wCons (wVar 2) wNil))))) wNil)) wNil)))))
    (wAsg (wOp wAdd (wOp wAdd (wVar 4) (wC (.int 1))) (wCall sp_law_drawn (wCons (wVar 0) (wCons (wOp wIx (wLst (wCons (wC (.int 3)) (wCons (wC (.int 30)) wNil))) (wCall sp_law_drawn (wCons (wVar 0) (wCons (wC (.int 2)) wNil)))) wNil)))) (gN 4))))
    (wRet (wTup (wCons (wVar 3) (wCons (wFn wTuple (wCons (wVar 5) wNil)) wNil)))))))
theorem pure_law_plan (K : Frag) : ∀ xs cs Q XP, sp_law_plan xs cs Q XP → w_law_plan (retE K Q) (startD 7 xs) cs := by
  rintro xs cs Q XP ⟨a, n, m, c, rfl, hc, hD, hn1, hn2, hm1, hm2, q⟩
  unfold w_law_plan
  walk_at "dl"
  refine ⟨a, n, c, rfl, hc, hD, hn1, hn2, fun ps c1 hcal hpm _ hD1 => ?_⟩
  refine ⟨a, 40, c1, rfl, Cells.put_same, hD1, by decide, by decide, fun s c2 hs0 hs1 hD2 => ?_⟩
  walk_at "dl"
  refine ⟨by decide, .inl fun p hp => ?_⟩
  have hpa : p ≠ a := by
    intro z; rw [z, Cells.put_same] at hp; cases hp
  have hp0 : cs p = none := by rwa [Cells.put_ne hpa] at hp
  simp only [wFor, wiRng1]
  walk_at "dl"
  refine ⟨a, 3, c2, rfl, by rw [Cells.put_ne hpa.symm, Cells.put_same], hD2, by decide, by decide, fun k c3 hk0 hk1 hD3 => ?_⟩
  walk_at "dl"
  refine ⟨by omega, by omega, fun i ρ cs' => ∃ phs c' st a6, cs' = (cs.put a c').put p (.lst ((phs.map phD).map .dat)) ∧ DrSt c' ∧ phs.length = i ∧ PhsDr ps m phs ∧ (∀ p ∈ phs, p.1 < st) ∧ -20 ≤ st ∧ st ≤ 19 + 30 * (i : Int) ∧ ρ = [some (.cell a), some (.int n), some (.int m), some (.dat (cal ps)), some (.int st), some (.cell p), a6], ?_, fun _ _ _ _ _ => trivial, ?_, ?_⟩
  · refine ⟨[], c3, s - 20, _, ?_, hD3, rfl, ⟨.nil, fun p hp => by cases hp⟩, fun p hp => (by cases hp), by omega, by omega, rfl⟩
    rw [Cells.put_comm hpa, Cells.put_put]; rfl
  · rintro i x ρ cs' hx ⟨phs, c', st, a6, rfl, hD', hl, hdr, hlt, h1, h2, rfl⟩
    obtain ⟨hi, rfl⟩ := rangeD_at hx
    walk_at "dl"
    refine ⟨a, ps, 4, m, c', rfl, by rw [Cells.put_ne hpa.symm, Cells.put_same], hD', hcal, by decide, by decide, hm1, by omega, fun os c4 ho hb hol hD4 => ?_⟩
    rw [Cells.put_comm hpa, Cells.put_put]
    walk_at "dl"
    refine ⟨by decide, by simp; omega, by decide, .inr ⟨_, rfl, ?_⟩⟩
    have hpa2 : ∀ c5 V, (((cs.put a c4).put p V).put a c5) = (cs.put a c5).put p V := fun c5 V => by rw [Cells.put_comm hpa, Cells.put_put]
    refine ⟨a, 2, c4, rfl, by rw [Cells.put_ne hpa.symm, Cells.put_same], hD4, by decide, by decide, fun u c5 hu0 hu1 hD5 => ?_⟩
    rw [hpa2]
    have fin : ∀ v : Int, 3 ≤ v → v ≤ 30 → sp_law_drawn [Vl.cell a, .int v] ((cs.put a c5).put p (.lst (List.map Vl.dat (List.map phD phs) ++ [Vl.dat (Dat.tup [Dat.int st, Dat.tup (ordsD os)])])))
        (fun y cs2 => ∃ x, y = Vl.dat (Dat.int x) ∧ ∃ phs c', cs2 = (cs.put a c').put p (CO.lst (List.map Vl.dat (List.map phD phs))) ∧ DrSt c' ∧ phs.length = i + 1 ∧ PhsDr ps m phs ∧ ∃ x_2, (∀ p ∈ phs, p.1 < x_2) ∧ -20 ≤ x_2 ∧ x_2 ≤ 19 + 30 * ((i + 1 : Nat) : Int) ∧ st + 1 + x = x_2) X0 := by
      intro v hv1 hv2
      refine ⟨a, v, c5, rfl, by rw [Cells.put_ne hpa.symm, Cells.put_same], hD5, by omega, by omega, fun w c6 hw0 hw1 hD6 => ⟨w, rfl, phs ++ [(st, os)], c6, ?_, hD6, by simp [hl], ⟨?_, ?_⟩, st + 1 + w, ?_, by omega, by omega, rfl⟩⟩
      · rw [Cells.put_comm hpa, Cells.put_put]
        simp [phD]
      · rw [List.pairwise_append]
        exact ⟨hdr.1, List.pairwise_singleton .., fun x hx y hy => by rw [List.mem_singleton.mp hy]; exact hlt x hx⟩
      · intro ph hph
        rcases List.mem_append.mp hph with z | z
        · exact hdr.2 ph z
        · rw [List.mem_singleton.mp z]
          have : i < 3 := by omega
          exact ⟨ho, by show os.length ≤ 4; omega, hb, h1, by show st ≤ 80; omega⟩
      · intro ph hph
        rcases List.mem_append.mp hph with z | z
        · have := hlt ph z; omega
        · rw [List.mem_singleton.mp z]; show st < _; omega
    walk_at "dl"
    obtain rfl | rfl : u = 0 ∨ u = 1 := by omega
    · walk_at "dl"
      exact fin 3 (by decide) (by decide)
    · walk_at "dl"
      exact fin 30 (by decide) (by decide)
  · rintro ρ cs' ⟨phs, c', st, a6, rfl, hD', hl, hdr, hlt, h1, h2, rfl⟩
    rw [rangeD_len] at hl
    walk_at "dl"
    refine ⟨by decide, .drop (SubC.put (by rw [Cells.put_ne hpa]; exact hp0)) (q ps phs c' hcal hpm (by omega) (by omega) hdr hD')⟩
/-! ### _law_orders_on, _law_payments -/
def sp_law_orders_on : DSp := fun xs cs Q _ => ∃ (ps : List Int) (phs : List Ph) (day : Int), xs = [.dat (planD ps phs), .int day] ∧ phs.length ≤ 1000 ∧ Q (.dat (.tup [.int (onF day 0 (-1, []) phs).1, .tup (ordsD (onF day 0 (-1, []) phs).2)])) cs
theorem len_law_orders_on : ∀ xs cs Q XP, sp_law_orders_on xs cs Q XP → xs.length = 2 := by rintro xs cs Q XP ⟨_, _, _, rfl, _⟩; rfl
def w_law_orders_on : WS := (wSeq (wAsg (wTup (wCons (wOp wSub (wC (.int 0)) (wC (.int 1))) (wCons (wTup wNil) wNil))) (gN 2))
    (wSeq (wFor (wiRng1 (wCons (wFn wLen (wCons (wOp wIx (wVar 0) (wC (.int 1))) wNil)) wNil)) (gN 3) (wIfS (wTest (wOp wLe (wOp wIx (wOp wIx (wOp wIx (wVar 0) (wC (.int 1))) (wVar 3)) (wC (.int 0))) (wVar 1))) (wAsg (wTup (wCons (wVar 3) (wCons (wOp wIx (wOp wIx (wOp wIx (wVar 0) (wC (.int 1))) (wVar 3)) (wC (.int 1))) wNil))) (gN 2)) wNext))
    (wRet (wVar 2))))
theorem onF_snoc {day : Int} : ∀ {phs : List Ph} {k : Int} {acc : Int × List Ord} {p : Ph}, onF day k acc (phs ++ [p]) = if p.1 ≤ day then (k + phs.length, p.2) else onF day k acc phs
  | [], k, acc, (s, os) => by simp [onF]
  | (s, os) :: r, k, acc, p => by
    rw [List.cons_append, onF, onF, onF_snoc]
    have : k + 1 + (r.length : Int) = k + ((s, os) :: r).length := by rw [List.length_cons]; omega
    rw [this]
theorem pure_law_orders_on (K : Frag) : ∀ xs cs Q XP, sp_law_orders_on xs cs Q XP → w_law_orders_on (retE K Q) (startD 4 xs) cs := by
  rintro xs cs Q XP ⟨ps, phs, day, rfl, hl, q⟩
  unfold w_law_orders_on
  simp only [planD, phsD]
  walk_at "dl"
  refine ⟨by decide, by decide, ?_⟩
  simp only [wFor, wiRng1]
  walk_at "dl"
  refine ⟨by omega, by simp; omega, fun i ρ cs' => cs' = cs ∧ ∃ a3, ρ = [some (.dat (.tup [cal ps, .tup (phs.map phD)])), some (.int day), some (.dat (.tup [.int (onF day 0 (-1, []) (phs.take i)).1, .tup (ordsD (onF day 0 (-1, []) (phs.take i)).2)])), a3], ⟨rfl, _, rfl⟩, fun _ _ _ _ _ => trivial, ?_, ?_⟩
  · rintro i x ρ cs' hx ⟨rfl, a3, rfl⟩
    obtain ⟨hi, rfl⟩ := rangeD_at hx
    simp at hi
    obtain ⟨⟨s, os⟩, hp⟩ : ∃ p, phs[i]? = some p := ⟨phs[i], List.getElem?_eq_getElem hi⟩
    have htk : phs.take (i + 1) = phs.take i ++ [(s, os)] := by rw [List.take_succ, hp]; rfl
    have hat : atI ((phs.map phD).map Vl.dat) (0 + (i : Int) * 1) = some (.dat (phD (s, os))) := by
      rw [show 0 + (i : Int) * 1 = (i : Nat) by omega]
      refine at_nat ?_
      rw [List.getElem?_map, List.getElem?_map, hp]; rfl
    have hle : (phs.take i).length = i := by rw [List.length_take]; omega
    walk_at "dl"
    refine ⟨_, hat, ?_⟩
    simp only [phD]
    walk_at "dl"
    rw [htk, onF_snoc, hle]
    by_cases hsd : s ≤ day
    · rw [if_pos hsd]
      refine ⟨_, hat, ?_⟩
      simp only [phD]
      walk_at "dl"
      refine ⟨by decide, ?_⟩
      rw [if_pos (show (s, os).1 ≤ day from hsd)]
      exact ⟨by omega, rfl⟩
    · rw [if_neg hsd, if_neg (show ¬ (s, os).1 ≤ day from hsd)]
      exact ⟨rfl, rfl⟩
  · rintro ρ cs' ⟨rfl, a3, rfl⟩
    rw [rangeD_len, List.take_of_length_le (by simp)]
    walk_at "dl"
    exact .now q
def sp_law_payments : DSp := fun xs cs Q _ => ∃ (ps : List Int) (phs : List Ph) (day : Int), xs = [.dat (planD ps phs), .int day] ∧ PhsSm phs ∧ Q (.dat (.lst ((lawPay phs day).map payD))) cs
theorem len_law_payments : ∀ xs cs Q XP, sp_law_payments xs cs Q XP → xs.length = 2 := by rintro xs cs Q XP ⟨_, _, _, rfl, _⟩; rfl
def w_law_payments : WS := (wSeq (wAsg (wCall sp_law_orders_on (wCons (wVar 0) (wCons (wVar 1) wNil))) (gT 2 (gCons (gN 2) (gCons (gN 3) gNil))))
    (wSeq (wAsg (wLst wNil) (gN 4))
    (wSeq (wFor (wiRng1 (wCons (wFn wLen (wCons (wVar 3) wNil)) wNil)) (gN 5) (wSeq (wAsg (wOp wIx (wVar 3) (wVar 5)) (gT 3 (gCons (gN 6) (gCons (gN 7) (gCons (gN 8) gNil)))))
    (wIfS (wTest (wOp (wEqD false) (wOp wMod (wVar 1) (wVar 6)) (wVar 7))) (wDrop (wApp (wVar 4) (wTup (wCons (wVar 2) (wCons (wVar 5) (wCons (wVar 8) wNil)))))) wNext)))
    (wRet (wVar 4)))))
theorem onF_sm {day : Int} : ∀ {phs : List Ph} {k : Int} {acc : Int × List Ord}, (∀ p ∈ phs, p.2.length ≤ 60 ∧ ∀ o ∈ p.2, 0 < o.1 ∧ o.1 ≤ 400 ∧ -18446744073709551616 < o.2.2 ∧ o.2.2 < 18446744073709551616) → (acc.2.length ≤ 60 ∧ ∀ o ∈ acc.2, 0 < o.1) → (onF day k acc phs).2.length ≤ 60 ∧ ∀ o ∈ (onF day k acc phs).2, 0 < o.1
  | [], _, _, _, h => h
  | (s, os) :: r, k, acc, hp, h => by
    rw [onF]
    refine onF_sm (fun p hq => hp p (List.mem_cons_of_mem _ hq)) ?_
    split
    · have := hp (s, os) List.mem_cons_self
      exact ⟨this.1, fun o ho => (this.2 o ho).1⟩
    · exact h
theorem duesC_add {k f day : Int} {l : Option Int} {os : List Ord} {i : Nat} {o : Ord} (h : os[i]? = some o) : (cellsF k f l 0 (os.take (i + 1))).filterMap (duesC day) = (cellsF k f l 0 (os.take i)).filterMap (duesC day) ++ (duesC day ⟨k, i, f, l, o⟩).toList := by
  have hlt := (List.getElem?_eq_some_iff.mp h).1
  rw [List.take_succ, h, cellsF_app, List.filterMap_append]
  congr 1
  have : (0 : Int) + ((os.take i).length : Nat) = (i : Int) := by rw [List.length_take]; omega
  rw [this]
  show (cellsF k f l (i : Int) [o]).filterMap (duesC day) = _
  rw [cellsF, cellsF, List.filterMap_cons, List.filterMap_nil]
  cases duesC day ⟨k, i, f, l, o⟩ <;> rfl
theorem pure_law_payments (K : Frag) : ∀ xs cs Q XP, sp_law_payments xs cs Q XP → w_law_payments (retE K Q) (startD 9 xs) cs := by
  rintro xs cs Q XP ⟨ps, phs, day, rfl, hs, q⟩
  unfold w_law_payments
  walk_at "dl"
  refine ⟨ps, phs, day, rfl, by have := hs.1; omega, ?_⟩
  obtain ⟨ho1, ho2⟩ := onF_sm (day := day) (k := 0) (acc := (-1, [])) hs.2 ⟨by simp, fun o h => by cases h⟩
  have hq : lawPay phs day = (cellsF (onF day 0 (-1, []) phs).1 0 none 0 (onF day 0 (-1, []) phs).2).filterMap (duesC day) := rfl
  rw [hq] at q
  generalize (onF day 0 (-1, []) phs).1 = k at *
  generalize (onF day 0 (-1, []) phs).2 = os at *
  walk_at "dl"
  refine ⟨by decide, .inl fun p hp => ?_⟩
  simp only [wFor, wiRng1]
  walk_at "dl"
  refine ⟨by omega, by simp [ordsD]; omega, fun i ρ cs' => cs' = cs.put p (.lst (((cellsF k 0 none 0 (os.take i)).filterMap (duesC day)).map fun p => Vl.dat (payD p))) ∧ ∃ a5 a6 a7 a8, ρ = [some (.dat (planD ps phs)), some (.int day), some (.int k), some (.dat (.tup (ordsD os))), some (.cell p), a5, a6, a7, a8], ⟨by simp [cellsF], _, _, _, _, rfl⟩, fun _ _ _ _ _ => trivial, ?_, ?_⟩
  · rintro i x ρ cs' hx ⟨rfl, a5, a6, a7, a8, rfl⟩
    obtain ⟨hi, rfl⟩ := rangeD_at hx
    simp [ordsD] at hi
    obtain ⟨⟨pp, rr, aa⟩, hoi⟩ : ∃ o, os[i]? = some o := ⟨os[i], List.getElem?_eq_getElem hi⟩
    have hp0 := ho2 _ (List.mem_of_getElem? hoi)
    simp only at hp0
    have hat : atI ((ordsD os).map Vl.dat) (0 + (i : Int) * 1) = some (.dat (ord (pp, rr, aa))) := by
      rw [show 0 + (i : Int) * 1 = (i : Nat) by omega]
      refine at_nat ?_
      unfold ordsD
      rw [List.getElem?_map, List.getElem?_map, hoi]; rfl
    have hadd := duesC_add (k := k) (f := 0) (l := none) (day := day) hoi
    have hlen := filterMap_len (duesC day) (cellsF k 0 none 0 (os.take i))
    rw [cellsF_len, List.length_take] at hlen
    walk_at "dl"
    refine ⟨_, hat, ?_⟩
    simp only [ord]
    walk_at "dl"
    rw [hadd]
    have hd : duesC day ⟨k, i, 0, none, pp, rr, aa⟩ = if day % pp = rr then some (k, (i : Int), aa) else none := rfl
    rw [hd]
    generalize (cellsF k 0 none 0 (os.take i)).filterMap (duesC day) = L at *
    refine ⟨hp0, ?_⟩
    by_cases hz : day % pp = rr
    · rw [if_pos hz, if_pos hz]
      refine ⟨by decide, by rw [List.length_map]; omega, ?_⟩
      rw [List.map_append, show 0 + (i : Int) * 1 = i by omega]
      rfl
    · rw [if_neg hz, if_neg hz]
      show _ = cs.put p (.lst (List.map _ (L ++ [])))
      rw [List.append_nil]
  · rintro ρ cs' ⟨rfl, a5, a6, a7, a8, rfl⟩
    rw [rangeD_len, List.take_of_length_le (by simp [ordsD])]
    walk_at "dl"
    refine ⟨_, _, Gh.frz (ds := ((cellsF k 0 none 0 os).filterMap (duesC day)).map payD) (by rw [Cells.put_same, List.map_map]; rfl), ?_⟩
    rw [Cells.del_put hp]
    exact q
/-! ### _law_balances -/
def PlOk (ps : List Int) (phs : List Ph) : Prop := CalOk ps ∧ PhsOk ps phs ∧ AmtOk phs
theorem PlOk.res {ps : List Int} {phs : List Ph} (h : PlOk ps phs) : ∀ p ∈ phs, ∀ o ∈ p.2, 0 < o.1 ∧ 0 ≤ o.2.1 ∧ o.2.1 < o.1 := fun p hp o ho => by
  have := ordB_iff.mp ((h.2.1.2.2.2 p hp).1 o ho)
  exact ⟨((cal_cyc h.1).per _ this.1).1, this.2.1, this.2.2.1⟩
theorem PlOk.pay {ps : List Int} {phs : List Ph} (h : PlOk ps phs) (day : Int) : payL (spansF 0 phs) day = lawPay phs day := pay_eq (ps := ps) h.2.1.2.2.1 h.res
theorem PlOk.step {ps : List Int} {phs : List Ph} (h : PlOk ps phs) (op day : Int) : balAt phs op day = balAt phs op (day - 1) + paySum (lawPay phs day) := by
  rw [← h.pay, bal_step fun c hc => ?_]
  · rfl
  · obtain ⟨p, hp, _, ho⟩ := cellsL_mem hc
    exact (h.res p hp c.o ho).1
theorem PlOk.before {ps : List Int} {phs : List Ph} (h : PlOk ps phs) {s : Int} {os : List Ord} {r : List Ph} (e : phs = (s, os) :: r) (op : Int) {day : Int} (hd : day < s) : balAt phs op day = op := by
  refine bal_before fun c hc => ?_
  obtain ⟨p, hp, e1, _⟩ := cellsL_mem hc
  rw [e1]
  have hw := h.2.1.2.2.1
  subst e
  rcases List.mem_cons.mp hp with z | z
  · rw [z]; exact hd
  · have := (List.pairwise_cons.mp hw).1 p z
    have : s < p.1 := this
    omega
def balK (phs : List Ph) (op lo : Int) (n : Nat) : List (Key × Vl) := (List.range n).map fun (i : Nat) => (Sum.inl (lo + (i : Int)), .int (balAt phs op (lo + (i : Int))))
def sp_law_balances : DSp := fun xs cs Q _ => ∃ (ps : List Int) (s : Int) (os : List Ord) (r : List Ph) (op last : Int), xs = [.dat (planD ps ((s, os) :: r)), .int op, .int last] ∧ PlOk ps ((s, os) :: r) ∧ -1000 ≤ s ∧ s ≤ 1000 ∧ -10000 ≤ last ∧ last ≤ 10000 ∧
  ∀ p, cs p = none → Q (.cell p) (cs.put p (.dk (balK ((s, os) :: r) op (s - 2) (last + 1 - (s - 2)).toNat)))
theorem len_law_balances : ∀ xs cs Q XP, sp_law_balances xs cs Q XP → xs.length = 3 := by rintro xs cs Q XP ⟨_, _, _, _, _, _, rfl, _⟩; rfl
def w_bal_sum : WE := (wFn wSum (wCons (wLc (wiSeq (wCall sp_law_payments (wCons (wVar 0) (wCons (wVar 6) wNil)))) (gN 7) wYes (wOp wIx (wVar 7) (wC (.int 2))) [7]) wNil))
def w_law_balances : WS := (wSeq (wPar 3 4 (wCons (wOp wIx (wOp wIx (wOp wIx (wVar 0) (wC (.int 1))) (wC (.int 0))) (wC (.int 0))) (wCons wDNewK wNil)))
    (wSeq (wAsg (wVar 1) (gN 5))
    (wSeq (wFor (wiRng2 (wCons (wOp wSub (wVar 3) (wC (.int 2))) (wCons (wOp wAdd (wVar 2) (wC (.int 1))) wNil))) (gN 6) (wSeq (wAsg (wOp wAdd (wVar 5) w_bal_sum) (gN 5))
    (wDPut (wVar 4) (wVar 6) (wVar 5))))
    (wRet (wVar 4)))))
theorem lawPay_len {phs : List Ph} {day : Int} (hs : PhsSm phs) : (lawPay phs day).length ≤ 60 := by
  have h1 := (onF_sm (day := day) (k := 0) (acc := (-1, [])) hs.2 ⟨by simp, fun o h => by cases h⟩).1
  have h2 := filterMap_len (duesC day) (cellsF (onF day 0 (-1, []) phs).1 0 none 0 (onF day 0 (-1, []) phs).2)
  rw [cellsF_len] at h2
  exact Nat.le_trans h2 h1
theorem bal_sum {ps : List Int} {phs : List Ph} {day : Int} {x1 x2 x3 x4 x5 x7 : Option Vl} {cs : Cells} {P : Vl → Cells → Prop} (hs : PhsSm phs) (h : P (.int (paySum (lawPay phs day))) cs) :
    w_bal_sum [some (.dat (planD ps phs)), x1, x2, x3, x4, x5, some (.int day), x7] cs P := by
  unfold w_bal_sum
  walk_at "dl"
  simp only [wLc, wiSeq]
  walk_at "dl"
  refine ⟨ps, phs, day, rfl, hs, ?_⟩
  walk_at "dl"
  intro D hD
  refine ⟨fun i cs' => cs' = cs.put D (.lst (((lawPay phs day).take i).map fun p => Vl.int p.2.2)), by simp, fun _ _ _ _ => trivial, ?_, ?_⟩
  · rintro i x cs' hx rfl
    rw [List.getElem?_map, List.getElem?_map] at hx
    obtain ⟨d0, hd0, rfl⟩ := Option.map_eq_some_iff.mp hx
    obtain ⟨⟨k, j, a⟩, hp, rfl⟩ := Option.map_eq_some_iff.mp hd0
    simp only [wipeD, payD]
    walk_at "dl"
    have hl := lawPay_len (day := day) hs
    refine ⟨by rw [List.length_map, List.length_take]; omega, ?_⟩
    rw [List.take_succ, hp, List.map_append]
    rfl
  · rintro cs' rfl
    refine ⟨_, Cells.put_same, .inr ⟨((lawPay phs day).map fun p : Pay => Dat.int p.2.2), ?_, ?_⟩⟩
    · simp only [List.length_map]
      rw [List.take_of_length_le (Nat.le_refl _)]
      have : (lawPay phs day).map (fun p => Vl.int p.2.2) = ((lawPay phs day).map fun p : Pay => Dat.int p.2.2).map .dat := by rw [List.map_map]; rfl
      rw [this, allDat_map]
    · rw [Cells.del_put hD]
      simp only [wSum]
      refine ⟨_, (lawPay phs day).map fun p : Pay => p.2.2, rfl, ?_, h⟩
      show some (true, _) = some (true, _)
      rw [List.map_map, List.map_map]
      rfl
theorem putD_new {kvs : List (Key × Vl)} {k : Key} {v : Vl} (h : ∀ p ∈ kvs, p.1 ≠ k) : putD kvs k v = kvs ++ [(k, v)] := by
  unfold putD
  rw [if_neg]
  intro z
  rw [List.any_eq_true] at z
  obtain ⟨p, hp, e⟩ := z
  exact h p hp (of_decide_eq_true e)
theorem pure_law_balances (K : Frag) : ∀ xs cs Q XP, sp_law_balances xs cs Q XP → w_law_balances (retE K Q) (startD 8 xs) cs := by
  rintro xs cs Q XP ⟨ps, s, os, r, op, last, rfl, hP, hs1, hs2, hl1, hl2, q⟩
  have hsm := hP.2.1.sm hP.1 hP.2.2
  have hbef := fun {day : Int} (h : day < s) => hP.before rfl op (day := day) h
  have hstep := hP.step op
  generalize hph : (s, os) :: r = phs at *
  unfold w_law_balances
  simp only [planD, phsD]
  walk_at "dl"
  refine ⟨.dat (phD (s, os)), ?_, ?_⟩
  · rw [← hph]; exact at_0
  simp only [phD]
  walk_at "dl"
  intro p hp
  simp only [wFor, wiRng2]
  walk_at "dl"
  refine ⟨by omega, by omega, by omega, by omega, fun i ρ cs' => cs' = cs.put p (.dk (balK phs op (s - 2) i)) ∧ ∃ a6 a7, ρ = [some (.dat (planD ps phs)), some (.int op), some (.int last), some (.int s), some (.cell p), some (.int (balAt phs op (s - 2 + (i : Int) - 1))), a6, a7], ⟨rfl, none, none, ?_⟩, fun _ _ _ _ _ => trivial, ?_, ?_⟩
  · rw [hbef (by omega)]; rfl
  · rintro i x ρ cs' hx ⟨rfl, a6, a7, rfl⟩
    obtain ⟨hi, rfl⟩ := rangeD_at hx
    walk_at "dl"
    refine bal_sum hsm ?_
    walk_at "dl"
    simp only [wDPut]
    walk_at "dl"
    have e1 : s - 2 + (i : Int) * 1 = s - 2 + (i : Int) := by omega
    have e2 : s - 2 + ((i + 1 : Nat) : Int) - 1 = s - 2 + (i : Int) := by omega
    rw [e1, e2, ← hstep]
    refine ⟨_, Sum.inl (s - 2 + (i : Int)), rfl, rfl, by unfold balK; rw [List.length_map, List.length_range]; omega, ?_, rfl⟩
    rw [putD_new]
    · unfold balK
      rw [List.range_succ, List.map_append]
      rfl
    · intro q hq z
      unfold balK at hq
      obtain ⟨i', hi', e⟩ := List.mem_map.mp hq
      rw [List.mem_range] at hi'
      rw [← e] at z
      injection z with z
      omega
  · rintro ρ cs' ⟨rfl, a6, a7, rfl⟩
    rw [rangeD_len]
    walk_at "dl"
    exact .now (q p hp)
/-! ### _law_entries -/
theorem entR_app {day : Int} : ∀ {a b : List Pay} {cur : Int}, entR day cur (a ++ b) = entR day cur a ++ entR day (cur + paySum a) b
  | [], b, cur => by simp [entR, paySum]
  | p :: a, b, cur => by
    rw [List.cons_append, entR, entR, entR_app, List.cons_append]
    have : cur + p.2.2 + paySum a = cur + paySum (p :: a) := by unfold paySum; rw [List.map_cons, List.sum_cons]; omega
    rw [this]
theorem entR_len {day : Int} : ∀ {a : List Pay} {cur : Int}, (entR day cur a).length = a.length
  | [], _ => rfl
  | p :: a, cur => by rw [entR, List.length_cons, entR_len, List.length_cons]
theorem ent_snoc {ps : List Int} {phs : List Ph} (h : PlOk ps phs) (op : Int) : ∀ (n : Nat) (f : Int), entF (spansF 0 phs) (n + 1) f (balAt phs op (f - 1)) = entF (spansF 0 phs) n f (balAt phs op (f - 1)) ++ entR (f + n) (balAt phs op (f + n - 1)) (payL (spansF 0 phs) (f + n))
  | 0, f => by
    rw [entF, entF, entF, List.append_nil, List.nil_append]
    simp
  | n + 1, f => by
    have hs := h.step op f
    rw [← h.pay] at hs
    have e : balAt phs op (f - 1) + paySum (payL (spansF 0 phs) f) = balAt phs op (f + 1 - 1) := by rw [← hs, show f + 1 - 1 = f by omega]
    rw [entF, e, ent_snoc h op n (f + 1), entF, e, ← List.append_assoc]
    congr 2
    · omega
    · congr 1; omega
    · congr 1; omega
theorem entF_len {sps : List Span} {B : Nat} (hB : ∀ day, (payL sps day).length ≤ B) : ∀ {n : Nat} {f cur : Int}, (entF sps n f cur).length ≤ B * n
  | 0, _, _ => by simp [entF]
  | n + 1, f, cur => by
    rw [entF, List.length_append, entR_len]
    have h1 := hB f
    have h2 := entF_len hB (n := n) (f := f + 1) (cur := cur + paySum (payL sps f))
    rw [Nat.mul_succ]
    omega
def sp_law_entries : DSp := fun xs cs Q _ => ∃ (ps : List Int) (s : Int) (os : List Ord) (r : List Ph) (op f l : Int), xs = [.dat (planD ps ((s, os) :: r)), .int op, .int f, .int l] ∧ PlOk ps ((s, os) :: r) ∧ -10000 ≤ s ∧ s ≤ 10000 ∧ -10000 ≤ f ∧ f ≤ 10000 ∧ -10000 ≤ l ∧ l ≤ 10000 ∧ Q (.dat (.lst ((entL ((s, os) :: r) op f l).map entD))) cs
theorem len_law_entries : ∀ xs cs Q XP, sp_law_entries xs cs Q XP → xs.length = 4 := by rintro xs cs Q XP ⟨_, _, _, _, _, _, _, rfl, _⟩; rfl
def w_lent_in : WS := (wFor (wiSeq (wCall sp_law_payments (wCons (wVar 0) (wCons (wVar 7) wNil)))) (gT 3 (gCons (gN 8) (gCons (gN 9) (gCons (gN 10) gNil)))) (wSeq (wAsg (wOp wAdd (wVar 6) (wVar 10)) (gN 6))
    (wIfS (wTest (wOp wGe (wVar 7) (wVar 2))) (wDrop (wApp (wVar 4) (wTup (wCons (wVar 7) (wCons (wVar 8) (wCons (wVar 9) (wCons (wVar 10) (wCons (wVar 6) wNil)))))))) wNext)))
def w_law_entries : WS := (wSeq (wPar 4 5 (wCons (wLst wNil) (wCons (wOp wIx (wOp wIx (wOp wIx (wVar 0) (wC (.int 1))) (wC (.int 0))) (wC (.int 0))) wNil)))
    (wSeq (wAsg (wVar 1) (gN 6))
    (wSeq (wFor (wiRng2 (wCons (wFn wMin2 (wCons (wVar 2) (wCons (wVar 5) wNil))) (wCons (wOp wAdd (wVar 3) (wC (.int 1))) wNil))) (gN 7) w_lent_in)
    (wRet (wVar 4)))))
def entV (l : List Ent) : List Vl := (l.map entD).map .dat
theorem lent_in {D : DEnds} {ps : List Int} {phs : List Ph} {x1 x3 x5 : Option Vl} {f day cur : Int} {p : Addr} {cs : Cells} {V0 : List Vl} {a8 a9 a10 : Option Vl} (hs : PhsSm phs) (hV : V0.length ≤ 10000000)
    (h : ∀ a8 a9 a10, D.nx [some (.dat (planD ps phs)), x1, some (.int f), x3, some (.cell p), x5, some (.int (cur + paySum (lawPay phs day))), some (.int day), a8, a9, a10] (cs.put p (.lst (V0 ++ if f ≤ day then entV (entR day cur (lawPay phs day)) else [])))) :
    w_lent_in D [some (.dat (planD ps phs)), x1, some (.int f), x3, some (.cell p), x5, some (.int cur), some (.int day), a8, a9, a10] (cs.put p (.lst V0)) := by
  unfold w_lent_in
  simp only [wFor, wiSeq]
  walk_at "dl"
  refine ⟨ps, phs, day, rfl, hs, ?_⟩
  walk_at "dl"
  refine ⟨fun j ρ cs' => cs' = cs.put p (.lst (V0 ++ if f ≤ day then entV (entR day cur ((lawPay phs day).take j)) else [])) ∧ ∃ a8 a9 a10, ρ = [some (.dat (planD ps phs)), x1, some (.int f), x3, some (.cell p), x5, some (.int (cur + paySum ((lawPay phs day).take j))), some (.int day), a8, a9, a10], ⟨?_, a8, a9, a10, ?_⟩, fun _ _ _ _ _ => trivial, ?_, ?_⟩
  · simp [entR, entV]
  · simp [paySum]
  · rintro j x ρ cs' hx ⟨rfl, a8, a9, a10, rfl⟩
    rw [List.getElem?_map, List.getElem?_map] at hx
    obtain ⟨d0, hd0, rfl⟩ := Option.map_eq_some_iff.mp hx
    obtain ⟨⟨k, i, a⟩, hpj, rfl⟩ := Option.map_eq_some_iff.mp hd0
    have htk : (lawPay phs day).take (j + 1) = (lawPay phs day).take j ++ [(k, i, a)] := by rw [List.take_succ, hpj]; rfl
    have hsum : paySum ((lawPay phs day).take (j + 1)) = paySum ((lawPay phs day).take j) + a := by
      rw [htk]; unfold paySum; rw [List.map_append, List.sum_append]; simp
    have hl := lawPay_len (day := day) hs
    simp only [payD]
    walk_at "dl"
    rw [htk] at hsum
    rw [htk, entR_app, hsum]
    have hll : (entV (entR day cur ((lawPay phs day).take j))).length ≤ 60 := by
      unfold entV
      rw [List.length_map, List.length_map, entR_len, List.length_take]
      omega
    by_cases hfd : f ≤ day
    · simp only [if_pos hfd]
      refine ⟨by decide, by rw [List.length_append]; omega, ?_, by omega⟩
      unfold entV
      rw [List.map_append, List.map_append, List.append_assoc]
      rfl
    · simp only [if_neg hfd]
      exact ⟨trivial, by omega⟩
  · rintro ρ cs' ⟨rfl, a8, a9, a10, rfl⟩
    simp only [List.length_map]
    rw [List.take_of_length_le (Nat.le_refl _)]
    exact h _ _ _
theorem pure_law_entries (K : Frag) : ∀ xs cs Q XP, sp_law_entries xs cs Q XP → w_law_entries (retE K Q) (startD 11 xs) cs := by
  rintro xs cs Q XP ⟨ps, s, os, r, op, f, l, rfl, hP, hs1, hs2, hf1, hf2, hl1, hl2, q⟩
  have hsm := hP.2.1.sm hP.1 hP.2.2
  have hbef := fun {day : Int} (h : day < s) => hP.before rfl op (day := day) h
  have hstep := hP.step op
  have hsn := ent_snoc hP op
  have hpay := hP.pay
  have hlen : ∀ n f cur, (entF (spansF 0 ((s, os) :: r)) n f cur).length ≤ 60 * n := fun n f cur => entF_len (fun day => by rw [hpay]; exact lawPay_len hsm)
  unfold entL at q
  generalize hph : (s, os) :: r = phs at *
  unfold w_law_entries
  simp only [planD, phsD]
  walk_at "dl"
  refine ⟨by decide, .inl fun p hp => ?_⟩
  refine ⟨.dat (phD (s, os)), ?_, ?_⟩
  · rw [← hph]; exact at_0
  simp only [phD]
  walk_at "dl"
  simp only [wFor, wiRng2]
  walk_at "dl"
  have hlo : (if s < f then s else f) = min f s := by split <;> omega
  rw [hlo]
  refine ⟨by omega, by omega, by omega, by omega, fun i ρ cs' => cs' = cs.put p (.lst (entV (entF (spansF 0 phs) (min f s + (i : Int) - f).toNat f (balAt phs op (f - 1))))) ∧ ∃ a7 a8 a9 a10, ρ = [some (.dat (planD ps phs)), some (.int op), some (.int f), some (.int l), some (.cell p), some (.int s), some (.int (balAt phs op (min f s + (i : Int) - 1))), a7, a8, a9, a10], ⟨?_, none, none, none, none, ?_⟩, fun _ _ _ _ _ => trivial, ?_, ?_⟩
  · rw [show (min f s + ((0 : Nat) : Int) - f).toNat = 0 by omega, entF]; rfl
  · rw [hbef (by omega)]; rfl
  · rintro i x ρ cs' hx ⟨rfl, a7, a8, a9, a10, rfl⟩
    obtain ⟨hi, rfl⟩ := rangeD_at hx
    rw [show min f s + (i : Int) * 1 = min f s + (i : Int) by omega]
    walk_at "dl"
    refine lent_in hsm ?_ fun a8 a9 a10 => ⟨?_, some (.int (min f s + (i : Int))), a8, a9, a10, ?_⟩
    · unfold entV
      rw [List.length_map, List.length_map]
      have := hlen (min f s + (i : Int) - f).toNat f (balAt phs op (f - 1))
      omega
    · by_cases hfd : f ≤ min f s + (i : Int)
      · rw [if_pos hfd]
        have e1 : (min f s + ((i + 1 : Nat) : Int) - f).toNat = (min f s + (i : Int) - f).toNat + 1 := by omega
        have e2 : f + ((min f s + (i : Int) - f).toNat : Int) = min f s + (i : Int) := by omega
        rw [e1, hsn, e2, hpay]
        unfold entV
        rw [List.map_append, List.map_append]
      · rw [if_neg hfd, List.append_nil]
        rw [show (min f s + ((i + 1 : Nat) : Int) - f).toNat = 0 by omega, show (min f s + (i : Int) - f).toNat = 0 by omega]
    · rw [← hstep, show min f s + ((i + 1 : Nat) : Int) - 1 = min f s + (i : Int) by omega]
  · rintro ρ cs' ⟨rfl, a7, a8, a9, a10, rfl⟩
    rw [rangeD_len]
    walk_at "dl"
    refine ⟨_, _, Gh.frz (ds := (entF (spansF 0 phs) (min f s + (((l + 1 - min f s).toNat : Nat) : Int) - f).toNat f (balAt phs op (f - 1))).map entD) Cells.put_same, ?_⟩
    rw [Cells.del_put hp, show (min f s + (((l + 1 - min f s).toNat : Nat) : Int) - f).toNat = (l + 1 - f).toNat by omega]
    exact q
/-! ### _law_first_entries -/
def sp_law_first_entries (C : CE) : DSp := fun xs cs Q _ => ∃ (ps : List Int) (phs : List Ph) (op f l : Int), xs = [.dat (planD ps phs), .int op, .int f, .int 5] ∧ PlOk ps phs ∧ cs C.T_balance_at = some .tg ∧ 5 ≤ (entL phs op f l).length ∧ Q (.dat (.lst (((entL phs op f l).take 5).map entD))) cs
theorem len_law_first_entries {C : CE} : ∀ xs cs Q XP, sp_law_first_entries C xs cs Q XP → xs.length = 4 := by rintro xs cs Q XP ⟨_, _, _, _, _, rfl, _⟩; rfl
def w_law_first_entries (C : CE) : WS := (wSeq (wAsg (wLst wNil) (gN 4))
    (wSeq (GN.wForG (GN.wGCall (sp_entries C) (wCons (wVar 0) (wCons (wVar 1) (wCons (wVar 2) (wCons (wC .non) wNil))))) (gN 5) (wSeq (wDrop (wApp (wVar 4) (wVar 5)))
    (wIfS (wTest (wOp wGe (wFn wLen (wCons (wVar 4) wNil)) (wVar 3))) (wRet (wVar 4)) wNext)))
    (wRet (wVar 4))))
theorem pure_law_first_entries (K : Frag) (C : CE) : ∀ xs cs Q XP, sp_law_first_entries C xs cs Q XP → w_law_first_entries C (retE K Q) (startD 6 xs) cs := by
  rintro xs cs Q XP ⟨ps, phs, op, f, l, rfl, hP, hT, h5, q⟩
  unfold w_law_first_entries
  walk_at "dl"
  refine ⟨by decide, .inl fun p hp => ?_⟩
  have hpT : C.T_balance_at ≠ p := by intro z; rw [z, hp] at hT; cases hT
  simp only [GN.wForG, GN.wGCall]
  walk_at "dl"
  have hl5 : (((entL phs op f l).take 5).map entD).length = 5 := by rw [List.length_map, List.length_take]; omega
  generalize hds : ((entL phs op f l).take 5).map entD = ds at *
  refine ⟨ds, .cut, _, ⟨ps, phs, op, f, l, rfl, hP.1, hP.2.1, hP.2.2, rfl, .inr (.inr ⟨rfl, (fun z => by rw [z] at hl5; cases hl5), ((entL phs op f l).drop 5).map entD, by rw [← hds, ← List.map_append, List.take_append_drop]⟩)⟩, ?_⟩
  refine ⟨fun i ρ cs' => i < 5 ∧ cs' = cs.put p (.lst ((ds.take i).map .dat)) ∧ ∃ a5, ρ = [some (.dat (planD ps phs)), some (.int op), some (.int f), some (.int 5), some (.cell p), a5], ⟨by decide, by simp, none, rfl⟩, ?_, ?_, ?_⟩
  · rintro i ρ cs' _ ⟨_, rfl, _⟩
    rw [Cells.put_ne hpT]; exact hT
  · rintro i d ρ cs' hd ⟨hi, rfl, a5, rfl⟩
    have htk : (ds.take (i + 1)).map Vl.dat = (ds.take i).map .dat ++ [.dat d] := by rw [List.take_succ, hd, List.map_append]; rfl
    have hlt : (ds.take i).length = i := by rw [List.length_take]; omega
    walk_at "dl"
    refine ⟨by rw [List.length_map]; omega, ?_⟩
    rw [← htk]
    have hlen : ((ds.take (i + 1)).map Vl.dat).length = i + 1 := by rw [List.length_map, List.length_take]; omega
    rw [hlen]
    by_cases h4 : i + 1 = 5
    · rw [if_pos (by omega), h4, List.take_of_length_le (by omega)]
      refine ⟨_, _, Gh.frz Cells.put_same, ?_⟩
      rw [Cells.del_put hp]
      exact q
    · rw [if_neg (by omega)]
      exact ⟨by omega, rfl⟩
  · rintro ρ cs' ⟨h, _⟩
    omega
end DL
set_option maxRecDepth 100000
set_option maxHeartbeats 4000000
namespace DL
open PySem L2 GT
/-! ### five entries -/
theorem entF_app {sps : List Span} : ∀ {n m : Nat} {f cur : Int}, ∃ cur', entF sps (n + m) f cur = entF sps n f cur ++ entF sps m (f + n) cur'
  | 0, m, f, cur => ⟨cur, by simp [entF]⟩
  | n + 1, m, f, cur => by
    obtain ⟨cur', h⟩ := entF_app (n := n) (m := m) (f := f + 1) (cur := cur + paySum (payL sps f))
    refine ⟨cur', ?_⟩
    rw [show n + 1 + m = (n + m) + 1 by omega, entF, entF, h, List.append_assoc, show f + 1 + (n : Int) = f + ((n + 1 : Nat) : Int) by omega]
theorem entF_some {sps : List Span} : ∀ {n : Nat} {f cur : Int} {d : Int}, f ≤ d → d < f + n → payL sps d ≠ [] → 1 ≤ (entF sps n f cur).length
  | 0, f, cur, d, h1, h2, _ => by omega
  | n + 1, f, cur, d, h1, h2, h => by
    rw [entF, List.length_append, entR_len]
    by_cases e : d = f
    · subst e
      have : 0 < (payL sps d).length := List.length_pos_iff.mpr h
      omega
    · have := entF_some (n := n) (f := f + 1) (cur := cur + paySum (payL sps f)) (d := d) (by omega) (by omega) h
      omega
theorem entF_many {sps : List Span} {c : Nat} {s : Int} (h : ∀ f : Int, s ≤ f → ∃ d, f ≤ d ∧ d < f + c ∧ payL sps d ≠ []) : ∀ {k m : Nat} {f cur : Int}, s ≤ f → k ≤ (entF sps (k * c + m) f cur).length
  | 0, m, f, cur, _ => Nat.zero_le _
  | k + 1, m, f, cur, hf => by
    obtain ⟨cur', e⟩ := entF_app (sps := sps) (n := c) (m := k * c + m) (f := f) (cur := cur)
    have e2 : (k + 1) * c + m = c + (k * c + m) := by rw [Nat.succ_mul]; omega
    rw [e2, e, List.length_append]
    obtain ⟨d, h1, h2, h3⟩ := h f hf
    have a1 := entF_some (cur := cur) h1 h2 h3
    have a2 := entF_many h (k := k) (m := m) (f := f + c) (cur := cur') (by omega)
    omega
theorem pay_ex {phs : List Ph} {s : Int} {os : List Ord} {o : Ord} (hl : phs.getLast? = some (s, os)) (ho : o ∈ os) (hp : 0 < o.1) (f : Int) (hf : s ≤ f) : ∃ d, f ≤ d ∧ d < f + o.1 ∧ payL (spansF 0 phs) d ≠ [] := by
  have h1 := Int.emod_nonneg (o.2.1 - f) (by omega : o.1 ≠ 0)
  have h2 := Int.emod_lt_of_pos (o.2.1 - f) hp
  refine ⟨f + (o.2.1 - f) % o.1, by omega, by omega, ?_⟩
  have hz : (f + (o.2.1 - f) % o.1 - o.2.1) % o.1 = 0 := by
    have := Int.emod_add_mul_ediv (o.2.1 - f) o.1
    have e : f + (o.2.1 - f) % o.1 - o.2.1 = o.1 * (-((o.2.1 - f) / o.1)) := by rw [Int.mul_neg]; omega
    rw [e]; exact Int.mul_emod_right _ _
  have hne : phs ≠ [] := by intro z; subst z; cases hl
  have hlen : 0 < phs.length := List.length_pos_iff.mpr hne
  have hat : phs[phs.length - 1]? = some (s, os) := by rw [← List.getLast?_eq_getElem?]; exact hl
  have hsp := spansF_at (k := 0) hat
  rw [show phs.length - 1 + 1 = phs.length by omega, List.getElem?_eq_none (Nat.le_refl _)] at hsp
  have hmem := List.mem_of_getElem? hsp
  obtain ⟨i, hi⟩ := List.getElem?_of_mem ho
  intro hnil
  unfold payL at hnil
  rw [List.filterMap_eq_nil_iff] at hnil
  have hc : (⟨0 + ((phs.length - 1 : Nat) : Int), (i : Int), s, none, o⟩ : Cl) ∈ cellsL (spansF 0 phs) := by
    refine List.mem_flatMap.mpr ⟨_, hmem, ?_⟩
    show _ ∈ cellsF (0 + ((phs.length - 1 : Nat) : Int)) s none 0 os
    have hsplit : os = os.take i ++ o :: os.drop (i + 1) := by
      rw [← drop_cons hi, List.take_append_drop]
    rw [hsplit, cellsF_app, cellsF]
    have hlt := (List.getElem?_eq_some_iff.mp hi).1
    have : (0 : Int) + ((os.take i).length : Nat) = i := by rw [List.length_take]; omega
    rw [this]
    exact List.mem_append_right _ List.mem_cons_self
  have := hnil _ hc
  unfold payC at this
  have ha : actC (f + (o.2.1 - f) % o.1) ⟨0 + ((phs.length - 1 : Nat) : Int), (i : Int), s, none, o⟩ = true := by
    unfold actC inB
    have : s ≤ f + (o.2.1 - f) % o.1 := by omega
    simp [this, hz]
  rw [if_pos ha] at this
  cases this
theorem five {ps : List Int} {phs : List Ph} {s : Int} {os : List Ord} {op f : Int} (h : PlOk ps phs) (hl : phs.getLast? = some (s, os)) (hne : os ≠ []) (hf : s ≤ f) : 5 ≤ (entL phs op f (f + 5 * cyc ps)).length := by
  obtain ⟨o, ho⟩ := List.exists_mem_of_ne_nil os hne
  have hm : (s, os) ∈ phs := List.mem_of_getLast? hl
  have hb := ordB_iff.mp ((h.2.1.2.2.2 _ hm).1 o ho)
  have C := cal_cyc h.1
  obtain ⟨p1, p2, _⟩ := C.per _ hb.1
  unfold entL
  have e : (f + 5 * cyc ps + 1 - f).toNat = 5 * (cyc ps).toNat + 1 := by have := C.pos; omega
  rw [e]
  refine entF_many (s := s) (fun x hx => ?_) hf
  obtain ⟨d, h1, h2, h3⟩ := pay_ex hl ho p1 x hx
  exact ⟨d, h1, by have := C.pos; omega, h3⟩
/-! ### what was counted -/
def keyC (c : Cl) : List Int := [c.k, c.i]
theorem lt_ints {a b c d : Int} : ([a, b] : List Int) < [c, d] ↔ a < c ∨ (a = c ∧ b < d) := by
  rw [List.cons_lt_cons_iff, List.cons_lt_cons_iff]
  simp
theorem cells_sorted : ∀ {phs : List Ph} {k : Int}, (cellsL (spansF k phs)).Pairwise (fun c d => keyC c < keyC d) ∧ ∀ c ∈ cellsL (spansF k phs), k ≤ c.k
  | [], k => ⟨.nil, fun c h => by cases h⟩
  | [(s, os)], k => by
    have e : cellsL (spansF k [(s, os)]) = cellsF k s none 0 os := by unfold cellsL; rw [spansF, List.flatMap_cons, List.flatMap_nil, List.append_nil]; rfl
    rw [e]
    refine ⟨?_, fun c hc => by have := (cellsF_mem hc).1; omega⟩
    refine List.Pairwise.imp_of_mem (fun {c d} hc hd h => ?_) cellsF_sorted
    exact lt_ints.mpr (.inr ⟨by rw [(cellsF_mem hc).1, (cellsF_mem hd).1], h⟩)
  | (s, os) :: (t, os') :: r, k => by
    have e : cellsL (spansF k ((s, os) :: (t, os') :: r)) = cellsF k s (some (t - 1)) 0 os ++ cellsL (spansF (k + 1) ((t, os') :: r)) := by unfold cellsL; rw [spansF, List.flatMap_cons]; rfl
    obtain ⟨ih1, ih2⟩ := cells_sorted (phs := (t, os') :: r) (k := k + 1)
    rw [e]
    refine ⟨List.pairwise_append.mpr ⟨?_, ih1, fun c hc d hd => ?_⟩, fun c hc => ?_⟩
    · refine List.Pairwise.imp_of_mem (fun {c d} hc hd h => ?_) cellsF_sorted
      exact lt_ints.mpr (.inr ⟨by rw [(cellsF_mem hc).1, (cellsF_mem hd).1], h⟩)
    · refine lt_ints.mpr (.inl ?_)
      have := ih2 d hd
      have := (cellsF_mem hc).1
      omega
    · rcases List.mem_append.mp hc with z | z
      · have := (cellsF_mem z).1; omega
      · have := ih2 c z; omega
theorem cells_inj {phs : List Ph} {c d : Cl} (hc : c ∈ cellsL (spansF 0 phs)) (hd : d ∈ cellsL (spansF 0 phs)) (h : keyC c = keyC d) : c = d := by
  have hs := (cells_sorted (phs := phs) (k := 0)).1
  obtain ⟨i, hi, rfl⟩ := List.getElem_of_mem hc
  obtain ⟨j, hj, rfl⟩ := List.getElem_of_mem hd
  have irr : ∀ x : List Int, ¬ x < x := fun x => List.lt_irrefl x
  rcases Nat.lt_trichotomy i j with z | z | z
  · exact absurd (List.pairwise_iff_getElem.mp hs i j hi hj z) (by rw [h]; exact irr _)
  · subst z; rfl
  · exact absurd (List.pairwise_iff_getElem.mp hs j i hj hi z) (by rw [h]; exact irr _)
/-! the dict of the counts -/
def kyV (c : Cl) : List Key := [Sum.inl c.k, Sum.inl c.i]
def vlC (t : Int) (c : Cl) : Vl := .dat (.tup [.int t, .int (t * c.o.2.2)])
theorem kyV_key {c d : Cl} (h : kyV c = kyV d) : keyC c = keyC d := by
  unfold kyV at h
  unfold keyC
  injection h with h1 h2
  injection h2 with h2 _
  injection h1 with h1
  injection h2 with h2
  rw [h1, h2]
structure CtOk (phs : List Ph) (T : Cl → Int) (kvs : List (List Key × Vl)) : Prop where
  nd : (kvs.map (·.1)).Nodup
  mem : ∀ kv ∈ kvs, ∃ c ∈ cellsL (spansF 0 phs), 0 < T c ∧ kv = (kyV c, vlC (T c) c)
  all : ∀ c ∈ cellsL (spansF 0 phs), 0 < T c → (kyV c, vlC (T c) c) ∈ kvs
theorem valD_of {kvs : List (List Key × Vl)} (nd : (kvs.map (·.1)).Nodup) {k : List Key} {v : Vl} (h : (k, v) ∈ kvs) : valD kvs k = some v := by
  unfold valD
  induction kvs with
  | nil => cases h
  | cons kv r ih =>
    rw [List.map_cons, List.nodup_cons] at nd
    rw [List.find?_cons]
    rcases List.mem_cons.mp h with e | h
    · rw [← e]; simp
    · have hne : ¬ kv.1 = k := fun z => nd.1 (by rw [z]; exact List.mem_map.mpr ⟨_, h, rfl⟩)
      simp only [hne, decide_false]
      exact ih nd.2 h
theorem valD_not {kvs : List (List Key × Vl)} {k : List Key} (h : ∀ kv ∈ kvs, kv.1 ≠ k) : valD kvs k = none := by
  unfold valD
  rw [List.find?_eq_none.mpr fun kv hkv => by simpa using h kv hkv]
  rfl
theorem CtOk.val {phs : List Ph} {T : Cl → Int} {kvs : List (List Key × Vl)} (h : CtOk phs T kvs) {c : Cl} (hc : c ∈ cellsL (spansF 0 phs)) : valD kvs (kyV c) = if 0 < T c then some (vlC (T c) c) else none := by
  split
  · rename_i h0
    exact valD_of h.nd (h.all c hc h0)
  · rename_i h0
    refine valD_not fun kv hkv z => ?_
    obtain ⟨d, hd, hT, e⟩ := h.mem kv hkv
    rw [e] at z
    have := cells_inj hd hc (kyV_key z)
    subst this
    exact h0 hT
theorem CtOk.nil {phs : List Ph} {T : Cl → Int} (h : ∀ c ∈ cellsL (spansF 0 phs), T c = 0) : CtOk phs T [] := ⟨.nil, (fun kv hk => by cases hk), fun c hc h0 => by rw [h c hc] at h0; omega⟩
theorem CtOk.put {phs : List Ph} {T T' : Cl → Int} {kvs : List (List Key × Vl)} (h : CtOk phs T kvs) {c : Cl} (hc : c ∈ cellsL (spansF 0 phs)) (h0 : 0 ≤ T c) (h1 : T' c = T c + 1) (h2 : ∀ d ∈ cellsL (spansF 0 phs), kyV d ≠ kyV c → T' d = T d) : CtOk phs T' (putD kvs (kyV c) (vlC (T c + 1) c)) := by
  by_cases hp : 0 < T c
  · have hin := h.all c hc hp
    have hany : (kvs.any fun kv => decide (kv.1 = kyV c)) = true := by rw [List.any_eq_true]; exact ⟨_, hin, by simp⟩
    unfold putD
    rw [if_pos hany]
    refine ⟨?_, fun kv hkv => ?_, fun d hd hT => ?_⟩
    · have : (kvs.map fun kv => if kv.1 = kyV c then (kv.1, vlC (T c + 1) c) else kv).map (·.1) = kvs.map (·.1) := by
        rw [List.map_map]
        refine List.map_congr_left fun kv _ => ?_
        show (if kv.1 = kyV c then (kv.1, vlC (T c + 1) c) else kv).1 = kv.1
        split <;> rfl
      rw [this]; exact h.nd
    · obtain ⟨kv0, hkv0, e⟩ := List.mem_map.mp hkv
      obtain ⟨d, hd, hT, e0⟩ := h.mem kv0 hkv0
      by_cases z : kv0.1 = kyV c
      · rw [if_pos z] at e
        refine ⟨c, hc, by omega, ?_⟩
        rw [← e, z, h1]
      · rw [if_neg z] at e
        have z2 : kyV d ≠ kyV c := fun w => z (by rw [e0]; exact w)
        exact ⟨d, hd, by rw [h2 d hd z2]; exact hT, by rw [← e, e0, h2 d hd z2]⟩
    · by_cases z : kyV d = kyV c
      · have := cells_inj hd hc (kyV_key z)
        subst this
        exact List.mem_map.mpr ⟨_, hin, by rw [if_pos rfl, h1]⟩
      · rw [h2 d hd z] at hT ⊢
        exact List.mem_map.mpr ⟨_, h.all d hd hT, by rw [if_neg z]⟩
  · have hT0 : T c = 0 := by omega
    have hnot : ∀ kv ∈ kvs, kv.1 ≠ kyV c := fun kv hkv z => by
      obtain ⟨d, hd, hT, e0⟩ := h.mem kv hkv
      rw [e0] at z
      have := cells_inj hd hc (kyV_key z)
      subst this
      omega
    have hany : ¬ (kvs.any fun kv => decide (kv.1 = kyV c)) = true := by
      intro z
      rw [List.any_eq_true] at z
      obtain ⟨kv, hkv, e⟩ := z
      exact hnot kv hkv (of_decide_eq_true e)
    unfold putD
    rw [if_neg hany]
    refine ⟨?_, fun kv hkv => ?_, fun d hd hT => ?_⟩
    · rw [List.map_append, List.nodup_append]
      refine ⟨h.nd, by simp, fun a ha b hb => ?_⟩
      obtain ⟨kv, hkv, rfl⟩ := List.mem_map.mp ha
      simp at hb
      rw [hb]
      exact hnot kv hkv
    · rcases List.mem_append.mp hkv with z | z
      · obtain ⟨d, hd, hT, e0⟩ := h.mem kv z
        have z2 : kyV d ≠ kyV c := fun w => hnot kv z (by rw [e0]; exact w)
        exact ⟨d, hd, by rw [h2 d hd z2]; exact hT, by rw [e0, h2 d hd z2]⟩
      · rw [List.mem_singleton.mp z]
        exact ⟨c, hc, by omega, by rw [h1]⟩
    · by_cases z : kyV d = kyV c
      · have := cells_inj hd hc (kyV_key z)
        subst this
        exact List.mem_append_right _ (by rw [h1]; exact List.mem_singleton.mpr rfl)
      · rw [h2 d hd z] at hT ⊢
        exact List.mem_append_left _ (h.all d hd hT)
theorem CtOk.congr {phs : List Ph} {T T' : Cl → Int} {kvs : List (List Key × Vl)} (h : CtOk phs T kvs) (e : ∀ c ∈ cellsL (spansF 0 phs), T' c = T c) : CtOk phs T' kvs :=
  ⟨h.nd, fun kv hkv => let ⟨c, hc, hT, z⟩ := h.mem kv hkv; ⟨c, hc, by rw [e c hc]; exact hT, by rw [e c hc]; exact z⟩, fun c hc hT => by rw [e c hc] at hT ⊢; exact h.all c hc hT⟩
/-! sorted -/
theorem ssorted_ext : ∀ {a b : List (List Int)}, a.Pairwise (· < ·) → b.Pairwise (· < ·) → (∀ x, x ∈ a ↔ x ∈ b) → a = b
  | [], [], _, _, _ => rfl
  | [], y :: b, _, _, h => by have := (h y).mpr List.mem_cons_self; cases this
  | x :: a, [], _, _, h => by have := (h x).mp List.mem_cons_self; cases this
  | x :: a, y :: b, ha, hb, h => by
    obtain ⟨ha1, ha2⟩ := List.pairwise_cons.mp ha
    obtain ⟨hb1, hb2⟩ := List.pairwise_cons.mp hb
    have irr : ∀ z : List Int, ¬ z < z := fun z => List.lt_irrefl z
    have hxy : x = y := by
      rcases List.mem_cons.mp ((h x).mp List.mem_cons_self) with e | h1
      · exact e
      · rcases List.mem_cons.mp ((h y).mpr List.mem_cons_self) with e | h2
        · exact e.symm
        · exact absurd (List.lt_trans (hb1 x h1) (ha1 y h2)) (irr y)
    subst hxy
    rw [ssorted_ext ha2 hb2 fun z => ?_]
    constructor
    · intro hz
      rcases List.mem_cons.mp ((h z).mp (List.mem_cons_of_mem _ hz)) with e | h1
      · subst e; exact absurd (ha1 z hz) (irr z)
      · exact h1
    · intro hz
      rcases List.mem_cons.mp ((h z).mpr (List.mem_cons_of_mem _ hz)) with e | h1
      · subst e; exact absurd (hb1 z hz) (irr z)
      · exact h1
def ctR (phs : List Ph) (T : Cl → Int) : List Cl := (cellsL (spansF 0 phs)).filter fun c => decide (0 < T c)
theorem ctR_sorted {phs : List Ph} {T : Cl → Int} : ((ctR phs T).map keyC).Pairwise (· < ·) := by
  rw [List.pairwise_map]
  exact (cells_sorted (phs := phs) (k := 0)).1.filter _
theorem tot_ctR {phs : List Ph} {day : Int} : totL (spansF 0 phs) day = (ctR phs (dueT day)).map fun c => (c.k, c.i, dueT day c, dueT day c * c.o.2.2) := by
  unfold totL ctR
  generalize cellsL (spansF 0 phs) = L
  induction L with
  | nil => rfl
  | cons c L ih =>
    rw [List.filterMap_cons, List.filter_cons, ih]
    unfold totC
    by_cases h : 0 < dueT day c
    · simp [h]
    · simp [h]
theorem CtOk.sorted {phs : List Ph} {T : Cl → Int} {kvs : List (List Key × Vl)} (h : CtOk phs T kvs) : ∃ nss : List (List Int), kvs.map (·.1) = nss.map (List.map Sum.inl) ∧ (∀ n ∈ nss, n ≠ []) ∧ nss.mergeSort leI = (ctR phs T).map keyC := by
  let un : Key → Int := fun k => match k with | .inl i => i | .inr _ => 0
  have hk : ∀ kv ∈ kvs, ∃ c ∈ ctR phs T, kv.1 = kyV c := fun kv hkv => by
    obtain ⟨c, hc, hT, e⟩ := h.mem kv hkv
    exact ⟨c, List.mem_filter.mpr ⟨hc, by simpa using hT⟩, by rw [e]⟩
  have hun : ∀ c, (kyV c).map un = keyC c := fun c => rfl
  refine ⟨kvs.map fun kv => kv.1.map un, ?_, fun n hn => ?_, ?_⟩
  · rw [List.map_map]
    refine List.map_congr_left fun kv hkv => ?_
    obtain ⟨c, _, e⟩ := hk kv hkv
    show kv.1 = (kv.1.map un).map Sum.inl
    rw [e]; rfl
  · obtain ⟨kv, hkv, rfl⟩ := List.mem_map.mp hn
    obtain ⟨c, _, e⟩ := hk kv hkv
    rw [e, hun]; simp [keyC]
  · have tot : ∀ a b : List Int, leI a b || leI b a := fun a b => by
      unfold leI
      rcases List.le_total a b with z | z <;> simp [z]
    have trn : ∀ a b c : List Int, leI a b → leI b c → leI a c := fun a b c h1 h2 => by
      unfold leI at *
      simp only [decide_eq_true_eq] at *
      exact List.le_trans h1 h2
    have hs := List.pairwise_mergeSort trn tot (kvs.map fun kv => kv.1.map un)
    have hpm := List.mergeSort_perm (kvs.map fun kv => kv.1.map un) leI
    have hnd0 : (kvs.map fun kv => kv.1.map un).Nodup := by
      have : (kvs.map (·.1)).map (List.map un) = kvs.map fun kv => kv.1.map un := by rw [List.map_map]; rfl
      rw [← this]
      unfold List.Nodup
      rw [List.pairwise_map]
      refine List.Pairwise.imp_of_mem (fun {a b} ha hb hne z => ?_) h.nd
      obtain ⟨kv1, h1, rfl⟩ := List.mem_map.mp ha
      obtain ⟨kv2, h2, rfl⟩ := List.mem_map.mp hb
      obtain ⟨c, hc, e1⟩ := hk kv1 h1
      obtain ⟨d, hd, e2⟩ := hk kv2 h2
      rw [e1, e2, hun, hun] at z
      have := cells_inj (List.mem_filter.mp hc).1 (List.mem_filter.mp hd).1 z
      subst this
      exact hne (by rw [e1, e2])
    have hnd := hpm.nodup_iff.mpr hnd0
    refine ssorted_ext ?_ ctR_sorted fun x => ?_
    · have both := List.pairwise_and_iff.mpr ⟨hs, hnd⟩
      refine both.imp fun {a b} hab => ?_
      have h1 : a ≤ b := by simpa [leI] using hab.1
      apply Decidable.byContradiction
      intro z
      exact hab.2 (List.le_antisymm h1 (List.not_lt.mp z))
    · rw [hpm.mem_iff]
      constructor
      · intro hx
        obtain ⟨kv, hkv, rfl⟩ := List.mem_map.mp hx
        obtain ⟨c, hc, e⟩ := hk kv hkv
        exact List.mem_map.mpr ⟨c, hc, by rw [e, hun]⟩
      · intro hx
        obtain ⟨c, hc, rfl⟩ := List.mem_map.mp hx
        obtain ⟨hc1, hc2⟩ := List.mem_filter.mp hc
        exact List.mem_map.mpr ⟨_, h.all c hc1 (by simpa using hc2), by rw [← hun c]⟩
end DL
set_option maxRecDepth 100000
set_option maxHeartbeats 4000000
namespace DL
open PySem L2 GT
/-! ### counting a day's payments -/
def pk (p : Pay) : List Int := [p.1, p.2.1]
def cntT (d : Int) (l : List Pay) (c : Cl) : Int := dueT (d - 1) c + if keyC c ∈ l.map pk then 1 else 0
theorem pay_sorted {phs : List Ph} {d : Int} : ((payL (spansF 0 phs) d).map pk).Pairwise (· < ·) := by
  rw [List.pairwise_map]
  unfold payL
  rw [List.pairwise_filterMap]
  refine (cells_sorted (phs := phs) (k := 0)).1.imp fun {c c'} h b hb b' hb' => ?_
  unfold payC at hb hb'
  split at hb
  · split at hb'
    · cases hb; cases hb'; exact h
    · cases hb'
  · cases hb
theorem pay_cell {phs : List Ph} {d : Int} {p : Pay} (h : p ∈ payL (spansF 0 phs) d) : ∃ c ∈ cellsL (spansF 0 phs), actC d c = true ∧ p = (c.k, c.i, c.o.2.2) := by
  unfold payL at h
  obtain ⟨c, hc, e⟩ := List.mem_filterMap.mp h
  unfold payC at e
  split at e
  · rename_i ha
    cases e
    exact ⟨c, hc, ha, rfl⟩
  · cases e
theorem cnt_step {phs : List Ph} {d : Int} {j : Nat} {p : Pay} (h : (payL (spansF 0 phs) d)[j]? = some p) : ∃ c ∈ cellsL (spansF 0 phs), p = (c.k, c.i, c.o.2.2) ∧ cntT d ((payL (spansF 0 phs) d).take (j + 1)) c = cntT d ((payL (spansF 0 phs) d).take j) c + 1 ∧ ∀ e ∈ cellsL (spansF 0 phs), kyV e ≠ kyV c → cntT d ((payL (spansF 0 phs) d).take (j + 1)) e = cntT d ((payL (spansF 0 phs) d).take j) e := by
  obtain ⟨c, hc, ha, rfl⟩ := pay_cell (List.mem_of_getElem? h)
  have htk : ((payL (spansF 0 phs) d).take (j + 1)).map pk = ((payL (spansF 0 phs) d).take j).map pk ++ [keyC c] := by rw [List.take_succ, h, List.map_append]; rfl
  have hlt := (List.getElem?_eq_some_iff.mp h).1
  have hnot : keyC c ∉ ((payL (spansF 0 phs) d).take j).map pk := by
    intro z
    rw [List.map_take] at z
    obtain ⟨i, hi, e⟩ := List.getElem_of_mem z
    rw [List.length_take] at hi
    rw [List.getElem_take] at e
    have hs := List.pairwise_iff_getElem.mp (pay_sorted (phs := phs) (d := d)) i j (by simp at hi ⊢; omega) (by simpa using hlt) (by omega)
    have e2 : ((payL (spansF 0 phs) d).map pk)[j]'(by simpa using hlt) = keyC c := by
      rw [List.getElem_map, (List.getElem?_eq_some_iff.mp h).2]; rfl
    rw [e, e2] at hs
    exact List.lt_irrefl _ hs
  refine ⟨c, hc, rfl, ?_, fun e he hne => ?_⟩
  · unfold cntT
    rw [htk, if_pos (List.mem_append_right _ (List.mem_singleton.mpr rfl)), if_neg hnot]; omega
  · unfold cntT
    rw [htk]
    have hk : keyC e ≠ keyC c := fun z => hne (by have := cells_inj he hc z; rw [this])
    have : keyC e ∈ ((payL (spansF 0 phs) d).take j).map pk ++ [keyC c] ↔ keyC e ∈ ((payL (spansF 0 phs) d).take j).map pk := by
      rw [List.mem_append, List.mem_singleton]
      exact ⟨fun z => z.resolve_right hk, .inl⟩
    rw [ite_iff this]
theorem cnt_full {phs : List Ph} {d : Int} {c : Cl} (hc : c ∈ cellsL (spansF 0 phs)) (hp : 0 < c.o.1) : cntT d (payL (spansF 0 phs) d) c = dueT d c := by
  have hst := dueT_step (day := d) hp
  unfold cntT
  have : keyC c ∈ (payL (spansF 0 phs) d).map pk ↔ actC d c = true := by
    constructor
    · intro z
      obtain ⟨p, hpm, e⟩ := List.mem_map.mp z
      obtain ⟨c', hc', ha, rfl⟩ := pay_cell hpm
      have := cells_inj hc' hc (show keyC c' = keyC c from e)
      rw [← this]; exact ha
    · intro ha
      refine List.mem_map.mpr ⟨(c.k, c.i, c.o.2.2), ?_, rfl⟩
      unfold payL
      exact List.mem_filterMap.mpr ⟨c, hc, by unfold payC; rw [if_pos ha]⟩
  rw [ite_iff this, hst]
theorem cnt_zero {d : Int} {c : Cl} : cntT d [] c = dueT (d - 1) c := by unfold cntT; simp
theorem cnt_nonneg {d : Int} {l : List Pay} {c : Cl} : 0 ≤ cntT d l c := by
  unfold cntT
  have := dueT_nonneg (day := d - 1) (c := c)
  split <;> omega
theorem putD_len {κ : Type} [DecidableEq κ] {kvs : List (κ × Vl)} {k : κ} {v : Vl} : (putD kvs k v).length ≤ kvs.length + 1 := by
  unfold putD
  split
  · rw [List.length_map]; omega
  · rw [List.length_append]; simp
end DL
set_option maxRecDepth 100000
set_option maxHeartbeats 4000000
namespace DL
open PySem L2 GT
local macro_rules | `(tactic| walk_at "dl") => `(tactic| simp only [wGSeq, wGIf, wGP, wG0, GDs.at, wFld, wSetF, wMeth, wMake, wGMeth, wGCall, wDNewK, wDNewT, CO.ins.injEq, CO.dk.injEq, CO.dt.injEq, Cells.put_put, wRet, wRetN, wSeq, wAsg, wIfS, wDrop, wNext, wVar, wC, wOp, wUn, wFn, wNil, wCons, wTest, wNot, wAnd, wOr, wAndV, wOrV, wNotV, wIf, wChain, wTup, wLst, wCall, wNever, gN, gT, gNil, gCons, gIx, wI, wI0, wNeg, wMax2, wMin2, wLen, wIsN, wNotN, isNon_non, isNon_bl, isNon_int, isNon_str, isNon_lst, isNon_tup, isNon_cell, wIx, wTuple, wAug, wAugIx, wPar, wPar3, wSlL, wSlT, wPart, wNoPart, wCatT, wIsi, wIsi2, isiT, tyD_non, tyD_bl, tyD_int, tyD_str, tyD_lst, tyD_tup, tyD_cell, coTy_lst, seqD_lst, seqD_tp, seqD_cell, coSeq_lst, seen_dat, seen_cell, coDat_lst, startD, wYes, wApp, wEq_int, wEq_bl, allDat_nil, allDat_cons, allDat_map, Option.map_some, List.map_cons, List.map_nil, List.cons_append, List.nil_append, List.length_cons, List.length_nil, List.replicate, List.getElem?_cons_zero, List.getElem?_cons_succ, List.set_cons_zero, List.set_cons_succ, Option.some.injEq, exists_eq_left', exists_eq_left, exists_and_left, exists_eq', exists_eq, Vl.dat.injEq, Vl.raw.injEq, V.ref.injEq, CO.lst.injEq, Dat.int.injEq, Dat.bl.injEq, Dat.tup.injEq, Dat.lst.injEq, List.cons.injEq, and_true, true_and, retE, Nat.reduceAdd, Nat.reduceSub, and_assoc, Prod.mk.injEq, if_true, if_false, Bool.false_eq_true, decide_eq_true_eq, Bool.not_true, Bool.not_false, Bool.not_eq_true', decide_eq_false_iff_not, if_false_left, if_false_right, beq_iff_eq, Bool.or_eq_true, Bool.and_eq_true, Bool.or_self, Bool.or_true, Bool.true_or, Bool.or_false, Bool.false_or, decide_true, decide_false, reduceCtorEq, Cells.put_same, gt_iff_lt, ge_iff_le, beq_self_eq_true, bne_self_eq_false, Bool.decide_eq_true, not_true_eq_false, not_false_eq_true, Decidable.not_not, false_and, and_false, Bool.not_eq_false, at_0, at_1, at_2, at_3, at_4, at_5, ix_0, ix_1, ix_2, ix_3, Nat.reduceLT, Int.reduceLT, Int.reduceLE, Int.reduceNeg, Int.reduceAdd, Int.reduceSub, Int.reduceEq, Int.reducePow, Int.reduceToNat, Cells.put_put])
def sp_law (C : CE) : DSp := fun xs cs Q _ => ∃ ns : List Int, xs = [.dat (.lst (iD ns))] ∧ cs C.T_balance_at = some .tg ∧ ∀ cs', Q (.bl true) cs'
theorem len_law {C : CE} : ∀ xs cs Q XP, sp_law C xs cs Q XP → xs.length = 1 := by rintro xs cs Q XP ⟨ns, rfl, _⟩; rfl
def w_cnt_in : WS := (wFor (wiSeq (wCall sp_law_payments (wCons (wVar 3) (wCons (wVar 10) wNil)))) (gT 3 (gCons (gN 13) (gCons (gN 14) (gCons (gN 15) gNil)))) (wSeq (wAsg (wDGet2 (wVar 12) (wTup (wCons (wVar 13) (wCons (wVar 14) wNil))) (wTup (wCons (wC (.int 0)) (wCons (wC (.int 0)) wNil)))) (gT 2 (gCons (gN 16) (gCons (gN 17) gNil))))
    (wDPutT (wVar 12) (wCons (wVar 13) (wCons (wVar 14) wNil)) (wTup (wCons (wOp wAdd (wVar 16) (wC (.int 1))) (wCons (wOp wAdd (wVar 17) (wVar 15)) wNil))))))
def w_law_b1_14 (C : CE) : WS := (wIfS (wTest (wOp (wEqD true) (wOp wIx (wOp wIx (wOp wIx (wVar 3) (wC (.int 1))) (wOp wSub (wC (.int 0)) (wC (.int 1)))) (wC (.int 1))) (wTup wNil))) (wSeq (wAsg (wCall (sp_law_first_entries C) (wCons (wVar 3) (wCons (wVar 4) (wCons (wVar 7) (wCons (wC (.int 5)) wNil))))) (gN 20))
    (wIfS (wTest (wOp (wEqD true) (wVar 20) (wSlL (wCall sp_law_entries (wCons (wVar 3) (wCons (wVar 4) (wCons (wVar 7) (wCons (wOp wAdd (wVar 7) (wOp wMul (wC (.int 5)) (wOp wIx (wOp wIx (wVar 3) (wC (.int 0))) (wOp wSub (wC (.int 0)) (wC (.int 1)))))) wNil))))) wNoPart (wPart (wC (.int 5)))))) (wRet (wC (.bl false))) wNext)) wNext)
def w_law_b1_13 (C : CE) : WS := (wSeq (wIfS (wNot (wTest (wCall (sp_law_same 3) (wCons (GN.wListG (GN.wGCall (sp_entries C) (wCons (wVar 3) (wCons (wVar 4) (wCons (wVar 18) (wCons (wVar 19) wNil)))))) (wCons (wCall sp_law_entries (wCons (wVar 3) (wCons (wVar 4) (wCons (wVar 18) (wCons (wVar 19) wNil))))) wNil))))) (wRet (wC (.bl false))) wNext)
    (w_law_b1_14 C))
def w_law_b1_12 (C : CE) : WS := (wSeq (wAsg (wOp wAdd (wOp wSub (wVar 18) (wC (.int 2))) (wCall sp_law_drawn (wCons (wVar 1) (wCons (wC (.int 30)) wNil)))) (gN 19))
    (w_law_b1_13 C))
def w_law_b1_11 (C : CE) : WS := (wSeq (wAsg (wOp wAdd (wOp wSub (wVar 5) (wC (.int 3))) (wCall sp_law_drawn (wCons (wVar 1) (wCons (wC (.int 30)) wNil)))) (gN 18))
    (w_law_b1_12 C))
def w_law_b1_10 (C : CE) : WS := (wSeq (wIfS (wNot (wTest (wCall (sp_law_same 3) (wCons (wVar 11) (wCons (wLc (wiSeq (wFn wSortDT (wCons (wVar 12) wNil))) (gN 21) wYes (wOp wCatT (wVar 21) (wOp wDGet (wVar 12) (wVar 21))) [21]) wNil))))) (wRet (wC (.bl false))) wNext)
    (w_law_b1_11 C))
def w_law_b1_9 (C : CE) : WS := (wSeq (wFor (wiRng2 (wCons (wVar 5) (wCons (wOp wAdd (wVar 9) (wC (.int 1))) wNil))) (gN 10) w_cnt_in)
    (w_law_b1_10 C))
def w_law_b1_8 (C : CE) : WS := (wSeq (wAsg wDNewT (gN 12))
    (w_law_b1_9 C))
def w_law_b1_7 (C : CE) : WS := (wSeq (wAsg (wCall sp_contributions (wCons (wVar 3) (wCons (wVar 4) (wCons (wVar 9) wNil)))) (gN 11))
    (w_law_b1_8 C))
def w_law_b1_6 (C : CE) : WS := (wSeq (wFor (wiSeq (wFn wSortDI (wCons (wVar 8) wNil))) (gN 10) (wIfS (wNot (wTest (wCall (sp_law_same 3) (wCons (wCall (sp_balance C) (wCons (wVar 3) (wCons (wVar 4) (wCons (wVar 10) wNil)))) (wCons (wOp wDGet (wVar 8) (wVar 10)) wNil))))) (wRet (wC (.bl false))) wNext))
    (w_law_b1_7 C))
def w_law_b1_5 (C : CE) : WS := (wSeq (wAsg (wOp wAdd (wOp wSub (wVar 5) (wC (.int 2))) (wCall sp_law_drawn (wCons (wVar 1) (wCons (wOp wAdd (wOp wSub (wVar 7) (wVar 5)) (wC (.int 3))) wNil)))) (gN 9))
    (w_law_b1_6 C))
def w_law_b1_4 (C : CE) : WS := (wSeq (wAsg (wCall sp_law_balances (wCons (wVar 3) (wCons (wVar 4) (wCons (wVar 7) wNil)))) (gN 8))
    (w_law_b1_5 C))
def w_law_b1_3 (C : CE) : WS := (wSeq (wAsg (wOp wAdd (wOp wIx (wOp wIx (wOp wIx (wVar 3) (wC (.int 1))) (wOp wSub (wC (.int 0)) (wC (.int 1)))) (wC (.int 0))) (wC (.int 40))) (gN 7))
    (w_law_b1_4 C))
def w_law_b1_2 (C : CE) : WS := (wSeq (wIfS (wTest (wOp (wEqD false) (wVar 2) (wC (.int 0)))) (wSeq (wAsg (wFn wTuple (wCons (wCall sp_law_orders (wCons (wVar 1) (wCons (wOp wIx (wVar 3) (wC (.int 0))) (wCons (wC (.int 20)) (wCons (wC (.int 9)) wNil))))) wNil)) (gN 6))
    (wAsg (wTup (wCons (wOp wIx (wVar 3) (wC (.int 0))) (wCons (wOp wCatT (wTup (wCons (wTup (wCons (wVar 5) (wCons (wVar 6) wNil))) wNil)) (wSlT (wOp wIx (wVar 3) (wC (.int 1))) (wPart (wC (.int 1))) wNoPart)) wNil))) (gN 3))) wNext)
    (w_law_b1_3 C))
def w_law_b1_1 (C : CE) : WS := (wSeq (wAsg (wOp wIx (wOp wIx (wOp wIx (wVar 3) (wC (.int 1))) (wC (.int 0))) (wC (.int 0))) (gN 5))
    (w_law_b1_2 C))
def w_law_b1_0 (C : CE) : WS := (wSeq (wPar 3 4 (wCons (wCall sp_law_plan (wCons (wVar 1) (wCons (wC (.int 24)) (wCons (wC (.int 9)) wNil)))) (wCons (wOp wSub (wCall sp_law_drawn (wCons (wVar 1) (wCons (wC (.int 100)) wNil))) (wC (.int 50))) wNil)))
    (w_law_b1_1 C))
def w_law_b0_2 (C : CE) : WS := (wRet (wC (.bl true)))
def w_law_b0_1 (C : CE) : WS := (wSeq (wFor (wiRng1 (wCons (wC (.int 4)) wNil)) (gN 2) (w_law_b1_0 C))
    (w_law_b0_2 C))
def w_law_b0_0 (C : CE) : WS := (wSeq (wAsg (wCall sp_law_start (wCons (wVar 0) wNil)) (gN 1))
    (w_law_b0_1 C))
def w_law (C : CE) : WS := (w_law_b0_0 C)
def Nx (D : DEnds) (x0 : Vl) (a : Addr) (C : CE) : Prop := ∀ ρ cs', (∃ b2 b3 b4 b5 b6 b7 b8 b9 b10 b11 b12 b13 b14 b15 b16 b17 b18 b19 b20 b21 : Option Vl, ρ = [some x0, some (.cell a), b2, b3, b4, b5, b6, b7, b8, b9, b10, b11, b12, b13, b14, b15, b16, b17, b18, b19, b20, b21]) → (∃ c, cs' a = some c ∧ DrSt c) → cs' C.T_balance_at = some .tg → D.nx ρ cs'
/-- what is known of the plan -/
structure Pk (ps : List Int) (phs : List Ph) (s : Int) (os : List Ord) (r : List Ph) (sl : Int) (osl : List Ord) : Prop where
  ok : PlOk ps phs
  eq : phs = (s, os) :: r
  last : phs.getLast? = some (sl, osl)
  s0 : -20 ≤ s
  s1 : s ≤ sl
  s2 : sl ≤ 80
  cy : cyc ps ≤ 24
theorem lv_tup {ds : List Dat} {n : Nat} (hl : ds.length ≤ 16777216) (h : ∀ d ∈ ds, d.lv n) : (Dat.tup ds).lv (n + 1) := ⟨hl, h⟩
theorem lv_lst {ds : List Dat} {n : Nat} (hl : ds.length ≤ 16777216) (h : ∀ d ∈ ds, d.lv n) : (Dat.lst ds).lv (n + 1) := ⟨hl, h⟩
theorem lv_int {i : Int} {n : Nat} : (Dat.int i).lv n := by cases n <;> trivial
theorem lv_ints {ds : List Dat} (h : ∀ d ∈ ds, ∃ i, d = .int i) (hl : ds.length ≤ 16777216) : (Dat.tup ds).lv 1 := lv_tup hl fun d hd => by obtain ⟨i, rfl⟩ := h d hd; exact lv_int
theorem lv_ent (l : List Ent) (h : l.length ≤ 16777216) : (Dat.lst (l.map entD)).lv 2 := lv_lst (by simpa using h) fun d hd => by
  obtain ⟨e, _, rfl⟩ := List.mem_map.mp hd
  exact lv_ints (fun d hd => by simp at hd; rcases hd with rfl | rfl | rfl | rfl | rfl <;> exact ⟨_, rfl⟩) (by show 5 ≤ _; decide)
theorem lv_tot (l : List Tot) (h : l.length ≤ 16777216) : (Dat.lst (l.map totD)).lv 2 := lv_lst (by simpa using h) fun d hd => by
  obtain ⟨e, _, rfl⟩ := List.mem_map.mp hd
  exact lv_ints (fun d hd => by simp at hd; rcases hd with rfl | rfl | rfl | rfl <;> exact ⟨_, rfl⟩) (by show 4 ≤ _; decide)
theorem lv_ords (os : List Ord) (h : os.length ≤ 16777216) : (Dat.tup (ordsD os)).lv 2 := lv_tup (by simpa [ordsD] using h) fun d hd => by
  obtain ⟨e, _, rfl⟩ := List.mem_map.mp hd
  exact lv_ints (fun d hd => by simp at hd; rcases hd with rfl | rfl | rfl <;> exact ⟨_, rfl⟩) (by show 3 ≤ _; decide)
theorem cut5 {α : Type} (xs : List α) : cutD xs none (some 5) = xs.take 5 := by
  unfold cutD HT.sIx
  simp
theorem law_ents {ps : List Int} {phs r : List Ph} {s sl op f l : Int} {os osl : List Ord} {cs : Cells} {Q : Vl → Cells → Prop} {XP : DXP} (h : Pk ps phs s os r sl osl) (hf1 : -1000 ≤ f) (hf2 : f ≤ 1000) (hl1 : -1000 ≤ l) (hl2 : l ≤ 1000) (q : Q (.dat (.lst ((entL phs op f l).map entD))) cs) : sp_law_entries [.dat (planD ps phs), .int op, .int f, .int l] cs Q XP := by
  have e := h.eq
  have := h.s0
  have := h.s1
  have := h.s2
  have hok := h.ok
  clear h
  subst e
  exact ⟨ps, s, os, r, op, f, l, rfl, hok, by omega, by omega, by omega, by omega, by omega, by omega, q⟩
theorem aT {C : CE} {cs : Cells} {a : Addr} (hc : ∃ c, cs a = some c ∧ DrSt c) (hT : cs C.T_balance_at = some .tg) : C.T_balance_at ≠ a := by
  intro z
  obtain ⟨c, h1, ns, p, q, r, e, _⟩ := hc
  rw [← z, hT] at h1
  cases h1
  cases e
theorem valK_at {phs : List Ph} {op lo : Int} {n j : Nat} (h : j < n) : some (Vl.int (balAt phs op (lo + (j : Int)))) = valD (balK phs op lo n) (Sum.inl (lo + (j : Int))) := by
  unfold valD balK
  symm
  rw [Option.map_eq_some_iff]
  refine ⟨(Sum.inl (lo + (j : Int)), .int (balAt phs op (lo + (j : Int)))), ?_, rfl⟩
  rw [List.find?_eq_some_iff_getElem]
  refine ⟨by simp, j, by simpa using h, by simp, fun i hi => ?_⟩
  simp
  omega
theorem mkPk {ps : List Int} {phs r : List Ph} {s : Int} {os : List Ord} (hcal : CalOk ps) (hpm : ∀ p ∈ ps, p ≤ 24) (e : phs = (s, os) :: r) (hl : phs.length ≤ 20) (hw : phs.Pairwise (fun p q => p.1 < q.1)) (ho : ∀ p ∈ phs, OrdsOk ps p.2 ∧ p.2.length ≤ 60 ∧ (∀ o ∈ p.2, -9 ≤ o.2.2 ∧ o.2.2 ≤ 9) ∧ -20 ≤ p.1 ∧ p.1 ≤ 80) : ∃ sl osl, Pk ps phs s os r sl osl := by
  have hne : phs ≠ [] := by rw [e]; simp
  have hl2 : phs.getLast? = some (phs.getLast hne) := List.getLast?_eq_some_getLast hne
  have hm := List.getLast_mem hne
  have hlen : 1 ≤ phs.length := by rw [e]; simp
  have Cy := cal_cyc hcal
  refine ⟨(phs.getLast hne).1, (phs.getLast hne).2, ⟨⟨hcal, ⟨hlen, hl, hw, fun p hp => ⟨(ho p hp).1, (ho p hp).2.1⟩⟩, fun p hp o h => ?_⟩, e, hl2, ?_, ?_, (ho _ hm).2.2.2.2, hpm _ (List.mem_of_getLast? Cy.last)⟩⟩
  · have := (ho p hp).2.2.1 o h; omega
  · exact (ho (s, os) (by rw [e]; exact List.mem_cons_self)).2.2.2.1
  · rw [e] at hw
    have hm2 : phs.getLast hne ∈ (s, os) :: r := by rw [← e]; exact hm
    rcases List.mem_cons.mp hm2 with z | z
    · rw [z]; exact Int.le_refl _
    · have := (List.pairwise_cons.mp hw).1 _ z
      exact Int.le_of_lt this
theorem cut1 {α : Type} (xs : List α) : cutD xs (some 1) none = xs.drop 1 := by
  unfold cutD HT.sIx
  cases xs with
  | nil => rfl
  | cons x xs => simp
section
variable {C : CE} {D : DEnds} {x0 : Vl} {a : Addr} {ps : List Int} {phs r : List Ph} {s sl op last day : Int} {os osl : List Ord} {cs : Cells} {b2 b3 b4 b5 b6 b7 b8 b9 b10 b11 b12 b13 b14 b15 b16 b17 b18 b19 b20 b21 : Option Vl}
theorem ent_len (h : Pk ps phs s os r sl osl) {f l : Int} : (entL phs op f l).length ≤ 60 * (l + 1 - f).toNat := by
  unfold entL
  exact entF_len fun day => by rw [h.ok.pay]; exact lawPay_len (h.ok.2.1.sm h.ok.1 h.ok.2.2)
theorem at_last (h : Pk ps phs s os r sl osl) : atI ((phs.map phD).map Vl.dat) (-1) = some (.dat (phD (sl, osl))) := atI_last (by rw [List.getLast?_map, List.getLast?_map, h.last]; rfl)
theorem law_14 (h : Pk ps phs s os r sl osl) (hn : Nx D x0 a C) (hc : ∃ c, cs a = some c ∧ DrSt c) (hT : cs C.T_balance_at = some .tg) :
    w_law_b1_14 C D [some x0, some (.cell a), b2, some (.dat (planD ps phs)), some (.int op), b5, b6, some (.int (sl + 40)), b8, b9, b10, b11, b12, b13, b14, b15, b16, b17, b18, b19, b20, b21] cs := by
  unfold w_law_b1_14
  simp only [planD, phsD]
  walk_at "dl"
  refine ⟨_, at_last h, ?_⟩
  simp only [phD]
  walk_at "dl"
  have hosl : osl.length ≤ 60 := (h.ok.2.1.2.2.2 _ (List.mem_of_getLast? h.last)).2
  refine ⟨by decide, ?_⟩
  refine wEq_of 2 (by decide) (d := .tup (ordsD osl)) (e := .tup []) rfl rfl (lv_ords _ (by omega)) ⟨by decide, fun x hx => by cases hx⟩ (fun e => ?_) (fun hne => ?_)
  · walk_at "dl"
    exact hn _ _ ⟨_, _, _, _, _, _, _, _, _, _, _, _, _, _, _, _, _, _, _, _, rfl⟩ hc hT
  · walk_at "dl"
    have hne : osl ≠ [] := fun z => hne (by rw [z]; rfl)
    have h5 := five (op := op) h.ok h.last hne (show sl ≤ sl + 40 by omega)
    have Cy := cal_cyc h.ok.1
    refine ⟨ps, phs, op, sl + 40, sl + 40 + 5 * cyc ps, rfl, h.ok, hT, h5, ?_⟩
    walk_at "dl"
    refine ⟨_, _, seqD_cal, _, atI_cyc Cy, ?_⟩
    walk_at "dl"
    have := h.s0
    have := h.s1
    have := h.s2
    have := h.cy
    have := Cy.pos
    refine ⟨mulL (by decide) (by decide), law_ents h (by omega) (by omega) (by omega) (by omega) ?_⟩
    refine ⟨_, rfl, .inr ⟨((entL phs op (sl + 40) (sl + 40 + 5 * cyc ps)).take 5).map entD, ?_, ?_⟩⟩
    · rw [cutD_map, cutD_map, cut5, allDat_map]
    · have hl : ((entL phs op (sl + 40) (sl + 40 + 5 * cyc ps)).take 5).length ≤ 16777216 := by rw [List.length_take]; omega
      refine wEq_of 2 (by decide) rfl rfl (lv_ent _ hl) (lv_ent _ hl) (fun _ => ?_) (fun z => absurd rfl z)
      walk_at "dl"
      exact hn _ _ ⟨_, _, _, _, _, _, _, _, _, _, _, _, _, _, _, _, _, _, _, _, rfl⟩ hc hT
theorem law_13 {f e : Int} (h : Pk ps phs s os r sl osl) (hf1 : s - 3 ≤ f) (hf2 : f ≤ s + 30) (he1 : f - 2 ≤ e) (he2 : e ≤ f + 30) (hn : Nx D x0 a C) (hc : ∃ c, cs a = some c ∧ DrSt c) (hT : cs C.T_balance_at = some .tg) :
    w_law_b1_13 C D [some x0, some (.cell a), b2, some (.dat (planD ps phs)), some (.int op), b5, b6, some (.int (sl + 40)), b8, b9, b10, b11, b12, b13, b14, b15, b16, b17, some (.int f), some (.int e), b20, b21] cs := by
  unfold w_law_b1_13
  walk_at "dl"
  simp only [GN.wListG, GN.wGCall]
  walk_at "dl"
  have := h.s0
  have := h.s1
  have := h.s2
  have hl := ent_len (op := op) (f := f) (l := e) h
  refine ⟨_, .done, _, ⟨ps, phs, op, f, e, rfl, h.ok.1, h.ok.2.1, h.ok.2.2, rfl, .inr (.inl ⟨rfl, rfl⟩)⟩, rfl, hT, by rw [List.length_map]; omega, .inr ⟨_, allDat_map _, ?_⟩⟩
  refine law_ents h (by omega) (by omega) (by omega) (by omega) ?_
  refine ⟨_, _, _, rfl, rfl, rfl, lv_ent _ (by omega), by decide, ?_⟩
  walk_at "dl"
  exact law_14 h hn hc hT
theorem law_12 {f : Int} (h : Pk ps phs s os r sl osl) (hf1 : s - 3 ≤ f) (hf2 : f ≤ s + 30) (hn : Nx D x0 a C) (hc : ∃ c, cs a = some c ∧ DrSt c) (hT : cs C.T_balance_at = some .tg) :
    w_law_b1_12 C D [some x0, some (.cell a), b2, some (.dat (planD ps phs)), some (.int op), b5, b6, some (.int (sl + 40)), b8, b9, b10, b11, b12, b13, b14, b15, b16, b17, some (.int f), b19, b20, b21] cs := by
  have hat := aT hc hT
  obtain ⟨c, hc1, hD⟩ := hc
  unfold w_law_b1_12
  walk_at "dl"
  refine ⟨a, 30, c, rfl, hc1, hD, by decide, by decide, fun k c1 hk0 hk1 hD1 => ?_⟩
  walk_at "dl"
  exact law_13 h hf1 hf2 (by omega) (by omega) hn ⟨c1, Cells.put_same, hD1⟩ (by rw [Cells.put_ne hat]; exact hT)
theorem law_11 (h : Pk ps phs s os r sl osl) (hn : Nx D x0 a C) (hc : ∃ c, cs a = some c ∧ DrSt c) (hT : cs C.T_balance_at = some .tg) :
    w_law_b1_11 C D [some x0, some (.cell a), b2, some (.dat (planD ps phs)), some (.int op), some (.int s), b6, some (.int (sl + 40)), b8, b9, b10, b11, b12, b13, b14, b15, b16, b17, b18, b19, b20, b21] cs := by
  have hat := aT hc hT
  obtain ⟨c, hc1, hD⟩ := hc
  unfold w_law_b1_11
  walk_at "dl"
  refine ⟨a, 30, c, rfl, hc1, hD, by decide, by decide, fun k c1 hk0 hk1 hD1 => ?_⟩
  walk_at "dl"
  exact law_12 h (by omega) (by omega) hn ⟨c1, Cells.put_same, hD1⟩ (by rw [Cells.put_ne hat]; exact hT)
theorem law_10 {p : Addr} {kvs : List (List Key × Vl)} (h : Pk ps phs s os r sl osl) (hk : cs p = some (.dt kvs)) (ct : CtOk phs (dueT day) kvs) (hn : Nx D x0 a C) (hc : ∃ c, cs a = some c ∧ DrSt c) (hT : cs C.T_balance_at = some .tg) :
    w_law_b1_10 C D [some x0, some (.cell a), b2, some (.dat (planD ps phs)), some (.int op), some (.int s), b6, some (.int (sl + 40)), b8, b9, b10, some (.dat (.lst ((totL (spansF 0 phs) day).map totD))), some (.cell p), b13, b14, b15, b16, b17, b18, b19, b20, b21] cs := by
  obtain ⟨nss, e1, e2, e3⟩ := ct.sorted
  have htot := tot_ctR (phs := phs) (day := day)
  have hlen : (totL (spansF 0 phs) day).length ≤ 100000 := by
    have h1 := filterMap_len (totC day) (cellsL (spansF 0 phs))
    have h2 := cells_len (h.ok.2.1.sm h.ok.1 h.ok.2.2) (j := phs.length)
    rw [List.take_of_length_le (by rw [spansF_len]; exact Nat.le_refl _)] at h2
    have := h.ok.2.1.2.1
    unfold totL
    omega
  unfold w_law_b1_10
  walk_at "dl"
  simp only [wLc, wiSeq]
  walk_at "dl"
  simp only [wSortDT]
  walk_at "dl"
  refine ⟨kvs, hk, nss, e1, e2, .inr ⟨(nss.mergeSort leI).map tupI, by rw [show (nss.mergeSort leI).map (fun ns => Vl.dat (tupI ns)) = ((nss.mergeSort leI).map tupI).map .dat by rw [List.map_map]; rfl, allDat_map], ?_⟩⟩
  walk_at "dl"
  rw [e3]
  intro E hE
  have hEp : E ≠ p := by intro z; rw [z, hk] at hE; cases hE
  refine ⟨fun i cs' => cs' = cs.put E (.lst (((totL (spansF 0 phs) day).take i).map fun t => Vl.dat (totD t))), by simp, fun _ _ _ _ => trivial, ?_, ?_⟩
  · rintro i x cs' hx rfl
    rw [List.getElem?_map, List.getElem?_map, List.getElem?_map] at hx
    obtain ⟨d0, hd0, rfl⟩ := Option.map_eq_some_iff.mp hx
    obtain ⟨n0, hn0, rfl⟩ := Option.map_eq_some_iff.mp hd0
    obtain ⟨c, hci, rfl⟩ := Option.map_eq_some_iff.mp hn0
    have hti : (totL (spansF 0 phs) day)[i]? = some (c.k, c.i, dueT day c, dueT day c * c.o.2.2) := by rw [htot, List.getElem?_map, hci]; rfl
    obtain ⟨hcm, hcp⟩ := List.mem_filter.mp (List.mem_of_getElem? hci)
    have hcp : 0 < dueT day c := by simpa using hcp
    simp only [wipeD]
    walk_at "dl"
    simp only [wDGet]
    refine ⟨vlC (dueT day c) c, ⟨p, rfl, .inr ⟨kvs, kyV c, by rw [Cells.put_ne hEp.symm]; exact hk, rfl, by rw [ct.val hcm, if_pos hcp]⟩⟩, ?_⟩
    simp only [tupI, keyC, vlC]
    walk_at "dl"
    refine ⟨by decide, by rw [List.length_map, List.length_take]; omega, ?_⟩
    rw [List.take_succ, hti, List.map_append]
    rfl
  · rintro cs' rfl
    refine ⟨_, Cells.put_same, .inr ⟨(totL (spansF 0 phs) day).map totD, ?_, ?_⟩⟩
    · rw [List.length_map, List.length_map, List.length_map]
      rw [show (ctR phs (dueT day)).length = (totL (spansF 0 phs) day).length by rw [htot, List.length_map], List.take_of_length_le (Nat.le_refl _)]
      rw [show ((totL (spansF 0 phs) day).map fun t => Vl.dat (totD t)) = ((totL (spansF 0 phs) day).map totD).map .dat by rw [List.map_map]; rfl, allDat_map]
    · rw [Cells.del_put hE]
      refine ⟨_, _, _, rfl, rfl, rfl, lv_tot _ (by omega), by decide, ?_⟩
      walk_at "dl"
      exact law_11 h hn hc hT
theorem cnt_in {p : Addr} {d : Int} {N : Nat} {kvs : List (List Key × Vl)} {E : DEnds} (h : Pk ps phs s os r sl osl) (ct : CtOk phs (dueT (d - 1)) kvs) (hN : kvs.length ≤ N) (hN2 : N ≤ 1000000)
    (hx : ∀ kvs b13 b14 b15 b16 b17, CtOk phs (dueT d) kvs → kvs.length ≤ N + 60 → E.nx [some x0, some (.cell a), b2, some (.dat (planD ps phs)), some (.int op), some (.int s), b6, some (.int (sl + 40)), b8, some (.int day), some (.int d), some (.dat (.lst ((totL (spansF 0 phs) day).map totD))), some (.cell p), b13, b14, b15, b16, b17, b18, b19, b20, b21] (cs.put p (.dt kvs))) :
    w_cnt_in E [some x0, some (.cell a), b2, some (.dat (planD ps phs)), some (.int op), some (.int s), b6, some (.int (sl + 40)), b8, some (.int day), some (.int d), some (.dat (.lst ((totL (spansF 0 phs) day).map totD))), some (.cell p), b13, b14, b15, b16, b17, b18, b19, b20, b21] (cs.put p (.dt kvs)) := by
  have hsm := h.ok.2.1.sm h.ok.1 h.ok.2.2
  have hpl := h.ok.pay d
  have hll := lawPay_len (day := d) hsm
  unfold w_cnt_in
  simp only [wFor, wiSeq]
  walk_at "dl"
  refine ⟨ps, phs, d, rfl, hsm, ?_⟩
  walk_at "dl"
  rw [← hpl] at hll ⊢
  refine ⟨fun j ρ cs' => ∃ kvs, cs' = cs.put p (.dt kvs) ∧ CtOk phs (cntT d ((payL (spansF 0 phs) d).take j)) kvs ∧ kvs.length ≤ N + j ∧ ∃ b13 b14 b15 b16 b17, ρ = [some x0, some (.cell a), b2, some (.dat (planD ps phs)), some (.int op), some (.int s), b6, some (.int (sl + 40)), b8, some (.int day), some (.int d), some (.dat (.lst ((totL (spansF 0 phs) day).map totD))), some (.cell p), b13, b14, b15, b16, b17, b18, b19, b20, b21], ⟨kvs, rfl, ct.congr fun c _ => by rw [List.take_zero, cnt_zero], by omega, b13, b14, b15, b16, b17, rfl⟩, fun _ _ _ _ _ => trivial, ?_, ?_⟩
  · rintro j x ρ cs' hx2 ⟨kvs, rfl, ct, hl, b13, b14, b15, b16, b17, rfl⟩
    rw [List.getElem?_map, List.getElem?_map] at hx2
    obtain ⟨d0, hd0, rfl⟩ := Option.map_eq_some_iff.mp hx2
    obtain ⟨p0, hp0, rfl⟩ := Option.map_eq_some_iff.mp hd0
    obtain ⟨c, hc, rfl, hs1, hs2⟩ := cnt_step hp0
    have hlt := (List.getElem?_eq_some_iff.mp hp0).1
    have hT0 : 0 ≤ cntT d ((payL (spansF 0 phs) d).take j) c := cnt_nonneg
    have hv := ct.val hc
    have hput := ct.put hc hT0 hs1 hs2
    simp only [payD]
    walk_at "dl"
    simp only [wDGet2]
    walk_at "dl"
    generalize cntT d ((payL (spansF 0 phs) d).take j) c = t at *
    have hg : (valD kvs (kyV c)).getD (.dat (.tup [.int 0, .int 0])) = .dat (.tup [.int t, .int (t * c.o.2.2)]) := by
      rw [hv]
      split
      · rfl
      · have : t = 0 := by omega
        subst this
        simp
    refine ⟨.inr trivial, by decide, by decide, valD kvs (kyV c), ⟨p, rfl, .inr ⟨kvs, kyV c, Cells.put_same, rfl, rfl⟩⟩, ?_⟩
    rw [hg]
    walk_at "dl"
    simp only [wDPutT]
    walk_at "dl"
    refine ⟨by decide, kvs, kyV c, rfl, by show 2 ≤ 1000; decide, rfl, by omega, _, rfl, ?_, by have := putD_len (kvs := kvs) (k := kyV c) (v := Vl.dat (Dat.tup [Dat.int (t + 1), Dat.int (t * c.o.2.2 + c.o.2.2)])); omega⟩
    have e9 : Vl.dat (Dat.tup [Dat.int (t + 1), Dat.int (t * c.o.2.2 + c.o.2.2)]) = vlC (t + 1) c := by unfold vlC; rw [Int.add_mul, Int.one_mul]
    rw [e9]
    exact hput
  · rintro ρ cs' ⟨kvs, rfl, ct, hl, b13, b14, b15, b16, b17, rfl⟩
    simp only [List.length_map] at ct hl
    rw [List.take_of_length_le (Nat.le_refl _)] at ct
    refine hx kvs b13 b14 b15 b16 b17 (ct.congr fun c hc => ?_) (by omega)
    rw [cnt_full hc]
    obtain ⟨q, hq, _, ho⟩ := cellsL_mem hc
    exact (h.ok.res q hq c.o ho).1
theorem law_9 {p : Addr} (h : Pk ps phs s os r sl osl) (hd1 : s - 2 ≤ day) (hd2 : day ≤ sl + 40) (hp : cs p = none) (hn : Nx D x0 a C) (hc : ∃ c, cs a = some c ∧ DrSt c) (hT : cs C.T_balance_at = some .tg) :
    w_law_b1_9 C D [some x0, some (.cell a), b2, some (.dat (planD ps phs)), some (.int op), some (.int s), b6, some (.int (sl + 40)), b8, some (.int day), b10, some (.dat (.lst ((totL (spansF 0 phs) day).map totD))), some (.cell p), b13, b14, b15, b16, b17, b18, b19, b20, b21] (cs.put p (.dt [])) := by
  have := h.s0
  have := h.s1
  have := h.s2
  have hpT : C.T_balance_at ≠ p := by intro z; rw [z, hp] at hT; cases hT
  obtain ⟨c, hc1, hD⟩ := hc
  have hpa : a ≠ p := by intro z; rw [z, hp] at hc1; cases hc1
  unfold w_law_b1_9
  walk_at "dl"
  simp only [wFor]
  simp only [wiRng2]
  walk_at "dl"
  refine ⟨by omega, by omega, by omega, by omega, fun i ρ cs' => ∃ kvs, cs' = cs.put p (.dt kvs) ∧ CtOk phs (dueT (s + (i : Int) - 1)) kvs ∧ kvs.length ≤ 60 * i ∧ ∃ b10 b13 b14 b15 b16 b17, ρ = [some x0, some (.cell a), b2, some (.dat (planD ps phs)), some (.int op), some (.int s), b6, some (.int (sl + 40)), b8, some (.int day), b10, some (.dat (.lst ((totL (spansF 0 phs) day).map totD))), some (.cell p), b13, b14, b15, b16, b17, b18, b19, b20, b21], ⟨[], rfl, CtOk.nil fun c hc => ?_, by simp, b10, b13, b14, b15, b16, b17, rfl⟩, fun _ _ _ _ _ => trivial, ?_, ?_⟩
  · obtain ⟨q, hq, e, _⟩ := cellsL_mem hc
    refine dueT_before ?_
    rw [e]
    have hw := h.ok.2.1.2.2.1
    have he := h.eq
    rw [he] at hq hw
    rcases List.mem_cons.mp hq with z | z
    · rw [z]; show s + ((0 : Nat) : Int) - 1 < s; omega
    · have := (List.pairwise_cons.mp hw).1 q z
      have : s < q.1 := this
      omega
  · rintro i x ρ cs' hx ⟨kvs, rfl, ct, hl, b10, b13, b14, b15, b16, b17, rfl⟩
    obtain ⟨hi, rfl⟩ := rangeD_at hx
    rw [show s + (i : Int) * 1 = s + (i : Int) by omega]
    walk_at "dl"
    refine cnt_in (d := s + (i : Int)) (N := 60 * i) h ct hl (by omega) fun kvs b13 b14 b15 b16 b17 ct2 hl2 => ?_
    refine ⟨kvs, rfl, ?_, by omega, some (.int (s + (i : Int))), b13, b14, b15, b16, b17, rfl⟩
    rw [show s + ((i + 1 : Nat) : Int) - 1 = s + (i : Int) by omega]
    exact ct2
  · rintro ρ cs' ⟨kvs, rfl, ct, hl, b10, b13, b14, b15, b16, b17, rfl⟩
    rw [rangeD_len] at ct
    have ct2 : CtOk phs (dueT day) kvs := ct.congr fun c hc => ?_
    · exact law_10 h Cells.put_same ct2 hn ⟨c, by rw [Cells.put_ne hpa]; exact hc1, hD⟩ (by rw [Cells.put_ne hpT]; exact hT)
    · by_cases hz : s - 1 ≤ day
      · rw [show s + (((day + 1 - s).toNat : Nat) : Int) - 1 = day by omega]
      · obtain ⟨q, hq, e, _⟩ := cellsL_mem hc
        have hsq : s ≤ q.1 := by
          have hw := h.ok.2.1.2.2.1
          have he := h.eq
          rw [he] at hq hw
          rcases List.mem_cons.mp hq with z | z
          · rw [z]; exact Int.le_refl _
          · have := (List.pairwise_cons.mp hw).1 q z
            have : s < q.1 := this
            omega
        rw [dueT_before (by rw [e]; omega), dueT_before (by rw [e]; omega)]
theorem law_7 (h : Pk ps phs s os r sl osl) (hd1 : s - 2 ≤ day) (hd2 : day ≤ sl + 40) (hn : Nx D x0 a C) (hc : ∃ c, cs a = some c ∧ DrSt c) (hT : cs C.T_balance_at = some .tg) :
    w_law_b1_7 C D [some x0, some (.cell a), b2, some (.dat (planD ps phs)), some (.int op), some (.int s), b6, some (.int (sl + 40)), b8, some (.int day), b10, b11, b12, b13, b14, b15, b16, b17, b18, b19, b20, b21] cs := by
  unfold w_law_b1_7
  walk_at "dl"
  refine ⟨ps, phs, op, day, rfl, h.ok.1, h.ok.2.1, h.ok.2.2, ?_⟩
  walk_at "dl"
  unfold w_law_b1_8
  walk_at "dl"
  intro p hp
  exact law_9 h hd1 hd2 hp hn hc hT
theorem law_6 {p : Addr} (h : Pk ps phs s os r sl osl) (hd1 : s - 2 ≤ day) (hd2 : day ≤ sl + 40) (hk : cs p = some (.dk (balK phs op (s - 2) (sl + 40 + 1 - (s - 2)).toNat))) (hn : Nx D x0 a C) (hc : ∃ c, cs a = some c ∧ DrSt c) (hT : cs C.T_balance_at = some .tg) :
    w_law_b1_6 C D [some x0, some (.cell a), b2, some (.dat (planD ps phs)), some (.int op), some (.int s), b6, some (.int (sl + 40)), some (.cell p), some (.int day), b10, b11, b12, b13, b14, b15, b16, b17, b18, b19, b20, b21] cs := by
  unfold w_law_b1_6
  walk_at "dl"
  simp only [wFor, wiSeq]
  walk_at "dl"
  simp only [wSortDI]
  walk_at "dl"
  refine ⟨_, hk, (List.range (sl + 40 + 1 - (s - 2)).toNat).map fun (i : Nat) => s - 2 + (i : Int), by unfold balK; rw [List.map_map, List.map_map]; rfl, fun ys pm _ => .inr ⟨ys.map .int, by rw [show (ys.map fun i => Vl.dat (Dat.int i)) = (ys.map Dat.int).map .dat by rw [List.map_map]; rfl, allDat_map], ?_⟩⟩
  walk_at "dl"
  refine ⟨fun i ρ cs' => cs' = cs ∧ ∃ b10, ρ = [some x0, some (.cell a), b2, some (.dat (planD ps phs)), some (.int op), some (.int s), b6, some (.int (sl + 40)), some (.cell p), some (.int day), b10, b11, b12, b13, b14, b15, b16, b17, b18, b19, b20, b21], ⟨rfl, b10, rfl⟩, fun _ _ _ _ _ => trivial, ?_, ?_⟩
  · rintro i x ρ cs' hx ⟨rfl, b10, rfl⟩
    rw [List.getElem?_map, List.getElem?_map] at hx
    obtain ⟨d0, hd0, rfl⟩ := Option.map_eq_some_iff.mp hx
    obtain ⟨y, hy, rfl⟩ := Option.map_eq_some_iff.mp hd0
    have hmem := pm.mem_iff.mp (List.mem_of_getElem? hy)
    obtain ⟨j, hj, rfl⟩ := List.mem_map.mp hmem
    rw [List.mem_range] at hj
    walk_at "dl"
    refine ⟨ps, phs, op, _, rfl, h.ok.1, h.ok.2.1, h.ok.2.2, hT, ?_⟩
    simp only [wDGet]
    refine ⟨.int (balAt phs op (s - 2 + (j : Int))), ⟨p, rfl, .inl ⟨_, Sum.inl (s - 2 + (j : Int)), hk, rfl, ?_⟩⟩, ?_⟩
    · rw [valK_at hj]
    · refine ⟨_, _, _, rfl, rfl, rfl, lv_int, by decide, ?_⟩
      walk_at "dl"
  · rintro ρ cs' ⟨rfl, b10, rfl⟩
    exact law_7 h hd1 hd2 hn hc hT
theorem law_4 (h : Pk ps phs s os r sl osl) (hn : Nx D x0 a C) (hc : ∃ c, cs a = some c ∧ DrSt c) (hT : cs C.T_balance_at = some .tg) :
    w_law_b1_4 C D [some x0, some (.cell a), b2, some (.dat (planD ps phs)), some (.int op), some (.int s), b6, some (.int (sl + 40)), b8, b9, b10, b11, b12, b13, b14, b15, b16, b17, b18, b19, b20, b21] cs := by
  have hat := aT hc hT
  have := h.s0
  have := h.s1
  have := h.s2
  unfold w_law_b1_4
  walk_at "dl"
  refine ⟨ps, s, os, r, op, sl + 40, by rw [← h.eq], by rw [← h.eq]; exact h.ok, by omega, by omega, by omega, by omega, fun p hp => ?_⟩
  rw [← h.eq]
  have hpT : C.T_balance_at ≠ p := by intro z; rw [z, hp] at hT; cases hT
  obtain ⟨c, hc1, hD⟩ := hc
  have hpa : a ≠ p := by intro z; rw [z, hp] at hc1; cases hc1
  walk_at "dl"
  unfold w_law_b1_5
  walk_at "dl"
  refine ⟨a, _, c, rfl, by rw [Cells.put_ne hpa]; exact hc1, hD, by omega, by omega, fun k c1 hk0 hk1 hD1 => ?_⟩
  walk_at "dl"
  refine law_6 (p := p) h (by omega) (by omega) ?_ hn ⟨c1, Cells.put_same, hD1⟩ (by rw [Cells.put_ne hat, Cells.put_ne hpT]; exact hT)
  rw [Cells.put_ne hpa.symm, Cells.put_same]
theorem law_3 (h : Pk ps phs s os r sl osl) (hn : Nx D x0 a C) (hc : ∃ c, cs a = some c ∧ DrSt c) (hT : cs C.T_balance_at = some .tg) :
    w_law_b1_3 C D [some x0, some (.cell a), b2, some (.dat (planD ps phs)), some (.int op), some (.int s), b6, b7, b8, b9, b10, b11, b12, b13, b14, b15, b16, b17, b18, b19, b20, b21] cs := by
  unfold w_law_b1_3
  simp only [planD, phsD]
  walk_at "dl"
  refine ⟨_, at_last h, ?_⟩
  simp only [phD]
  walk_at "dl"
  exact law_4 h hn hc hT
theorem law_1 {i : Int} (hcal : CalOk ps) (hpm : ∀ p ∈ ps, p ≤ 24) (h1 : 1 ≤ phs.length) (h3 : phs.length ≤ 3) (hdr : PhsDr ps 9 phs) (hn : Nx D x0 a C) (hc : ∃ c, cs a = some c ∧ DrSt c) (hT : cs C.T_balance_at = some .tg) :
    w_law_b1_1 C D [some x0, some (.cell a), some (.int i), some (.dat (planD ps phs)), some (.int op), b5, b6, b7, b8, b9, b10, b11, b12, b13, b14, b15, b16, b17, b18, b19, b20, b21] cs := by
  have hat := aT hc hT
  obtain ⟨c, hc1, hD⟩ := hc
  match phs, h1 with
  | (s, os) :: r, _ =>
    obtain ⟨hw, ho⟩ := hdr
    unfold w_law_b1_1
    simp only [planD, phsD]
    walk_at "dl"
    unfold w_law_b1_2
    walk_at "dl"
    refine ⟨false, _, rfl, .dat (.int s), at_0, ?_⟩
    by_cases hi : i = 0
    · rw [if_pos hi]
      refine ⟨a, ps, 20, 9, c, rfl, hc1, hD, hcal, by decide, by decide, by decide, by decide, fun os2 c2 ho2 hb2 hl2 hD2 => ?_⟩
      refine ⟨_, _, rfl, _, allDat_map _, _, rfl, by show 2 ≤ 16777216; decide, by decide, ?_, by decide, ?_⟩
      · rw [cut1]; simp at h3 ⊢; omega
      · rw [cut1]
        have hw2 : ((s, os2) :: r).Pairwise (fun p q => p.1 < q.1) := by
          obtain ⟨w1, w2⟩ := List.pairwise_cons.mp hw
          exact List.pairwise_cons.mpr ⟨fun q hq => w1 q hq, w2⟩
        obtain ⟨sl, osl, hp⟩ := mkPk (phs := (s, os2) :: r) hcal hpm rfl (by rw [List.length_cons] at h3 ⊢; omega) hw2 fun p hp => by
          rcases List.mem_cons.mp hp with z | z
          · obtain ⟨a1, a2, a3, a4, a5⟩ := ho (s, os) List.mem_cons_self
            rw [z]
            exact ⟨ho2, by show os2.length ≤ 60; omega, hb2, a4, a5⟩
          · obtain ⟨a1, a2, a3, a4, a5⟩ := ho p (List.mem_cons_of_mem _ z)
            exact ⟨a1, by omega, a3, a4, a5⟩
        exact law_3 hp hn ⟨c2, Cells.put_same, hD2⟩ (by rw [Cells.put_ne hat]; exact hT)
    · rw [if_neg hi]
      obtain ⟨sl, osl, hp⟩ := mkPk (phs := (s, os) :: r) hcal hpm rfl (by omega) hw fun p hp => by
        obtain ⟨a1, a2, a3, a4, a5⟩ := ho p hp
        exact ⟨a1, by omega, a3, a4, a5⟩
      exact law_3 hp hn ⟨c, hc1, hD⟩ hT
end
def Inv0 (C : CE) (x0 : Vl) (a : Addr) : Nat → DEnv → Cells → Prop := fun _ ρ cs => (∃ c, cs a = some c ∧ DrSt c) ∧ cs C.T_balance_at = some .tg ∧ ∃ b2 b3 b4 b5 b6 b7 b8 b9 b10 b11 b12 b13 b14 b15 b16 b17 b18 b19 b20 b21 : Option Vl, ρ = [some x0, some (.cell a), b2, b3, b4, b5, b6, b7, b8, b9, b10, b11, b12, b13, b14, b15, b16, b17, b18, b19, b20, b21]
theorem pure_law (K : Frag) (C : CE) : ∀ xs cs Q XP, sp_law C xs cs Q XP → w_law C (retE K Q) (startD 22 xs) cs := by
  rintro xs cs Q XP ⟨ns, rfl, hT, q⟩
  unfold w_law w_law_b0_0
  walk_at "dl"
  refine ⟨ns, rfl, fun a c ha hD => ?_⟩
  have hTa : C.T_balance_at ≠ a := by intro z; rw [z, ha] at hT; cases hT
  unfold w_law_b0_1
  walk_at "dl"
  simp only [wFor, wiRng1]
  walk_at "dl"
  refine ⟨Inv0 C (.dat (.lst (iD ns))) a, ⟨⟨c, Cells.put_same, hD⟩, by rw [Cells.put_ne hTa]; exact hT, _, _, _, _, _, _, _, _, _, _, _, _, _, _, _, _, _, _, _, _, rfl⟩, fun _ _ _ _ _ => trivial, ?_, ?_⟩
  · rintro i x ρ cs1 hx ⟨⟨c1, hc1, hD1⟩, hT1, b2, b3, b4, b5, b6, b7, b8, b9, b10, b11, b12, b13, b14, b15, b16, b17, b18, b19, b20, b21, rfl⟩
    obtain ⟨hi, rfl⟩ := rangeD_at hx
    unfold w_law_b1_0
    walk_at "dl"
    refine ⟨a, 24, 9, c1, rfl, hc1, hD1, by decide, by decide, by decide, by decide, fun ps phs c2 hcal hpm h1 h3 hdr hD2 => ?_⟩
    refine ⟨a, 100, c2, rfl, Cells.put_same, hD2, by decide, by decide, fun k c3 hk0 hk1 hD3 => ?_⟩
    walk_at "dl"
    refine law_1 hcal (fun p hp => by have := hpm p hp; omega) h1 h3 hdr ?_ ⟨c3, Cells.put_same, hD3⟩ (by rw [Cells.put_ne hTa]; exact hT1)
    intro ρ cs' hρ hc hT
    exact ⟨hc, hT, hρ⟩
  · rintro ρ cs' ⟨_, _, b2, b3, b4, b5, b6, b7, b8, b9, b10, b11, b12, b13, b14, b15, b16, b17, b18, b19, b20, b21, rfl⟩
    unfold w_law_b0_2
    walk_at "dl"
    exact .now (q _)
theorem law_start (C : CE) (ns : List Int) (cs : Cells) (Q : Vl → Cells → Prop) (XP : DXP) (hl : ns.length ≤ 63) (hT : cs C.T_balance_at = some .tg) (q : ∀ cs', Q (.dat (.bl true)) cs') : sp_law C [.dat (.lst (ns.map .int))] cs Q XP := ⟨ns, rfl, hT, q⟩
theorem never_law_same : ∀ xs cs Q XP, ¬ sp_law_same 0 xs cs Q XP := fun _ _ _ _ h => h
end DL
namespace Law
open PySem L2 DL GT
def top (i : Nat) : Stmt := PySem.Challenge.pw_standingorders_k03_balances_day_by_day.main.body.getD i (.Pass ⟨0, 0, 0, 0⟩)
abbrev s_is_integer : Stmt := top 7
abbrev s_validate_calendar : Stmt := top 8
abbrev s_is_order : Stmt := top 9
abbrev s_first_invalid_order : Stmt := top 10
abbrev s_days_due : Stmt := top 11
abbrev s_validate_phases : Stmt := top 15
abbrev s_validate_plan : Stmt := top 16
abbrev s_spans_of : Stmt := top 17
abbrev s_totals_until : Stmt := top 18
abbrev s_balance_at : Stmt := top 19
abbrev s_balance : Stmt := top 21
abbrev s_contributions : Stmt := top 22
abbrev s_payments_on : Stmt := top 23
abbrev s_entries : Stmt := top 24
abbrev s_law_start : Stmt := top 26
abbrev s_law_drawn : Stmt := top 27
abbrev s_law_same : Stmt := top 28
abbrev s_law_calendar : Stmt := top 29
abbrev s_law_order : Stmt := top 30
abbrev s_law_orders : Stmt := top 31
abbrev s_law_plan : Stmt := top 32
abbrev s_law_orders_on : Stmt := top 33
abbrev s_law_payments : Stmt := top 34
abbrev s_law_balances : Stmt := top 35
abbrev s_law_entries : Stmt := top 36
abbrev s_law_first_entries : Stmt := top 37
abbrev s_law : Stmt := top 38
structure Bi (K : Frag) (mg : Str → Option Value) (C : CE) : Prop where
  b_bool : mg "bool" = none
  b_enumerate : mg "enumerate" = none
  b_int : mg "int" = none
  b_isinstance : mg "isinstance" = none
  b_len : mg "len" = none
  b_list : mg "list" = none
  b_max : mg "max" = none
  b_min : mg "min" = none
  b_range : mg "range" = none
  b_sorted : mg "sorted" = none
  b_sum : mg "sum" = none
  b_tuple : mg "tuple" = none
  g_MAX_ORDERS : ∃ t, mg "MAX_ORDERS" = some (.int 60 t)
  g_MAX_PERIOD : ∃ t, mg "MAX_PERIOD" = some (.int 400 t)
  g_MAX_PERIODS : ∃ t, mg "MAX_PERIODS" = some (.int 5 t)
  g_MAX_PHASES : ∃ t, mg "MAX_PHASES" = some (.int 20 t)
section
variable {P : Program} {w : World} {K : Frag} {mg : Str → Option Value} {base : Heap} {C : CE}
theorem sc_is_integer : FnScope ["value"] ["value"] (defScope s_is_integer) := ⟨rfl, rfl, rfl, by decide +kernel, rfl, by decide +kernel, by decide +kernel⟩
theorem ok_is_integer {f : Addr} {fd : FuncData} (F : Fun K "is_integer" "is_integer" s_is_integer f fd) (hm : mg "is_integer" = some (.ref f)) (B : Bi K mg C)  : DOk P w K mg base CX0 "is_integer" ["value"] 1 sp_is_integer :=
  ⟨f, fd, fn_dataQ F sc_is_integer len_is_integer (fun cdv A outer s H E hr =>
      (dss_one (ds_ret (de_and (de_isi .int B.b_isinstance B.b_int (by decide +kernel) (de_var 0)) (de_one (de_not (de_isi .bool B.b_isinstance B.b_bool (by decide +kernel) (de_var 0)))))))) (fun xs cs Q XP h => pure_is_integer K xs cs Q XP h), hm, F.kp, (F.binds (ps := ["value"]) (fun _ _ _ _ _ _ us hl => match us, hl with | [_], _ => rfl))⟩
theorem sc_validate_calendar : FnScope ["calendar", "before", "index", "period"] ["calendar"] (defScope s_validate_calendar) := ⟨rfl, rfl, rfl, by decide +kernel, rfl, by decide +kernel, by decide +kernel⟩
theorem ok_validate_calendar {f : Addr} {fd : FuncData} (F : Fun K "validate_calendar" "validate_calendar" s_validate_calendar f fd) (hm : mg "validate_calendar" = some (.ref f)) (B : Bi K mg C) (G_is_integer : DOk P w K mg base CX0 "is_integer" ["value"] 1 sp_is_integer) : DOk P w K mg base CX0 "validate_calendar" ["calendar"] 2 sp_validate_calendar :=
  ⟨f, fd, fn_dataQ F sc_validate_calendar len_validate_calendar (fun cdv A outer s H E hr =>
      (dss_cons (ds_if (dt_not (dt_chainD c_le c_le de_int (de_len B.b_len (da_cons (de_var 0) da_nil)) (de_gintE B.g_MAX_PERIODS))) (dss_one ds_never) dss_nil)
      (dss_cons (ds_set (i := 1) sc_validate_calendar.nd de_int)
      (dss_one (ds_for (di_enum B.b_enumerate (da_cons (de_var 0) da_nil)) (dg_tup rfl (dgs_cons (dg_name (i := 2) sc_validate_calendar.nd) (dgs_cons (dg_name (i := 3) sc_validate_calendar.nd) dgs_nil))) (dss_cons (ds_if (DW.dt (dw_or (dt_not (dt_val (de_call G_is_integer (hr.mono (by decide)) (da_cons (de_var 3) da_nil)))) (dw_or (dt_not (dt_chainD c_lt c_le (de_var 1) (de_var 3) (de_gintE B.g_MAX_PERIOD))) (dw_or1 (DW.dt (dw_and (dt_cmpD c_gt (de_var 1) de_int) (dw_and1 (dt_cmpD (c_ne hr.units) (de_mod (de_var 3) (de_var 1)) de_int)))))))) (dss_one ds_never) dss_nil)
      (dss_one (ds_set (i := 1) sc_validate_calendar.nd (de_var 3))))))))) (fun xs cs Q XP h => pure_validate_calendar K xs cs Q XP h), hm, F.kp, (F.binds (ps := ["calendar"]) (fun _ _ _ _ _ _ us hl => match us, hl with | [_], _ => rfl))⟩
theorem sc_is_order : FnScope ["calendar", "order", "period", "day", "amount"] ["calendar", "order"] (defScope s_is_order) := ⟨rfl, rfl, rfl, by decide +kernel, rfl, by decide +kernel, by decide +kernel⟩
theorem ok_is_order {f : Addr} {fd : FuncData} (F : Fun K "is_order" "is_order" s_is_order f fd) (hm : mg "is_order" = some (.ref f)) (B : Bi K mg C) (G_is_integer : DOk P w K mg base CX0 "is_integer" ["value"] 1 sp_is_integer) : DOk P w K mg base CX0 "is_order" ["calendar", "order"] 2 sp_is_order :=
  ⟨f, fd, fn_dataQ F sc_is_order len_is_order (fun cdv A outer s H E hr =>
      (dss_cons (ds_asg (de_var 1) (dg_tup rfl (dgs_cons (dg_name (i := 2) sc_is_order.nd) (dgs_cons (dg_name (i := 3) sc_is_order.nd) (dgs_cons (dg_name (i := 4) sc_is_order.nd) dgs_nil)))))
      (dss_cons (ds_if (DW.dt (dw_or (dt_notin (de_var 2) (de_var 0)) (dw_or (dt_not (dt_val (de_call G_is_integer (hr.mono (by decide)) (da_cons (de_var 3) da_nil)))) (dw_or1 (dt_not (dt_chainD c_le c_lt de_int (de_var 3) (de_var 2))))))) (dss_one (ds_ret de_bl)) dss_nil)
      (dss_one (ds_ret (de_and (de_call G_is_integer (hr.mono (by decide)) (da_cons (de_var 4) da_nil)) (de_one (de_cmpD (c_ne hr.units) (de_var 4) de_int)))))))) (fun xs cs Q XP h => pure_is_order K xs cs Q XP h), hm, F.kp, (F.binds (ps := ["calendar", "order"]) (fun _ _ _ _ _ _ us hl => match us, hl with | [_, _], _ => rfl))⟩
theorem sc_first_invalid_order : FnScope ["calendar", "orders", "index", "order"] ["calendar", "orders"] (defScope s_first_invalid_order) := ⟨rfl, rfl, rfl, by decide +kernel, rfl, by decide +kernel, by decide +kernel⟩
theorem ok_first_invalid_order {f : Addr} {fd : FuncData} (F : Fun K "first_invalid_order" "first_invalid_order" s_first_invalid_order f fd) (hm : mg "first_invalid_order" = some (.ref f)) (B : Bi K mg C) (G_is_order : DOk P w K mg base CX0 "is_order" ["calendar", "order"] 2 sp_is_order) : DOk P w K mg base CX0 "first_invalid_order" ["calendar", "orders"] 3 sp_first_invalid_order :=
  ⟨f, fd, fn_dataQ F sc_first_invalid_order len_first_invalid_order (fun cdv A outer s H E hr =>
      (dss_cons (ds_for (di_enum B.b_enumerate (da_cons (de_var 1) da_nil)) (dg_tup rfl (dgs_cons (dg_name (i := 2) sc_first_invalid_order.nd) (dgs_cons (dg_name (i := 3) sc_first_invalid_order.nd) dgs_nil))) (dss_one (ds_if (dt_not (dt_val (de_call G_is_order (hr.mono (by decide)) (da_cons (de_var 0) (da_cons (de_var 3) da_nil))))) (dss_one (ds_ret (de_var 2))) dss_nil)))
      (dss_one (ds_ret de_non)))) (fun xs cs Q XP h => pure_first_invalid_order K xs cs Q XP h), hm, F.kp, (F.binds (ps := ["calendar", "orders"]) (fun _ _ _ _ _ _ us hl => match us, hl with | [_, _], _ => rfl))⟩
theorem sc_days_due : FnScope ["period", "day", "first", "last"] ["period", "day", "first", "last"] (defScope s_days_due) := ⟨rfl, rfl, rfl, by decide +kernel, rfl, by decide +kernel, by decide +kernel⟩
theorem ok_days_due {f : Addr} {fd : FuncData} (F : Fun K "days_due" "days_due" s_days_due f fd) (hm : mg "days_due" = some (.ref f)) (B : Bi K mg C)  : DOk P w K mg base CX0 "days_due" ["period", "day", "first", "last"] 1 sp_days_due :=
  ⟨f, fd, fn_dataQ F sc_days_due len_days_due (fun cdv A outer s H E hr =>
      (dss_one (ds_ret (de_max2 rfl B.b_max (da_cons de_int (da_cons (de_sub (de_div (de_sub (de_var 3) (de_var 1)) (de_var 0)) (de_div (de_sub (de_sub (de_var 2) de_int) (de_var 1)) (de_var 0))) da_nil)))))) (fun xs cs Q XP h => pure_days_due K xs cs Q XP h), hm, F.kp, (F.binds (ps := ["period", "day", "first", "last"]) (fun _ _ _ _ _ _ us hl => match us, hl with | [_, _, _, _], _ => rfl))⟩
theorem sc_validate_phases : FnScope ["calendar", "phases", "phase", "start", "orders", "index"] ["calendar", "phases"] (defScope s_validate_phases) := ⟨rfl, rfl, rfl, by decide +kernel, rfl, by decide +kernel, by decide +kernel⟩
theorem ok_validate_phases {f : Addr} {fd : FuncData} (F : Fun K "validate_phases" "validate_phases" s_validate_phases f fd) (hm : mg "validate_phases" = some (.ref f)) (B : Bi K mg C) (G_is_integer : DOk P w K mg base CX0 "is_integer" ["value"] 1 sp_is_integer) (G_first_invalid_order : DOk P w K mg base CX0 "first_invalid_order" ["calendar", "orders"] 3 sp_first_invalid_order) : DOk P w K mg base CX0 "validate_phases" ["calendar", "phases"] 4 sp_validate_phases :=
  ⟨f, fd, fn_dataQ F sc_validate_phases len_validate_phases (fun cdv A outer s H E hr =>
      (dss_cons (ds_if (dt_not (dt_chainD c_le c_le de_int (de_len B.b_len (da_cons (de_var 1) da_nil)) (de_gintE B.g_MAX_PHASES))) (dss_one ds_never) dss_nil)
      (dss_one (ds_for (di_enum B.b_enumerate (da_cons (de_var 1) da_nil)) (dg_tup rfl (dgs_cons (dg_name (i := 2) sc_validate_phases.nd) (dgs_cons (dg_tup rfl (dgs_cons (dg_name (i := 3) sc_validate_phases.nd) (dgs_cons (dg_name (i := 4) sc_validate_phases.nd) dgs_nil))) dgs_nil))) (dss_cons (ds_if (DW.dt (dw_or (dt_not (dt_val (de_call G_is_integer (hr.mono (by decide)) (da_cons (de_var 3) da_nil)))) (dw_or (DW.dt (dw_and (dt_cmpD c_gt (de_var 2) de_int) (dw_and1 (dt_cmpD c_le (de_var 3) (de_ix (de_ix (de_var 1) (de_sub (de_var 2) de_int)) de_int))))) (dw_or1 (dt_cmpD c_gt (de_len B.b_len (da_cons (de_var 4) da_nil)) (de_gintE B.g_MAX_ORDERS)))))) (dss_one ds_never) dss_nil)
      (dss_cons (ds_set (i := 5) sc_validate_phases.nd (de_call G_first_invalid_order (hr.mono (by decide)) (da_cons (de_var 0) (da_cons (de_var 4) da_nil))))
      (dss_one (ds_if (dt_cmpD c_notN (de_var 5) de_non) (dss_one ds_never) dss_nil)))))))) (fun xs cs Q XP h => pure_validate_phases K xs cs Q XP h), hm, F.kp, (F.binds (ps := ["calendar", "phases"]) (fun _ _ _ _ _ _ us hl => match us, hl with | [_, _], _ => rfl))⟩
theorem sc_validate_plan : FnScope ["plan"] ["plan"] (defScope s_validate_plan) := ⟨rfl, rfl, rfl, by decide +kernel, rfl, by decide +kernel, by decide +kernel⟩
theorem ok_validate_plan {f : Addr} {fd : FuncData} (F : Fun K "validate_plan" "validate_plan" s_validate_plan f fd) (hm : mg "validate_plan" = some (.ref f)) (B : Bi K mg C) (G_validate_calendar : DOk P w K mg base CX0 "validate_calendar" ["calendar"] 2 sp_validate_calendar) (G_validate_phases : DOk P w K mg base CX0 "validate_phases" ["calendar", "phases"] 4 sp_validate_phases) : DOk P w K mg base CX0 "validate_plan" ["plan"] 5 sp_validate_plan :=
  ⟨f, fd, fn_dataQ F sc_validate_plan len_validate_plan (fun cdv A outer s H E hr =>
      (dss_cons (ds_expr (de_call G_validate_calendar (hr.mono (by decide)) (da_cons (de_ix (de_var 0) de_int) da_nil)))
      (dss_one (ds_expr (de_call G_validate_phases (hr.mono (by decide)) (da_cons (de_ix (de_var 0) de_int) (da_cons (de_ix (de_var 0) de_int) da_nil))))))) (fun xs cs Q XP h => pure_validate_plan K xs cs Q XP h), hm, F.kp, (F.binds (ps := ["plan"]) (fun _ _ _ _ _ _ us hl => match us, hl with | [_], _ => rfl))⟩
theorem sc_spans_of : FnScope ["phases", "spans", "phase", "start", "orders", "last"] ["phases"] (defScope s_spans_of) := ⟨rfl, rfl, rfl, by decide +kernel, rfl, by decide +kernel, by decide +kernel⟩
theorem ok_spans_of {f : Addr} {fd : FuncData} (F : Fun K "spans_of" "spans_of" s_spans_of f fd) (hm : mg "spans_of" = some (.ref f)) (B : Bi K mg C)  : DOk P w K mg base CX0 "spans_of" ["phases"] 1 sp_spans_of :=
  ⟨f, fd, fn_dataQ F sc_spans_of len_spans_of (fun cdv A outer s H E hr =>
      (dss_cons (ds_set (i := 1) sc_spans_of.nd (de_lst da_nil))
      (dss_cons (ds_for (di_enum B.b_enumerate (da_cons (de_var 0) da_nil)) (dg_tup rfl (dgs_cons (dg_name (i := 2) sc_spans_of.nd) (dgs_cons (dg_tup rfl (dgs_cons (dg_name (i := 3) sc_spans_of.nd) (dgs_cons (dg_name (i := 4) sc_spans_of.nd) dgs_nil))) dgs_nil))) (dss_cons (ds_set (i := 5) sc_spans_of.nd (de_if (dt_cmpD c_lt (de_add (de_var 2) de_int) (de_len B.b_len (da_cons (de_var 0) da_nil))) (de_sub (de_ix (de_ix (de_var 0) (de_add (de_var 2) de_int)) de_int) de_int) de_non))
      (dss_one (ds_expr (de_append (de_var 1) (de_tup (da_cons (de_var 2) (da_cons (de_var 3) (da_cons (de_var 5) (da_cons (de_var 4) da_nil))))))))))
      (dss_one (ds_ret (de_var 1)))))) (fun xs cs Q XP h => pure_spans_of K xs cs Q XP h), hm, F.kp, (F.binds (ps := ["phases"]) (fun _ _ _ _ _ _ us hl => match us, hl with | [_], _ => rfl))⟩
theorem sc_totals_until : FnScope ["plan", "day", "found", "phase", "first", "last", "orders", "end", "index", "period", "residue", "amount", "times"] ["plan", "day"] (defScope s_totals_until) := ⟨rfl, rfl, rfl, by decide +kernel, rfl, by decide +kernel, by decide +kernel⟩
theorem ok_totals_until {f : Addr} {fd : FuncData} (F : Fun K "totals_until" "totals_until" s_totals_until f fd) (hm : mg "totals_until" = some (.ref f)) (B : Bi K mg C) (G_spans_of : DOk P w K mg base CX0 "spans_of" ["phases"] 1 sp_spans_of) (G_days_due : DOk P w K mg base CX0 "days_due" ["period", "day", "first", "last"] 1 sp_days_due) : DOk P w K mg base CX0 "totals_until" ["plan", "day"] 2 sp_totals_until :=
  ⟨f, fd, fn_dataQ F sc_totals_until len_totals_until (fun cdv A outer s H E hr =>
      (dss_cons (ds_set (i := 2) sc_totals_until.nd (de_lst da_nil))
      (dss_cons (ds_for (di_seq (de_call G_spans_of (hr.mono (by decide)) (da_cons (de_ix (de_var 0) de_int) da_nil))) (dg_tup rfl (dgs_cons (dg_name (i := 3) sc_totals_until.nd) (dgs_cons (dg_name (i := 4) sc_totals_until.nd) (dgs_cons (dg_name (i := 5) sc_totals_until.nd) (dgs_cons (dg_name (i := 6) sc_totals_until.nd) dgs_nil))))) (dss_cons (ds_set (i := 7) sc_totals_until.nd (de_if (dt_cmpD c_isN (de_var 5) de_non) (de_var 1) (de_min2 rfl B.b_min (da_cons (de_var 1) (da_cons (de_var 5) da_nil)))))
      (dss_one (ds_for (di_enum B.b_enumerate (da_cons (de_var 6) da_nil)) (dg_tup rfl (dgs_cons (dg_name (i := 8) sc_totals_until.nd) (dgs_cons (dg_tup rfl (dgs_cons (dg_name (i := 9) sc_totals_until.nd) (dgs_cons (dg_name (i := 10) sc_totals_until.nd) (dgs_cons (dg_name (i := 11) sc_totals_until.nd) dgs_nil)))) dgs_nil))) (dss_cons (ds_set (i := 12) sc_totals_until.nd (de_if (dt_cmpD c_ge (de_var 7) (de_var 4)) (de_call G_days_due (hr.mono (by decide)) (da_cons (de_var 9) (da_cons (de_var 10) (da_cons (de_var 4) (da_cons (de_var 7) da_nil))))) de_int))
      (dss_one (ds_if (dt_cmpD c_gt (de_var 12) de_int) (dss_one (ds_expr (de_append (de_var 2) (de_tup (da_cons (de_var 3) (da_cons (de_var 8) (da_cons (de_var 12) (da_cons (de_mul (de_var 12) (de_var 11)) da_nil)))))))) dss_nil)))))))
      (dss_one (ds_ret (de_var 2)))))) (fun xs cs Q XP h => pure_totals_until K xs cs Q XP h), hm, F.kp, (F.binds (ps := ["plan", "day"]) (fun _ _ _ _ _ _ us hl => match us, hl with | [_, _], _ => rfl))⟩
theorem sc_balance_at : FnScope ["plan", "opening", "day", "phase", "index", "times", "total"] ["plan", "opening", "day"] (defScope s_balance_at) := ⟨rfl, rfl, rfl, by decide +kernel, rfl, by decide +kernel, by decide +kernel⟩
theorem ok_balance_at {f : Addr} {fd : FuncData} (F : Fun K "balance_at" "balance_at" s_balance_at f fd) {c : Addr} (hcd : fd.code = .ref c) (TB : GxR.TabB base mg c C.T_balance_at) (hm : mg "balance_at" = some (.ref f)) (B : Bi K mg C) (G_totals_until : DOk P w K mg base CX0 "totals_until" ["plan", "day"] 2 sp_totals_until) : DOk P w K mg base CX0 "balance_at" ["plan", "opening", "day"] 4 (sp_balance_at C) :=
  ⟨f, fd, fn_dataC F hcd sc_balance_at len_balance_at (fun A outer s H E hr =>
      (dss_one (ds_ret (de_add (de_var 1) (GN.de_sumG rfl (GN.dge_gx (k := 0) (N := ["phase", "index", "times", "total"]) hr.depth TB rfl (de_call G_totals_until (hr.mono (by decide)) (da_cons (de_var 0) (da_cons (de_var 2) da_nil))) (fun _ _ _ _ _ _ _ _ hr => (dg_tup rfl (dgs_cons (dg_name (i := 0) (show List.Nodup (["phase", "index", "times", "total"] : List Str) from by decide)) (dgs_cons (dg_name (i := 1) (show List.Nodup (["phase", "index", "times", "total"] : List Str) from by decide)) (dgs_cons (dg_name (i := 2) (show List.Nodup (["phase", "index", "times", "total"] : List Str) from by decide)) (dgs_cons (dg_name (i := 3) (show List.Nodup (["phase", "index", "times", "total"] : List Str) from by decide)) dgs_nil)))))) (fun _ _ _ _ _ _ _ _ hr => (de_var 3))) (hr.mono (by decide)) B.b_sum))))) (fun xs cs Q XP h => pure_balance_at K C xs cs Q XP h), hm, F.kp, (F.binds (ps := ["plan", "opening", "day"]) (fun _ _ _ _ _ _ us hl => match us, hl with | [_, _, _], _ => rfl))⟩
theorem sc_balance : FnScope ["plan", "opening", "day"] ["plan", "opening", "day"] (defScope s_balance) := ⟨rfl, rfl, rfl, by decide +kernel, rfl, by decide +kernel, by decide +kernel⟩
theorem ok_balance {f : Addr} {fd : FuncData} (F : Fun K "balance" "balance" s_balance f fd) (hm : mg "balance" = some (.ref f)) (B : Bi K mg C) (G_validate_plan : DOk P w K mg base CX0 "validate_plan" ["plan"] 5 sp_validate_plan) (G_balance_at : DOk P w K mg base CX0 "balance_at" ["plan", "opening", "day"] 4 (sp_balance_at C)) : DOk P w K mg base CX0 "balance" ["plan", "opening", "day"] 6 (sp_balance C) :=
  ⟨f, fd, fn_dataQ F sc_balance len_balance (fun cdv A outer s H E hr =>
      (dss_cons (ds_expr (de_call G_validate_plan (hr.mono (by decide)) (da_cons (de_var 0) da_nil)))
      (dss_one (ds_ret (de_call G_balance_at (hr.mono (by decide)) (da_cons (de_var 0) (da_cons (de_var 1) (da_cons (de_var 2) da_nil)))))))) (fun xs cs Q XP h => pure_balance K C xs cs Q XP h), hm, F.kp, (F.binds (ps := ["plan", "opening", "day"]) (fun _ _ _ _ _ _ us hl => match us, hl with | [_, _, _], _ => rfl))⟩
theorem sc_contributions : FnScope ["plan", "opening", "day"] ["plan", "opening", "day"] (defScope s_contributions) := ⟨rfl, rfl, rfl, by decide +kernel, rfl, by decide +kernel, by decide +kernel⟩
theorem ok_contributions {f : Addr} {fd : FuncData} (F : Fun K "contributions" "contributions" s_contributions f fd) (hm : mg "contributions" = some (.ref f)) (B : Bi K mg C) (G_validate_plan : DOk P w K mg base CX0 "validate_plan" ["plan"] 5 sp_validate_plan) (G_totals_until : DOk P w K mg base CX0 "totals_until" ["plan", "day"] 2 sp_totals_until) : DOk P w K mg base CX0 "contributions" ["plan", "opening", "day"] 6 sp_contributions :=
  ⟨f, fd, fn_dataQ F sc_contributions len_contributions (fun cdv A outer s H E hr =>
      (dss_cons (ds_expr (de_call G_validate_plan (hr.mono (by decide)) (da_cons (de_var 0) da_nil)))
      (dss_one (ds_ret (de_call G_totals_until (hr.mono (by decide)) (da_cons (de_var 0) (da_cons (de_var 2) da_nil))))))) (fun xs cs Q XP h => pure_contributions K xs cs Q XP h), hm, F.kp, (F.binds (ps := ["plan", "opening", "day"]) (fun _ _ _ _ _ _ us hl => match us, hl with | [_, _, _], _ => rfl))⟩
theorem sc_payments_on : GScope ["spans", "day", "phase", "first", "last", "orders", "index", "period", "residue", "amount"] ["spans", "day"] (defScope s_payments_on) := ⟨rfl, rfl, rfl, by decide +kernel, rfl, by decide +kernel, by decide +kernel⟩
theorem ok_payments_on {f : Addr} {fd : FuncData} (F : Fun K "payments_on" "payments_on" s_payments_on f fd) (hm : mg "payments_on" = some (.ref f)) (B : Bi K mg C)  : GN.DGok P w K mg base "payments_on" ["spans", "day"] 1 sp_payments_on :=
  ⟨f, fd, GN.gfn_data (k := 0) F sc_payments_on (by decide +kernel) len_payments_on (fun cdv outer L self g Gd fin =>
      (GN.dgss_cons (GN.dgs_for (fun _ _ _ hr0 => have hr := Room.deeper (k := 0) hr0 (PyProof.Rows.envOfC "payments_on" (defScope s_payments_on) L f cdv); (di_seq (de_var 0))) (fun _ _ _ hr0 => have hr := Room.deeper (k := 0) hr0 (PyProof.Rows.envOfC "payments_on" (defScope s_payments_on) L f cdv); (dg_tup rfl (dgs_cons (dg_name (i := 2) sc_payments_on.nd) (dgs_cons (dg_name (i := 3) sc_payments_on.nd) (dgs_cons (dg_name (i := 4) sc_payments_on.nd) (dgs_cons (dg_name (i := 5) sc_payments_on.nd) dgs_nil)))))) (GN.dgss_cons (GN.dgs_if (fun _ _ _ hr0 => have hr := Room.deeper (k := 0) hr0 (PyProof.Rows.envOfC "payments_on" (defScope s_payments_on) L f cdv); (DW.dt (dw_and (dt_cmpD c_le (de_var 3) (de_var 1)) (dw_and1 (DW.dt (dw_or (dt_cmpD c_isN (de_var 4) de_non) (dw_or1 (dt_cmpD c_le (de_var 1) (de_var 4))))))))) (GN.dgss_cons (GN.dgs_for (fun _ _ _ hr0 => have hr := Room.deeper (k := 0) hr0 (PyProof.Rows.envOfC "payments_on" (defScope s_payments_on) L f cdv); (di_enum B.b_enumerate (da_cons (de_var 5) da_nil))) (fun _ _ _ hr0 => have hr := Room.deeper (k := 0) hr0 (PyProof.Rows.envOfC "payments_on" (defScope s_payments_on) L f cdv); (dg_tup rfl (dgs_cons (dg_name (i := 6) sc_payments_on.nd) (dgs_cons (dg_tup rfl (dgs_cons (dg_name (i := 7) sc_payments_on.nd) (dgs_cons (dg_name (i := 8) sc_payments_on.nd) (dgs_cons (dg_name (i := 9) sc_payments_on.nd) dgs_nil)))) dgs_nil)))) (GN.dgss_cons (GN.dgs_if (fun _ _ _ hr0 => have hr := Room.deeper (k := 0) hr0 (PyProof.Rows.envOfC "payments_on" (defScope s_payments_on) L f cdv); (dt_cmpD (c_eq hr.units) (de_mod (de_sub (de_var 1) (de_var 8)) (de_var 7)) de_int)) (GN.dgss_cons (GN.dgs_yield (fun _ _ _ hr0 => have hr := Room.deeper (k := 0) hr0 (PyProof.Rows.envOfC "payments_on" (defScope s_payments_on) L f cdv); (de_tup (da_cons (de_var 2) (da_cons (de_var 6) (da_cons (de_var 9) da_nil))))))
      GN.dgss_nil) GN.dgss_nil)
      GN.dgss_nil))
      GN.dgss_nil) GN.dgss_nil)
      GN.dgss_nil))
      GN.dgss_nil)) (fun xs cs ds fin Gd h => pure_payments_on xs cs ds fin Gd h), hm, F.kp, (F.binds (ps := ["spans", "day"]) (fun _ _ _ _ _ _ us hl => match us, hl with | [_, _], _ => rfl))⟩
theorem sc_entries : GScope ["plan", "opening", "first", "last", "spans", "day", "current", "phase", "index", "amount"] ["plan", "opening", "first", "last"] (defScope s_entries) := ⟨rfl, rfl, rfl, by decide +kernel, rfl, by decide +kernel, by decide +kernel⟩
theorem ok_entries {f : Addr} {fd : FuncData} (F : Fun K "entries" "entries" s_entries f fd) (hm : mg "entries" = some (.ref f)) (B : Bi K mg C) (G_payments_on : GN.DGok P w K mg base "payments_on" ["spans", "day"] 1 sp_payments_on) (G_balance_at : DOk P w K mg base CX0 "balance_at" ["plan", "opening", "day"] 4 (sp_balance_at C)) (G_spans_of : DOk P w K mg base CX0 "spans_of" ["phases"] 1 sp_spans_of) (G_validate_plan : DOk P w K mg base CX0 "validate_plan" ["plan"] 5 sp_validate_plan) : GN.DGok P w K mg base "entries" ["plan", "opening", "first", "last"] 6 (sp_entries C) :=
  ⟨f, fd, GN.gfn_data (k := 5) F sc_entries (by decide +kernel) len_entries (fun cdv outer L self g Gd fin =>
      (GN.dgss_cons (GN.dgs_plain (fun _ _ _ hr0 => have hr := Room.deeper (k := 5) hr0 (PyProof.Rows.envOfC "entries" (defScope s_entries) L f cdv); (ds_expr (de_call G_validate_plan (hr.mono (by decide)) (da_cons (de_var 0) da_nil)))))
      (GN.dgss_cons (GN.dgs_plain (fun _ _ _ hr0 => have hr := Room.deeper (k := 5) hr0 (PyProof.Rows.envOfC "entries" (defScope s_entries) L f cdv); (ds_set (i := 4) sc_entries.nd (de_call G_spans_of (hr.mono (by decide)) (da_cons (de_ix (de_var 0) de_int) da_nil)))))
      (GN.dgss_cons (GN.dgs_plain (fun _ _ _ hr0 => have hr := Room.deeper (k := 5) hr0 (PyProof.Rows.envOfC "entries" (defScope s_entries) L f cdv); (ds_par (i := 5) (j := 6) rfl sc_entries.nd (da_cons (de_var 2) (da_cons (de_call G_balance_at (hr.mono (by decide)) (da_cons (de_var 0) (da_cons (de_var 1) (da_cons (de_sub (de_var 2) de_int) da_nil)))) da_nil)))))
      (GN.dgss_cons (GN.dgs_while (fun _ _ _ hr0 => have hr := Room.deeper (k := 5) hr0 (PyProof.Rows.envOfC "entries" (defScope s_entries) L f cdv); (DW.dt (dw_or (dt_cmpD c_isN (de_var 3) de_non) (dw_or1 (dt_cmpD c_le (de_var 5) (de_var 3)))))) (GN.dgss_cons (GN.dgs_forG (show 1 + 2 ≤ 6 from by decide) (fun _ h => h) (fun _ _ _ hr0 => have hr := Room.deeper (k := 5) hr0 (PyProof.Rows.envOfC "entries" (defScope s_entries) L f cdv); (GN.dge_call G_payments_on (hr.mono (by decide)) (da_cons (de_var 4) (da_cons (de_var 5) da_nil)))) (fun _ _ _ hr0 => have hr := Room.deeper (k := 5) hr0 (PyProof.Rows.envOfC "entries" (defScope s_entries) L f cdv); (dg_tup rfl (dgs_cons (dg_name (i := 7) sc_entries.nd) (dgs_cons (dg_name (i := 8) sc_entries.nd) (dgs_cons (dg_name (i := 9) sc_entries.nd) dgs_nil))))) (GN.dgss_cons (GN.dgs_plain (fun _ _ _ hr0 => have hr := Room.deeper (k := 5) hr0 (PyProof.Rows.envOfC "entries" (defScope s_entries) L f cdv); (ds_aug (i := 6) sc_entries.nd (de_var 9) ip_add)))
      (GN.dgss_cons (GN.dgs_yield (fun _ _ _ hr0 => have hr := Room.deeper (k := 5) hr0 (PyProof.Rows.envOfC "entries" (defScope s_entries) L f cdv); (de_tup (da_cons (de_var 5) (da_cons (de_var 7) (da_cons (de_var 8) (da_cons (de_var 9) (da_cons (de_var 6) da_nil))))))))
      GN.dgss_nil)))
      (GN.dgss_cons (GN.dgs_plain (fun _ _ _ hr0 => have hr := Room.deeper (k := 5) hr0 (PyProof.Rows.envOfC "entries" (defScope s_entries) L f cdv); (ds_aug (i := 5) sc_entries.nd de_int ip_add)))
      GN.dgss_nil)))
      GN.dgss_nil))))) (fun xs cs ds fin Gd h => pure_entries C xs cs ds fin Gd h), hm, F.kp, (F.binds (ps := ["plan", "opening", "first", "last"]) (fun _ _ _ _ _ _ us hl => match us, hl with | [_, _, _, _], _ => rfl))⟩
theorem sc_law_start : FnScope ["_law_script", "_law_mixed", "_law_cell"] ["_law_script"] (defScope s_law_start) := ⟨rfl, rfl, rfl, by decide +kernel, rfl, by decide +kernel, by decide +kernel⟩
theorem ok_law_start {f : Addr} {fd : FuncData} (F : Fun K "_law_start" "_law_start" s_law_start f fd) (hm : mg "_law_start" = some (.ref f)) (B : Bi K mg C)  : DOk P w K mg base CX0 "_law_start" ["_law_script"] 1 sp_law_start :=
  ⟨f, fd, fn_dataQ F sc_law_start len_law_start (fun cdv A outer s H E hr =>
      (dss_cons (ds_set (i := 1) sc_law_start.nd de_int)
      (dss_cons (ds_for (di_seq (de_var 0)) (dg_name (i := 2) sc_law_start.nd) (dss_one (ds_set (i := 1) sc_law_start.nd (de_mod (de_add (de_add (de_mul (de_var 1) de_int) (de_var 2)) de_int) de_int))))
      (dss_one (ds_ret (de_lst (da_cons (de_var 0) (da_cons de_int (da_cons (de_var 1) (da_cons de_int da_nil)))))))))) (fun xs cs Q XP h => pure_law_start K xs cs Q XP h), hm, F.kp, (F.binds (ps := ["_law_script"]) (fun _ _ _ _ _ _ us hl => match us, hl with | [_], _ => rfl))⟩
theorem sc_law_drawn : FnScope ["_law_state", "_law_count", "_law_result", "_law_cell"] ["_law_state", "_law_count"] (defScope s_law_drawn) := ⟨rfl, rfl, rfl, by decide +kernel, rfl, by decide +kernel, by decide +kernel⟩
theorem ok_law_drawn {f : Addr} {fd : FuncData} (F : Fun K "_law_drawn" "_law_drawn" s_law_drawn f fd) (hm : mg "_law_drawn" = some (.ref f)) (B : Bi K mg C)  : DOk P w K mg base CX0 "_law_drawn" ["_law_state", "_law_count"] 1 sp_law_drawn :=
  ⟨f, fd, fn_dataQ F sc_law_drawn len_law_drawn (fun cdv A outer s H E hr =>
      (dss_cons (ds_if (dt_cmpD c_gt (de_ix (de_var 0) de_int) de_int) (dss_cons (ds_set (i := 2) sc_law_drawn.nd (de_mod (de_ix (de_var 0) de_int) (de_var 1)))
      (dss_cons (ds_asg (de_div (de_ix (de_var 0) de_int) (de_var 1)) (dg_ix (de_var 0) de_int))
      (dss_one (ds_ret (de_var 2))))) dss_nil)
      (dss_cons (ds_asg (de_add (de_ix (de_var 0) de_int) de_int) (dg_ix (de_var 0) de_int))
      (dss_cons (ds_if (dt_cmpD c_le (de_ix (de_var 0) de_int) (de_len B.b_len (da_cons (de_ix (de_var 0) de_int) da_nil))) (dss_cons (ds_set (i := 3) sc_law_drawn.nd (de_ix (de_ix (de_var 0) de_int) (de_sub (de_ix (de_var 0) de_int) de_int)))
      (dss_cons (ds_asg (de_if (dt_cmpD c_ge (de_var 3) (de_pow de_int de_int)) (de_div (de_var 3) (de_var 1)) de_int) (dg_ix (de_var 0) de_int))
      (dss_one (ds_ret (de_mod (de_var 3) (de_var 1)))))) dss_nil)
      (dss_cons (ds_asg (de_mod (de_add (de_mul (de_ix (de_var 0) de_int) de_int) de_int) de_int) (dg_ix (de_var 0) de_int))
      (dss_one (ds_ret (de_mod (de_div (de_ix (de_var 0) de_int) de_int) (de_var 1))))))))) (fun xs cs Q XP h => pure_law_drawn K xs cs Q XP h), hm, F.kp, (F.binds (ps := ["_law_state", "_law_count"]) (fun _ _ _ _ _ _ us hl => match us, hl with | [_, _], _ => rfl))⟩
theorem sc_law_same : FnScope ["_law_result", "_law_expected", "_law_k"] ["_law_result", "_law_expected"] (defScope s_law_same) := ⟨rfl, rfl, rfl, by decide +kernel, rfl, by decide +kernel, by decide +kernel⟩
theorem step_law_same {f : Addr} {fd : FuncData} (F : Fun K "_law_same" "_law_same" s_law_same f fd) {k : Nat} {n : Nat} (hk : 0 ≤ k) (hm : mg "_law_same" = some (.ref f)) (B : Bi K mg C)  (R : DOk P w K mg base CX0 "_law_same" ["_law_result", "_law_expected"] k (sp_law_same n)) : DOk P w K mg base CX0 "_law_same" ["_law_result", "_law_expected"] (k + 1) (sp_law_same (n + 1)) :=
  ⟨f, fd, fn_dataQ F sc_law_same len_law_same (fun cdv A outer s H E hr =>
      (dss_cons (ds_if (dt_val (de_isi2 .tuple .list B.b_isinstance B.b_tuple B.b_list (by decide +kernel) (by decide +kernel) (de_var 1))) (dss_cons (ds_if (DW.dt (dw_or (dt_not (dt_val (de_isi2 .tuple .list B.b_isinstance B.b_tuple B.b_list (by decide +kernel) (by decide +kernel) (de_var 0)))) (dw_or1 (dt_cmpD (c_ne hr.units) (de_isi .list B.b_isinstance B.b_list (by decide +kernel) (de_var 0)) (de_isi .list B.b_isinstance B.b_list (by decide +kernel) (de_var 1)))))) (dss_one (ds_ret de_bl)) dss_nil)
      (dss_cons (ds_if (dt_cmpD (c_ne hr.units) (de_len B.b_len (da_cons (de_var 0) da_nil)) (de_len B.b_len (da_cons (de_var 1) da_nil))) (dss_one (ds_ret de_bl)) dss_nil)
      (dss_one (ds_ret (de_cmpD (c_eq hr.units) (de_lc (own := [("_law_k", 2)]) sc_law_same.nd (di_range1 B.b_range (da_cons (de_len B.b_len (da_cons (de_var 1) da_nil)) da_nil)) (blkOk_by (N := ["_law_result", "_law_expected", "_law_k"]) (sc := defScope s_law_same) (by decide +kernel)) (fun _ _ _ _ _ => (dg_name (i := 2) sc_law_same.nd)) (fun _ _ _ _ _ => (dts_one (dt_not (dt_val (de_call R hr (da_cons (de_ix (de_var 0) (de_var 2)) (da_cons (de_ix (de_var 1) (de_var 2)) da_nil))))))) (fun _ _ _ _ _ => (de_var 2)) (by decide)) (de_lst da_nil)))))) dss_nil)
      (dss_cons (ds_if (dt_cmpD (c_ne hr.units) (de_isi .bool B.b_isinstance B.b_bool (by decide +kernel) (de_var 0)) (de_isi .bool B.b_isinstance B.b_bool (by decide +kernel) (de_var 1))) (dss_one (ds_ret de_bl)) dss_nil)
      (dss_one (ds_ret (de_and (de_cmpD (c_eq hr.units) (de_isi .int B.b_isinstance B.b_int (by decide +kernel) (de_var 0)) (de_isi .int B.b_isinstance B.b_int (by decide +kernel) (de_var 1))) (de_one (de_cmpD (c_eq hr.units) (de_var 0) (de_var 1))))))))) (fun xs cs Q XP h => pure_law_same K n xs cs Q XP h), hm, F.kp, (F.binds (ps := ["_law_result", "_law_expected"]) (fun _ _ _ _ _ _ us hl => match us, hl with | [_, _], _ => rfl))⟩
theorem ok_law_same {f : Addr} {fd : FuncData} (F : Fun K "_law_same" "_law_same" s_law_same f fd) (hm : mg "_law_same" = some (.ref f)) (B : Bi K mg C)  : DOk P w K mg base CX0 "_law_same" ["_law_result", "_law_expected"] 3 (sp_law_same 3) := by
  have R0 : DOk P w K mg base CX0 "_law_same" ["_law_result", "_law_expected"] 0 (sp_law_same 0) := ⟨f, fd, never_fn never_law_same, hm, F.kp, (F.binds (ps := ["_law_result", "_law_expected"]) (fun _ _ _ _ _ _ us hl => match us, hl with | [_, _], _ => rfl))⟩
  have R1 : DOk P w K mg base CX0 "_law_same" ["_law_result", "_law_expected"] 1 (sp_law_same 1) := step_law_same F (by decide) hm B  R0
  have R2 : DOk P w K mg base CX0 "_law_same" ["_law_result", "_law_expected"] 2 (sp_law_same 2) := step_law_same F (by decide) hm B  R1
  have R3 : DOk P w K mg base CX0 "_law_same" ["_law_result", "_law_expected"] 3 (sp_law_same 3) := step_law_same F (by decide) hm B  R2
  exact R3
theorem sc_law_calendar : FnScope ["_law_state", "_law_longest", "_law_periods", "_law_k", "_law_period"] ["_law_state", "_law_longest"] (defScope s_law_calendar) := ⟨rfl, rfl, rfl, by decide +kernel, rfl, by decide +kernel, by decide +kernel⟩
theorem ok_law_calendar {f : Addr} {fd : FuncData} (F : Fun K "_law_calendar" "_law_calendar" s_law_calendar f fd) (hm : mg "_law_calendar" = some (.ref f)) (B : Bi K mg C) (G_law_drawn : DOk P w K mg base CX0 "_law_drawn" ["_law_state", "_law_count"] 1 sp_law_drawn) : DOk P w K mg base CX0 "_law_calendar" ["_law_state", "_law_longest"] 2 sp_law_calendar :=
  ⟨f, fd, fn_dataQ F sc_law_calendar len_law_calendar (fun cdv A outer s H E hr =>
      (dss_cons (ds_set (i := 2) sc_law_calendar.nd (de_lst (da_cons (de_add de_int (de_call G_law_drawn (hr.mono (by decide)) (da_cons (de_var 0) (da_cons (de_min2 rfl B.b_min (da_cons de_int (da_cons (de_var 1) da_nil))) da_nil)))) da_nil)))
      (dss_cons (ds_for (di_range1 B.b_range (da_cons (de_call G_law_drawn (hr.mono (by decide)) (da_cons (de_var 0) (da_cons de_int da_nil))) da_nil)) (dg_name (i := 3) sc_law_calendar.nd) (dss_cons (ds_set (i := 4) sc_law_calendar.nd (de_mul (de_ix (de_var 2) (de_sub de_int de_int)) (de_add de_int (de_call G_law_drawn (hr.mono (by decide)) (da_cons (de_var 0) (da_cons de_int da_nil))))))
      (dss_one (ds_if (dt_cmpD c_le (de_var 4) (de_var 1)) (dss_one (ds_expr (de_append (de_var 2) (de_var 4)))) dss_nil))))
      (dss_one (ds_ret (de_tuple B.b_tuple (da_cons (de_var 2) da_nil))))))) (fun xs cs Q XP h => pure_law_calendar K xs cs Q XP h), hm, F.kp, (F.binds (ps := ["_law_state", "_law_longest"]) (fun _ _ _ _ _ _ us hl => match us, hl with | [_, _], _ => rfl))⟩
theorem sc_law_order : FnScope ["_law_state", "_law_calendar_here", "_law_high", "_law_period", "_law_amount"] ["_law_state", "_law_calendar_here", "_law_high"] (defScope s_law_order) := ⟨rfl, rfl, rfl, by decide +kernel, rfl, by decide +kernel, by decide +kernel⟩
theorem ok_law_order {f : Addr} {fd : FuncData} (F : Fun K "_law_order" "_law_order" s_law_order f fd) (hm : mg "_law_order" = some (.ref f)) (B : Bi K mg C) (G_law_drawn : DOk P w K mg base CX0 "_law_drawn" ["_law_state", "_law_count"] 1 sp_law_drawn) : DOk P w K mg base CX0 "_law_order" ["_law_state", "_law_calendar_here", "_law_high"] 2 sp_law_order :=
  ⟨f, fd, fn_dataQ F sc_law_order len_law_order (fun cdv A outer s H E hr =>
      (dss_cons (ds_set (i := 3) sc_law_order.nd (de_ix (de_var 1) (de_call G_law_drawn (hr.mono (by decide)) (da_cons (de_var 0) (da_cons (de_len B.b_len (da_cons (de_var 1) da_nil)) da_nil)))))
      (dss_cons (ds_set (i := 4) sc_law_order.nd (de_add (de_call G_law_drawn (hr.mono (by decide)) (da_cons (de_var 0) (da_cons (de_var 2) da_nil))) de_int))
      (dss_one (ds_ret (de_tup (da_cons (de_var 3) (da_cons (de_call G_law_drawn (hr.mono (by decide)) (da_cons (de_var 0) (da_cons (de_var 3) da_nil))) (da_cons (de_if (dt_cmpD (c_eq hr.units) (de_call G_law_drawn (hr.mono (by decide)) (da_cons (de_var 0) (da_cons de_int da_nil))) de_int) (de_var 4) (de_sub de_int (de_var 4))) da_nil))))))))) (fun xs cs Q XP h => pure_law_order K xs cs Q XP h), hm, F.kp, (F.binds (ps := ["_law_state", "_law_calendar_here", "_law_high"]) (fun _ _ _ _ _ _ us hl => match us, hl with | [_, _, _], _ => rfl))⟩
theorem sc_law_orders : FnScope ["_law_state", "_law_calendar_here", "_law_most", "_law_high", "_law_k"] ["_law_state", "_law_calendar_here", "_law_most", "_law_high"] (defScope s_law_orders) := ⟨rfl, rfl, rfl, by decide +kernel, rfl, by decide +kernel, by decide +kernel⟩
theorem ok_law_orders {f : Addr} {fd : FuncData} (F : Fun K "_law_orders" "_law_orders" s_law_orders f fd) (hm : mg "_law_orders" = some (.ref f)) (B : Bi K mg C) (G_law_drawn : DOk P w K mg base CX0 "_law_drawn" ["_law_state", "_law_count"] 1 sp_law_drawn) (G_law_order : DOk P w K mg base CX0 "_law_order" ["_law_state", "_law_calendar_here", "_law_high"] 2 sp_law_order) : DOk P w K mg base CX0 "_law_orders" ["_law_state", "_law_calendar_here", "_law_most", "_law_high"] 3 sp_law_orders :=
  ⟨f, fd, fn_dataQ F sc_law_orders len_law_orders (fun cdv A outer s H E hr =>
      (dss_one (ds_ret (de_lc (own := [("_law_k", 4)]) sc_law_orders.nd (di_range1 B.b_range (da_cons (de_call G_law_drawn (hr.mono (by decide)) (da_cons (de_var 0) (da_cons (de_add (de_var 2) de_int) da_nil))) da_nil)) (blkOk_by (N := ["_law_state", "_law_calendar_here", "_law_most", "_law_high", "_law_k"]) (sc := defScope s_law_orders) (by decide +kernel)) (fun _ _ _ _ _ => (dg_name (i := 4) sc_law_orders.nd)) (fun _ _ _ _ _ => dts_nil) (fun _ _ _ _ _ => (de_call G_law_order (hr.mono (by decide)) (da_cons (de_var 0) (da_cons (de_var 1) (da_cons (de_var 3) da_nil))))) (by decide))))) (fun xs cs Q XP h => pure_law_orders K xs cs Q XP h), hm, F.kp, (F.binds (ps := ["_law_state", "_law_calendar_here", "_law_most", "_law_high"]) (fun _ _ _ _ _ _ us hl => match us, hl with | [_, _, _, _], _ => rfl))⟩
theorem sc_law_plan : FnScope ["_law_state", "_law_longest", "_law_high", "_law_calendar_here", "_law_start_here", "_law_phases", "_law_k"] ["_law_state", "_law_longest", "_law_high"] (defScope s_law_plan) := ⟨rfl, rfl, rfl, by decide +kernel, rfl, by decide +kernel, by decide +kernel⟩
theorem ok_law_plan {f : Addr} {fd : FuncData} (F : Fun K "_law_plan" "_law_plan" s_law_plan f fd) (hm : mg "_law_plan" = some (.ref f)) (B : Bi K mg C) (G_law_drawn : DOk P w K mg base CX0 "_law_drawn" ["_law_state", "_law_count"] 1 sp_law_drawn) (G_law_calendar : DOk P w K mg base CX0 "_law_calendar" ["_law_state", "_law_longest"] 2 sp_law_calendar) (G_law_orders : DOk P w K mg base CX0 "_law_orders" ["_law_state", "_law_calendar_here", "_law_most", "_law_high"] 3 sp_law_orders) : DOk P w K mg base CX0 "_law_plan" ["_law_state", "_law_longest", "_law_high"] 4 sp_law_plan :=
  ⟨f, fd, fn_dataQ F sc_law_plan len_law_plan (fun cdv A outer s H E hr =>
      (dss_cons (ds_par (i := 3) (j := 4) rfl sc_law_plan.nd (da_cons (de_call G_law_calendar (hr.mono (by decide)) (da_cons (de_var 0) (da_cons (de_var 1) da_nil))) (da_cons (de_sub (de_call G_law_drawn (hr.mono (by decide)) (da_cons (de_var 0) (da_cons de_int da_nil))) de_int) da_nil)))
      (dss_cons (ds_set (i := 5) sc_law_plan.nd (de_lst da_nil))
      (dss_cons (ds_for (di_range1 B.b_range (da_cons (de_add de_int (de_call G_law_drawn (hr.mono (by decide)) (da_cons (de_var 0) (da_cons de_int da_nil)))) da_nil)) (dg_name (i := 6) sc_law_plan.nd) (dss_cons (ds_expr (de_append (de_var 5) (de_tup (da_cons (de_var 4) (da_cons (de_tuple B.b_tuple (da_cons (de_call G_law_orders (hr.mono (by decide)) (da_cons (de_var 0) (da_cons (de_var 3) (da_cons de_int (da_cons (de_var 2) da_nil))))) da_nil)) da_nil)))))
      (dss_one (ds_set (i := 4) sc_law_plan.nd (de_add (de_add (de_var 4) de_int) (de_call G_law_drawn (hr.mono (by decide)) (da_cons (de_var 0) (da_cons (de_ix (de_lst (da_cons de_int (da_cons de_int da_nil))) (de_call G_law_drawn (hr.mono (by decide)) (da_cons (de_var 0) (da_cons de_int da_nil)))) da_nil))))))))
      (dss_one (ds_ret (de_tup (da_cons (de_var 3) (da_cons (de_tuple B.b_tuple (da_cons (de_var 5) da_nil)) da_nil))))))))) (fun xs cs Q XP h => pure_law_plan K xs cs Q XP h), hm, F.kp, (F.binds (ps := ["_law_state", "_law_longest", "_law_high"]) (fun _ _ _ _ _ _ us hl => match us, hl with | [_, _, _], _ => rfl))⟩
theorem sc_law_orders_on : FnScope ["_law_plan_here", "_law_day", "_law_found", "_law_phase"] ["_law_plan_here", "_law_day"] (defScope s_law_orders_on) := ⟨rfl, rfl, rfl, by decide +kernel, rfl, by decide +kernel, by decide +kernel⟩
theorem ok_law_orders_on {f : Addr} {fd : FuncData} (F : Fun K "_law_orders_on" "_law_orders_on" s_law_orders_on f fd) (hm : mg "_law_orders_on" = some (.ref f)) (B : Bi K mg C)  : DOk P w K mg base CX0 "_law_orders_on" ["_law_plan_here", "_law_day"] 1 sp_law_orders_on :=
  ⟨f, fd, fn_dataQ F sc_law_orders_on len_law_orders_on (fun cdv A outer s H E hr =>
      (dss_cons (ds_set (i := 2) sc_law_orders_on.nd (de_tup (da_cons (de_sub de_int de_int) (da_cons (de_tup da_nil) da_nil))))
      (dss_cons (ds_for (di_range1 B.b_range (da_cons (de_len B.b_len (da_cons (de_ix (de_var 0) de_int) da_nil)) da_nil)) (dg_name (i := 3) sc_law_orders_on.nd) (dss_one (ds_if (dt_cmpD c_le (de_ix (de_ix (de_ix (de_var 0) de_int) (de_var 3)) de_int) (de_var 1)) (dss_one (ds_set (i := 2) sc_law_orders_on.nd (de_tup (da_cons (de_var 3) (da_cons (de_ix (de_ix (de_ix (de_var 0) de_int) (de_var 3)) de_int) da_nil))))) dss_nil)))
      (dss_one (ds_ret (de_var 2)))))) (fun xs cs Q XP h => pure_law_orders_on K xs cs Q XP h), hm, F.kp, (F.binds (ps := ["_law_plan_here", "_law_day"]) (fun _ _ _ _ _ _ us hl => match us, hl with | [_, _], _ => rfl))⟩
theorem sc_law_payments : FnScope ["_law_plan_here", "_law_day", "_law_phase", "_law_orders_here", "_law_result", "_law_index", "_law_period", "_law_residue", "_law_amount"] ["_law_plan_here", "_law_day"] (defScope s_law_payments) := ⟨rfl, rfl, rfl, by decide +kernel, rfl, by decide +kernel, by decide +kernel⟩
theorem ok_law_payments {f : Addr} {fd : FuncData} (F : Fun K "_law_payments" "_law_payments" s_law_payments f fd) (hm : mg "_law_payments" = some (.ref f)) (B : Bi K mg C) (G_law_orders_on : DOk P w K mg base CX0 "_law_orders_on" ["_law_plan_here", "_law_day"] 1 sp_law_orders_on) : DOk P w K mg base CX0 "_law_payments" ["_law_plan_here", "_law_day"] 2 sp_law_payments :=
  ⟨f, fd, fn_dataQ F sc_law_payments len_law_payments (fun cdv A outer s H E hr =>
      (dss_cons (ds_asg (de_call G_law_orders_on (hr.mono (by decide)) (da_cons (de_var 0) (da_cons (de_var 1) da_nil))) (dg_tup rfl (dgs_cons (dg_name (i := 2) sc_law_payments.nd) (dgs_cons (dg_name (i := 3) sc_law_payments.nd) dgs_nil))))
      (dss_cons (ds_set (i := 4) sc_law_payments.nd (de_lst da_nil))
      (dss_cons (ds_for (di_range1 B.b_range (da_cons (de_len B.b_len (da_cons (de_var 3) da_nil)) da_nil)) (dg_name (i := 5) sc_law_payments.nd) (dss_cons (ds_asg (de_ix (de_var 3) (de_var 5)) (dg_tup rfl (dgs_cons (dg_name (i := 6) sc_law_payments.nd) (dgs_cons (dg_name (i := 7) sc_law_payments.nd) (dgs_cons (dg_name (i := 8) sc_law_payments.nd) dgs_nil)))))
      (dss_one (ds_if (dt_cmpD (c_eq hr.units) (de_mod (de_var 1) (de_var 6)) (de_var 7)) (dss_one (ds_expr (de_append (de_var 4) (de_tup (da_cons (de_var 2) (da_cons (de_var 5) (da_cons (de_var 8) da_nil))))))) dss_nil))))
      (dss_one (ds_ret (de_var 4))))))) (fun xs cs Q XP h => pure_law_payments K xs cs Q XP h), hm, F.kp, (F.binds (ps := ["_law_plan_here", "_law_day"]) (fun _ _ _ _ _ _ us hl => match us, hl with | [_, _], _ => rfl))⟩
theorem sc_law_balances : FnScope ["_law_plan_here", "_law_opening", "_law_last", "_law_start_here", "_law_result", "_law_current", "_law_day", "_law_row"] ["_law_plan_here", "_law_opening", "_law_last"] (defScope s_law_balances) := ⟨rfl, rfl, rfl, by decide +kernel, rfl, by decide +kernel, by decide +kernel⟩
theorem ok_law_balances {f : Addr} {fd : FuncData} (F : Fun K "_law_balances" "_law_balances" s_law_balances f fd) (hm : mg "_law_balances" = some (.ref f)) (B : Bi K mg C) (G_law_payments : DOk P w K mg base CX0 "_law_payments" ["_law_plan_here", "_law_day"] 2 sp_law_payments) : DOk P w K mg base CX0 "_law_balances" ["_law_plan_here", "_law_opening", "_law_last"] 3 sp_law_balances :=
  ⟨f, fd, fn_dataQ F sc_law_balances len_law_balances (fun cdv A outer s H E hr =>
      (dss_cons (ds_par (i := 3) (j := 4) rfl sc_law_balances.nd (da_cons (de_ix (de_ix (de_ix (de_var 0) de_int) de_int) de_int) (da_cons de_dnewK da_nil)))
      (dss_cons (ds_set (i := 5) sc_law_balances.nd (de_var 1))
      (dss_cons (ds_for (di_range2 B.b_range (da_cons (de_sub (de_var 3) de_int) (da_cons (de_add (de_var 2) de_int) da_nil))) (dg_name (i := 6) sc_law_balances.nd) (dss_cons (ds_set (i := 5) sc_law_balances.nd (de_add (de_var 5) (de_sum rfl B.b_sum (da_cons (de_lc (own := [("_law_row", 7)]) sc_law_balances.nd (di_seq (de_call G_law_payments (hr.mono (by decide)) (da_cons (de_var 0) (da_cons (de_var 6) da_nil)))) (blkOk_by (N := ["_law_plan_here", "_law_opening", "_law_last", "_law_start_here", "_law_result", "_law_current", "_law_day", "_law_row"]) (sc := defScope s_law_balances) (by decide +kernel)) (fun _ _ _ _ _ => (dg_name (i := 7) sc_law_balances.nd)) (fun _ _ _ _ _ => dts_nil) (fun _ _ _ _ _ => (de_ix (de_var 7) de_int)) (by decide)) da_nil))))
      (dss_one (ds_dput hr.units (de_var 4) (de_var 6) (de_var 5)))))
      (dss_one (ds_ret (de_var 4))))))) (fun xs cs Q XP h => pure_law_balances K xs cs Q XP h), hm, F.kp, (F.binds (ps := ["_law_plan_here", "_law_opening", "_law_last"]) (fun _ _ _ _ _ _ us hl => match us, hl with | [_, _, _], _ => rfl))⟩
theorem sc_law_entries : FnScope ["_law_plan_here", "_law_opening", "_law_first", "_law_last", "_law_result", "_law_start_here", "_law_current", "_law_day", "_law_phase", "_law_index", "_law_amount"] ["_law_plan_here", "_law_opening", "_law_first", "_law_last"] (defScope s_law_entries) := ⟨rfl, rfl, rfl, by decide +kernel, rfl, by decide +kernel, by decide +kernel⟩
theorem ok_law_entries {f : Addr} {fd : FuncData} (F : Fun K "_law_entries" "_law_entries" s_law_entries f fd) (hm : mg "_law_entries" = some (.ref f)) (B : Bi K mg C) (G_law_payments : DOk P w K mg base CX0 "_law_payments" ["_law_plan_here", "_law_day"] 2 sp_law_payments) : DOk P w K mg base CX0 "_law_entries" ["_law_plan_here", "_law_opening", "_law_first", "_law_last"] 3 sp_law_entries :=
  ⟨f, fd, fn_dataQ F sc_law_entries len_law_entries (fun cdv A outer s H E hr =>
      (dss_cons (ds_par (i := 4) (j := 5) rfl sc_law_entries.nd (da_cons (de_lst da_nil) (da_cons (de_ix (de_ix (de_ix (de_var 0) de_int) de_int) de_int) da_nil)))
      (dss_cons (ds_set (i := 6) sc_law_entries.nd (de_var 1))
      (dss_cons (ds_for (di_range2 B.b_range (da_cons (de_min2 rfl B.b_min (da_cons (de_var 2) (da_cons (de_var 5) da_nil))) (da_cons (de_add (de_var 3) de_int) da_nil))) (dg_name (i := 7) sc_law_entries.nd) (dss_one (ds_for (di_seq (de_call G_law_payments (hr.mono (by decide)) (da_cons (de_var 0) (da_cons (de_var 7) da_nil)))) (dg_tup rfl (dgs_cons (dg_name (i := 8) sc_law_entries.nd) (dgs_cons (dg_name (i := 9) sc_law_entries.nd) (dgs_cons (dg_name (i := 10) sc_law_entries.nd) dgs_nil)))) (dss_cons (ds_set (i := 6) sc_law_entries.nd (de_add (de_var 6) (de_var 10)))
      (dss_one (ds_if (dt_cmpD c_ge (de_var 7) (de_var 2)) (dss_one (ds_expr (de_append (de_var 4) (de_tup (da_cons (de_var 7) (da_cons (de_var 8) (da_cons (de_var 9) (da_cons (de_var 10) (da_cons (de_var 6) da_nil))))))))) dss_nil))))))
      (dss_one (ds_ret (de_var 4))))))) (fun xs cs Q XP h => pure_law_entries K xs cs Q XP h), hm, F.kp, (F.binds (ps := ["_law_plan_here", "_law_opening", "_law_first", "_law_last"]) (fun _ _ _ _ _ _ us hl => match us, hl with | [_, _, _, _], _ => rfl))⟩
theorem sc_law_first_entries : FnScope ["_law_plan_here", "_law_opening", "_law_first", "_law_count", "_law_result", "_law_entry"] ["_law_plan_here", "_law_opening", "_law_first", "_law_count"] (defScope s_law_first_entries) := ⟨rfl, rfl, rfl, by decide +kernel, rfl, by decide +kernel, by decide +kernel⟩
theorem ok_law_first_entries {f : Addr} {fd : FuncData} (F : Fun K "_law_first_entries" "_law_first_entries" s_law_first_entries f fd) (hm : mg "_law_first_entries" = some (.ref f)) (B : Bi K mg C) (G_entries : GN.DGok P w K mg base "entries" ["plan", "opening", "first", "last"] 6 (sp_entries C)) : DOk P w K mg base CX0 "_law_first_entries" ["_law_plan_here", "_law_opening", "_law_first", "_law_count"] 8 (sp_law_first_entries C) :=
  ⟨f, fd, fn_dataQ F sc_law_first_entries len_law_first_entries (fun cdv A outer s H E hr =>
      (dss_cons (ds_set (i := 4) sc_law_first_entries.nd (de_lst da_nil))
      (dss_cons (GN.ds_forG (fun _ _ h => h) rfl (hr.mono (by decide)) (GN.dge_call G_entries (hr.mono (by decide)) (da_cons (de_var 0) (da_cons (de_var 1) (da_cons (de_var 2) (da_cons de_non da_nil))))) (dg_name (i := 5) sc_law_first_entries.nd) (dss_cons (ds_expr (de_append (de_var 4) (de_var 5)))
      (dss_one (ds_if (dt_cmpD c_ge (de_len B.b_len (da_cons (de_var 4) da_nil)) (de_var 3)) (dss_one (ds_ret (de_var 4))) dss_nil))))
      (dss_one (ds_ret (de_var 4)))))) (fun xs cs Q XP h => pure_law_first_entries K C xs cs Q XP h), hm, F.kp, (F.binds (ps := ["_law_plan_here", "_law_opening", "_law_first", "_law_count"]) (fun _ _ _ _ _ _ us hl => match us, hl with | [_, _, _, _], _ => rfl))⟩
theorem sc_law : FnScope ["_law_script", "_law_state", "_law_turn", "_law_plan_here", "_law_opening", "_law_start_here", "_law_many", "_law_last", "_law_expected", "_law_day", "_law_one", "_law_rows", "_law_counted", "_law_phase", "_law_index", "_law_amount", "_law_times", "_law_total", "_law_first", "_law_end", "_law_some", "_law_key"] ["_law_script"] (defScope s_law) := ⟨rfl, rfl, rfl, by decide +kernel, rfl, by decide +kernel, by decide +kernel⟩
theorem ok_law {f : Addr} {fd : FuncData} (F : Fun K "law" "law" s_law f fd) (B : Bi K mg C) (G_law_start : DOk P w K mg base CX0 "_law_start" ["_law_script"] 1 sp_law_start) (G_law_drawn : DOk P w K mg base CX0 "_law_drawn" ["_law_state", "_law_count"] 1 sp_law_drawn) (G_law_plan : DOk P w K mg base CX0 "_law_plan" ["_law_state", "_law_longest", "_law_high"] 4 sp_law_plan) (G_law_orders : DOk P w K mg base CX0 "_law_orders" ["_law_state", "_law_calendar_here", "_law_most", "_law_high"] 3 sp_law_orders) (G_law_balances : DOk P w K mg base CX0 "_law_balances" ["_law_plan_here", "_law_opening", "_law_last"] 3 sp_law_balances) (G_balance : DOk P w K mg base CX0 "balance" ["plan", "opening", "day"] 6 (sp_balance C)) (G_law_same : DOk P w K mg base CX0 "_law_same" ["_law_result", "_law_expected"] 3 (sp_law_same 3)) (G_contributions : DOk P w K mg base CX0 "contributions" ["plan", "opening", "day"] 6 sp_contributions) (G_law_payments : DOk P w K mg base CX0 "_law_payments" ["_law_plan_here", "_law_day"] 2 sp_law_payments) (G_law_entries : DOk P w K mg base CX0 "_law_entries" ["_law_plan_here", "_law_opening", "_law_first", "_law_last"] 3 sp_law_entries) (G_entries : GN.DGok P w K mg base "entries" ["plan", "opening", "first", "last"] 6 (sp_entries C)) (G_law_first_entries : DOk P w K mg base CX0 "_law_first_entries" ["_law_plan_here", "_law_opening", "_law_first", "_law_count"] 8 (sp_law_first_entries C)) : FnOk P w K mg base CX0 10 f fd ["_law_script"] (liftSp K (sp_law C)) :=
  fn_dataF F sc_law len_law (fun cdv A outer s H E hr =>
      (dss_cons (ds_set (i := 1) sc_law.nd (de_call G_law_start (hr.mono (by decide)) (da_cons (de_var 0) da_nil)))
      (dss_cons (ds_for (di_range1 B.b_range (da_cons de_int da_nil)) (dg_name (i := 2) sc_law.nd) (dss_cons (ds_par (i := 3) (j := 4) rfl sc_law.nd (da_cons (de_call G_law_plan (hr.mono (by decide)) (da_cons (de_var 1) (da_cons de_int (da_cons de_int da_nil)))) (da_cons (de_sub (de_call G_law_drawn (hr.mono (by decide)) (da_cons (de_var 1) (da_cons de_int da_nil))) de_int) da_nil)))
      (dss_cons (ds_set (i := 5) sc_law.nd (de_ix (de_ix (de_ix (de_var 3) de_int) de_int) de_int))
      (dss_cons (ds_if (dt_cmpD (c_eq hr.units) (de_var 2) de_int) (dss_cons (ds_set (i := 6) sc_law.nd (de_tuple B.b_tuple (da_cons (de_call G_law_orders (hr.mono (by decide)) (da_cons (de_var 1) (da_cons (de_ix (de_var 3) de_int) (da_cons de_int (da_cons de_int da_nil))))) da_nil)))
      (dss_one (ds_set (i := 3) sc_law.nd (de_tup (da_cons (de_ix (de_var 3) de_int) (da_cons (de_catT (de_tup (da_cons (de_tup (da_cons (de_var 5) (da_cons (de_var 6) da_nil))) da_nil)) (de_slT (de_ix (de_var 3) de_int) (do_some de_int) do_none)) da_nil)))))) dss_nil)
      (dss_cons (ds_set (i := 7) sc_law.nd (de_add (de_ix (de_ix (de_ix (de_var 3) de_int) (de_sub de_int de_int)) de_int) de_int))
      (dss_cons (ds_set (i := 8) sc_law.nd (de_call G_law_balances (hr.mono (by decide)) (da_cons (de_var 3) (da_cons (de_var 4) (da_cons (de_var 7) da_nil)))))
      (dss_cons (ds_set (i := 9) sc_law.nd (de_add (de_sub (de_var 5) de_int) (de_call G_law_drawn (hr.mono (by decide)) (da_cons (de_var 1) (da_cons (de_add (de_sub (de_var 7) (de_var 5)) de_int) da_nil)))))
      (dss_cons (ds_for (di_seq (de_sortDI rfl B.b_sorted (da_cons (de_var 8) da_nil))) (dg_name (i := 10) sc_law.nd) (dss_one (ds_if (dt_not (dt_val (de_call G_law_same (hr.mono (by decide)) (da_cons (de_call G_balance (hr.mono (by decide)) (da_cons (de_var 3) (da_cons (de_var 4) (da_cons (de_var 10) da_nil)))) (da_cons (de_dget hr.units (de_var 8) (de_var 10)) da_nil))))) (dss_one (ds_ret de_bl)) dss_nil)))
      (dss_cons (ds_set (i := 11) sc_law.nd (de_call G_contributions (hr.mono (by decide)) (da_cons (de_var 3) (da_cons (de_var 4) (da_cons (de_var 9) da_nil)))))
      (dss_cons (ds_set (i := 12) sc_law.nd de_dnewT)
      (dss_cons (ds_for (di_range2 B.b_range (da_cons (de_var 5) (da_cons (de_add (de_var 9) de_int) da_nil))) (dg_name (i := 10) sc_law.nd) (dss_one (ds_for (di_seq (de_call G_law_payments (hr.mono (by decide)) (da_cons (de_var 3) (da_cons (de_var 10) da_nil)))) (dg_tup rfl (dgs_cons (dg_name (i := 13) sc_law.nd) (dgs_cons (dg_name (i := 14) sc_law.nd) (dgs_cons (dg_name (i := 15) sc_law.nd) dgs_nil)))) (dss_cons (ds_asg (de_dget2 hr.units (de_var 12) (de_tup (da_cons (de_var 13) (da_cons (de_var 14) da_nil))) (de_tup (da_cons de_int (da_cons de_int da_nil)))) (dg_tup rfl (dgs_cons (dg_name (i := 16) sc_law.nd) (dgs_cons (dg_name (i := 17) sc_law.nd) dgs_nil))))
      (dss_one (ds_dputT hr.units (de_var 12) (da_cons (de_var 13) (da_cons (de_var 14) da_nil)) (de_tup (da_cons (de_add (de_var 16) de_int) (da_cons (de_add (de_var 17) (de_var 15)) da_nil)))))))))
      (dss_cons (ds_if (dt_not (dt_val (de_call G_law_same (hr.mono (by decide)) (da_cons (de_var 11) (da_cons (de_lc (own := [("_law_key", 21)]) sc_law.nd (di_seq (de_sortDT rfl hr.units B.b_sorted (da_cons (de_var 12) da_nil))) (blkOk_by (N := ["_law_script", "_law_state", "_law_turn", "_law_plan_here", "_law_opening", "_law_start_here", "_law_many", "_law_last", "_law_expected", "_law_day", "_law_one", "_law_rows", "_law_counted", "_law_phase", "_law_index", "_law_amount", "_law_times", "_law_total", "_law_first", "_law_end", "_law_some", "_law_key"]) (sc := defScope s_law) (by decide +kernel)) (fun _ _ _ _ _ => (dg_name (i := 21) sc_law.nd)) (fun _ _ _ _ _ => dts_nil) (fun _ _ _ _ _ => (de_catT (de_var 21) (de_dget hr.units (de_var 12) (de_var 21)))) (by decide)) da_nil))))) (dss_one (ds_ret de_bl)) dss_nil)
      (dss_cons (ds_set (i := 18) sc_law.nd (de_add (de_sub (de_var 5) de_int) (de_call G_law_drawn (hr.mono (by decide)) (da_cons (de_var 1) (da_cons de_int da_nil)))))
      (dss_cons (ds_set (i := 19) sc_law.nd (de_add (de_sub (de_var 18) de_int) (de_call G_law_drawn (hr.mono (by decide)) (da_cons (de_var 1) (da_cons de_int da_nil)))))
      (dss_cons (ds_if (dt_not (dt_val (de_call G_law_same (hr.mono (by decide)) (da_cons (GN.de_listG rfl (GN.dge_call G_entries (hr.mono (by decide)) (da_cons (de_var 3) (da_cons (de_var 4) (da_cons (de_var 18) (da_cons (de_var 19) da_nil))))) (hr.mono (by decide)) B.b_list) (da_cons (de_call G_law_entries (hr.mono (by decide)) (da_cons (de_var 3) (da_cons (de_var 4) (da_cons (de_var 18) (da_cons (de_var 19) da_nil))))) da_nil))))) (dss_one (ds_ret de_bl)) dss_nil)
      (dss_one (ds_if (dt_cmpD (c_ne hr.units) (de_ix (de_ix (de_ix (de_var 3) de_int) (de_sub de_int de_int)) de_int) (de_tup da_nil)) (dss_cons (ds_set (i := 20) sc_law.nd (de_call G_law_first_entries (hr.mono (by decide)) (da_cons (de_var 3) (da_cons (de_var 4) (da_cons (de_var 7) (da_cons de_int da_nil))))))
      (dss_one (ds_if (dt_cmpD (c_ne hr.units) (de_var 20) (de_slL (de_call G_law_entries (hr.mono (by decide)) (da_cons (de_var 3) (da_cons (de_var 4) (da_cons (de_var 7) (da_cons (de_add (de_var 7) (de_mul de_int (de_ix (de_ix (de_var 3) de_int) (de_sub de_int de_int)))) da_nil))))) do_none (do_some de_int))) (dss_one (ds_ret de_bl)) dss_nil))) dss_nil)))))))))))))))))
      (dss_one (ds_ret de_bl))))) (fun xs cs Q XP h => pure_law K C xs cs Q XP h)
end
theorem all_mk {l : PySem.W.OpenLaw} {w : World} {K : PySem.W.Frag} {h : Heap} {mg : Str → Option Value} {fa f0 f1 f2 f3 f4 f5 f6 f7 f8 f9 f10 f11 f12 f13 f14 f15 f16 f17 f18 f19 f20 f21 f22 f23 f24 f25 f26 : Addr} (X : K.In h) (G : h.Ns mainGlobals mg) (hfa : mg "law" = some (.ref fa))
    {q : Program} (T : TabsOf K q mg h) {c_balance_at P_balance_at : Addr} {dd_balance_at : Option Addr} {vs_balance_at : Array Value} {sl_balance_at : Array (Option Value)}
    {od0 an0 od1 an1 od2 an2 od3 an3 od4 an4 od5 an5 od6 an6 od7 an7 od8 an8 od9 an9 od10 an10 od11 an11 od12 an12 od13 an13 od14 an14 od15 an15 od16 an16 od17 an17 od18 an18 od19 an19 od20 an20 od21 an21 od22 an22 od23 an23 od24 an24 od25 an25 od26 an26 : Option Addr} {sl0 sl1 sl2 sl3 sl4 sl5 sl6 sl7 sl8 sl9 sl10 sl11 sl12 sl13 sl14 sl15 sl16 sl17 sl18 sl19 sl20 sl21 sl22 sl23 sl24 sl25 sl26 : Array (Option Value)} {oc0 kV0 dc0 pm0 ct0 cd0 oc1 kV1 dc1 pm1 ct1 cd1 oc2 kV2 dc2 pm2 ct2 cd2 oc3 kV3 dc3 pm3 ct3 cd3 oc4 kV4 dc4 pm4 ct4 cd4 oc5 kV5 dc5 pm5 ct5 cd5 oc6 kV6 dc6 pm6 ct6 cd6 oc7 kV7 dc7 pm7 ct7 cd7 oc8 kV8 dc8 pm8 ct8 cd8 oc9 kV9 dc9 pm9 ct9 oc10 kV10 dc10 pm10 ct10 cd10 oc11 kV11 dc11 pm11 ct11 cd11 oc12 kV12 dc12 pm12 ct12 cd12 oc13 kV13 dc13 pm13 ct13 cd13 oc14 kV14 dc14 pm14 ct14 cd14 oc15 kV15 dc15 pm15 ct15 cd15 oc16 kV16 dc16 pm16 ct16 cd16 oc17 kV17 dc17 pm17 ct17 cd17 oc18 kV18 dc18 pm18 ct18 cd18 oc19 kV19 dc19 pm19 ct19 cd19 oc20 kV20 dc20 pm20 ct20 cd20 oc21 kV21 dc21 pm21 ct21 cd21 oc22 kV22 dc22 pm22 ct22 cd22 oc23 kV23 dc23 pm23 ct23 cd23 oc24 kV24 dc24 pm24 ct24 cd24 oc25 kV25 dc25 pm25 ct25 cd25 oc26 kV26 dc26 pm26 ct26 cd26 : Value}
    {t_MAX_ORDERS t_MAX_PERIOD t_MAX_PERIODS t_MAX_PHASES : Tok}
    (a0 : PySem.W.nsIn K mainGlobals "is_integer" = some (some (.ref f0)))
    (l0 : K.lookup f0 = some ⟨oc0, od0, .func (PySem.W.fnOf "is_integer" "is_integer" (defArgs s_is_integer) (defBody s_is_integer) (defScope s_is_integer) .none kV0 dc0 pm0 an0 cd0 ct0), sl0⟩) (c0 : PySem.W.codeIn K cd0 "is_integer" = true) (k0 : PySem.W.keepIn K (.ref f0) = true)
    (a1 : PySem.W.nsIn K mainGlobals "validate_calendar" = some (some (.ref f1)))
    (l1 : K.lookup f1 = some ⟨oc1, od1, .func (PySem.W.fnOf "validate_calendar" "validate_calendar" (defArgs s_validate_calendar) (defBody s_validate_calendar) (defScope s_validate_calendar) .none kV1 dc1 pm1 an1 cd1 ct1), sl1⟩) (c1 : PySem.W.codeIn K cd1 "validate_calendar" = true) (k1 : PySem.W.keepIn K (.ref f1) = true)
    (a2 : PySem.W.nsIn K mainGlobals "is_order" = some (some (.ref f2)))
    (l2 : K.lookup f2 = some ⟨oc2, od2, .func (PySem.W.fnOf "is_order" "is_order" (defArgs s_is_order) (defBody s_is_order) (defScope s_is_order) .none kV2 dc2 pm2 an2 cd2 ct2), sl2⟩) (c2 : PySem.W.codeIn K cd2 "is_order" = true) (k2 : PySem.W.keepIn K (.ref f2) = true)
    (a3 : PySem.W.nsIn K mainGlobals "first_invalid_order" = some (some (.ref f3)))
    (l3 : K.lookup f3 = some ⟨oc3, od3, .func (PySem.W.fnOf "first_invalid_order" "first_invalid_order" (defArgs s_first_invalid_order) (defBody s_first_invalid_order) (defScope s_first_invalid_order) .none kV3 dc3 pm3 an3 cd3 ct3), sl3⟩) (c3 : PySem.W.codeIn K cd3 "first_invalid_order" = true) (k3 : PySem.W.keepIn K (.ref f3) = true)
    (a4 : PySem.W.nsIn K mainGlobals "days_due" = some (some (.ref f4)))
    (l4 : K.lookup f4 = some ⟨oc4, od4, .func (PySem.W.fnOf "days_due" "days_due" (defArgs s_days_due) (defBody s_days_due) (defScope s_days_due) .none kV4 dc4 pm4 an4 cd4 ct4), sl4⟩) (c4 : PySem.W.codeIn K cd4 "days_due" = true) (k4 : PySem.W.keepIn K (.ref f4) = true)
    (a5 : PySem.W.nsIn K mainGlobals "validate_phases" = some (some (.ref f5)))
    (l5 : K.lookup f5 = some ⟨oc5, od5, .func (PySem.W.fnOf "validate_phases" "validate_phases" (defArgs s_validate_phases) (defBody s_validate_phases) (defScope s_validate_phases) .none kV5 dc5 pm5 an5 cd5 ct5), sl5⟩) (c5 : PySem.W.codeIn K cd5 "validate_phases" = true) (k5 : PySem.W.keepIn K (.ref f5) = true)
    (a6 : PySem.W.nsIn K mainGlobals "validate_plan" = some (some (.ref f6)))
    (l6 : K.lookup f6 = some ⟨oc6, od6, .func (PySem.W.fnOf "validate_plan" "validate_plan" (defArgs s_validate_plan) (defBody s_validate_plan) (defScope s_validate_plan) .none kV6 dc6 pm6 an6 cd6 ct6), sl6⟩) (c6 : PySem.W.codeIn K cd6 "validate_plan" = true) (k6 : PySem.W.keepIn K (.ref f6) = true)
    (a7 : PySem.W.nsIn K mainGlobals "spans_of" = some (some (.ref f7)))
    (l7 : K.lookup f7 = some ⟨oc7, od7, .func (PySem.W.fnOf "spans_of" "spans_of" (defArgs s_spans_of) (defBody s_spans_of) (defScope s_spans_of) .none kV7 dc7 pm7 an7 cd7 ct7), sl7⟩) (c7 : PySem.W.codeIn K cd7 "spans_of" = true) (k7 : PySem.W.keepIn K (.ref f7) = true)
    (a8 : PySem.W.nsIn K mainGlobals "totals_until" = some (some (.ref f8)))
    (l8 : K.lookup f8 = some ⟨oc8, od8, .func (PySem.W.fnOf "totals_until" "totals_until" (defArgs s_totals_until) (defBody s_totals_until) (defScope s_totals_until) .none kV8 dc8 pm8 an8 cd8 ct8), sl8⟩) (c8 : PySem.W.codeIn K cd8 "totals_until" = true) (k8 : PySem.W.keepIn K (.ref f8) = true)
    (a9 : PySem.W.nsIn K mainGlobals "balance_at" = some (some (.ref f9)))
    (l9 : K.lookup f9 = some ⟨oc9, od9, .func (PySem.W.fnOf "balance_at" "balance_at" (defArgs s_balance_at) (defBody s_balance_at) (defScope s_balance_at) .none kV9 dc9 pm9 an9 (.ref c_balance_at) ct9), sl9⟩) (c9 : PySem.W.codeIn K (.ref c_balance_at) "balance_at" = true) (k9 : PySem.W.keepIn K (.ref f9) = true)
    (a10 : PySem.W.nsIn K mainGlobals "balance" = some (some (.ref f10)))
    (l10 : K.lookup f10 = some ⟨oc10, od10, .func (PySem.W.fnOf "balance" "balance" (defArgs s_balance) (defBody s_balance) (defScope s_balance) .none kV10 dc10 pm10 an10 cd10 ct10), sl10⟩) (c10 : PySem.W.codeIn K cd10 "balance" = true) (k10 : PySem.W.keepIn K (.ref f10) = true)
    (a11 : PySem.W.nsIn K mainGlobals "contributions" = some (some (.ref f11)))
    (l11 : K.lookup f11 = some ⟨oc11, od11, .func (PySem.W.fnOf "contributions" "contributions" (defArgs s_contributions) (defBody s_contributions) (defScope s_contributions) .none kV11 dc11 pm11 an11 cd11 ct11), sl11⟩) (c11 : PySem.W.codeIn K cd11 "contributions" = true) (k11 : PySem.W.keepIn K (.ref f11) = true)
    (a12 : PySem.W.nsIn K mainGlobals "payments_on" = some (some (.ref f12)))
    (l12 : K.lookup f12 = some ⟨oc12, od12, .func (PySem.W.fnOf "payments_on" "payments_on" (defArgs s_payments_on) (defBody s_payments_on) (defScope s_payments_on) .none kV12 dc12 pm12 an12 cd12 ct12), sl12⟩) (c12 : PySem.W.codeIn K cd12 "payments_on" = true) (k12 : PySem.W.keepIn K (.ref f12) = true)
    (a13 : PySem.W.nsIn K mainGlobals "entries" = some (some (.ref f13)))
    (l13 : K.lookup f13 = some ⟨oc13, od13, .func (PySem.W.fnOf "entries" "entries" (defArgs s_entries) (defBody s_entries) (defScope s_entries) .none kV13 dc13 pm13 an13 cd13 ct13), sl13⟩) (c13 : PySem.W.codeIn K cd13 "entries" = true) (k13 : PySem.W.keepIn K (.ref f13) = true)
    (a14 : PySem.W.nsIn K mainGlobals "_law_start" = some (some (.ref f14)))
    (l14 : K.lookup f14 = some ⟨oc14, od14, .func (PySem.W.fnOf "_law_start" "_law_start" (defArgs s_law_start) (defBody s_law_start) (defScope s_law_start) .none kV14 dc14 pm14 an14 cd14 ct14), sl14⟩) (c14 : PySem.W.codeIn K cd14 "_law_start" = true) (k14 : PySem.W.keepIn K (.ref f14) = true)
    (a15 : PySem.W.nsIn K mainGlobals "_law_drawn" = some (some (.ref f15)))
    (l15 : K.lookup f15 = some ⟨oc15, od15, .func (PySem.W.fnOf "_law_drawn" "_law_drawn" (defArgs s_law_drawn) (defBody s_law_drawn) (defScope s_law_drawn) .none kV15 dc15 pm15 an15 cd15 ct15), sl15⟩) (c15 : PySem.W.codeIn K cd15 "_law_drawn" = true) (k15 : PySem.W.keepIn K (.ref f15) = true)
    (a16 : PySem.W.nsIn K mainGlobals "_law_same" = some (some (.ref f16)))
    (l16 : K.lookup f16 = some ⟨oc16, od16, .func (PySem.W.fnOf "_law_same" "_law_same" (defArgs s_law_same) (defBody s_law_same) (defScope s_law_same) .none kV16 dc16 pm16 an16 cd16 ct16), sl16⟩) (c16 : PySem.W.codeIn K cd16 "_law_same" = true) (k16 : PySem.W.keepIn K (.ref f16) = true)
    (a17 : PySem.W.nsIn K mainGlobals "_law_calendar" = some (some (.ref f17)))
    (l17 : K.lookup f17 = some ⟨oc17, od17, .func (PySem.W.fnOf "_law_calendar" "_law_calendar" (defArgs s_law_calendar) (defBody s_law_calendar) (defScope s_law_calendar) .none kV17 dc17 pm17 an17 cd17 ct17), sl17⟩) (c17 : PySem.W.codeIn K cd17 "_law_calendar" = true) (k17 : PySem.W.keepIn K (.ref f17) = true)
    (a18 : PySem.W.nsIn K mainGlobals "_law_order" = some (some (.ref f18)))
    (l18 : K.lookup f18 = some ⟨oc18, od18, .func (PySem.W.fnOf "_law_order" "_law_order" (defArgs s_law_order) (defBody s_law_order) (defScope s_law_order) .none kV18 dc18 pm18 an18 cd18 ct18), sl18⟩) (c18 : PySem.W.codeIn K cd18 "_law_order" = true) (k18 : PySem.W.keepIn K (.ref f18) = true)
    (a19 : PySem.W.nsIn K mainGlobals "_law_orders" = some (some (.ref f19)))
    (l19 : K.lookup f19 = some ⟨oc19, od19, .func (PySem.W.fnOf "_law_orders" "_law_orders" (defArgs s_law_orders) (defBody s_law_orders) (defScope s_law_orders) .none kV19 dc19 pm19 an19 cd19 ct19), sl19⟩) (c19 : PySem.W.codeIn K cd19 "_law_orders" = true) (k19 : PySem.W.keepIn K (.ref f19) = true)
    (a20 : PySem.W.nsIn K mainGlobals "_law_plan" = some (some (.ref f20)))
    (l20 : K.lookup f20 = some ⟨oc20, od20, .func (PySem.W.fnOf "_law_plan" "_law_plan" (defArgs s_law_plan) (defBody s_law_plan) (defScope s_law_plan) .none kV20 dc20 pm20 an20 cd20 ct20), sl20⟩) (c20 : PySem.W.codeIn K cd20 "_law_plan" = true) (k20 : PySem.W.keepIn K (.ref f20) = true)
    (a21 : PySem.W.nsIn K mainGlobals "_law_orders_on" = some (some (.ref f21)))
    (l21 : K.lookup f21 = some ⟨oc21, od21, .func (PySem.W.fnOf "_law_orders_on" "_law_orders_on" (defArgs s_law_orders_on) (defBody s_law_orders_on) (defScope s_law_orders_on) .none kV21 dc21 pm21 an21 cd21 ct21), sl21⟩) (c21 : PySem.W.codeIn K cd21 "_law_orders_on" = true) (k21 : PySem.W.keepIn K (.ref f21) = true)
    (a22 : PySem.W.nsIn K mainGlobals "_law_payments" = some (some (.ref f22)))
    (l22 : K.lookup f22 = some ⟨oc22, od22, .func (PySem.W.fnOf "_law_payments" "_law_payments" (defArgs s_law_payments) (defBody s_law_payments) (defScope s_law_payments) .none kV22 dc22 pm22 an22 cd22 ct22), sl22⟩) (c22 : PySem.W.codeIn K cd22 "_law_payments" = true) (k22 : PySem.W.keepIn K (.ref f22) = true)
    (a23 : PySem.W.nsIn K mainGlobals "_law_balances" = some (some (.ref f23)))
    (l23 : K.lookup f23 = some ⟨oc23, od23, .func (PySem.W.fnOf "_law_balances" "_law_balances" (defArgs s_law_balances) (defBody s_law_balances) (defScope s_law_balances) .none kV23 dc23 pm23 an23 cd23 ct23), sl23⟩) (c23 : PySem.W.codeIn K cd23 "_law_balances" = true) (k23 : PySem.W.keepIn K (.ref f23) = true)
    (a24 : PySem.W.nsIn K mainGlobals "_law_entries" = some (some (.ref f24)))
    (l24 : K.lookup f24 = some ⟨oc24, od24, .func (PySem.W.fnOf "_law_entries" "_law_entries" (defArgs s_law_entries) (defBody s_law_entries) (defScope s_law_entries) .none kV24 dc24 pm24 an24 cd24 ct24), sl24⟩) (c24 : PySem.W.codeIn K cd24 "_law_entries" = true) (k24 : PySem.W.keepIn K (.ref f24) = true)
    (a25 : PySem.W.nsIn K mainGlobals "_law_first_entries" = some (some (.ref f25)))
    (l25 : K.lookup f25 = some ⟨oc25, od25, .func (PySem.W.fnOf "_law_first_entries" "_law_first_entries" (defArgs s_law_first_entries) (defBody s_law_first_entries) (defScope s_law_first_entries) .none kV25 dc25 pm25 an25 cd25 ct25), sl25⟩) (c25 : PySem.W.codeIn K cd25 "_law_first_entries" = true) (k25 : PySem.W.keepIn K (.ref f25) = true)
    (a26 : PySem.W.nsIn K mainGlobals "law" = some (some (.ref f26)))
    (l26 : K.lookup f26 = some ⟨oc26, od26, .func (PySem.W.fnOf "law" "law" (defArgs s_law) (defBody s_law) (defScope s_law) .none kV26 dc26 pm26 an26 cd26 ct26), sl26⟩) (c26 : PySem.W.codeIn K cd26 "law" = true) (k26 : PySem.W.keepIn K (.ref f26) = true)
    (tb_balance_at : K.lookup c_balance_at = some ⟨.type "code", dd_balance_at, .fields vs_balance_at, sl_balance_at⟩) (tp_balance_at : vs_balance_at[11]? = some (.ref P_balance_at)) (th_balance_at : hdB c_balance_at P_balance_at vs_balance_at = true) (tn_balance_at : K.lookup P_balance_at = none) (tr_balance_at : ((PyProof.Rows.recsOf q).any fun e => e.name == "balance_at") = true)
    (z_bool : PySem.W.nsIn K mainGlobals "bool" = some none)
    (z_enumerate : PySem.W.nsIn K mainGlobals "enumerate" = some none)
    (z_int : PySem.W.nsIn K mainGlobals "int" = some none)
    (z_isinstance : PySem.W.nsIn K mainGlobals "isinstance" = some none)
    (z_len : PySem.W.nsIn K mainGlobals "len" = some none)
    (z_list : PySem.W.nsIn K mainGlobals "list" = some none)
    (z_max : PySem.W.nsIn K mainGlobals "max" = some none)
    (z_min : PySem.W.nsIn K mainGlobals "min" = some none)
    (z_range : PySem.W.nsIn K mainGlobals "range" = some none)
    (z_sorted : PySem.W.nsIn K mainGlobals "sorted" = some none)
    (z_sum : PySem.W.nsIn K mainGlobals "sum" = some none)
    (z_tuple : PySem.W.nsIn K mainGlobals "tuple" = some none)
    (y_MAX_ORDERS : PySem.W.nsIn K mainGlobals "MAX_ORDERS" = some (some (.int 60 t_MAX_ORDERS)))
    (y_MAX_PERIOD : PySem.W.nsIn K mainGlobals "MAX_PERIOD" = some (some (.int 400 t_MAX_PERIOD)))
    (y_MAX_PERIODS : PySem.W.nsIn K mainGlobals "MAX_PERIODS" = some (some (.int 5 t_MAX_PERIODS)))
    (y_MAX_PHASES : PySem.W.nsIn K mainGlobals "MAX_PHASES" = some (some (.int 20 t_MAX_PHASES)))
    : LamX.LawAtS l w K CX0 10 63 "_law_script" mg fa h := by
  have e := hfa.symm.trans (PySem.W.mg_of X G a26)
  cases e
  have B : Bi K mg { T_balance_at := P_balance_at : CE } := ⟨PySem.W.mg_none_of X G z_bool, PySem.W.mg_none_of X G z_enumerate, PySem.W.mg_none_of X G z_int, PySem.W.mg_none_of X G z_isinstance, PySem.W.mg_none_of X G z_len, PySem.W.mg_none_of X G z_list, PySem.W.mg_none_of X G z_max, PySem.W.mg_none_of X G z_min, PySem.W.mg_none_of X G z_range, PySem.W.mg_none_of X G z_sorted, PySem.W.mg_none_of X G z_sum, PySem.W.mg_none_of X G z_tuple, ⟨_, PySem.W.mg_of X G y_MAX_ORDERS⟩, ⟨_, PySem.W.mg_of X G y_MAX_PERIOD⟩, ⟨_, PySem.W.mg_of X G y_MAX_PERIODS⟩, ⟨_, PySem.W.mg_of X G y_MAX_PHASES⟩⟩
  have tt_balance_at := tab_at (st := s_balance_at) T X tr_balance_at (PySem.W.mg_of X G a9) (fun_mk (st := s_balance_at) l9 c9 k9) rfl tb_balance_at th_balance_at
  refine ⟨PySem.W.fnOf "law" "law" (defArgs s_law) (defBody s_law) (defScope s_law) .none kV26 dc26 pm26 an26 cd26 ct26, [(c_balance_at, P_balance_at)], spLawT K ([(P_balance_at, CO.tg)].map (·.1)), ?_, ?_, ?_, fun s v => .of_eq rfl, fun H a ns hl _ hH hS => ⟨a, ns, rfl, hS, hl, ?_, fun _ => rfl⟩, fun base _ _ TBs => ?_⟩
  · exact fun p hp => by
      simp only [List.mem_cons, List.not_mem_nil, or_false] at hp
      rcases hp with rfl
      · exact tt_balance_at.1
  · exact fun p hp => by
      simp only [List.mem_cons, List.not_mem_nil, or_false] at hp
      rcases hp with rfl
      · exact tn_balance_at
  · exact fun p hp => by
      simp only [List.mem_cons, List.not_mem_nil, or_false] at hp
      rcases hp with rfl
      · exact tt_balance_at.2
  · intro p hp
    simp only [List.map_cons, List.map_nil, List.mem_cons, List.not_mem_nil, or_false] at hp
    rcases hp with rfl
    · exact hH (c_balance_at, p) (by simp)
  have G_is_integer := ok_is_integer (P := l.prog) (w := w) (base := base) (fun_mk (st := s_is_integer) l0 c0 k0) (PySem.W.mg_of X G a0) B 
  have G_validate_calendar := ok_validate_calendar (P := l.prog) (w := w) (base := base) (fun_mk (st := s_validate_calendar) l1 c1 k1) (PySem.W.mg_of X G a1) B G_is_integer
  have G_is_order := ok_is_order (P := l.prog) (w := w) (base := base) (fun_mk (st := s_is_order) l2 c2 k2) (PySem.W.mg_of X G a2) B G_is_integer
  have G_first_invalid_order := ok_first_invalid_order (P := l.prog) (w := w) (base := base) (fun_mk (st := s_first_invalid_order) l3 c3 k3) (PySem.W.mg_of X G a3) B G_is_order
  have G_days_due := ok_days_due (P := l.prog) (w := w) (base := base) (fun_mk (st := s_days_due) l4 c4 k4) (PySem.W.mg_of X G a4) B 
  have G_validate_phases := ok_validate_phases (P := l.prog) (w := w) (base := base) (fun_mk (st := s_validate_phases) l5 c5 k5) (PySem.W.mg_of X G a5) B G_is_integer G_first_invalid_order
  have G_validate_plan := ok_validate_plan (P := l.prog) (w := w) (base := base) (fun_mk (st := s_validate_plan) l6 c6 k6) (PySem.W.mg_of X G a6) B G_validate_calendar G_validate_phases
  have G_spans_of := ok_spans_of (P := l.prog) (w := w) (base := base) (fun_mk (st := s_spans_of) l7 c7 k7) (PySem.W.mg_of X G a7) B 
  have G_totals_until := ok_totals_until (P := l.prog) (w := w) (base := base) (fun_mk (st := s_totals_until) l8 c8 k8) (PySem.W.mg_of X G a8) B G_spans_of G_days_due
  have TB_balance_at := TBs (c_balance_at, P_balance_at) (by simp)
  have G_balance_at := ok_balance_at (P := l.prog) (w := w) (base := base) (fun_mk (st := s_balance_at) l9 c9 k9) rfl ⟨TB_balance_at.code, TB_balance_at.bm, TB_balance_at.gP⟩ (PySem.W.mg_of X G a9) B G_totals_until
  have G_balance := ok_balance (P := l.prog) (w := w) (base := base) (fun_mk (st := s_balance) l10 c10 k10) (PySem.W.mg_of X G a10) B G_validate_plan G_balance_at
  have G_contributions := ok_contributions (P := l.prog) (w := w) (base := base) (fun_mk (st := s_contributions) l11 c11 k11) (PySem.W.mg_of X G a11) B G_validate_plan G_totals_until
  have G_payments_on := ok_payments_on (P := l.prog) (w := w) (base := base) (fun_mk (st := s_payments_on) l12 c12 k12) (PySem.W.mg_of X G a12) B 
  have G_entries := ok_entries (P := l.prog) (w := w) (base := base) (fun_mk (st := s_entries) l13 c13 k13) (PySem.W.mg_of X G a13) B G_payments_on G_balance_at G_spans_of G_validate_plan
  have G_law_start := ok_law_start (P := l.prog) (w := w) (base := base) (fun_mk (st := s_law_start) l14 c14 k14) (PySem.W.mg_of X G a14) B 
  have G_law_drawn := ok_law_drawn (P := l.prog) (w := w) (base := base) (fun_mk (st := s_law_drawn) l15 c15 k15) (PySem.W.mg_of X G a15) B 
  have G_law_same := ok_law_same (P := l.prog) (w := w) (base := base) (fun_mk (st := s_law_same) l16 c16 k16) (PySem.W.mg_of X G a16) B 
  have G_law_calendar := ok_law_calendar (P := l.prog) (w := w) (base := base) (fun_mk (st := s_law_calendar) l17 c17 k17) (PySem.W.mg_of X G a17) B G_law_drawn
  have G_law_order := ok_law_order (P := l.prog) (w := w) (base := base) (fun_mk (st := s_law_order) l18 c18 k18) (PySem.W.mg_of X G a18) B G_law_drawn
  have G_law_orders := ok_law_orders (P := l.prog) (w := w) (base := base) (fun_mk (st := s_law_orders) l19 c19 k19) (PySem.W.mg_of X G a19) B G_law_drawn G_law_order
  have G_law_plan := ok_law_plan (P := l.prog) (w := w) (base := base) (fun_mk (st := s_law_plan) l20 c20 k20) (PySem.W.mg_of X G a20) B G_law_drawn G_law_calendar G_law_orders
  have G_law_orders_on := ok_law_orders_on (P := l.prog) (w := w) (base := base) (fun_mk (st := s_law_orders_on) l21 c21 k21) (PySem.W.mg_of X G a21) B 
  have G_law_payments := ok_law_payments (P := l.prog) (w := w) (base := base) (fun_mk (st := s_law_payments) l22 c22 k22) (PySem.W.mg_of X G a22) B G_law_orders_on
  have G_law_balances := ok_law_balances (P := l.prog) (w := w) (base := base) (fun_mk (st := s_law_balances) l23 c23 k23) (PySem.W.mg_of X G a23) B G_law_payments
  have G_law_entries := ok_law_entries (P := l.prog) (w := w) (base := base) (fun_mk (st := s_law_entries) l24 c24 k24) (PySem.W.mg_of X G a24) B G_law_payments
  have G_law_first_entries := ok_law_first_entries (P := l.prog) (w := w) (base := base) (fun_mk (st := s_law_first_entries) l25 c25 k25) (PySem.W.mg_of X G a25) B G_entries
  · exact (ok_law (fun_mk (st := s_law) l26 c26 k26) B G_law_start G_law_drawn G_law_plan G_law_orders G_law_balances G_balance G_law_same G_contributions G_law_payments G_law_entries G_entries G_law_first_entries).imp (law_impT (cs0 := tabsC [(P_balance_at, CO.tg)]) (tabs_ok _ (by simp)) fun ns Q XP hl q => law_start _ ns _ Q XP hl (by simp [tabsC]) q)
theorem walk {l : PySem.W.OpenLaw} {q : Program} {loose : List Str} {XP : (Str → Option Value) → Heap → Prop} {YP : World → Heap → Prop} {d : DefRec} {K : Params → PySem.W.Frag} (hn : l.most = some 63) (hdf : d.params.defaults = [])
    (hY : ∀ (w : World) (h : Heap), YP w h → (K w.params).In h)
    (F : ∀ (w : World) (mg : Str → Option Value) (fa : Addr) (h : Heap), (K w.params).In h → h.Ns mainGlobals mg → mg d.name = some (.ref fa) → TabsOf (K w.params) q mg h → LamX.LawAtS l w (K w.params) CX0 10 63 "_law_script" mg fa h) :
    PySem.W.WalkO q loose XP YP l.row.toRowW d [] (fun f vs => PySem.call f vs) :=
  DL.walk_tabs (n := 63) (k := 10) (x := "_law_script") (CX := fun _ => CX0) hn (by decide) hdf ⟨rfl, by decide, by decide⟩ hY (fun w mg fa h _ KX G hm T => F w mg fa h KX G hm T) fun _ _ _ _ _ z => z
end Law
open PySem PySem.W PyProof.Rows
set_option maxRecDepth 100000 in
set_option maxHeartbeats 0 in
theorem PySem.Challenge.cw_standingorders_k03_balances_day_by_day_holds : PySem.Challenge.rw_standingorders_k03_balances_day_by_day.Holds := by
  w_on; o_law; k_head; (case hw => w_witness2)
  k_fill
  refine Law.walk (l := PySem.Challenge.rw_standingorders_k03_balances_day_by_day) rfl rfl (fun w h Y => PySem.W.kIn_of Y) ?F
  case F =>
    intro w mg fa h KX G hmg T
    refine' Law.all_mk KX G hmg T ?a0 ?l0 ?c0 ?k0 ?a1 ?l1 ?c1 ?k1 ?a2 ?l2 ?c2 ?k2 ?a3 ?l3 ?c3 ?k3 ?a4 ?l4 ?c4 ?k4 ?a5 ?l5 ?c5 ?k5 ?a6 ?l6 ?c6 ?k6 ?a7 ?l7 ?c7 ?k7 ?a8 ?l8 ?c8 ?k8 ?a9 ?l9 ?c9 ?k9 ?a10 ?l10 ?c10 ?k10 ?a11 ?l11 ?c11 ?k11 ?a12 ?l12 ?c12 ?k12 ?a13 ?l13 ?c13 ?k13 ?a14 ?l14 ?c14 ?k14 ?a15 ?l15 ?c15 ?k15 ?a16 ?l16 ?c16 ?k16 ?a17 ?l17 ?c17 ?k17 ?a18 ?l18 ?c18 ?k18 ?a19 ?l19 ?c19 ?k19 ?a20 ?l20 ?c20 ?k20 ?a21 ?l21 ?c21 ?k21 ?a22 ?l22 ?c22 ?k22 ?a23 ?l23 ?c23 ?k23 ?a24 ?l24 ?c24 ?k24 ?a25 ?l25 ?c25 ?k25 ?a26 ?l26 ?c26 ?k26 ?tb_balance_at ?tp_balance_at ?th_balance_at ?tn_balance_at ?tr_balance_at ?z_bool ?z_enumerate ?z_int ?z_isinstance ?z_len ?z_list ?z_max ?z_min ?z_range ?z_sorted ?z_sum ?z_tuple ?y_MAX_ORDERS ?y_MAX_PERIOD ?y_MAX_PERIODS ?y_MAX_PHASES
    (case a0 => k_is); (case l0 => k_is); (case c0 => k_is); (case k0 => k_is); (case a1 => k_is); (case l1 => k_is); (case c1 => k_is); (case k1 => k_is); (case a2 => k_is); (case l2 => k_is); (case c2 => k_is); (case k2 => k_is); (case a3 => k_is); (case l3 => k_is); (case c3 => k_is); (case k3 => k_is); (case a4 => k_is); (case l4 => k_is); (case c4 => k_is); (case k4 => k_is); (case a5 => k_is); (case l5 => k_is); (case c5 => k_is); (case k5 => k_is); (case a6 => k_is); (case l6 => k_is); (case c6 => k_is); (case k6 => k_is); (case a7 => k_is); (case l7 => k_is); (case c7 => k_is); (case k7 => k_is); (case a8 => k_is); (case l8 => k_is); (case c8 => k_is); (case k8 => k_is); (case a9 => k_is); (case l9 => k_is); (case c9 => k_is); (case k9 => k_is); (case a10 => k_is); (case l10 => k_is); (case c10 => k_is); (case k10 => k_is); (case a11 => k_is); (case l11 => k_is); (case c11 => k_is); (case k11 => k_is); (case a12 => k_is); (case l12 => k_is); (case c12 => k_is); (case k12 => k_is); (case a13 => k_is); (case l13 => k_is); (case c13 => k_is); (case k13 => k_is); (case a14 => k_is); (case l14 => k_is); (case c14 => k_is); (case k14 => k_is); (case a15 => k_is); (case l15 => k_is); (case c15 => k_is); (case k15 => k_is); (case a16 => k_is); (case l16 => k_is); (case c16 => k_is); (case k16 => k_is); (case a17 => k_is); (case l17 => k_is); (case c17 => k_is); (case k17 => k_is); (case a18 => k_is); (case l18 => k_is); (case c18 => k_is); (case k18 => k_is); (case a19 => k_is); (case l19 => k_is); (case c19 => k_is); (case k19 => k_is); (case a20 => k_is); (case l20 => k_is); (case c20 => k_is); (case k20 => k_is); (case a21 => k_is); (case l21 => k_is); (case c21 => k_is); (case k21 => k_is); (case a22 => k_is); (case l22 => k_is); (case c22 => k_is); (case k22 => k_is); (case a23 => k_is); (case l23 => k_is); (case c23 => k_is); (case k23 => k_is); (case a24 => k_is); (case l24 => k_is); (case c24 => k_is); (case k24 => k_is); (case a25 => k_is); (case l25 => k_is); (case c25 => k_is); (case k25 => k_is); (case a26 => k_is); (case l26 => k_is); (case c26 => k_is); (case k26 => k_is); (case tb_balance_at => k_is); (case tp_balance_at => exact rfl); (case th_balance_at => exact rfl); (case tn_balance_at => exact rfl); (case tr_balance_at => exact rfl); (case z_bool => k_is); (case z_enumerate => k_is); (case z_int => k_is); (case z_isinstance => k_is); (case z_len => k_is); (case z_list => k_is); (case z_max => k_is); (case z_min => k_is); (case z_range => k_is); (case z_sorted => k_is); (case z_sum => k_is); (case z_tuple => k_is); (case y_MAX_ORDERS => k_is); (case y_MAX_PERIOD => k_is); (case y_MAX_PERIODS => k_is); (case y_MAX_PHASES => k_is)
