import PyProof.Rows.All
import Wide.All
import OpenK.AllK
import Wide.FinOn
import HandS.ForMost
import HandS.IsInst
import HandS.Wide
import HandS.Flow
import HandS.Walk
import HandS.Lambda
import KE.GoesMore
import KE.GoesEnum
import KE.SortData
import HandS.Style
import HandS.TupAny
import HandS.TupSets
import HandS.GenList
import HandS.Dict
import HandS.Iter
import HandS.Sort
import HandS.SortInts
import PyProof.MinMaxWalk
import PyProof.WalkInts
import PyProof.AutoSeq1
import HandS.JoinGen
import PyProof.SumWalkG
import HandS.EndOwn
import KE.KNestM
import HandS.WordsExc
import HandS.TryMany
import HandS.Property
import HandS.ClsMeth
import HandS.ExcInit
import HandS.MakeKwOnly
import HandS.ExcField
import HandS.ExcIs
import KE.KExcIs
import HandS.CallSlots
import HandS.Text
import HandS.SetFor
import KE.KSuper
import PySem.Challenge.RW_standingorders_k41_accounts_of_all_kinds
set_option Elab.async false
set_option linter.all false
set_option maxRecDepth 100000
set_option maxHeartbeats 4000000
/-! The data layer: a def's body read over plain data; mutable objects are cells. -/
namespace DL
open PySem L2
abbrev Frag := PySem.W.Frag
/-- what a Python value is worth, whatever its addresses -/
inductive Dat where
  | non
  | bl (b : Bool)
  | int (i : Int)
  | str (x : Str)
  | lst (xs : List Dat)
  | tup (xs : List Dat)
  | obj (C : Addr) (fs : List (Str × Dat))
  | dct (kvs : List (Key × Dat))
  | ho (φ : Addr → HO) (ex : List (Addr × HO))
mutual
inductive Dr (K : Frag) (M : Hp) : V → Dat → Prop
  | non : Dr K M .non .non
  | bl (b : Bool) : Dr K M (.bl b) (.bl b)
  | int (i : Int) : Dr K M (.int i) (.int i)
  | str (x : Str) : Dr K M (.str x) (.str x)
  | lst {a : Addr} {xs : List V} {ds : List Dat} : SqL K M a xs → DrAll K M xs ds → Dr K M (.ref a) (.lst ds)
  | tup {a : Addr} {xs : List V} {ds : List Dat} : SqT K M a xs → DrAll K M xs ds → Dr K M (.ref a) (.tup ds)
  | obj {a C dx : Addr} {fs : List (Str × V)} {ds : List (Str × Dat)} : M a = some (.ins C dx fs) → DrF K M fs ds → Dr K M (.ref a) (.obj C ds)
  | dct {a : Addr} {fs : List (Key × V)} {ds : List (Key × Dat)} : M a = some (.dK fs) → DrD K M fs ds → Dr K M (.ref a) (.dct ds)
  | ho {a : Addr} {φ : Addr → HO} {ex : List (Addr × HO)} : M a = some (φ a) → (∀ p ∈ ex, M p.1 = some p.2) → Dr K M (.ref a) (.ho φ ex)
inductive DrAll (K : Frag) (M : Hp) : List V → List Dat → Prop
  | nil : DrAll K M [] []
  | cons {v : V} {vs : List V} {d : Dat} {ds : List Dat} : Dr K M v d → DrAll K M vs ds → DrAll K M (v :: vs) (d :: ds)
inductive DrF (K : Frag) (M : Hp) : List (Str × V) → List (Str × Dat) → Prop
  | nil : DrF K M [] []
  | cons {f : Str} {v : V} {vs : List (Str × V)} {d : Dat} {ds : List (Str × Dat)} : Dr K M v d → DrF K M vs ds → DrF K M ((f, v) :: vs) ((f, d) :: ds)
inductive DrD (K : Frag) (M : Hp) : List (Key × V) → List (Key × Dat) → Prop
  | nil : DrD K M [] []
  | cons {f : Key} {v : V} {vs : List (Key × V)} {d : Dat} {ds : List (Key × Dat)} : Dr K M v d → DrD K M vs ds → DrD K M ((f, v) :: vs) ((f, d) :: ds)
end
theorem sqL_mono {K : Frag} {M M' : Hp} (s : Same M M') {a : Addr} {xs : List V} (h : SqL K M a xs) : SqL K M' a xs := s.seq h
theorem sqT_mono {K : Frag} {M M' : Hp} (s : Same M M') {a : Addr} {xs : List V} (h : SqT K M a xs) : SqT K M' a xs := by
  rcases h with (h | ⟨o, h⟩) | h
  · exact .inl (.inl (s _ _ h))
  · exact .inl (.inr ⟨o, s _ _ h⟩)
  · exact .inr h
section
variable {K : Frag} {M M' : Hp}
mutual
theorem Dr.mono (s : Same M M') : ∀ {v : V} {d : Dat}, Dr K M v d → Dr K M' v d
  | _, _, .non => .non
  | _, _, .bl b => .bl b
  | _, _, .int i => .int i
  | _, _, .str x => .str x
  | _, _, .lst h k => .lst (sqL_mono s h) (DrAll.mono s k)
  | _, _, .tup h k => .tup (sqT_mono s h) (DrAll.mono s k)
  | _, _, .obj h k => .obj (s _ _ h) (DrF.mono s k)
  | _, _, .dct h k => .dct (s _ _ h) (DrD.mono s k)
  | _, _, .ho h k => .ho (s _ _ h) (fun p hp => s _ _ (k p hp))
theorem DrAll.mono (s : Same M M') : ∀ {v : List V} {d : List Dat}, DrAll K M v d → DrAll K M' v d
  | _, _, .nil => .nil
  | _, _, .cons h k => .cons (Dr.mono s h) (DrAll.mono s k)
theorem DrF.mono (s : Same M M') : ∀ {v : List (Str × V)} {d : List (Str × Dat)}, DrF K M v d → DrF K M' v d
  | _, _, .nil => .nil
  | _, _, .cons h k => .cons (Dr.mono s h) (DrF.mono s k)
theorem DrD.mono (s : Same M M') : ∀ {v : List (Key × V)} {d : List (Key × Dat)}, DrD K M v d → DrD K M' v d
  | _, _, .nil => .nil
  | _, _, .cons h k => .cons (Dr.mono s h) (DrD.mono s k)
end
theorem DrAll.length : ∀ {vs : List V} {ds : List Dat}, DrAll K M vs ds → vs.length = ds.length
  | _, _, .nil => rfl
  | _, _, .cons _ k => congrArg Nat.succ k.length
theorem DrAll.get : ∀ {vs : List V} {ds : List Dat} {i : Nat} {d : Dat}, DrAll K M vs ds → ds[i]? = some d → ∃ v, vs[i]? = some v ∧ Dr K M v d
  | _, _, 0, _, .cons h _, e => by cases e; exact ⟨_, rfl, h⟩
  | _, _, n + 1, _, .cons _ k, e => k.get (i := n) e
  | _, _, _, _, .nil, e => by cases e
theorem DrAll.getV : ∀ {vs : List V} {ds : List Dat} {i : Nat} {v : V}, DrAll K M vs ds → vs[i]? = some v → ∃ d, ds[i]? = some d ∧ Dr K M v d
  | _, _, 0, _, .cons h _, e => by cases e; exact ⟨_, rfl, h⟩
  | _, _, n + 1, _, .cons _ k, e => k.getV (i := n) e
  | _, _, _, _, .nil, e => by cases e
end
/-- a value at hand: plain data, or the value itself (a cell's address, a class ..) -/
inductive Vl where
  | dat (d : Dat)
  | raw (v : V)
abbrev Vl.cell (a : Addr) : Vl := .raw (.ref a)
abbrev Vl.int (i : Int) : Vl := .dat (.int i)
abbrev Vl.bl (b : Bool) : Vl := .dat (.bl b)
abbrev Vl.non : Vl := .dat .non
def RV (K : Frag) (M : Hp) (v : V) : Vl → Prop
  | .dat d => Dr K M v d
  | .raw u => v = u
theorem RV.mono {K : Frag} {M M' : Hp} (s : Same M M') {v : V} {x : Vl} (h : RV K M v x) : RV K M' v x := by
  cases x with
  | dat d => exact Dr.mono s h
  | raw u => exact h
/-- what a mutable object holds -/
inductive CO where
  | lst (xs : List Vl)
  | dk (kvs : List (Key × Vl))
  | dt (kvs : List (List Key × Vl))
  | ins (C : Addr) (fs : List (Str × Vl))
  | lk (o : Obj) (u : HO) (kvs : List (Key × Vl))
  | tg
  | tl (q : Str)
abbrev Cells := Addr → Option CO
def Cells.put (cs : Cells) (a : Addr) (c : CO) : Cells := fun b => if b = a then some c else cs b
def Cells.del (cs : Cells) (a : Addr) : Cells := fun b => if b = a then none else cs b
theorem Cells.put_same {cs : Cells} {a : Addr} {c : CO} : cs.put a c a = some c := by simp [Cells.put]
theorem Cells.put_ne {cs : Cells} {a b : Addr} {c : CO} (h : b ≠ a) : cs.put a c b = cs b := by simp [Cells.put, h]
theorem Cells.put_put {cs : Cells} {a : Addr} {c c' : CO} : (cs.put a c).put a c' = cs.put a c' := by
  funext b; simp only [Cells.put]; split <;> rfl
theorem Cells.del_put {cs : Cells} {a : Addr} {c : CO} (h : cs a = none) : (cs.put a c).del a = cs := by
  funext b; simp only [Cells.put, Cells.del]; split
  · rename_i e; rw [e, h]
  · rfl
theorem Cells.put_comm {cs : Cells} {a b : Addr} {c d : CO} (h : a ≠ b) : (cs.put a c).put b d = (cs.put b d).put a c := by
  funext x; simp only [Cells.put]
  by_cases e : x = a
  · subst e; simp [h]
  · by_cases e2 : x = b
    · subst e2; simp [e]
    · simp [e, e2]
theorem Cells.put_self {cs : Cells} {a : Addr} {c : CO} (h : cs a = some c) : cs.put a c = cs := by
  funext b; simp only [Cells.put]; split
  · rename_i e; rw [e, h]
  · rfl
def LkRep (K : Frag) (M : Hp) (ys : List (Key × Vl)) : HO → Prop
  | .dK xs => Paired (fun (p : Key × V) (q : Key × Vl) => p.1 = q.1 ∧ RV K M p.2 q.2) xs ys
  | _ => False
def CRep (K : Frag) (M : Hp) (a : Addr) : HO → CO → Prop
  | .lst xs, .lst ys => Paired (RV K M) xs ys
  | .dK xs, .dk ys => Paired (fun (p : Key × V) (q : Key × Vl) => p.1 = q.1 ∧ RV K M p.2 q.2) xs ys
  | .dT xs, .dt ys => Paired (fun (p : List Key × V) (q : List Key × Vl) => p.1 = q.1 ∧ RV K M p.2 q.2) xs ys
  | .frz o u, .lk o' u' ys => o = o' ∧ u = u' ∧ LkRep K M ys u
  | .tbl ps, .tg => TriplesOk ps.toList
  | .tbl ps, .tl q => TriplesOk ps.toList ∧ ∀ (pos : Pos) (cv : Value), codeAmong pos ps.toList = some cv → ∃ c, cv = .ref c ∧ M c = some (LamX.CodeO c q)
  | .ins C dx fs, .ins C' gs => C = C' ∧ Paired (fun (p : Str × V) (q : Str × Vl) => p.1 = q.1 ∧ RV K M p.2 q.2) fs gs
  | _, _ => False
theorem paired_mono {α β : Type} {R R' : α → β → Prop} (h : ∀ a b, R a b → R' a b) : ∀ {xs : List α} {ys : List β}, Paired R xs ys → Paired R' xs ys
  | _, _, .nil => .nil
  | _, _, .cons a k => .cons (h _ _ a) (paired_mono h k)
theorem CRep.mono {K : Frag} {M M' : Hp} {a : Addr} (s : Same M M') : ∀ {o : HO} {c : CO}, CRep K M a o c → CRep K M' a o c := by
  intro o c h
  cases o <;> cases c <;> try exact h.elim
  · exact paired_mono (fun _ _ q => q.mono s) h
  · exact paired_mono (fun _ _ q => ⟨q.1, q.2.mono s⟩) h
  · exact paired_mono (fun _ _ q => ⟨q.1, q.2.mono s⟩) h
  · exact ⟨h.1, paired_mono (fun _ _ q => ⟨q.1, q.2.mono s⟩) h.2⟩
  · rename_i u _ _ _
    refine ⟨h.1, h.2.1, ?_⟩
    have h2 := h.2.2
    cases u <;> first | exact (show False from h2).elim | exact paired_mono (fun _ _ q => ⟨q.1, q.2.mono s⟩) h2
  · exact h
  · exact ⟨h.1, fun pos cv hc => let ⟨c, e, q⟩ := h.2 pos cv hc; ⟨c, e, s _ _ q⟩⟩
/-- M: what never changes; cs: the cells -/
structure Ok (K : Frag) (M H : Hp) (cs : Cells) : Prop where
  ex : Same M H
  cell : ∀ a c, cs a = some c → M a = none ∧ ∃ o, H a = some o ∧ CRep K M a o c
abbrev DEnv := List (Option Vl)
structure Rho (K : Frag) (M : Hp) (σ : St) (ρ : DEnv) : Prop where
  len : σ.length = ρ.length
  at_ : ∀ (i : Nat) (x : Vl), ρ[i]? = some (some x) → ∃ v, σ[i]? = some (some v) ∧ RV K M v x
theorem Rho.mono {K : Frag} {M M' : Hp} {σ : St} {ρ : DEnv} (s : Same M M') (h : Rho K M σ ρ) : Rho K M' σ ρ :=
  ⟨h.len, fun i x e => let ⟨v, q, r⟩ := h.at_ i x e; ⟨v, q, r.mono s⟩⟩
theorem Rho.set {K : Frag} {M : Hp} {σ : St} {ρ : DEnv} (h : Rho K M σ ρ) {i : Nat} {v : V} {x : Vl} (r : RV K M v x) : Rho K M (σ.set i (some v)) (ρ.set i (some x)) := by
  refine ⟨by rw [List.length_set, List.length_set, h.len], fun j y e => ?_⟩
  by_cases hj : i = j
  · subst hj
    by_cases hl : i < ρ.length
    · rw [List.getElem?_set_self hl] at e
      cases e
      exact ⟨v, by rw [List.getElem?_set_self (by rw [h.len]; exact hl)], r⟩
    · rw [List.getElem?_eq_none (by rw [List.length_set]; omega)] at e
      cases e
  · rw [List.getElem?_set_ne hj] at e
    obtain ⟨u, q, s⟩ := h.at_ j y e
    exact ⟨u, by rw [List.getElem?_set_ne hj]; exact q, s⟩
/-- the continuation at the level of data is one at the level of heaps -/
def Kont (K : Frag) (M : Hp) (P : Vl → Cells → Prop) (Q : VK) : Prop := ∀ v x M' H' cs', Same M M' → Ok K M' H' cs' → RV K M' v x → P x cs' → Q v H'
theorem Kont.mono {K : Frag} {M M' : Hp} {P : Vl → Cells → Prop} {Q : VK} (s : Same M M') (k : Kont K M P Q) : Kont K M' P Q := fun v x M2 H2 cs2 s2 o r p => k v x M2 H2 cs2 (s.trans s2) o r p
def KontT (K : Frag) (M : Hp) (P : Bool → Cells → Prop) (Q : Bool → Hp → Prop) : Prop := ∀ b M' H' cs', Same M M' → Ok K M' H' cs' → P b cs' → Q b H'
def KontA (K : Frag) (M : Hp) (P : List Vl → Cells → Prop) (Q : List V → Hp → Prop) : Prop := ∀ vs xs M' H' cs', Same M M' → Ok K M' H' cs' → Paired (RV K M') vs xs → P xs cs' → Q vs H'
def KontS (K : Frag) (M : Hp) (P : DEnv → Cells → Prop) (Q : St → Hp → Prop) : Prop := ∀ σ' ρ' M' H' cs', Same M M' → Ok K M' H' cs' → Rho K M' σ' ρ' → P ρ' cs' → Q σ' H'
theorem KontT.mono {K : Frag} {M M' : Hp} {P : Bool → Cells → Prop} {Q : Bool → Hp → Prop} (s : Same M M') (k : KontT K M P Q) : KontT K M' P Q := fun b M2 H2 cs2 s2 o p => k b M2 H2 cs2 (s.trans s2) o p
theorem KontA.mono {K : Frag} {M M' : Hp} {P : List Vl → Cells → Prop} {Q : List V → Hp → Prop} (s : Same M M') (k : KontA K M P Q) : KontA K M' P Q := fun v x M2 H2 cs2 s2 o r p => k v x M2 H2 cs2 (s.trans s2) o r p
theorem KontS.mono {K : Frag} {M M' : Hp} {P : DEnv → Cells → Prop} {Q : St → Hp → Prop} (s : Same M M') (k : KontS K M P Q) : KontS K M' P Q := fun v x M2 H2 cs2 s2 o r p => k v x M2 H2 cs2 (s.trans s2) o r p
abbrev WE := DEnv → Cells → (Vl → Cells → Prop) → Prop
abbrev WT := DEnv → Cells → (Bool → Cells → Prop) → Prop
abbrev WA := DEnv → Cells → (List Vl → Cells → Prop) → Prop
structure DEnds where
  nx : DEnv → Cells → Prop
  rt : Vl → Cells → Prop
  bk : DEnv → Cells → Prop := fun _ _ => False
  ct : DEnv → Cells → Prop := fun _ _ => False
abbrev WS := DEnds → DEnv → Cells → Prop
structure EndsOk (K : Frag) (M : Hp) (D : DEnds) (E : Ends) : Prop where
  nx : KontS K M D.nx E.nx
  rt : Kont K M D.rt E.rt
  bk : KontS K M D.bk E.bk
  ct : KontS K M D.ct E.ct
theorem EndsOk.mono {K : Frag} {M M' : Hp} {D : DEnds} {E : Ends} (s : Same M M') (k : EndsOk K M D E) : EndsOk K M' D E := ⟨k.nx.mono s, k.rt.mono s, k.bk.mono s, k.ct.mono s⟩
def lift (K : Frag) (w : WE) : TE := fun σ H Q => ∃ M ρ cs P, Ok K M H cs ∧ Rho K M σ ρ ∧ w ρ cs P ∧ Kont K M P Q
def liftT (K : Frag) (w : WT) : TT := fun σ H Q => ∃ M ρ cs P, Ok K M H cs ∧ Rho K M σ ρ ∧ w ρ cs P ∧ KontT K M P Q
def liftA (K : Frag) (w : WA) : TA := fun σ H Q => ∃ M ρ cs P, Ok K M H cs ∧ Rho K M σ ρ ∧ w ρ cs P ∧ KontA K M P Q
def liftS (K : Frag) (w : WS) : TS := fun E σ H => ∃ M ρ cs D, Ok K M H cs ∧ Rho K M σ ρ ∧ w D ρ cs ∧ EndsOk K M D E
def DE (X : Cx) (e : Expr) (w : WE) : Prop := PE X e (lift X.K w)
def DT (X : Cx) (e : Expr) (w : WT) : Prop := PT X e (liftT X.K w)
def DW (X : Cx) (e : Expr) (w : WT) : Prop := PW X e (liftT X.K w)
def DA (X : Cx) (es : List Expr) (w : WA) : Prop := PA X es (liftA X.K w)
def DS (X : Cx) (st : Stmt) (w : WS) : Prop := PS X st (liftS X.K w)
def DSs (X : Cx) (st : List Stmt) (w : WS) : Prop := PSs X st (liftS X.K w)
section
variable {X : Cx}
theorem pe_imp {e : Expr} {t t' : TE} (h : PE X e t) (m : ∀ σ H Q, t' σ H Q → t σ H Q) : PE X e t' := ⟨fun pins s σ H Q I q => h.run pins s σ H Q I (m σ H Q q)⟩
theorem pt_imp {e : Expr} {t t' : TT} (h : PT X e t) (m : ∀ σ H Q, t' σ H Q → t σ H Q) : PT X e t' := ⟨fun pins s σ H Q I q => h.run pins s σ H Q I (m σ H Q q)⟩
theorem pw_imp {e : Expr} {t t' : TT} (h : PW X e t) (m : ∀ σ H Q, t' σ H Q → t σ H Q) : PW X e t' := ⟨fun w pins s σ H Q I q => h.run w pins s σ H Q I (m σ H Q q)⟩
theorem pa_imp {e : List Expr} {t t' : TA} (h : PA X e t) (m : ∀ σ H Q, t' σ H Q → t σ H Q) : PA X e t' := ⟨fun pos pins s σ H Q I q => h.run pos pins s σ H Q I (m σ H Q q)⟩
theorem ps_imp {e : Stmt} {t t' : TS} (h : PS X e t) (m : ∀ D σ H, t' D σ H → t D σ H) : PS X e t' := ⟨fun pins s σ H D I q => h.run pins s σ H D I (m D σ H q)⟩
theorem pss_imp {e : List Stmt} {t t' : TS} (h : PSs X e t) (m : ∀ D σ H, t' D σ H → t D σ H) : PSs X e t' := ⟨fun pins s σ H D I q => h.run pins s σ H D I (m D σ H q)⟩
end
end DL
set_option maxRecDepth 100000
set_option maxHeartbeats 4000000
namespace DL
open PySem L2
/-! ### heaps -/
section
variable {K : Frag} {M H : Hp} {cs : Cells}
theorem Ok.free (o : Ok K M H cs) {p : Addr} (h : H p = none) : M p = none := o.ex.free h
theorem Ok.freeC (o : Ok K M H cs) {p : Addr} (h : H p = none) : cs p = none := by
  cases e : cs p with
  | none => rfl
  | some c =>
    obtain ⟨_, u, q, _⟩ := o.cell p c e
    rw [q] at h; cases h
theorem same_upd {p : Addr} {u : HO} (h : M p = none) : Same M (upd M p u) := fun b o e => by
  rw [upd_ne (ne_of_none e h)]; exact e
/-- a new object that will never change -/
theorem Ok.newM (o : Ok K M H cs) {p : Addr} (h : H p = none) (u : HO) : Same M (upd M p u) ∧ Ok K (upd M p u) (upd H p u) cs := by
  have s := same_upd (M := M) (u := u) (o.free h)
  refine ⟨s, fun b ob e => ?_, fun a c e => ?_⟩
  · by_cases hb : b = p
    · rw [hb] at e ⊢; rw [upd_same] at e ⊢; exact e
    · rw [upd_ne hb] at e ⊢; exact o.ex b ob e
  · obtain ⟨m, ob, q, r⟩ := o.cell a c e
    have na : a ≠ p := ne_of_none q h
    exact ⟨by rw [upd_ne na]; exact m, ob, by rw [upd_ne na]; exact q, r.mono s⟩
/-- a new cell -/
theorem Ok.newC (o : Ok K M H cs) {p : Addr} (h : H p = none) {u : HO} {c : CO} (r : CRep K M p u c) : Ok K M (upd H p u) (cs.put p c) := by
  refine ⟨fun b ob e => ?_, fun a c' e => ?_⟩
  · rw [upd_ne (ne_of_none (o.ex b ob e) h)]; exact o.ex b ob e
  · by_cases ha : a = p
    · subst ha
      rw [Cells.put_same] at e; cases e
      exact ⟨o.free h, u, upd_same, r⟩
    · rw [Cells.put_ne ha] at e
      obtain ⟨m, ob, q, z⟩ := o.cell a c' e
      exact ⟨m, ob, by rw [upd_ne ha]; exact q, z⟩
/-- a cell is changed -/
theorem Ok.setC (o : Ok K M H cs) {p : Addr} {c0 : CO} (h : cs p = some c0) {u : HO} {c : CO} (r : CRep K M p u c) : Ok K M (upd H p u) (cs.put p c) := by
  obtain ⟨m0, _⟩ := o.cell p c0 h
  refine ⟨fun b ob e => ?_, fun a c' e => ?_⟩
  · rw [upd_ne (ne_of_none e m0)]; exact o.ex b ob e
  · by_cases ha : a = p
    · subst ha
      rw [Cells.put_same] at e; cases e
      exact ⟨m0, u, upd_same, r⟩
    · rw [Cells.put_ne ha] at e
      obtain ⟨m, ob, q, z⟩ := o.cell a c' e
      exact ⟨m, ob, by rw [upd_ne ha]; exact q, z⟩
theorem Ok.sub (o : Ok K M H cs) {cs' : Cells} (h : ∀ a c, cs' a = some c → cs a = some c) : Ok K M H cs' := ⟨o.ex, fun a c e => o.cell a c (h a c e)⟩
theorem Ok.seqL (o : Ok K M H cs) {a : Addr} {xs : List V} (h : SqL K M a xs) : SqL K H a xs := sqL_mono o.ex h
theorem Ok.seqT (o : Ok K M H cs) {a : Addr} {xs : List V} (h : SqT K M a xs) : SqT K H a xs := sqT_mono o.ex h
theorem DrAll.paired : ∀ {vs : List V} {ds : List Dat}, DrAll K M vs ds → Paired (RV K M) vs (ds.map .dat)
  | _, _, .nil => .nil
  | _, _, .cons h k => .cons h k.paired
theorem DrAll.of_paired : ∀ {vs : List V} {ds : List Dat}, Paired (RV K M) vs (ds.map .dat) → DrAll K M vs ds
  | [], [], .nil => .nil
  | _ :: _, _ :: _, .cons h k => .cons h (DrAll.of_paired k)
theorem Paired.len {α β : Type} {R : α → β → Prop} : ∀ {xs : List α} {ys : List β}, Paired R xs ys → xs.length = ys.length
  | _, _, .nil => rfl
  | _, _, .cons _ k => congrArg Nat.succ (Paired.len k)
theorem Paired.getR {α β : Type} {R : α → β → Prop} : ∀ {xs : List α} {ys : List β} {i : Nat} {y : β}, Paired R xs ys → ys[i]? = some y → ∃ x, xs[i]? = some x ∧ R x y
  | _, _, 0, _, .cons h _, e => by cases e; exact ⟨_, rfl, h⟩
  | _, _, n + 1, _, .cons _ k, e => Paired.getR (i := n) k e
  | _, _, _, _, .nil, e => by cases e
theorem Paired.getL {α β : Type} {R : α → β → Prop} : ∀ {xs : List α} {ys : List β} {i : Nat} {x : α}, Paired R xs ys → xs[i]? = some x → ∃ y, ys[i]? = some y ∧ R x y
  | _, _, 0, _, .cons h _, e => by cases e; exact ⟨_, rfl, h⟩
  | _, _, n + 1, _, .cons _ k, e => Paired.getL (i := n) k e
  | _, _, _, _, .nil, e => by cases e
theorem Paired.app {α β : Type} {R : α → β → Prop} : ∀ {xs : List α} {ys : List β} {xs' : List α} {ys' : List β}, Paired R xs ys → Paired R xs' ys' → Paired R (xs ++ xs') (ys ++ ys')
  | _, _, _, _, .nil, k => k
  | _, _, _, _, .cons h t, k => .cons h (Paired.app t k)
theorem Paired.set {α β : Type} {R : α → β → Prop} : ∀ {xs : List α} {ys : List β} {i : Nat} {x : α} {y : β}, Paired R xs ys → R x y → Paired R (xs.set i x) (ys.set i y)
  | _, _, 0, _, _, .cons _ k, r => .cons r k
  | _, _, n + 1, _, _, .cons h k, r => .cons h (Paired.set (i := n) k r)
  | _, _, _, _, _, .nil, _ => .nil
end
/-! ### the values that a sequence holds: list (true) or tuple (false) -/
def coSeq : Option CO → Option (Bool × List Vl)
  | some (.lst xs) => some (true, xs)
  | _ => none
def seqD (cs : Cells) : Vl → Option (Bool × List Vl)
  | .dat (.lst ds) => some (true, ds.map .dat)
  | .dat (.tup ds) => some (false, ds.map .dat)
  | .raw (.ref a) => coSeq (cs a)
  | _ => none
theorem rv_dat {K : Frag} {M : Hp} {v : V} {d : Dat} (h : Dr K M v d) : RV K M v (.dat d) := h
theorem rv_raw {K : Frag} {M : Hp} {v : V} : RV K M v (.raw v) := rfl
section
variable {K : Frag} {M H : Hp} {cs : Cells} {v : V} {x : Vl} {xs : List Vl}
theorem seqD_list (o : Ok K M H cs) (r : RV K M v x) (h : seqD cs x = some (true, xs)) : ∃ a vs, v = .ref a ∧ SqL K H a vs ∧ Paired (RV K M) vs xs := by
  match x, r, h with
  | .dat (.lst ds), r, h =>
    cases h
    cases (show Dr K M v (.lst ds) from r) with
    | lst q k => exact ⟨_, _, rfl, o.seqL q, k.paired⟩
  | .dat (.tup ds), r, h => exact nomatch (show some (false, _) = some (true, _) from h)
  | .raw (.ref a), r, h =>
    cases (show v = .ref a from r)
    have h : coSeq (cs a) = some _ := h
    cases e : cs a with
    | none => rw [e] at h; cases h
    | some c =>
      rw [e] at h
      cases c with
      | lst ys =>
        cases h
        obtain ⟨_, u, q, z⟩ := o.cell a _ e
        cases u <;> try exact (show False from z).elim
        exact ⟨a, _, rfl, .inl (.inl q), z⟩
      | _ => cases h
theorem seqD_tup (o : Ok K M H cs) (r : RV K M v x) (h : seqD cs x = some (false, xs)) : ∃ a vs, v = .ref a ∧ SqT K H a vs ∧ Paired (RV K M) vs xs := by
  match x, r, h with
  | .dat (.lst ds), r, h => exact nomatch (show some (true, _) = some (false, _) from h)
  | .dat (.tup ds), r, h =>
    cases h
    cases (show Dr K M v (.tup ds) from r) with
    | tup q k => exact ⟨_, _, rfl, o.seqT q, k.paired⟩
  | .raw (.ref a), r, h =>
    have h : coSeq (cs a) = some _ := h
    cases e : cs a with
    | none => rw [e] at h; cases h
    | some c =>
      rw [e] at h
      cases c <;> cases h
theorem seqD_any (o : Ok K M H cs) (r : RV K M v x) {b : Bool} (h : seqD cs x = some (b, xs)) : ∃ a vs, v = .ref a ∧ (SqL K H a vs ∨ SqT K H a vs) ∧ Paired (RV K M) vs xs := by
  cases b with
  | true => obtain ⟨a, vs, e, q, p⟩ := seqD_list o r h; exact ⟨a, vs, e, .inl q, p⟩
  | false => obtain ⟨a, vs, e, q, p⟩ := seqD_tup o r h; exact ⟨a, vs, e, .inr q, p⟩
end
/-! ### expressions -/
abbrev W2 := Vl → Vl → Cells → (Vl → Cells → Prop) → Prop
abbrev W1 := Vl → Cells → (Vl → Cells → Prop) → Prop
abbrev WN := List Vl → Cells → (Vl → Cells → Prop) → Prop
def wVar (i : Nat) : WE := fun ρ cs P => ∃ x, ρ[i]? = some (some x) ∧ P x cs
def wC (d : Dat) : WE := fun _ cs P => P (.dat d) cs
def wRaw (v : V) : WE := fun _ cs P => P (.raw v) cs
def wOp (r : W2) (wa wb : WE) : WE := fun ρ cs P => wa ρ cs fun x cs1 => wb ρ cs1 fun y cs2 => r x y cs2 P
def wUn (r : W1) (wa : WE) : WE := fun ρ cs P => wa ρ cs fun x cs1 => r x cs1 P
def wNil : WA := fun _ cs P => P [] cs
def wCons (wa : WE) (wr : WA) : WA := fun ρ cs P => wa ρ cs fun x cs1 => wr ρ cs1 fun xs cs2 => P (x :: xs) cs2
def wFn (r : WN) (wa : WA) : WE := fun ρ cs P => wa ρ cs fun xs cs1 => r xs cs1 P
def wTest (we : WE) : WT := fun ρ cs P => we ρ cs fun x cs1 => ∃ k, x = .dat (.bl k) ∧ P k cs1
def wNot (w : WT) : WT := fun ρ cs P => w ρ cs fun b cs1 => P (!b) cs1
def wAnd (w u : WT) : WT := fun ρ cs P => w ρ cs fun b cs1 => if b = true then u ρ cs1 P else P false cs1
def wOr (w u : WT) : WT := fun ρ cs P => w ρ cs fun b cs1 => if b = true then P true cs1 else u ρ cs1 P
def wAndV (w u : WE) : WE := fun ρ cs P => w ρ cs fun x cs1 => ∃ b, x = .dat (.bl b) ∧ if b = true then u ρ cs1 P else P (.dat (.bl false)) cs1
def wOrV (w u : WE) : WE := fun ρ cs P => w ρ cs fun x cs1 => ∃ b, x = .dat (.bl b) ∧ if b = true then P (.dat (.bl true)) cs1 else u ρ cs1 P
def wNotV (w : WE) : WE := fun ρ cs P => w ρ cs fun x cs1 => ∃ b, x = .dat (.bl b) ∧ P (.dat (.bl (!b))) cs1
def wIf (w : WT) (wa wb : WE) : WE := fun ρ cs P => w ρ cs fun b cs1 => if b = true then wa ρ cs1 P else wb ρ cs1 P
def wChain (r r' : W2) (wa wb wc : WE) : WE := fun ρ cs P => wa ρ cs fun x cs1 => wb ρ cs1 fun y cs2 => r x y cs2 fun z cs3 => ∃ k, z = .dat (.bl k) ∧
  if k = true then wc ρ cs3 fun u cs4 => r' y u cs4 P else P (.dat (.bl false)) cs3
def R2Ok (K : Frag) (r : R2) (w : W2) : Prop := ∀ M H cs x y a b P Q, Ok K M H cs → RV K M x a → RV K M y b → w a b cs P → Kont K M P Q → r x y H Q
def R1Ok (K : Frag) (r : V → Hp → VK → Prop) (w : W1) : Prop := ∀ M H cs x a P Q, Ok K M H cs → RV K M x a → w a cs P → Kont K M P Q → r x H Q
def RNOk (K : Frag) (r : List V → Hp → VK → Prop) (w : WN) : Prop := ∀ M H cs xs as P Q, Ok K M H cs → Paired (RV K M) xs as → w as cs P → Kont K M P Q → r xs H Q
theorem inv_int {K : Frag} {M : Hp} {v : V} {i : Int} (h : RV K M v (.dat (.int i))) : v = .int i := by
  cases (show Dr K M v (.int i) from h); rfl
theorem inv_bl {K : Frag} {M : Hp} {v : V} {i : Bool} (h : RV K M v (.dat (.bl i))) : v = .bl i := by
  cases (show Dr K M v (.bl i) from h); rfl
theorem inv_non {K : Frag} {M : Hp} {v : V} (h : RV K M v (.dat .non)) : v = .non := by
  cases (show Dr K M v .non from h); rfl
theorem inv_str {K : Frag} {M : Hp} {v : V} {x : Str} (h : RV K M v (.dat (.str x))) : v = .str x := by
  cases (show Dr K M v (.str x) from h); rfl
section
variable {X : Cx} {a b c e : Expr} {es : List Expr} {wa wb wc we : WE} {w u : WT} {wr : WA} {pos : Pos}
theorem de_var (i : Nat) {x : Str} (hN : X.N[i]? = some x := by rfl) (hv : Vis X.env.scope x := by first | exact Or.inl rfl | exact Or.inr (Or.inl rfl) | exact Or.inr (Or.inr rfl)) (hd : (x == ("__debug__" : Str)) = false := by decide)
    (hcd : (x == ("__classdict__" : Str)) = false := by decide) : DE X (.Name x pos) (wVar i) :=
  pe_imp (pv i hN hv hd hcd) fun σ H Q ⟨M, ρ, cs, P, o, r, ⟨x, ex, p⟩, k⟩ => let ⟨v, ev, rv⟩ := r.at_ i x ex; ⟨v, ev, k v x M H cs (Same.refl _) o rv p⟩
theorem de_c {v : V} {d : Dat} (h : PE X e (tC v)) (hd : ∀ M, Dr X.K M v d) : DE X e (wC d) :=
  pe_imp h fun σ H Q ⟨M, ρ, cs, P, o, r, p, k⟩ => k _ _ M H cs (Same.refl _) o (rv_dat (hd M)) p
theorem de_raw {v : V} (h : PE X e (tC v)) : DE X e (wRaw v) :=
  pe_imp h fun σ H Q ⟨M, ρ, cs, P, o, r, p, k⟩ => k _ _ M H cs (Same.refl _) o rv_raw p
theorem de_int {i : Int} {j : Nat} : DE X (.Constant (.int i) j pos) (wC (.int i)) := de_c pe_int fun _ => .int i
theorem de_bl {b : Bool} {j : Nat} : DE X (.Constant (.bool b) j pos) (wC (.bl b)) := de_c pe_bl fun _ => .bl b
theorem de_non {j : Nat} : DE X (.Constant .none j pos) (wC .non) := de_c pe_non fun _ => .non
theorem de_str {x : Str} {j : Nat} : DE X (.Constant (.str x) j pos) (wC (.str x)) := de_c pe_str fun _ => .str x
theorem de_gint {x : Str} {i : Int} {t : Tok} (hm : X.mg x = some (.int i t)) (hg : Gl X x := by rfl) (hd : (x == ("__debug__" : Str)) = false := by decide) : DE X (.Name x pos) (wC (.int i)) :=
  de_c (v := .int i) (pe_glob hg hm ⟨t, rfl⟩ hd) fun _ => .int i
/-- two parts, from the left -/
theorem lift2 {K : Frag} {r : R2} {w2 : W2} (hr : R2Ok K r w2) {σ : St} {H : Hp} {Q : VK} (h : lift K (wOp w2 wa wb) σ H Q) : tOp r (lift K wa) (lift K wb) σ H Q := by
  obtain ⟨M, ρ, cs, P, o, r0, p, k⟩ := h
  refine ⟨M, ρ, cs, _, o, r0, p, fun v x M1 H1 cs1 s1 o1 r1 p1 => ?_⟩
  refine ⟨M1, ρ, cs1, _, o1, r0.mono s1, p1, fun v2 y M2 H2 cs2 s2 o2 r2 p2 => ?_⟩
  exact hr M2 H2 cs2 v v2 x y P Q o2 (r1.mono s2) r2 p2 (k.mono (s1.trans s2))
theorem de_op {op : Operator} {r : R2} {w2 : W2} (ho : OpR X (binaryOp op) r) (hr : R2Ok X.K r w2) (ha : DE X a wa) (hb : DE X b wb) : DE X (.BinOp a op b pos) (wOp w2 wa wb) := pe_imp (pe_op ho ha hb) fun _ _ _ h => lift2 hr h
theorem de_un {op : UnaryOp} {r : V → Hp → VK → Prop} {w1 : W1} (ho : UnR X (unaryOp op) r) (hr : R1Ok X.K r w1) (ha : DE X a wa) : DE X (.UnaryOp op a pos) (wUn w1 wa) :=
  pe_imp (pe_un ho ha) fun σ H Q ⟨M, ρ, cs, P, o, r0, p, k⟩ => ⟨M, ρ, cs, _, o, r0, p, fun v x M1 H1 cs1 s1 o1 r1 p1 => hr M1 H1 cs1 v x P Q o1 r1 p1 (k.mono s1)⟩
theorem de_cmp {op : CmpOp} {r : R2} {w2 : W2} (ho : OpR X (compareOp op) r) (hr : R2Ok X.K r w2) (ha : DE X a wa) (hb : DE X b wb) (hm : behindInMarks op b = false) : DE X (.Compare a [op] [b] pos) (wOp w2 wa wb) := pe_imp (pe_cmpR ho ha hb hm) fun _ _ _ h => lift2 hr h
theorem dt_cmp {op : CmpOp} {r : R2} {w2 : W2} (ho : OpR X (compareOp op) r) (hr : R2Ok X.K r w2) (ha : DE X a wa) (hb : DE X b wb) (hm : behindInMarks op b = false) : DT X (.Compare a [op] [b] pos) (wTest (wOp w2 wa wb)) :=
  pt_imp (pt_cmpR ho ha hb hm) fun σ H Q ⟨M, ρ, cs, P, o, r0, p, k⟩ => lift2 hr ⟨M, ρ, cs, _, o, r0, p, fun v x M1 H1 cs1 s1 o1 r1 ⟨q, ex, p1⟩ => by
    subst ex
    exact ⟨q, inv_bl r1, k q M1 H1 cs1 s1 o1 p1⟩⟩
theorem liftChain {K : Frag} {r r' : R2} {w2 w2' : W2} (hr : R2Ok K r w2) (hr' : R2Ok K r' w2') {σ : St} {H : Hp} {Q : VK} (h : lift K (wChain w2 w2' wa wb wc) σ H Q) : tChain r r' (lift K wa) (lift K wb) (lift K wc) σ H Q := by
  obtain ⟨M, ρ, cs, P, o, r0, p, k⟩ := h
  refine ⟨M, ρ, cs, _, o, r0, p, fun v x M1 H1 cs1 s1 o1 r1 p1 => ?_⟩
  refine ⟨M1, ρ, cs1, _, o1, r0.mono s1, p1, fun v2 y M2 H2 cs2 s2 o2 r2 p2 => ?_⟩
  refine hr M2 H2 cs2 v v2 x y _ _ o2 (r1.mono s2) r2 p2 fun z zz M3 H3 cs3 s3 o3 r3 ⟨kk, ez, p3⟩ => ?_
  subst ez
  refine ⟨kk, inv_bl r3, ?_⟩
  have s123 := s1.trans (s2.trans s3)
  cases kk with
  | true =>
    refine iteT ?_
    have p3' : wc ρ cs3 fun u cs4 => w2' y u cs4 P := by simpa using p3
    exact ⟨M3, ρ, cs3, _, o3, r0.mono s123, p3', fun v4 y4 M4 H4 cs4 s4 o4 r4 p4 => hr' M4 H4 cs4 v2 v4 y y4 P Q o4 (r2.mono (s3.trans s4)) r4 p4 (k.mono (s123.trans s4))⟩
  | false =>
    refine iteF ?_
    exact k _ _ M3 H3 cs3 s123 o3 (rv_dat (.bl false)) (by simpa using p3)
theorem de_chain {op op' : CmpOp} {r r' : R2} {w2 w2' : W2} (ho : OpR X (compareOp op) r) (hr : R2Ok X.K r w2) (ho' : OpR X (compareOp op') r') (hr' : R2Ok X.K r' w2') (ha : DE X a wa) (hb : DE X b wb) (hc : DE X c wc)
    (hm : lastMarks [op, op'] [b, c] = false := by with_unfolding_all rfl) : DE X (.Compare a [op, op'] [b, c] pos) (wChain w2 w2' wa wb wc) := pe_imp (pe_chain ho ho' ha hb hc hm) fun _ _ _ h => liftChain hr hr' h
theorem dt_chain {op op' : CmpOp} {r r' : R2} {w2 w2' : W2} (ho : OpR X (compareOp op) r) (hr : R2Ok X.K r w2) (ho' : OpR X (compareOp op') r') (hr' : R2Ok X.K r' w2') (ha : DE X a wa) (hb : DE X b wb) (hc : DE X c wc)
    (hm : lastMarks [op, op'] [b, c] = false := by with_unfolding_all rfl) : DT X (.Compare a [op, op'] [b, c] pos) (wTest (wChain w2 w2' wa wb wc)) :=
  pt_imp (pt_chain ho ho' ha hb hc hm) fun σ H Q ⟨M, ρ, cs, P, o, r0, p, k⟩ => liftChain hr hr' ⟨M, ρ, cs, _, o, r0, p, fun v x M1 H1 cs1 s1 o1 r1 ⟨q, ex, p1⟩ => by
    subst ex
    exact ⟨q, inv_bl r1, k q M1 H1 cs1 s1 o1 p1⟩⟩
theorem dt_val (h : DE X e we) (he : ∀ whole, isTrue e X.env whole = (do let v ← whole; standAt e.pos; holding [v] (truthy v)) := by intro _; rfl) : DT X e (wTest we) :=
  pt_imp (pt_val h he) fun σ H Q ⟨M, ρ, cs, P, o, r0, p, k⟩ => ⟨M, ρ, cs, _, o, r0, p, fun v x M1 H1 cs1 s1 o1 r1 ⟨q, ex, p1⟩ => by
    subst ex
    exact ⟨q, inv_bl r1, k q M1 H1 cs1 s1 o1 p1⟩⟩
theorem dt_not (h : DT X a w) : DT X (.UnaryOp .Not a pos) (wNot w) :=
  pt_imp (pt_not h) fun σ H Q ⟨M, ρ, cs, P, o, r0, p, k⟩ => ⟨M, ρ, cs, _, o, r0, p, fun b M1 H1 cs1 s1 o1 p1 => k (!b) M1 H1 cs1 s1 o1 p1⟩
theorem dw_and1 (h : DT X a w) : DW X (.BoolOp .And [a] pos) w := pw_and1 h
theorem dw_or1 (h : DT X a w) : DW X (.BoolOp .Or [a] pos) w := pw_or1 h
theorem DW.dt (h : DW X e w) : DT X e w := PW.pt h
theorem dw_and {rest : List Expr} (ha : DT X a w) (hb : DW X (.BoolOp .And (b :: rest) pos) u) : DW X (.BoolOp .And (a :: b :: rest) pos) (wAnd w u) :=
  pw_imp (pw_and ha hb) fun σ H Q ⟨M, ρ, cs, P, o, r0, p, k⟩ => ⟨M, ρ, cs, _, o, r0, p, fun b M1 H1 cs1 s1 o1 p1 => by
    cases b with
    | true => exact iteT ⟨M1, ρ, cs1, P, o1, r0.mono s1, by simpa using p1, k.mono s1⟩
    | false => exact iteF (k false M1 H1 cs1 s1 o1 (by simpa using p1))⟩
theorem dw_or {rest : List Expr} (ha : DT X a w) (hb : DW X (.BoolOp .Or (b :: rest) pos) u) : DW X (.BoolOp .Or (a :: b :: rest) pos) (wOr w u) :=
  pw_imp (pw_or ha hb) fun σ H Q ⟨M, ρ, cs, P, o, r0, p, k⟩ => ⟨M, ρ, cs, _, o, r0, p, fun b M1 H1 cs1 s1 o1 p1 => by
    cases b with
    | true => exact iteT (k true M1 H1 cs1 s1 o1 (by simpa using p1))
    | false => exact iteF ⟨M1, ρ, cs1, P, o1, r0.mono s1, by simpa using p1, k.mono s1⟩⟩
theorem de_one {op : BoolOp} (h : DE X a wa) : DE X (.BoolOp op [a] pos) wa := pe_one h
theorem de_and {rest : List Expr} (ha : DE X a wa) (hb : DE X (.BoolOp .And (b :: rest) pos) wb) : DE X (.BoolOp .And (a :: b :: rest) pos) (wAndV wa wb) :=
  pe_imp (pe_and ha hb) fun σ H Q ⟨M, ρ, cs, P, o, r0, p, k⟩ => ⟨M, ρ, cs, _, o, r0, p, fun v x M1 H1 cs1 s1 o1 r1 ⟨q, ex, p1⟩ => by
    subst ex
    refine ⟨q, inv_bl r1, ?_⟩
    cases q with
    | true => exact iteT ⟨M1, ρ, cs1, P, o1, r0.mono s1, by simpa using p1, k.mono s1⟩
    | false => exact iteF (k _ _ M1 H1 cs1 s1 o1 (rv_dat (.bl false)) (by simpa using p1))⟩
theorem de_or {rest : List Expr} (ha : DE X a wa) (hb : DE X (.BoolOp .Or (b :: rest) pos) wb) : DE X (.BoolOp .Or (a :: b :: rest) pos) (wOrV wa wb) :=
  pe_imp (pe_or ha hb) fun σ H Q ⟨M, ρ, cs, P, o, r0, p, k⟩ => ⟨M, ρ, cs, _, o, r0, p, fun v x M1 H1 cs1 s1 o1 r1 ⟨q, ex, p1⟩ => by
    subst ex
    refine ⟨q, inv_bl r1, ?_⟩
    cases q with
    | true => exact iteT (k _ _ M1 H1 cs1 s1 o1 (rv_dat (.bl true)) (by simpa using p1))
    | false => exact iteF ⟨M1, ρ, cs1, P, o1, r0.mono s1, by simpa using p1, k.mono s1⟩⟩
theorem de_not (ha : DE X a wa) : DE X (.UnaryOp .Not a pos) (wNotV wa) :=
  pe_imp (pe_not ha) fun σ H Q ⟨M, ρ, cs, P, o, r0, p, k⟩ => ⟨M, ρ, cs, _, o, r0, p, fun v x M1 H1 cs1 s1 o1 r1 ⟨q, ex, p1⟩ => by
    subst ex
    exact ⟨q, inv_bl r1, k _ _ M1 H1 cs1 s1 o1 (rv_dat (.bl _)) p1⟩⟩
theorem de_if (hc : DT X c w) (ha : DE X a wa) (hb : DE X b wb) : DE X (.IfExp c a b pos) (wIf w wa wb) :=
  pe_imp (pe_ifExp hc ha hb) fun σ H Q ⟨M, ρ, cs, P, o, r0, p, k⟩ => ⟨M, ρ, cs, _, o, r0, p, fun b M1 H1 cs1 s1 o1 p1 => by
    cases b with
    | true => exact iteT ⟨M1, ρ, cs1, P, o1, r0.mono s1, by simpa using p1, k.mono s1⟩
    | false => exact iteF ⟨M1, ρ, cs1, P, o1, r0.mono s1, by simpa using p1, k.mono s1⟩⟩
theorem da_nil : DA X [] wNil := pa_imp pa_nil fun σ H Q ⟨M, ρ, cs, P, o, r0, p, k⟩ => k [] [] M H cs (Same.refl _) o .nil p
end
end DL
set_option maxRecDepth 100000
set_option maxHeartbeats 4000000
namespace DL
open PySem L2
/-! ### operators on ints -/
def wI (C : Int → Int → Prop) (g : Int → Int → Dat) : W2 := fun x y cs P => ∃ i j, x = .dat (.int i) ∧ y = .dat (.int j) ∧ C i j ∧ P (.dat (g i j)) cs
def wI0 (g : Int → Int → Dat) : W2 := fun x y cs P => ∃ i j, x = .dat (.int i) ∧ y = .dat (.int j) ∧ P (.dat (g i j)) cs
theorem r2_I {K : Frag} {C : Int → Int → Prop} {f : Int → Int → V} {g : Int → Int → Dat} (h : ∀ M i j, Dr K M (f i j) (g i j)) : R2Ok K (rI C f) (wI C g) :=
  fun M H cs x y a b P Q o rx ry ⟨i, j, ea, eb, c, p⟩ k => by
    subst ea eb
    exact ⟨i, j, inv_int rx, inv_int ry, c, k _ _ M H cs (Same.refl _) o (rv_dat (h M i j)) p⟩
theorem r2_I0 {K : Frag} {f : Int → Int → V} {g : Int → Int → Dat} (h : ∀ M i j, Dr K M (f i j) (g i j)) : R2Ok K (rI0 f) (wI0 g) :=
  fun M H cs x y a b P Q o rx ry ⟨i, j, ea, eb, p⟩ k => by
    subst ea eb
    exact ⟨i, j, inv_int rx, inv_int ry, k _ _ M H cs (Same.refl _) o (rv_dat (h M i j)) p⟩
abbrev wAdd : W2 := wI0 fun i j => .int (i + j)
abbrev wSub : W2 := wI0 fun i j => .int (i - j)
abbrev wMul : W2 := wI CMul fun i j => .int (i * j)
abbrev wDiv : W2 := wI CDivW fun i j => .int (i / j)
abbrev wMod : W2 := wI (fun _ j => 0 < j) fun i j => .int (i % j)
abbrev wPow : W2 := wI CPow fun i j => .int (i ^ j.toNat)
abbrev wLt : W2 := wI0 fun i j => .bl (decide (i < j))
abbrev wLe : W2 := wI0 fun i j => .bl (decide (i ≤ j))
abbrev wGt : W2 := wI0 fun i j => .bl (decide (j < i))
abbrev wGe : W2 := wI0 fun i j => .bl (decide (j ≤ i))
def wNeg : W1 := fun x cs P => ∃ i, x = .dat (.int i) ∧ P (.dat (.int (-i))) cs
section
variable {X : Cx} {a b c e : Expr} {es : List Expr} {wa wb wc we : WE} {w u : WT} {wr : WA} {pos : Pos}
theorem de_add (ha : DE X a wa) (hb : DE X b wb) : DE X (.BinOp a .Add b pos) (wOp wAdd wa wb) := de_op op_add (r2_I0 fun _ _ _ => .int _) ha hb
theorem de_sub (ha : DE X a wa) (hb : DE X b wb) : DE X (.BinOp a .Sub b pos) (wOp wSub wa wb) := de_op op_sub (r2_I0 fun _ _ _ => .int _) ha hb
theorem de_mul (ha : DE X a wa) (hb : DE X b wb) : DE X (.BinOp a .Mult b pos) (wOp wMul wa wb) := de_op op_mul (r2_I fun _ _ _ => .int _) ha hb
theorem de_div (ha : DE X a wa) (hb : DE X b wb) : DE X (.BinOp a .FloorDiv b pos) (wOp wDiv wa wb) := de_op op_fdivW (r2_I fun _ _ _ => .int _) ha hb
theorem de_mod (ha : DE X a wa) (hb : DE X b wb) : DE X (.BinOp a .Mod b pos) (wOp wMod wa wb) := de_op op_mod (r2_I fun _ _ _ => .int _) ha hb
theorem de_pow (ha : DE X a wa) (hb : DE X b wb) : DE X (.BinOp a .Pow b pos) (wOp wPow wa wb) := de_op op_pow (r2_I fun _ _ _ => .int _) ha hb
theorem de_neg (ha : DE X a wa) : DE X (.UnaryOp .USub a pos) (wUn wNeg wa) := de_un un_neg (fun M H cs x a P Q o rx ⟨i, ea, p⟩ k => by
  subst ea
  exact ⟨i, inv_int rx, k _ _ M H cs (Same.refl _) o (rv_dat (.int _)) p⟩) ha
/-- the four comparisons of ints: the operator's rule with its data -/
structure CmpD (X : Cx) (op : CmpOp) (w2 : W2) : Prop where
  ex : ∃ r, OpR X (compareOp op) r ∧ R2Ok X.K r w2
  nm : op ≠ .In ∧ op ≠ .NotIn
theorem c_lt : CmpD X .Lt wLt := ⟨⟨_, op_lt, r2_I0 fun _ _ _ => .bl _⟩, by decide⟩
theorem c_le : CmpD X .LtE wLe := ⟨⟨_, op_le, r2_I0 fun _ _ _ => .bl _⟩, by decide⟩
theorem c_gt : CmpD X .Gt wGt := ⟨⟨_, op_gt, r2_I0 fun _ _ _ => .bl _⟩, by decide⟩
theorem c_ge : CmpD X .GtE wGe := ⟨⟨_, op_ge, r2_I0 fun _ _ _ => .bl _⟩, by decide⟩
theorem de_cmpD {op : CmpOp} {w2 : W2} (h : CmpD X op w2) (ha : DE X a wa) (hb : DE X b wb) : DE X (.Compare a [op] [b] pos) (wOp w2 wa wb) := by
  obtain ⟨⟨r, ho, hr⟩, m1, m2⟩ := h
  exact de_cmp ho hr ha hb (nomark b m1 m2)
theorem dt_cmpD {op : CmpOp} {w2 : W2} (h : CmpD X op w2) (ha : DE X a wa) (hb : DE X b wb) : DT X (.Compare a [op] [b] pos) (wTest (wOp w2 wa wb)) := by
  obtain ⟨⟨r, ho, hr⟩, m1, m2⟩ := h
  exact dt_cmp ho hr ha hb (nomark b m1 m2)
theorem dt_chainD {op op' : CmpOp} {w2 w2' : W2} (h : CmpD X op w2) (h' : CmpD X op' w2') (ha : DE X a wa) (hb : DE X b wb) (hc : DE X c wc) (hm : lastMarks [op, op'] [b, c] = false := by with_unfolding_all rfl) : DT X (.Compare a [op, op'] [b, c] pos) (wTest (wChain w2 w2' wa wb wc)) := by
  obtain ⟨⟨r, ho, hr⟩, _⟩ := h
  obtain ⟨⟨r', ho', hr'⟩, _⟩ := h'
  exact dt_chain ho hr ho' hr' ha hb hc hm
theorem de_chainD {op op' : CmpOp} {w2 w2' : W2} (h : CmpD X op w2) (h' : CmpD X op' w2') (ha : DE X a wa) (hb : DE X b wb) (hc : DE X c wc) (hm : lastMarks [op, op'] [b, c] = false := by with_unfolding_all rfl) : DE X (.Compare a [op, op'] [b, c] pos) (wChain w2 w2' wa wb wc) := by
  obtain ⟨⟨r, ho, hr⟩, _⟩ := h
  obtain ⟨⟨r', ho', hr'⟩, _⟩ := h'
  exact de_chain ho hr ho' hr' ha hb hc hm
/-! ### is None -/
def isNon : Vl → Bool
  | .dat .non => true
  | .raw .non => true
  | _ => false
theorem isNon_ok {K : Frag} {M : Hp} {v : V} {x : Vl} (r : RV K M v x) : decide (v = .non) = isNon x := by
  cases x with
  | dat d => cases (show Dr K M v d from r) <;> rfl
  | raw u =>
    cases (show v = u from r)
    cases v <;> rfl
def wIsN : W2 := fun x y cs P => y = .dat .non ∧ P (.dat (.bl (isNon x))) cs
def wNotN : W2 := fun x y cs P => y = .dat .non ∧ P (.dat (.bl (!isNon x))) cs
theorem c_isN : CmpD X .Is wIsN := ⟨⟨_, op_isN, fun M H cs x y a b P Q o rx ry ⟨e, p⟩ k => by
  subst e
  refine ⟨inv_non ry, ?_⟩
  rw [isNon_ok rx]
  exact k _ _ M H cs (Same.refl _) o (rv_dat (.bl _)) p⟩, by decide⟩
theorem c_notN : CmpD X .IsNot wNotN := ⟨⟨_, op_notN, fun M H cs x y a b P Q o rx ry ⟨e, p⟩ k => by
  subst e
  refine ⟨inv_non ry, ?_⟩
  rw [isNon_ok rx]
  exact k _ _ M H cs (Same.refl _) o (rv_dat (.bl _)) p⟩, by decide⟩
/-! ### == and != of data -/
mutual
def Dat.py : Dat → Option PyData
  | .non => some .none
  | .bl b => some (.bool b)
  | .int i => some (.int i)
  | .str x => some (.str x)
  | .lst xs => (Dat.pys xs).map .list
  | .tup xs => (Dat.pys xs).map .tuple
  | .obj _ _ => none
  | .dct _ => none
  | .ho _ _ => none
def Dat.pys : List Dat → Option (List PyData)
  | [] => some []
  | d :: ds => match Dat.py d, Dat.pys ds with
    | some p, some ps => some (p :: ps)
    | _, _ => none
end
mutual
theorem Dr.dp {K : Frag} {M : Hp} : ∀ (d : Dat) {v : V} {p : PyData}, Dr K M v d → d.py = some p → Dp K M v p
  | .non, _, _, h, e => by cases h; cases e; exact .non
  | .bl b, _, _, h, e => by cases h; cases e; exact .bl b
  | .int i, _, _, h, e => by cases h; cases e; exact .int i
  | .str x, _, _, h, e => by cases h; cases e; exact .str x
  | .lst xs, _, _, h, e => by
    cases h with
    | lst q k =>
      unfold Dat.py at e
      obtain ⟨ps, e1, rfl⟩ := Option.map_eq_some_iff.mp e
      exact .lst q (DrAll.dp xs k e1)
  | .tup xs, _, _, h, e => by
    cases h with
    | tup q k =>
      unfold Dat.py at e
      obtain ⟨ps, e1, rfl⟩ := Option.map_eq_some_iff.mp e
      exact .tup q (DrAll.dp xs k e1)
  | .obj _ _, _, _, _, e => by cases e
  | .dct _, _, _, _, e => by cases e
  | .ho _ _, _, _, _, e => by cases e
theorem DrAll.dp {K : Frag} {M : Hp} : ∀ (ds : List Dat) {vs : List V} {ps : List PyData}, DrAll K M vs ds → Dat.pys ds = some ps → DpAll K M vs ps
  | [], _, _, h, e => by cases h; cases e; exact .nil
  | d :: ds, _, _, h, e => by
    cases h with
    | cons h k =>
      unfold Dat.pys at e
      split at e
      · rename_i p ps e1 e2
        cases e
        exact .cons (Dr.dp d h e1) (DrAll.dp ds k e2)
      · cases e
end
mutual
theorem dp_mono {K : Frag} {M M' : Hp} (s : Same M M') : ∀ {v : V} {d : PyData}, Dp K M v d → Dp K M' v d
  | _, _, .non => .non
  | _, _, .bl b => .bl b
  | _, _, .int i => .int i
  | _, _, .str x => .str x
  | _, _, .lst h k => .lst (sqL_mono s h) (dpAll_mono s k)
  | _, _, .tup h k => .tup (sqT_mono s h) (dpAll_mono s k)
theorem dpAll_mono {K : Frag} {M M' : Hp} (s : Same M M') : ∀ {v : List V} {d : List PyData}, DpAll K M v d → DpAll K M' v d
  | _, _, .nil => .nil
  | _, _, .cons h k => .cons (dp_mono s h) (dpAll_mono s k)
end
/-- the data that stands behind a value, a cell's list too -/
def allDat : List Vl → Option (List Dat)
  | [] => some []
  | .dat d :: r => (allDat r).map (d :: ·)
  | _ => none
def coDat : Option CO → Option Dat
  | some (.lst xs) => (allDat xs).map .lst
  | _ => none
def seen (cs : Cells) : Vl → Option Dat
  | .dat d => some d
  | .raw (.ref a) => coDat (cs a)
  | _ => none
theorem allDat_eq : ∀ {xs : List Vl} {ds : List Dat}, allDat xs = some ds → xs = ds.map .dat
  | [], _, h => by cases h; rfl
  | .dat d :: r, _, h => by
    unfold allDat at h
    obtain ⟨es, e1, rfl⟩ := Option.map_eq_some_iff.mp h
    rw [allDat_eq e1]; rfl
  | .raw _ :: _, _, h => by cases h
theorem allDat_map : ∀ (ds : List Dat), allDat (ds.map .dat) = some ds
  | [] => rfl
  | d :: ds => by show (allDat (ds.map .dat)).map (d :: ·) = _; rw [allDat_map ds]; rfl
theorem seen_dp {K : Frag} {M H : Hp} {cs : Cells} {v : V} {x : Vl} {d : Dat} {p : PyData} (o : Ok K M H cs) (r : RV K M v x) (h : seen cs x = some d) (e : d.py = some p) : Dp K H v p := by
  match x, r, h with
  | .dat d', r, h =>
    cases h
    exact dp_mono o.ex (Dr.dp _ r e)
  | .raw (.ref a), r, h =>
    cases (show v = .ref a from r)
    have h : coDat (cs a) = some d := h
    cases q : cs a with
    | none => rw [q] at h; cases h
    | some c =>
      rw [q] at h
      cases c with
      | lst ys =>
        obtain ⟨es, e1, rfl⟩ := Option.map_eq_some_iff.mp (show (allDat ys).map Dat.lst = some d from h)
        obtain ⟨_, u, hu, z⟩ := o.cell a _ q
        cases u <;> try exact (show False from z).elim
        rw [allDat_eq e1] at z
        unfold Dat.py at e
        obtain ⟨ps, e2, rfl⟩ := Option.map_eq_some_iff.mp e
        exact .lst (.inl (.inl hu)) (dpAll_mono o.ex (DrAll.dp _ (DrAll.of_paired z) e2))
      | _ => cases h
def wEqD (neg : Bool) : W2 := fun x y cs P => ∃ d e p q, seen cs x = some d ∧ seen cs y = some e ∧ d.py = some p ∧ e.py = some q ∧ SeqAt.shaped p = true ∧ SeqAt.shaped q = true ∧ P (.dat (.bl (if neg then !PyData.eqv p q else PyData.eqv p q))) cs
theorem c_eq (hu : X.A.units + 64 < cLine) : CmpD X .Eq (wEqD false) := ⟨⟨_, op_eqD hu, fun M H cs x y a b P Q o rx ry ⟨d, e, p, q, h1, h2, h3, h4, s1, s2, h⟩ k =>
  ⟨p, q, seen_dp o rx h1 h3, seen_dp o ry h2 h4, s1, s2, k _ _ M H cs (Same.refl _) o (rv_dat (.bl _)) (by simpa using h)⟩⟩, by decide⟩
theorem c_ne (hu : X.A.units + 64 < cLine) : CmpD X .NotEq (wEqD true) := ⟨⟨_, op_neD hu, fun M H cs x y a b P Q o rx ry ⟨d, e, p, q, h1, h2, h3, h4, s1, s2, h⟩ k =>
  ⟨p, q, seen_dp o rx h1 h3, seen_dp o ry h2 h4, s1, s2, k _ _ M H cs (Same.refl _) o (rv_dat (.bl _)) (by simpa using h)⟩⟩, by decide⟩
/-! ### x in a sequence of flat things -/
def flatD : Vl → Option V
  | .dat .non => some .non
  | .dat (.bl b) => some (.bl b)
  | .dat (.int i) => some (.int i)
  | .dat (.str x) => some (.str x)
  | _ => none
def flatsD : List Vl → Option (List V)
  | [] => some []
  | x :: r => match flatD x, flatsD r with
    | some v, some vs => some (v :: vs)
    | _, _ => none
theorem flatD_ok {K : Frag} {M : Hp} {v u : V} {x : Vl} (r : RV K M v x) (h : flatD x = some u) : v = u ∧ flatV u = true := by
  match x, r, h with
  | .dat .non, r, h => cases h; exact ⟨inv_non r, rfl⟩
  | .dat (.bl b), r, h => cases h; exact ⟨inv_bl r, rfl⟩
  | .dat (.int i), r, h => cases h; exact ⟨inv_int r, rfl⟩
  | .dat (.str s), r, h => cases h; exact ⟨inv_str r, rfl⟩
theorem flatsD_ok {K : Frag} {M : Hp} : ∀ {vs us : List V} {xs : List Vl}, Paired (RV K M) vs xs → flatsD xs = some us → vs = us ∧ us.all flatV = true
  | _, _, _, .nil, h => by cases h; exact ⟨rfl, rfl⟩
  | _, _, _, .cons r k, h => by
    unfold flatsD at h
    split at h
    · rename_i v vs e1 e2
      cases h
      obtain ⟨h1, h2⟩ := flatD_ok r e1
      obtain ⟨h3, h4⟩ := flatsD_ok k e2
      exact ⟨by rw [h1, h3], by rw [List.all_cons, h2, h4]; rfl⟩
    · cases h
def wIn (neg : Bool) : W2 := fun x y cs P => ∃ b ys u us, seqD cs y = some (b, ys) ∧ flatD x = some u ∧ flatsD ys = some us ∧ P (.dat (.bl (if neg then !inV u us else inV u us))) cs
theorem r2_in {K : Frag} {neg : Bool} : R2Ok K (rIn K neg) (wIn neg) := fun M H cs x y a b P Q o rx ry ⟨bb, ys, u, us, h1, h2, h3, p⟩ k => by
  obtain ⟨ad, vs, e, q, pr⟩ := seqD_any o ry h1
  obtain ⟨e2, f2⟩ := flatD_ok rx h2
  obtain ⟨e3, f3⟩ := flatsD_ok pr h3
  subst e e2 e3
  exact ⟨ad, vs, rfl, q, f2, f3, k _ _ M H cs (Same.refl _) o (rv_dat (.bl _)) p⟩
theorem de_in (ha : DE X a wa) (hb : DE X b wb) (hm : behindInMarks .In b = false := by rfl) : DE X (.Compare a [.In] [b] pos) (wOp (wIn false) wa wb) := de_cmp op_in_seq r2_in ha hb hm
theorem dt_in (ha : DE X a wa) (hb : DE X b wb) (hm : behindInMarks .In b = false := by rfl) : DT X (.Compare a [.In] [b] pos) (wTest (wOp (wIn false) wa wb)) := dt_cmp op_in_seq r2_in ha hb hm
theorem de_notin (ha : DE X a wa) (hb : DE X b wb) (hm : behindInMarks .NotIn b = false := by rfl) : DE X (.Compare a [.NotIn] [b] pos) (wOp (wIn true) wa wb) := de_cmp op_notIn_seq r2_in ha hb hm
theorem dt_notin (ha : DE X a wa) (hb : DE X b wb) (hm : behindInMarks .NotIn b = false := by rfl) : DT X (.Compare a [.NotIn] [b] pos) (wTest (wOp (wIn true) wa wb)) := dt_cmp op_notIn_seq r2_in ha hb hm
/-! ### arguments, tuples, lists -/
theorem da_cons (ha : DE X e we) (hr : DA X es wr) (hs : starEach (e :: es) X.env = (false, eval e X.env) :: starEach es X.env := by rfl) : DA X (e :: es) (wCons we wr) :=
  pa_imp (pa_cons ha hr hs) fun σ H Q ⟨M, ρ, cs, P, o, r0, p, k⟩ => ⟨M, ρ, cs, _, o, r0, p, fun v x M1 H1 cs1 s1 o1 r1 p1 =>
    ⟨M1, ρ, cs1, _, o1, r0.mono s1, p1, fun vs xs M2 H2 cs2 s2 o2 r2 p2 => k _ _ M2 H2 cs2 (s1.trans s2) o2 (.cons (r1.mono s2) r2) p2⟩⟩
/-- a new tuple: data alone -/
def wTup (wa : WA) : WE := fun ρ cs P => wa ρ cs fun xs cs1 => ∃ ds, allDat xs = some ds ∧ ds.length ≤ 16777216 ∧ P (.dat (.tup ds)) cs1
/-- a new list: a cell, or data for ever -/
def newL (xs : List Vl) (cs : Cells) (P : Vl → Cells → Prop) : Prop := (∀ p, cs p = none → P (.cell p) (cs.put p (.lst xs))) ∨ ∃ ds, allDat xs = some ds ∧ P (.dat (.lst ds)) cs
def wLst (wa : WA) : WE := fun ρ cs P => wa ρ cs fun xs cs1 => xs.length ≤ 16777216 ∧ newL xs cs1 P
theorem size_line {n : Nat} (h : n ≤ 16777216) : n ≤ sizeLine := by rw [sizeLine_eq]; exact h
theorem newT_ok {K : Frag} {M H : Hp} {cs : Cells} {P : Vl → Cells → Prop} {Q : VK} {vs : List V} {ds : List Dat} (o : Ok K M H cs) (r : Paired (RV K M) vs (ds.map .dat)) (p : P (.dat (.tup ds)) cs) (k : Kont K M P Q) : ∀ q, H q = none → Q (.ref q) (upd H q (.tup vs)) := fun q hq => by
  obtain ⟨s, o'⟩ := o.newM hq (.tup vs)
  exact k _ _ _ _ cs s o' (rv_dat (.tup (.inl (.inl upd_same)) ((DrAll.of_paired r).mono s))) p
theorem newL_ok {K : Frag} {M H : Hp} {cs : Cells} {P : Vl → Cells → Prop} {Q : VK} {vs : List V} {xs : List Vl} (o : Ok K M H cs) (r : Paired (RV K M) vs xs) (p : newL xs cs P) (k : Kont K M P Q) : ∀ q, H q = none → Q (.ref q) (upd H q (.lst vs)) := fun q hq => by
  rcases p with p | ⟨ds, e, p⟩
  · exact k _ _ M _ _ (Same.refl _) (o.newC hq (c := .lst xs) r) rv_raw (p q (o.freeC hq))
  · obtain ⟨s, o'⟩ := o.newM hq (.lst vs)
    rw [allDat_eq e] at r
    exact k _ _ _ _ cs s o' (rv_dat (.lst (.inl (.inl upd_same)) ((DrAll.of_paired r).mono s))) p
theorem de_tup {x1 : Nat} (h : DA X es wr) : DE X (.Tuple es x1 pos) (wTup wr) :=
  pe_imp (pe_tup h) fun σ H Q ⟨M, ρ, cs, P, o, r0, p, k⟩ => ⟨M, ρ, cs, _, o, r0, p, fun vs xs M1 H1 cs1 s1 o1 r1 ⟨ds, e, hz, p1⟩ => by
    have e' := allDat_eq e
    subst e'
    exact ⟨by rw [Paired.len r1, List.length_map]; exact size_line hz, newT_ok o1 r1 p1 (k.mono s1)⟩⟩
theorem de_lst (h : DA X es wr) : DE X (.List es pos) (wLst wr) :=
  pe_imp (pe_lst h) fun σ H Q ⟨M, ρ, cs, P, o, r0, p, k⟩ => ⟨M, ρ, cs, _, o, r0, p, fun vs xs M1 H1 cs1 s1 o1 r1 ⟨hz, p1⟩ =>
    ⟨by rw [Paired.len r1]; exact size_line hz, newL_ok o1 r1 p1 (k.mono s1)⟩⟩
/-! ### items -/
theorem paired_atI {K : Frag} {M : Hp} {vs : List V} {xs : List Vl} {i : Int} {x : Vl} (r : Paired (RV K M) vs xs) (h : atI xs i = some x) : ∃ v, atI vs i = some v ∧ RV K M v x := by
  unfold atI at h ⊢
  rw [Paired.len r]
  cases e : ixN xs.length i with
  | none => rw [e] at h; cases h
  | some j =>
    rw [e] at h
    exact Paired.getR r h
/-- x[i] of a list or a tuple -/
def wIx : W2 := fun x y cs P => ∃ b xs i z, seqD cs x = some (b, xs) ∧ y = .dat (.int i) ∧ atI xs i = some z ∧ P z cs
theorem r2_ix {K : Frag} : R2Ok K (rIx K) wIx := fun M H cs x y a b P Q o rx ry ⟨bb, xs, i, z, h1, ey, h2, p⟩ k => by
  subst ey
  cases bb with
  | true =>
    obtain ⟨ad, vs, e, q, pr⟩ := seqD_list o rx h1
    obtain ⟨v, hv, rv⟩ := paired_atI pr h2
    exact .inl ⟨ad, vs, i, v, e, inv_int ry, q, hv, k _ _ M H cs (Same.refl _) o rv p⟩
  | false =>
    obtain ⟨ad, vs, e, q, pr⟩ := seqD_tup o rx h1
    obtain ⟨v, hv, rv⟩ := paired_atI pr h2
    exact .inr (.inl ⟨ad, vs, i, v, e, inv_int ry, q, hv, k _ _ M H cs (Same.refl _) o rv p⟩)
theorem de_ix (ha : DE X a wa) (hb : DE X b wb) (hs : PlainIx b := by exact fun _ _ => rfl) : DE X (.Subscript a b pos) (wOp wIx wa wb) := pe_imp (pe_ix ix_seq ha hb hs) fun _ _ _ h => lift2 r2_ix h
/-! ### built-ins by name -/
theorem liftN {K : Frag} {r : List V → Hp → VK → Prop} {wn : WN} (hr : RNOk K r wn) {σ : St} {H : Hp} {Q : VK} (h : lift K (wFn wn wr) σ H Q) : tCB r (liftA K wr) σ H Q := by
  obtain ⟨M, ρ, cs, P, o, r0, p, k⟩ := h
  exact ⟨M, ρ, cs, _, o, r0, p, fun vs xs M1 H1 cs1 s1 o1 r1 p1 => hr M1 H1 cs1 vs xs P Q o1 r1 p1 (k.mono s1)⟩
theorem de_callB {x : Str} {id : String} {r : List V → Hp → VK → Prop} {wn : WN} {p : Pos} (hc : CallR X (.builtin id) r) (hr : RNOk X.K r wn) (hm : X.mg x = none) (hv : bootBuiltins x = some (.builtin id)) (ha : DA X (e :: es) wr) (hg : Gl X x := by rfl) (hn : x ≠ "__name__" := by decide) (hdb : (x == ("__debug__" : Str)) = false := by decide)
    (he : starEach (e :: es) X.env = (false, eval e X.env) :: starEach es X.env := by rfl) (hpl : (backTo pos (starEach es X.env)).any (·.1) = false := by rfl) : DE X (.Call (.Name x p) (e :: es) [] pos) (wFn wn wr) :=
  pe_imp (pe_callB hc hg hm hv ha hn hdb he hpl) fun _ _ _ h => liftN hr h
theorem de_callTy {x : Str} {T : String} {r : List V → Hp → VK → Prop} {wn : WN} {p : Pos} (hc : CallR X (.type T) r) (hr : RNOk X.K r wn) (hm : X.mg x = none) (hv : bootBuiltins x = some (.type T)) (ha : DA X (e :: es) wr) (hg : Gl X x := by rfl) (hn : x ≠ "__name__" := by decide) (hdb : (x == ("__debug__" : Str)) = false := by decide)
    (he : starEach (e :: es) X.env = (false, eval e X.env) :: starEach es X.env := by rfl) (hpl : (backTo pos (starEach es X.env)).any (·.1) = false := by rfl) : DE X (.Call (.Name x p) (e :: es) [] pos) (wFn wn wr) :=
  pe_imp (pe_callTy hc hg hm hv ha hn hdb he hpl) fun _ _ _ h => liftN hr h
def wLen : WN := fun xs cs P => ∃ x b ys, xs = [x] ∧ seqD cs x = some (b, ys) ∧ P (.dat (.int (ys.length : Int))) cs
theorem rn_len {K : Frag} : RNOk K (fun xs H Q => ∃ p ys, xs = [.ref p] ∧ (SqL K H p ys ∨ SqT K H p ys) ∧ Q (.int ys.length) H) wLen := fun M H cs xs as P Q o r ⟨x, b, ys, e, h, p⟩ k => by
  subst e
  cases r with
  | cons r1 rr =>
    cases rr
    obtain ⟨ad, vs, e, q, pr⟩ := seqD_any o r1 h
    subst e
    exact ⟨ad, vs, rfl, q, by rw [Paired.len pr]; exact k _ _ M H cs (Same.refl _) o (rv_dat (.int _)) p⟩
theorem de_len {p : Pos} (hm : X.mg "len" = none) (ha : DA X [e] wr) (hg : Gl X "len" := by rfl) (he : starEach [e] X.env = (false, eval e X.env) :: starEach [] X.env := by rfl) (hpl : (backTo pos (starEach [] X.env)).any (·.1) = false := by rfl) :
    DE X (.Call (.Name "len" p) [e] [] pos) (wFn wLen wr) := de_callB call_len_seq rn_len hm PySem.boot_len ha hg (by decide) (by decide) he hpl
def wMax2 : WN := fun xs cs P => ∃ i j, xs = [.dat (.int i), .dat (.int j)] ∧ P (.dat (.int (if j > i then j else i))) cs
def wMin2 : WN := fun xs cs P => ∃ i j, xs = [.dat (.int i), .dat (.int j)] ∧ P (.dat (.int (if j < i then j else i))) cs
theorem rn_II {K : Frag} {f : Int → Int → Int} : RNOk K (fun xs H Q => ∃ i j, xs = [.int i, .int j] ∧ Q (.int (f i j)) H) (fun xs cs P => ∃ i j, xs = [.dat (.int i), .dat (.int j)] ∧ P (.dat (.int (f i j))) cs) := fun M H cs xs as P Q o r ⟨i, j, e, p⟩ k => by
  subst e
  cases r with
  | cons r1 rr =>
    cases rr with
    | cons r2 rr =>
      cases rr
      exact ⟨i, j, by rw [inv_int r1, inv_int r2], k _ _ M H cs (Same.refl _) o (rv_dat (.int _)) p⟩
theorem de_max2 {p : Pos} {a b : Expr} (hc : X.calm = true) (hm : X.mg "max" = none) (ha : DA X [a, b] wr) (hg : Gl X "max" := by rfl) (he : starEach [a, b] X.env = (false, eval a X.env) :: starEach [b] X.env := by rfl) (hpl : (backTo pos (starEach [b] X.env)).any (·.1) = false := by rfl) :
    DE X (.Call (.Name "max" p) [a, b] [] pos) (wFn wMax2 wr) := de_callB (call_max2 hc) rn_II hm (by decide +kernel) ha hg (by decide) (by decide) he hpl
theorem de_min2 {p : Pos} {a b : Expr} (hc : X.calm = true) (hm : X.mg "min" = none) (ha : DA X [a, b] wr) (hg : Gl X "min" := by rfl) (he : starEach [a, b] X.env = (false, eval a X.env) :: starEach [b] X.env := by rfl) (hpl : (backTo pos (starEach [b] X.env)).any (·.1) = false := by rfl) :
    DE X (.Call (.Name "min" p) [a, b] [] pos) (wFn wMin2 wr) := de_callB (call_min2 hc) rn_II hm (by decide +kernel) ha hg (by decide) (by decide) he hpl
/-- tuple(x) -/
def wTuple : WN := fun xs cs P => ∃ x b ys ds, xs = [x] ∧ seqD cs x = some (b, ys) ∧ allDat ys = some ds ∧ P (.dat (.tup ds)) cs
theorem rn_tuple {K : Frag} : RNOk K (fun xs H Q => ∃ p ys, xs = [.ref p] ∧ ((SqL K H p ys ∧ ∀ l, H l = none → Q (.ref l) (upd H l (.tup ys))) ∨ (SqT K H p ys ∧ Q (.ref p) H))) wTuple := fun M H cs xs as P Q o r ⟨x, b, ys, ds, e, h, hd, p⟩ k => by
  subst e
  cases r with
  | cons r1 rr =>
    cases rr
    have hy := allDat_eq hd
    subst hy
    cases b with
    | true =>
      obtain ⟨ad, vs, e, q, pr⟩ := seqD_list o r1 h
      subst e
      exact ⟨ad, vs, rfl, .inl ⟨q, newT_ok o pr p k⟩⟩
    | false =>
      obtain ⟨ad, vs, e, q, pr⟩ := seqD_tup o r1 h
      subst e
      refine ⟨ad, vs, rfl, .inr ⟨q, ?_⟩⟩
      have hx : x = .dat (.tup ds) := by
        match x, h with
        | .dat (.tup es), h =>
          have h' : es.map Vl.dat = ds.map Vl.dat := by
            have := (Option.some.inj h)
            exact (Prod.mk.inj this).2
          have : es = ds := by
            have z := allDat_map es
            rw [h', allDat_map] at z
            exact (Option.some.inj z).symm
          rw [this]
        | .dat (.lst es), h => exact nomatch (show some (true, _) = some (false, _) from h)
        | .raw (.ref a), h =>
          have h : coSeq (cs a) = some (false, ds.map Vl.dat) := h
          cases q : cs a with
          | none => rw [q] at h; cases h
          | some c => rw [q] at h; cases c <;> cases h
      subst hx
      exact k _ _ M H cs (Same.refl _) o r1 p
theorem de_tuple {p : Pos} (hm : X.mg "tuple" = none) (ha : DA X [e] wr) (hg : Gl X "tuple" := by rfl) (he : starEach [e] X.env = (false, eval e X.env) :: starEach [] X.env := by rfl) (hpl : (backTo pos (starEach [] X.env)).any (·.1) = false := by rfl) :
    DE X (.Call (.Name "tuple" p) [e] [] pos) (wFn wTuple wr) := de_callTy call_tuple_of rn_tuple hm (by decide +kernel) ha hg (by decide) (by decide) he hpl
/-- list(x) -/
def wListOf : WN := fun xs cs P => ∃ x b ys, xs = [x] ∧ seqD cs x = some (b, ys) ∧ newL ys cs P
theorem rn_list {K : Frag} : RNOk K (fun xs H Q => ∃ p ys, xs = [.ref p] ∧ (SqL K H p ys ∨ SqT K H p ys) ∧ ∀ l, H l = none → Q (.ref l) (upd H l (.lst ys))) wListOf := fun M H cs xs as P Q o r ⟨x, b, ys, e, h, p⟩ k => by
  subst e
  cases r with
  | cons r1 rr =>
    cases rr
    obtain ⟨ad, vs, e, q, pr⟩ := seqD_any o r1 h
    subst e
    exact ⟨ad, vs, rfl, q, newL_ok o pr p k⟩
theorem de_list {p : Pos} (hm : X.mg "list" = none) (ha : DA X [e] wr) (hg : Gl X "list" := by rfl) (he : starEach [e] X.env = (false, eval e X.env) :: starEach [] X.env := by rfl) (hpl : (backTo pos (starEach [] X.env)).any (·.1) = false := by rfl) :
    DE X (.Call (.Name "list" p) [e] [] pos) (wFn wListOf wr) := de_callTy call_list_of rn_list hm (by decide +kernel) ha hg (by decide) (by decide) he hpl
end
end DL
set_option maxRecDepth 100000
set_option maxHeartbeats 4000000
namespace DL
open PySem L2
/-! ### statements -/
def wNext : WS := fun D ρ cs => D.nx ρ cs
def wSeq (w u : WS) : WS := fun D ρ cs => w { D with nx := u D } ρ cs
def wRet (we : WE) : WS := fun D ρ cs => we ρ cs D.rt
def wRetN : WS := fun D _ cs => D.rt (.dat .non) cs
def wDrop (we : WE) : WS := fun D ρ cs => we ρ cs fun _ cs1 => D.nx ρ cs1
def wIfS (c : WT) (w u : WS) : WS := fun D ρ cs => c ρ cs fun b cs1 => if b = true then w D ρ cs1 else u D ρ cs1
def wBrk : WS := fun D ρ cs => D.bk ρ cs
def wCont : WS := fun D ρ cs => D.ct ρ cs
def wNever : WS := fun _ _ _ => False
abbrev WG := Vl → DEnv → Cells → (DEnv → Cells → Prop) → Prop
abbrev WGs := List Vl → DEnv → Cells → (DEnv → Cells → Prop) → Prop
/-- js: the slots that a target may set -/
def KontG (K : Frag) (M : Hp) (js : List Nat) (σ : St) (P : DEnv → Cells → Prop) (Q : St → Hp → Prop) : Prop :=
  ∀ σ' ρ' M' H' cs', Same M M' → Ok K M' H' cs' → Rho K M' σ' ρ' → σ'.length = σ.length → (∀ i, i ∉ js → σ'[i]? = σ[i]?) → P ρ' cs' → Q σ' H'
def liftG (K : Frag) (js : List Nat) (g : WG) : TG := fun v σ H Q => ∃ M ρ cs x P, Ok K M H cs ∧ Rho K M σ ρ ∧ RV K M v x ∧ g x ρ cs P ∧ KontG K M js σ P Q
def liftGs (K : Frag) (js : List Nat) (g : WGs) : TGs := fun vs σ H Q => ∃ M ρ cs xs P, Ok K M H cs ∧ Rho K M σ ρ ∧ Paired (RV K M) vs xs ∧ g xs ρ cs P ∧ KontG K M js σ P Q
def DG (X : Cx) (js : List Nat) (tg : Expr) (g : WG) : Prop := PG X tg (liftG X.K js g)
def DGs (X : Cx) (js : List Nat) (tg : List Expr) (g : WGs) : Prop := PGs X tg (liftGs X.K js g)
def gN (i : Nat) : WG := fun x ρ cs P => P (ρ.set i (some x)) cs
def gNil : WGs := fun xs ρ cs P => xs = [] ∧ P ρ cs
def gCons (g : WG) (gs : WGs) : WGs := fun xs ρ cs P => ∃ x r, xs = x :: r ∧ g x ρ cs fun ρ1 cs1 => gs r ρ1 cs1 P
def gT (n : Nat) (gs : WGs) : WG := fun x ρ cs P => ∃ xs, seqD cs x = some (false, xs) ∧ xs.length = n ∧ gs xs ρ cs P
/-- xs[i] = v, a cell's list -/
def gIx (wo wi : WE) : WG := fun v ρ cs P => wo ρ cs fun o cs1 => wi ρ cs1 fun i cs2 => ∃ a xs k j, o = .cell a ∧ i = .dat (.int k) ∧ cs2 a = some (.lst xs) ∧ ixN xs.length k = some j ∧ P ρ (cs2.put a (.lst (xs.set j v)))
def wAsg (we : WE) (g : WG) : WS := fun D ρ cs => we ρ cs fun x cs1 => g x ρ cs1 D.nx
def wAug (i : Nat) (we : WE) (f : Int → Int → Int) : WS := fun D ρ cs => ∃ a, ρ[i]? = some (some (.dat (.int a))) ∧ we ρ cs fun y cs1 => ∃ b, y = .dat (.int b) ∧ D.nx (ρ.set i (some (.dat (.int (f a b))))) cs1
def wPar (i j : Nat) (wa : WA) : WS := fun D ρ cs => wa ρ cs fun xs cs1 => ∃ x y, xs = [x, y] ∧ D.nx ((ρ.set i (some x)).set j (some y)) cs1
theorem pg_imp {X : Cx} {e : Expr} {t t' : TG} (h : PG X e t) (m : ∀ v σ H Q, t' v σ H Q → t v σ H Q) : PG X e t' := ⟨fun pins s σ H v u Q I r q => h.run pins s σ H v u Q I r (m v σ H Q q)⟩
theorem pgs_imp {X : Cx} {e : List Expr} {t t' : TGs} (h : PGs X e t) (m : ∀ v σ H Q, t' v σ H Q → t v σ H Q) : PGs X e t' := ⟨fun pins s σ H v u Q I r q => h.run pins s σ H v u Q I r (m v σ H Q q)⟩
theorem pi_imp {X : Cx} {tg e : Expr} {t t' : TI} (h : PI X tg e t) (m : ∀ σ H R, t' σ H R → t σ H R) : PI X tg e t' := ⟨fun pins s σ H R I q => h.run pins s σ H R I (m σ H R q)⟩
theorem pi_or {X : Cx} {tg e : Expr} {t t' : TI} (h : PI X tg e t) (h' : PI X tg e t') : PI X tg e (fun σ H R => t σ H R ∨ t' σ H R) := ⟨fun pins s σ H R I q => by
  rcases q with q | q
  · exact h.run pins s σ H R I q
  · exact h'.run pins s σ H R I q⟩
section
variable {X : Cx} {a b c e : Expr} {es : List Expr} {wa wb wc we : WE} {w u : WT} {wr : WA} {pos : Pos} {st : Stmt} {sts : List Stmt} {ws wt : WS}
theorem dss_nil : DSs X [] wNext := pss_imp pss_nil fun E σ H ⟨M, ρ, cs, D, o, r, h, e⟩ => e.nx σ ρ M H cs (Same.refl _) o r h
theorem dss_cons (h1 : DS X st ws) (h2 : DSs X sts wt) : DSs X (st :: sts) (wSeq ws wt) :=
  pss_imp (pss_cons h1 h2) fun E σ H ⟨M, ρ, cs, D, o, r, h, e⟩ => ⟨M, ρ, cs, _, o, r, h, ⟨fun σ' ρ' M' H' cs' s o' r' p => ⟨M', ρ', cs', D, o', r', p, e.mono s⟩, e.rt, e.bk, e.ct⟩⟩
theorem dss_one (h1 : DS X st ws) : DSs X [st] ws := pss_one h1
theorem ds_pass : DS X (.Pass pos) wNext := ps_imp ps_pass fun E σ H ⟨M, ρ, cs, D, o, r, h, e⟩ => e.nx σ ρ M H cs (Same.refl _) o r h
theorem ds_brk : DS X (.Break pos) wBrk := ps_imp ps_break fun E σ H ⟨M, ρ, cs, D, o, r, h, e⟩ => e.bk σ ρ M H cs (Same.refl _) o r h
theorem ds_cont : DS X (.Continue pos) wCont := ps_imp ps_continue fun E σ H ⟨M, ρ, cs, D, o, r, h, e⟩ => e.ct σ ρ M H cs (Same.refl _) o r h
theorem ds_never : DS X st wNever := ps_imp ps_never fun E σ H ⟨M, ρ, cs, D, o, r, h, e⟩ => h
theorem dss_never : DSs X sts wNever := pss_imp pss_never fun E σ H ⟨M, ρ, cs, D, o, r, h, e⟩ => h
theorem ds_ret (h : DE X e we) : DS X (.Return (some e) pos) (wRet we) := ps_imp (ps_ret h) fun E σ H ⟨M, ρ, cs, D, o, r, h, e⟩ => ⟨M, ρ, cs, _, o, r, h, e.rt⟩
theorem ds_retN : DS X (.Return none pos) wRetN := ps_imp ps_retN fun E σ H ⟨M, ρ, cs, D, o, r, h, e⟩ => e.rt _ _ M H cs (Same.refl _) o (rv_dat .non) h
theorem ds_expr (h : DE X e we) (hs : swapsWith e none pos.line X.env = pure false := by rfl) : DS X (.Expr e pos) (wDrop we) :=
  ps_imp (ps_expr h hs) fun E σ H ⟨M, ρ, cs, D, o, r, h, e⟩ => ⟨M, ρ, cs, _, o, r, h, fun v x M' H' cs' s o' _ p => e.nx σ ρ M' H' cs' s o' (r.mono s) p⟩
theorem ds_if {sa sb : List Stmt} (hc : DT X c w) (ha : DSs X sa ws) (hb : DSs X sb wt) : DS X (.If c sa sb pos) (wIfS w ws wt) :=
  ps_imp (ps_if hc ha hb) fun E σ H ⟨M, ρ, cs, D, o, r, h, e⟩ => ⟨M, ρ, cs, _, o, r, h, fun b M' H' cs' s o' p => by
    cases b with
    | true => exact iteT ⟨M', ρ, cs', D, o', r.mono s, by simpa using p, e.mono s⟩
    | false => exact iteF ⟨M', ρ, cs', D, o', r.mono s, by simpa using p, e.mono s⟩⟩
theorem dg_name {i : Nat} {x : Str} (hN : X.N.Nodup) (hi : X.N[i]? = some x := by rfl) (hx : Loc X.env.scope x := by first | exact Or.inl rfl | exact Or.inr rfl) (hf : X.fn x = true ∨ X.env.scope.names.lookup x = some .local := by first | exact .inl rfl | exact .inr rfl | assumption) : DG X [i] (.Name x pos) (gN i) :=
  pg_imp (pg_name hN hi hx hf) fun v σ H Q ⟨M, ρ, cs, x, P, o, r, rv, p, k⟩ => k _ _ M H cs (Same.refl _) o (r.set rv) (by rw [List.length_set]) (fun j hj => by rw [List.getElem?_set_ne (by intro z; exact hj (by simp [z]))]) p
theorem dgs_nil : DGs X [] [] gNil := pgs_imp pgs_nil fun v σ H Q ⟨M, ρ, cs, xs, P, o, r, rv, ⟨e, p⟩, k⟩ => by
  subst e
  cases rv
  exact ⟨rfl, k _ _ M H cs (Same.refl _) o r rfl (fun _ _ => rfl) p⟩
theorem dgs_cons {js js' : List Nat} {g : WG} {gs : WGs} (h1 : DG X js e g) (h2 : DGs X js' es gs) (hs : (assignEach (e :: es) X.env).map (·.2) = assign e X.env :: (assignEach es X.env).map (·.2) := by rfl) : DGs X (js ++ js') (e :: es) (gCons g gs) :=
  pgs_imp (pgs_cons h1 h2 hs) fun vs σ H Q ⟨M, ρ, cs, xs, P, o, r, rv, ⟨x, rest, ex, p⟩, k⟩ => by
    subst ex
    cases rv with
    | cons r1 rr =>
      refine ⟨_, _, rfl, M, ρ, cs, x, _, o, r, r1, p, fun σ' ρ' M' H' cs' s o' r' hl hj p' => ?_⟩
      refine ⟨M', ρ', cs', rest, _, o', r', paired_mono (fun _ _ q => q.mono s) rr, p', fun σ2 ρ2 M2 H2 cs2 s2 o2 r2 hl2 hj2 p2 => ?_⟩
      exact k σ2 ρ2 M2 H2 cs2 (s.trans s2) o2 r2 (hl2.trans hl) (fun i hi => by rw [hj2 i (fun z => hi (List.mem_append.mpr (.inr z))), hj i (fun z => hi (List.mem_append.mpr (.inl z)))]) p2
theorem dg_tup {js : List Nat} {gs : WGs} {n k : Nat} (hc : X.calm = true) (h : DGs X js es gs) (hn : (assignEach es X.env).length = n := by rfl) (hst : (assignEach es X.env).findIdx? (·.1) = none := by rfl) : DG X js (.Tuple es k pos) (gT n gs) :=
  pg_imp (pg_tup hc h hn hst) fun v σ H Q ⟨M, ρ, cs, x, P, o, r, rv, ⟨xs, hx, hl, p⟩, k⟩ => by
    obtain ⟨ad, vs, ev, q, pr⟩ := seqD_tup o rv hx
    exact ⟨ad, vs, ev, q, (Paired.len pr).trans hl, M, ρ, cs, xs, P, o, r, pr, p, k⟩
theorem paired_set {K : Frag} {M : Hp} {vs : List V} {xs : List Vl} {j : Nat} {v : V} {x : Vl} (h : Paired (RV K M) vs xs) (r : RV K M v x) : Paired (RV K M) (vs.set j v) (xs.set j x) := Paired.set h r
theorem dg_ix (ho : DE X a wa) (hi : DE X b wb)
    (ha : ∀ v, assign (.Subscript a b pos) X.env v = (do
      let ov ← holding [v] (eval a X.env)
      let iv ← holding [v, ov] (eval b X.env)
      standAt pos
      holding [v, ov, iv] (setItem ov iv v)
      release [v, ov, iv] []) := by intros; rfl) : DG X [] (.Subscript a b pos) (gIx wa wb) :=
  pg_imp (pg_sub ho hi set_list ha) fun v σ H Q ⟨M, ρ, cs, x, P, o, r, rv, p, k⟩ => by
    refine ⟨M, ρ, cs, _, o, r, p, fun v1 x1 M1 H1 cs1 s1 o1 r1 p1 => ?_⟩
    refine ⟨M1, ρ, cs1, _, o1, r.mono s1, p1, fun v2 x2 M2 H2 cs2 s2 o2 r2 ⟨ad, xs, kk, j, e1, e2, hc, hj, p2⟩ => ?_⟩
    subst e1 e2
    obtain ⟨m0, ob, hob, cr⟩ := o2.cell ad _ hc
    cases ob <;> try exact (show False from cr).elim
    rename_i ys
    have cr : Paired (RV X.K M2) ys xs := cr
    have e1 : v1 = .ref ad := r1
    refine ⟨ad, ys, kk, j, e1, inv_int r2, hob, by rw [Paired.len cr]; exact hj, ?_⟩
    exact k σ ρ M2 _ _ (s1.trans s2) (o2.setC hc (c := .lst (xs.set j x)) (paired_set cr (rv.mono (s1.trans s2)))) (r.mono (s1.trans s2)) rfl (fun _ _ => rfl) p2
theorem ds_asg {js : List Nat} {tg : Expr} {g : WG} (he : DE X e we) (hg : DG X js tg g) (hs : swapsWithSole [tg] e pos.line X.env = pure false := by rfl) (hw : swappedStores [tg] e X.env = pure none := by rfl)
    (h1 : (assignEach [tg] X.env).map (·.2) = [assign tg X.env] := by rfl) : DS X (.Assign [tg] e pos) (wAsg we g) :=
  ps_imp (ps_asg he hg hs hw h1) fun E σ H ⟨M, ρ, cs, D, o, r, h, e⟩ => ⟨M, ρ, cs, _, o, r, h, fun v x M' H' cs' s o' rv p =>
    ⟨M', ρ, cs', x, _, o', r.mono s, rv, p, fun σ2 ρ2 M2 H2 cs2 s2 o2 r2 _ _ p2 => e.nx σ2 ρ2 M2 H2 cs2 (s.trans s2) o2 r2 p2⟩⟩
theorem ds_set {i : Nat} {x : Str} {pos' : Pos} (hN : X.N.Nodup) (he : DE X e we) (hi : X.N[i]? = some x := by rfl) (hx : Loc X.env.scope x := by first | exact Or.inl rfl | exact Or.inr rfl) (hs : swapsWith e (some (.Name x pos')) pos.line X.env = pure false := by rfl) (hf : X.fn x = true ∨ X.env.scope.names.lookup x = some .local := by first | exact .inl rfl | exact .inr rfl | assumption) :
    DS X (.Assign [.Name x pos'] e pos) (wAsg we (gN i)) :=
  ps_imp (ps_set hN hi hx he hs hf) fun E σ H ⟨M, ρ, cs, D, o, r, h, e⟩ => ⟨M, ρ, cs, _, o, r, h, fun v x M' H' cs' s o' rv p => e.nx _ _ M' H' cs' s o' ((r.mono s).set rv) p⟩
theorem ds_aug {i : Nat} {x : Str} {pos' : Pos} {op : Operator} {f : Int → Int → Int} (hN : X.N.Nodup) (he : DE X e we) (ho : PIp X op (ipI f)) (hi : X.N[i]? = some x := by rfl) (hx : Loc X.env.scope x := by first | exact Or.inl rfl | exact Or.inr rfl) (hf : X.fn x = true ∨ X.env.scope.names.lookup x = some .local := by first | exact .inl rfl | exact .inr rfl | assumption) :
    DS X (.AugAssign (.Name x pos') op e pos) (wAug i we f) :=
  ps_imp (ps_aug hN hi hx he ho hf) fun E σ H ⟨M, ρ, cs, D, o, r, ⟨n, hn, h⟩, e⟩ => by
    obtain ⟨v, hv, rv⟩ := r.at_ i _ hn
    rw [inv_int rv] at hv
    refine ⟨_, hv, M, ρ, cs, _, o, r, h, fun y yy M' H' cs' s o' ry ⟨m, em, p⟩ => ?_⟩
    subst em
    exact ⟨n, m, rfl, inv_int ry, e.nx _ _ M' H' cs' s o' ((r.mono s).set (rv_dat (.int _))) p⟩
theorem ds_par {i j : Nat} {x y : Str} {px py pt pt2 : Pos} {kt k2 : Nat} (hc : X.calm = true) (hN : X.N.Nodup) (ha : DA X [a, b] wr) (hi : X.N[i]? = some x := by rfl) (hj : X.N[j]? = some y := by rfl) (hij : i ≠ j := by decide)
    (hx : X.env.scope.names.lookup x = some .local := by rfl) (hy : X.env.scope.names.lookup y = some .local := by rfl)
    (hw : swappedStores [.Tuple [.Name x px, .Name y py] kt pt] (.Tuple [a, b] k2 pt2) X.env = pure (some [x, y]) := by rfl)
    (hs : swapsWithSole [.Tuple [.Name x px, .Name y py] kt pt] (.Tuple [a, b] k2 pt2) pos.line X.env = pure false := by rfl) :
    DS X (.Assign [.Tuple [.Name x px, .Name y py] kt pt] (.Tuple [a, b] k2 pt2) pos) (wPar i j wr) :=
  ps_imp (ps_par hc hN hi hj hij hx hy ha hw hs) fun E σ H ⟨M, ρ, cs, D, o, r, h, e⟩ => ⟨M, ρ, cs, _, o, r, h, fun vs xs M' H' cs' s o' rv ⟨x1, y1, ex, p⟩ => by
    subst ex
    cases rv with
    | cons r1 rr =>
      cases rr with
      | cons r2 rr =>
        cases rr
        exact ⟨_, _, rfl, e.nx _ _ M' H' cs' s o' (((r.mono s).set r1).set r2) p⟩⟩
end
/-! ### what is walked -/
structure ItOk (K : Frag) (M0 : Hp) (J : It) (items : List Vl) (G : Cells → Prop) : Prop where
  go : ∀ i M H cs, Same M0 M → Ok K M H cs → G cs → i < items.length → J.go i H
  stop : ∀ M H cs, Same M0 M → Ok K M H cs → G cs → J.stop items.length H
  yld : ∀ i M H cs v H', Same M0 M → Ok K M H cs → G cs → J.yld i H v H' → i < items.length → ∃ M' x, items[i]? = some x ∧ Same M M' ∧ Ok K M' H' cs ∧ RV K M' v x
abbrev WI := DEnv → Cells → (List Vl → (Cells → Prop) → Cells → Prop) → Prop
def liftI (K : Frag) (wi : WI) : TI := fun σ H R => ∃ M ρ cs P, Ok K M H cs ∧ Rho K M σ ρ ∧ wi ρ cs P ∧ ∀ J items G M' H' cs', Same M M' → Ok K M' H' cs' → ItOk K M' J items G → P items G cs' → R J H'
def DI (X : Cx) (tg e : Expr) (wi : WI) : Prop := PI X tg e (liftI X.K wi)
def wFor (wi : WI) (g : WG) (wb : WS) : WS := fun D ρ cs => wi ρ cs fun items G cs1 => ∃ Inv : Nat → DEnv → Cells → Prop, Inv 0 ρ cs1 ∧ (∀ i ρ' cs', i ≤ items.length → Inv i ρ' cs' → G cs') ∧
  (∀ i x ρ' cs', items[i]? = some x → Inv i ρ' cs' → g x ρ' cs' fun ρ2 cs2 => wb { D with nx := Inv (i + 1), ct := Inv (i + 1), bk := D.nx } ρ2 cs2) ∧ ∀ ρ' cs', Inv items.length ρ' cs' → D.nx ρ' cs'
theorem ds_for {X : Cx} {tg iter : Expr} {body : List Stmt} {pos : Pos} {js : List Nat} {wi : WI} {g : WG} {wb : WS} (hi : DI X tg iter wi) (hg : DG X js tg g) (hb : DSs X body wb) (hc : X.calm = true := by rfl) (hp : PassesOwn (model X.prog X.w) X.A X.env X.xe := by exact PassesOwn.never)
    (hs : ∀ x, foldedSetIterable iter X.env x = pure x := by intro _; rfl) : DS X (.For tg iter body [] pos) (wFor wi g wb) :=
  ps_imp (ps_for hp hc hi hg hb hs) fun E σ H ⟨M, ρ, cs, D, o, r, h, e⟩ => by
    refine ⟨M, ρ, cs, _, o, r, h, fun J items G M1 H1 cs1 s1 o1 it ⟨Iv, i0, iG, turn, fin⟩ => ?_⟩
    refine ⟨fun i m σ' H' => m = items.length - i ∧ i ≤ items.length ∧ ∃ M' ρ' cs', Same M1 M' ∧ Ok X.K M' H' cs' ∧ Rho X.K M' σ' ρ' ∧ Iv i ρ' cs', ⟨items.length, by simp, Nat.zero_le _, M1, ρ, cs1, Same.refl _, o1, r.mono s1, i0⟩, ?_⟩
    rintro i m σ' H' ⟨rfl, hi, M', ρ', cs', s', o', r', inv⟩
    have g' := iG i ρ' cs' hi inv
    by_cases hlt : i < items.length
    · refine .inr ⟨it.go i M' H' cs' s' o' g' hlt, fun σ2 H2 => i + 1 ≤ items.length ∧ ∃ M2 ρ2 cs2, Same M1 M2 ∧ Ok X.K M2 H2 cs2 ∧ Rho X.K M2 σ2 ρ2 ∧ Iv (i + 1) ρ2 cs2, fun σ2 H2 q => ⟨_, by omega, rfl, q.1, q.2⟩, fun v H2 y => ?_⟩
      obtain ⟨M2, x, ex, s2, o2, rv⟩ := it.yld i M' H' cs' v H2 s' o' g' y hlt
      refine ⟨M2, ρ', cs', x, _, o2, r'.mono s2, rv, turn i x ρ' cs' ex inv, fun σ3 ρ3 M3 H3 cs3 s3 o3 r3 _ _ p3 => ?_⟩
      refine ⟨M3, ρ3, cs3, _, o3, r3, p3, ⟨fun σ4 ρ4 M4 H4 cs4 s4 o4 r4 p4 => ?_, e.rt.mono (s1.trans (s'.trans (s2.trans s3))), ?_, fun σ4 ρ4 M4 H4 cs4 s4 o4 r4 p4 => ?_⟩⟩
      · exact ⟨hlt, M4, ρ4, cs4, s'.trans (s2.trans (s3.trans s4)), o4, r4, p4⟩
      · exact e.nx.mono (s1.trans (s'.trans (s2.trans s3)))
      · exact ⟨hlt, M4, ρ4, cs4, s'.trans (s2.trans (s3.trans s4)), o4, r4, p4⟩
    · have ei : i = items.length := by omega
      subst ei
      exact .inl ⟨it.stop M' H' cs' s' o' g', e.nx σ' ρ' M' H' cs' (s1.trans s') o' r' (fin ρ' cs' inv)⟩
/-- a list or a tuple -/
def iSeq (K : Frag) (tl : TE) : TI := fun σ H R => tl σ H fun x H1 => (∃ a, x = .ref a ∧ (∃ xs, SqL K H1 a xs) ∧ R (Itl K a) H1) ∨ ∃ a, x = .ref a ∧ (∃ xs, SqT K H1 a xs) ∧ R (Itt K a) H1
theorem pi_seq {X : Cx} {tg l : Expr} {tl : TE} (hl : PE X l tl) : PI X tg l (iSeq X.K tl) := by
  refine ⟨fun pins s σ H R I h => ?_⟩
  refine thn (hl.run pins s σ H _ I h) fun v s1 ⟨x, H1, I1, r1, q1⟩ => ?_
  rcases q1 with ⟨a, e, ⟨xs, hq⟩, q⟩ | ⟨a, e, ⟨xs, hq⟩, q⟩
  · subst e
    cases r1
    obtain ⟨its, rv, p, hz⟩ := I1.list hq
    refine wpAny_pyIter_list p.isList ?_
    refine ⟨s1.heap.objs.size, [s1.heap.objs.size], _, _, H1, rfl, I1.kept (t' := s1.toks) fun b o e => Heap.get?_push_of_some _ e, turn_list a _, ⟨_, Heap.get?_push_size _ rfl, rfl, rfl⟩, fun b hb => ?_, q⟩
    have e : b = s1.heap.objs.size := by simpa using hb
    subst e
    exact I1.fpOk (Nat.le_refl _) (I1.hok.fresh (Nat.le_refl _))
  · subst e
    cases r1
    obtain ⟨its, rv, p, hz⟩ := I1.tuple hq
    refine wpAny_pyIter_tuple (show s1.heap.IsTuple a its.toArray from p) ?_
    refine ⟨s1.heap.objs.size, [s1.heap.objs.size], _, _, H1, rfl, I1.kept (t' := s1.toks) fun b o e => Heap.get?_push_of_some _ e, turn_tuple a _, ⟨_, Heap.get?_push_size _ rfl, rfl, rfl⟩, fun b hb => ?_, q⟩
    have e : b = s1.heap.objs.size := by simpa using hb
    subst e
    exact I1.fpOk (Nat.le_refl _) (I1.hok.fresh (Nat.le_refl _))
def wiSeq (we : WE) : WI := fun ρ cs P => we ρ cs fun x cs1 => ∃ b xs, seqD cs1 x = some (b, xs) ∧ P xs (fun cs' => seqD cs' x = some (b, xs)) cs1
section
variable {K : Frag} {M0 : Hp} {x : Vl} {xs : List Vl} {a : Addr}
theorem it_list (r : RV K M0 (.ref a) x) : ItOk K M0 (Itl K a) xs (fun cs' => seqD cs' x = some (true, xs)) := by
  refine ⟨fun i M2 H2 cs2 s2 o2 g2 hi => ?_, fun M2 H2 cs2 s2 o2 g2 => ?_, fun i M2 H2 cs2 v2 H3 s2 o2 g2 y hi => ?_⟩
  all_goals
    obtain ⟨a2, vs2, ea2, q2, pr2⟩ := seqD_list o2 (r.mono s2) g2
    cases ea2
  · have hl := Paired.len pr2
    exact ⟨vs2, vs2[i]'(by omega), q2, by simp [show i < vs2.length by omega]⟩
  · exact ⟨vs2, q2, by rw [Paired.len pr2]; exact Nat.le_refl _⟩
  · obtain ⟨e1, e2⟩ := y
    subst e1
    obtain ⟨x2, hx2, rx2⟩ := Paired.getL pr2 (e2 vs2 q2)
    exact ⟨M2, x2, hx2, Same.refl _, o2, rx2⟩
theorem it_tup (r : RV K M0 (.ref a) x) : ItOk K M0 (Itt K a) xs (fun cs' => seqD cs' x = some (false, xs)) := by
  refine ⟨fun i M2 H2 cs2 s2 o2 g2 hi => ?_, fun M2 H2 cs2 s2 o2 g2 => ?_, fun i M2 H2 cs2 v2 H3 s2 o2 g2 y hi => ?_⟩
  all_goals
    obtain ⟨a2, vs2, ea2, q2, pr2⟩ := seqD_tup o2 (r.mono s2) g2
    cases ea2
  · have hl := Paired.len pr2
    exact ⟨vs2, vs2[i]'(by omega), q2, by simp [show i < vs2.length by omega]⟩
  · exact ⟨vs2, q2, by rw [Paired.len pr2]; exact Nat.le_refl _⟩
  · obtain ⟨e1, e2⟩ := y
    subst e1
    obtain ⟨x2, hx2, rx2⟩ := Paired.getL pr2 (e2 vs2 q2)
    exact ⟨M2, x2, hx2, Same.refl _, o2, rx2⟩
end
theorem di_seq {X : Cx} {tg e : Expr} {we : WE} (h : DE X e we) : DI X tg e (wiSeq we) :=
  pi_imp (pi_seq h) fun σ H R ⟨M, ρ, cs, P, o, r, p, k⟩ => by
    refine ⟨M, ρ, cs, _, o, r, p, fun v x M1 H1 cs1 s1 o1 r1 ⟨b, xs, hx, p1⟩ => ?_⟩
    cases b with
    | true =>
      obtain ⟨a, vs, ea, q, pr⟩ := seqD_list o1 r1 hx
      subst ea
      exact .inl ⟨a, rfl, ⟨vs, q⟩, k _ xs _ M1 H1 cs1 s1 o1 (it_list r1) p1⟩
    | false =>
      obtain ⟨a, vs, ea, q, pr⟩ := seqD_tup o1 r1 hx
      subst ea
      exact .inr ⟨a, rfl, ⟨vs, q⟩, k _ xs _ M1 H1 cs1 s1 o1 (it_tup r1) p1⟩
/-! ### ranges -/
def rangeD (lo c : Int) (n : Nat) : List Vl := (List.range n).map fun (i : Nat) => .dat (.int (lo + (i : Int) * c))
theorem rangeD_len {lo c : Int} {n : Nat} : (rangeD lo c n).length = n := by simp [rangeD]
theorem rangeD_get {lo c : Int} {n i : Nat} (h : i < n) : (rangeD lo c n)[i]? = some (.dat (.int (lo + (i : Int) * c))) := by
  simp [rangeD, h]
theorem rangeD_at {lo c : Int} {n i : Nat} {x : Vl} (h : (rangeD lo c n)[i]? = some x) : i < n ∧ x = .dat (.int (lo + (i : Int) * c)) := by
  have hl := (List.getElem?_eq_some_iff.mp h).1
  rw [rangeD_len] at hl
  rw [rangeD_get hl] at h
  cases h
  exact ⟨hl, rfl⟩
theorem it_range {K : Frag} {M0 : Hp} {lo : Int} {n : Nat} : ItOk K M0 (Itr lo n) (rangeD lo 1 n) (fun _ => True) := by
  refine ⟨fun i M2 H2 cs2 s2 o2 g2 hi => ?_, fun M2 H2 cs2 s2 o2 g2 => ?_, fun i M2 H2 cs2 v2 H3 s2 o2 g2 y hi => ?_⟩
  · rw [rangeD_len] at hi; exact hi
  · rw [rangeD_len]; exact Nat.le_refl _
  · rw [rangeD_len] at hi
    obtain ⟨e1, e2⟩ := y
    subst e1 e2
    exact ⟨M2, _, rangeD_get hi, Same.refl _, o2, by rw [Int.mul_one]; exact rv_dat (.int _)⟩
theorem it_rangeC {K : Frag} {M0 : Hp} {lo c : Int} {n : Nat} : ItOk K M0 (Itc lo c n) (rangeD lo c n) (fun _ => True) := by
  refine ⟨fun i M2 H2 cs2 s2 o2 g2 hi => ?_, fun M2 H2 cs2 s2 o2 g2 => ?_, fun i M2 H2 cs2 v2 H3 s2 o2 g2 y hi => ?_⟩
  · rw [rangeD_len] at hi; exact hi
  · rw [rangeD_len]; exact Nat.le_refl _
  · rw [rangeD_len] at hi
    obtain ⟨e1, e2⟩ := y
    subst e1 e2
    exact ⟨M2, _, rangeD_get hi, Same.refl _, o2, rv_dat (.int _)⟩
def wiRng1 (wa : WA) : WI := fun ρ cs P => wa ρ cs fun xs cs1 => ∃ j : Int, xs = [.dat (.int j)] ∧ -(2 ^ 62) ≤ j ∧ j < 2 ^ 62 ∧ P (rangeD 0 1 j.toNat) (fun _ => True) cs1
def wiRng2 (wa : WA) : WI := fun ρ cs P => wa ρ cs fun xs cs1 => ∃ i j : Int, xs = [.dat (.int i), .dat (.int j)] ∧ (-(2 ^ 62) ≤ i ∧ i < 2 ^ 62 ∧ -(2 ^ 62) ≤ j ∧ j < 2 ^ 62) ∧ P (rangeD i 1 (j - i).toNat) (fun _ => True) cs1
def wiRng3 (wa : WA) : WI := fun ρ cs P => wa ρ cs fun xs cs1 => ∃ (i j c : Int) (n : Nat), xs = [.dat (.int i), .dat (.int j), .dat (.int c)] ∧ RgC i j c n ∧ P (rangeD i c n) (fun _ => True) cs1
section
variable {X : Cx} {tg a b c : Expr} {wa : WA} {p pos : Pos}
theorem di_range1 (hm : X.mg "range" = none) (ha : DA X [a] wa) (hg : Gl X "range" := by rfl) (hs : starEach [a] X.env = [(false, eval a X.env)] := by rfl) : DI X tg (.Call (.Name "range" p) [a] [] pos) (wiRng1 wa) :=
  pi_imp (pi_range1 hg hm ha hs) fun σ H R ⟨M, ρ, cs, P, o, r, p, k⟩ => ⟨M, ρ, cs, _, o, r, p, fun v x M1 H1 cs1 s1 o1 r1 ⟨j, ej, h1, h2, p1⟩ => by
    subst ej
    cases r1 with
    | cons r1 rr =>
      cases rr
      exact ⟨j, by rw [inv_int r1], h1, h2, k _ _ _ M1 H1 cs1 s1 o1 it_range p1⟩⟩
theorem di_range2 (hm : X.mg "range" = none) (ha : DA X [a, b] wa) (hg : Gl X "range" := by rfl) (hs : starEach [a, b] X.env = [(false, eval a X.env), (false, eval b X.env)] := by rfl) (hs2 : starEach [b] X.env = [(false, eval b X.env)] := by rfl) : DI X tg (.Call (.Name "range" p) [a, b] [] pos) (wiRng2 wa) :=
  pi_imp (pi_range2 hg hm ha hs hs2) fun σ H R ⟨M, ρ, cs, P, o, r, p, k⟩ => ⟨M, ρ, cs, _, o, r, p, fun v x M1 H1 cs1 s1 o1 r1 ⟨i, j, ej, h1, p1⟩ => by
    subst ej
    cases r1 with
    | cons r1 rr =>
      cases rr with
      | cons r2 rr =>
        cases rr
        exact ⟨i, j, by rw [inv_int r1, inv_int r2], h1, k _ _ _ M1 H1 cs1 s1 o1 it_range p1⟩⟩
theorem di_range3 (hm : X.mg "range" = none) (ha : DA X [a, b, c] wa) (hg : Gl X "range" := by rfl) (hs : starEach [a, b, c] X.env = (false, eval a X.env) :: starEach [b, c] X.env := by rfl) (hpl : (backTo pos (starEach [b, c] X.env)).any (·.1) = false := by rfl) : DI X tg (.Call (.Name "range" p) [a, b, c] [] pos) (wiRng3 wa) :=
  pi_imp (pi_range3 hg hm ha hs hpl) fun σ H R ⟨M, ρ, cs, P, o, r, p, k⟩ => ⟨M, ρ, cs, _, o, r, p, fun v x M1 H1 cs1 s1 o1 r1 ⟨i, j, cc, n, ej, h1, p1⟩ => by
    subst ej
    cases r1 with
    | cons r1 rr =>
      cases rr with
      | cons r2 rr =>
        cases rr with
        | cons r3 rr =>
          cases rr
          exact ⟨i, j, cc, n, by rw [inv_int r1, inv_int r2, inv_int r3], h1, k _ _ _ M1 H1 cs1 s1 o1 it_rangeC p1⟩⟩
end
end DL
set_option maxRecDepth 100000
set_option maxHeartbeats 4000000
namespace PySem
set_option maxHeartbeats 4000000 in
theorem dl_enum_newB {v : Value} {o : Obj} {H : Heap → Prop} (B : Begins v o H) :
    Meets (Builtin.«enumerate.__new__» ⟨[.type "enumerate", v], []⟩) (fun _ R s => H s.heap ∧
      R (.ok (.ret (.ref (s.heap.push o).objs.size))) { s with heap := (s.heap.push o).push { cls := .type "enumerate", data := .fields #[.none, .bool false, .ref s.heap.objs.size, rawInt 0, .none, .none] } }) :=
  .of_wp fun prog w A R s h => by
    obtain ⟨hp, g, d, tk, os⟩ := s; obtain ⟨h1, h⟩ := h
    have hsub := sub_enumerate
    have q1 : ∀ {A' : Around} {E : Value → Shared → Prop} {Q : Value → Shared → Prop}, Q (.ref hp.objs.size) ⟨hp.push o, g, d, tk, os⟩ → wpAny (model prog w) A' (pyIter v) Q E ⟨hp, g, d, tk, os⟩ :=
      fun q => B.iter prog w _ _ ⟨hp, g, d, tk, os⟩ _ h1 q
    wp_walk using q1
    refine wpAny_stack_any fun st => wpAny_pure ?_
    split
    · rename_i c _ _ _ _ _
      cases (c == Value.type "enumerate")
      · wp_walk using q1
        exact ⟨_, rfl, h⟩
      · wp_walk using q1
        exact ⟨_, rfl, h⟩
    · wp_walk using q1
      exact ⟨_, rfl, h⟩
theorem dl_enum_begins {prog : Program} {w : World} {A : Around} {E : Value → Shared → Prop} {s : Shared} {v : Value} {o : Obj} {H : Heap → Prop} {Q : Value → Shared → Prop} (B : Begins v o H) (h1 : H s.heap)
    (h : ∀ h', IsEnum h' (s.heap.objs.size + 1) s.heap.objs.size 0 .none → h'.get? s.heap.objs.size = some o → h'.objs.size = s.heap.objs.size + 2 →
      (∀ b o, s.heap.get? b = some o → h'.get? b = some o) → Q (.ref (s.heap.objs.size + 1)) { s with heap := h' }) :
    wpAny (model prog w) A (call (.type "enumerate") [v]) Q E s := by
  refine callType_new F.called_enumerate (by decide) (F.typeCall_enumerate_1 _) (F.newCall_enumerate_1 _) (fun obj => F.args_object_init_2 obj _) F.entry_enumerate_new
    (dl_enum_newB B) ⟨h1, ?_⟩
  have hz : (s.heap.push o).objs.size = s.heap.objs.size + 1 := Heap.size_push ..
  show _ ∧ _
  rw [hz]
  have he : IsEnum ((s.heap.push o).push { cls := .type "enumerate", data := .fields #[.none, .bool false, .ref s.heap.objs.size, rawInt 0, .none, .none] }) (s.heap.objs.size + 1) s.heap.objs.size 0 .none := by
    have := Heap.get?_push_size (s.heap.push o) (o := { cls := .type "enumerate", data := .fields #[.none, .bool false, .ref s.heap.objs.size, rawInt 0, .none, .none] }) rfl
    rw [hz] at this; exact this
  refine ⟨⟨_, he, rfl⟩, h _ he (Heap.get?_push_of_some _ (Heap.get?_push_size _ B.free)) (by rw [Heap.size_push, hz]) fun b o x => Heap.get?_push_of_some _ (Heap.get?_push_of_some _ x)⟩
end PySem
namespace DL
open PySem L2
/-- the tuple at a, each item in a new pair -/
def IteT (K : Frag) (a : Addr) : It :=
  ⟨fun i H => ∃ (xs : List V) (x : V), SqT K H a xs ∧ xs[i]? = some x, fun i H v H' => ∃ T x, v = .ref T ∧ H T = none ∧ H' = upd H T (.tup [.int (i : Nat), x]) ∧ ∀ xs, SqT K H a xs → xs[i]? = some x, fun i H => ∃ xs : List V, SqT K H a xs ∧ xs.length ≤ i⟩
theorem dl_tuple_inj {X : Cx} {pins : List (Addr × Obj)} {σ : St} {H : Hp} {s : Shared} (I : L2.Inv X pins σ H s) {a : Addr} {xs ys : List V} (h1 : SqT X.K H a xs) (h2 : SqT X.K H a ys) : xs = ys := by
  exact I.tuple_inj h1 h2
theorem turn_enumT {P : Program} {w : World} {K : Frag} {elts : List Expr} {kk : Nat} {tpos : Pos} (a e it : Addr) :
    Turn P w K (.Tuple elts kk tpos) (IteT K a) [e, it] e (fun i h => (∃ old, IsEnum h e it ((i : Nat) : Int) old) ∧ h.IsTupleIter it a i ∧ e ≠ it) where
  mem := by simp
  obj := fun i h st b hb => by
    obtain ⟨⟨old, he⟩, ⟨o, ho, hc, hd⟩, _⟩ := st
    have e' : b = e ∨ b = it := by simpa using hb
    rcases e' with z | z
    · rw [z]; exact ⟨_, he, fun v q => nomatch q⟩
    · rw [z]; exact ⟨o, ho, fun v q => by rw [hd] at q; cases q⟩
  keep := fun i h h' st k => let ⟨⟨old, he⟩, hi, hne⟩ := st; ⟨⟨old, k e (by simp) _ he⟩, hi.at fun o q => k it (by simp) o q, hne⟩
  item := by
    intro X hP hw hK hc i pins s σ H E I hf st hg
    subst hP hw hK
    obtain ⟨⟨old, he⟩, hit, hne⟩ := st
    obtain ⟨xs, x, hq, hx⟩ := hg
    obtain ⟨its, rv, p, hz⟩ := I.tuple hq
    obtain ⟨u, hu, ru⟩ := rv.get hx
    have p' : s.heap.IsTuple a its.toArray := p
    have hel : e < s.heap.objs.size := Heap.lt_size he
    have hil : it < s.heap.objs.size := by obtain ⟨_, q, _⟩ := hit; exact Heap.lt_size q
    have hai : a ≠ it := fun z => by
      obtain ⟨o1, q1, c1, _⟩ := p'
      obtain ⟨o2, q2, c2, _⟩ := hit
      rw [z, q2] at q1; cases q1; rw [c2] at c1; exact absurd (Value.type.inj c1) (by decide)
    have hae : e ≠ a := fun z => by
      obtain ⟨o1, q1, c1, _⟩ := p'
      have he' : s.heap.get? e = some _ := he
      rw [← z, he'] at q1; cases q1; exact absurd (Value.type.inj c1) (by decide)
    have hisz : i < its.toArray.size := by
      have := (List.getElem?_eq_some_iff.mp hu).1
      simpa using this
    have D := Draws.tuple (prog := X.prog) (w := X.w) (A := X.A.in1) (show X.A.in1.handled = none from I.ok.hd hc) it a hai its.toArray
    refine wpAny_pyNext_enum_itemD D he ⟨hit, p'⟩ hisz hne (by simp [hne, hae]) fun x' h' tk hP ho hst' hT hsz hk => ?_
    have hxu : x' = u := by
      have h1 : its.toArray[i]? = some x' := hP
      have h2 : its.toArray[i]? = some u := by simpa using hu
      rw [h1] at h2; exact Option.some.inj h2
    subst hxu
    refine ⟨_, rfl, wpAny_letOwnedTupleGo_enum (s := { s with heap := h', toks := tk + 1 }) ho fun h'' he' sb => ?_⟩
    have hT2 : h''.get? s.heap.objs.size = some { cls := .type "tuple", data := .seq #[.int i tk, x'] } := (sb.2 _ (Nat.ne_of_gt hel)).trans hT
    have new : ObjOk X.prog X.w (upd H s.heap.objs.size (.tup [.int (i : Nat), x])) h'' s.heap.objs.size (.tup [.int (i : Nat), x]) :=
      ⟨by show 2 ≤ sizeLine; decide, [.int i tk, x'], .cons ⟨_, rfl⟩ (.cons ru .nil), ⟨_, hT2, rfl, _, rfl⟩⟩
    have I1 : L2.Inv X pins σ (upd H s.heap.objs.size (.tup [.int (i : Nat), x])) { s with heap := h'', toks := tk + 1 } :=
      I.turnedNew (ch := [e, it]) (fun b ob hb q => (sb.2 b (fun z => hb (by simp [z]))).trans (hk b ob (fun z => hb (by simp [z])) (fun z => hb (by simp [z])) q)) hf (Nat.le_refl _) new
    refine ⟨.ref s.heap.objs.size, _, I1, rfl, ⟨_, x, rfl, I.hok.fresh (Nat.le_refl _), rfl, fun ys hy => by rw [dl_tuple_inj I hy hq]; exact hx⟩, ⟨⟨x', ?_⟩, hst'.1.at fun o q => (sb.2 it (Ne.symm hne)).trans q, hne⟩, fun b hb => ?_⟩
    · have e1 : ((i + 1 : Nat) : Int) = (i : Int) + 1 := by omega
      rw [e1]; exact he'
    · have hb' : b < s.heap.objs.size := by
        have e' : b = e ∨ b = it := by simpa using hb
        rcases e' with z | z
        · rw [z]; exact hel
        · rw [z]; exact hil
      rw [upd_ne (Nat.ne_of_lt hb')]
      exact (hf b hb).1
  done := by
    intro X hP hw hK hc i pins s σ H E I hf st hg
    subst hP hw hK
    obtain ⟨⟨old, he⟩, hit, hne⟩ := st
    obtain ⟨xs, hq, hx⟩ := hg
    obtain ⟨its, rv, p, hz⟩ := I.tuple hq
    have p' : s.heap.IsTuple a its.toArray := p
    have hai : a ≠ it := fun z => by
      obtain ⟨o1, q1, c1, _⟩ := p'
      obtain ⟨o2, q2, c2, _⟩ := hit
      rw [z, q2] at q1; cases q1; rw [c2] at c1; exact absurd (Value.type.inj c1) (by decide)
    obtain ⟨f0, f1, f2, f3, f4, f5⟩ := hf it (by simp)
    have hl := rv.length
    have D : Draws X.prog X.w X.A.in1 it [it, a] i (fun _ _ => False) (fun j h => j = i ∧ h.IsTupleIter it a j ∧ h.IsTuple a its.toArray) := {
      live := fun _ _ st => let ⟨o, ho, _⟩ := st.2.1; ⟨o, ho⟩
      frame := fun _ _ _ st hk => ⟨st.1, st.2.1.at fun o e => hk it (by simp) o e, st.2.2.at fun o e => hk a (by simp) o e⟩
      item := fun j s' Q E hj st hQ => absurd st.1 (by omega)
      done := fun s' Q E st hE => wpAny_nextOf_tuple_end (show X.A.in1.handled = none from I.ok.hd hc) st.2.1 st.2.2 (by simp; omega) hE }
    exact wpAny_pyNext_enum_endD D he ⟨rfl, hit, p'⟩ fun h' eb => ⟨rfl, I.turned (t' := s.toks) (fun b o hb q => eb b o hb q) f0 f1 f3 f4 f5⟩
  self := fun A i s Q E st h => let ⟨⟨_, he⟩, _⟩ := st; wpAny_pyIter_enum he h
def iEnumS (K : Frag) (ta : TA) : TI := fun σ H R => ta σ H fun vs H1 => ∃ a, vs = [.ref a] ∧ ((∃ xs, SqL K H1 a xs) ∧ R (Ite K a) H1 ∨ (∃ xs, SqT K H1 a xs) ∧ R (IteT K a) H1)
theorem pi_enumS {X : Cx} {e : Expr} {ta : TA} {p pos tpos : Pos} {elts : List Expr} {kk : Nat} (hg : Gl X "enumerate") (hm : X.mg "enumerate" = none) (ha : PA X [e] ta) (hs : starEach [e] X.env = [(false, eval e X.env)] := by rfl) :
    PI X (.Tuple elts kk tpos) (.Call (.Name "enumerate" p) [e] [] pos) (iEnumS X.K ta) := by
  refine ⟨fun pins s σ H R I h => ?_⟩
  refine PyProof.Rows.Call_ (ld_blt I hg hm PyProof.Rows.boot_enumerate (PyProof.Rows.callWith_type1 (thn (ha.run pos pins s σ H _ I h) fun us s1 ⟨vs, H1, I1, r1, q1⟩ => ?_) hs rfl))
  obtain ⟨a, ex, q⟩ := q1
  subst ex
  cases r1 with
  | cons r rr =>
    cases rr
    cases r
    rcases q with ⟨⟨xs, hq⟩, q⟩ | ⟨⟨xs, hq⟩, q⟩
    · obtain ⟨its, rv, p', hz⟩ := I1.list hq
      refine call_enumerate_list p'.isList fun h' he hit hsz hk => wpAny_pyIter_enum he ?_
      have I2 : L2.Inv X pins σ H1 { s1 with heap := h' } := I1.kept (t' := s1.toks) hk
      refine ⟨s1.heap.objs.size + 1, [s1.heap.objs.size + 1, s1.heap.objs.size], _, _, H1, rfl, I2, turn_enum a (s1.heap.objs.size + 1) s1.heap.objs.size, ⟨⟨.none, he⟩, hit, Nat.succ_ne_self _⟩, fun b hb => ?_, q⟩
      have e' : b = s1.heap.objs.size + 1 ∨ b = s1.heap.objs.size := by simpa using hb
      have hle : s1.heap.objs.size ≤ b := by
        rcases e' with z | z
        · rw [z]; exact Nat.le_add_right _ _
        · rw [z]; exact Nat.le_refl _
      exact I1.fpOk hle (I1.hok.fresh hle)
    · obtain ⟨its, rv, p', hz⟩ := I1.tuple hq
      refine dl_enum_begins (begins_tuple a its.toArray) p' fun h' he hit hsz hk => wpAny_pyIter_enum he ?_
      have I2 : L2.Inv X pins σ H1 { s1 with heap := h' } := I1.kept (t' := s1.toks) hk
      refine ⟨s1.heap.objs.size + 1, [s1.heap.objs.size + 1, s1.heap.objs.size], _, _, H1, rfl, I2, turn_enumT a (s1.heap.objs.size + 1) s1.heap.objs.size, ⟨⟨.none, he⟩, ⟨_, hit, rfl, rfl⟩, Nat.succ_ne_self _⟩, fun b hb => ?_, q⟩
      have e' : b = s1.heap.objs.size + 1 ∨ b = s1.heap.objs.size := by simpa using hb
      have hle : s1.heap.objs.size ≤ b := by
        rcases e' with z | z
        · rw [z]; exact Nat.le_add_right _ _
        · rw [z]; exact Nat.le_refl _
      exact I1.fpOk hle (I1.hok.fresh hle)
/-- the pairs of enumerate -/
def enumF (n : Nat) : List Dat → List Vl
  | [] => []
  | d :: ds => .dat (.tup [.int (n : Int), d]) :: enumF (n + 1) ds
theorem enumF_len : ∀ (ds : List Dat) (n : Nat), (enumF n ds).length = ds.length
  | [], _ => rfl
  | _ :: ds, n => congrArg Nat.succ (enumF_len ds (n + 1))
theorem enumF_get : ∀ (ds : List Dat) (n i : Nat) (d : Dat), ds[i]? = some d → (enumF n ds)[i]? = some (.dat (.tup [.int ((n + i : Nat) : Int), d]))
  | _ :: ds, n, 0, _, h => by cases h; rfl
  | _ :: ds, n, i + 1, d, h => by
    have := enumF_get ds (n + 1) i d h
    rw [show n + 1 + i = n + (i + 1) by omega] at this
    exact this
theorem enumF_at {ds : List Dat} {i : Nat} {x : Vl} (h : (enumF 0 ds)[i]? = some x) : ∃ d, ds[i]? = some d ∧ x = .dat (.tup [.int (i : Int), d]) := by
  have hl := (List.getElem?_eq_some_iff.mp h).1
  rw [enumF_len] at hl
  have hd : ds[i]? = some ds[i] := List.getElem?_eq_getElem hl
  refine ⟨_, hd, ?_⟩
  rw [enumF_get ds 0 i _ hd] at h
  cases h
  simp
def wiEnum (wa : WA) : WI := fun ρ cs P => wa ρ cs fun xs cs1 => ∃ x b ys ds, xs = [x] ∧ seqD cs1 x = some (b, ys) ∧ allDat ys = some ds ∧ P (enumF 0 ds) (fun cs' => seqD cs' x = some (b, ys)) cs1
section
variable {K : Frag} {M0 : Hp} {x : Vl} {a : Addr} {ds : List Dat}
theorem enum_yield {M H : Hp} {cs : Cells} {v : V} {d : Dat} {T : Addr} {i : Nat} (o : Ok K M H cs) (hT : H T = none) (r : Dr K M v d) :
    ∃ M', Same M M' ∧ Ok K M' (upd H T (.tup [.int (i : Nat), v])) cs ∧ RV K M' (.ref T) (.dat (.tup [.int (i : Int), d])) := by
  obtain ⟨s, o'⟩ := o.newM hT (.tup [.int (i : Nat), v])
  exact ⟨_, s, o', rv_dat (.tup (.inl (.inl upd_same)) (.cons (.int _) (.cons (r.mono s) .nil)))⟩
theorem it_enumL (r : RV K M0 (.ref a) x) : ItOk K M0 (Ite K a) (enumF 0 ds) (fun cs' => seqD cs' x = some (true, ds.map .dat)) := by
  refine ⟨fun i M2 H2 cs2 s2 o2 g2 hi => ?_, fun M2 H2 cs2 s2 o2 g2 => ?_, fun i M2 H2 cs2 v2 H3 s2 o2 g2 y hi => ?_⟩
  all_goals
    obtain ⟨a2, vs2, ea2, q2, pr2⟩ := seqD_list o2 (r.mono s2) g2
    cases ea2
    have hl := Paired.len pr2
    rw [List.length_map] at hl
    have da := DrAll.of_paired pr2
  · rw [enumF_len] at hi
    exact ⟨vs2, vs2[i]'(by omega), q2, by simp [show i < vs2.length by omega]⟩
  · exact ⟨vs2, q2, by rw [enumF_len, hl]; exact Nat.le_refl _⟩
  · obtain ⟨T, x1, e1, hT, e2, hx⟩ := y
    subst e1 e2
    obtain ⟨d, hd, rd⟩ := da.getV (hx vs2 q2)
    obtain ⟨M', s', o', r'⟩ := enum_yield (i := i) o2 hT rd
    exact ⟨M', _, by have := enumF_get ds 0 i d hd; rw [Nat.zero_add] at this; exact this, s', o', r'⟩
theorem it_enumT (r : RV K M0 (.ref a) x) : ItOk K M0 (IteT K a) (enumF 0 ds) (fun cs' => seqD cs' x = some (false, ds.map .dat)) := by
  refine ⟨fun i M2 H2 cs2 s2 o2 g2 hi => ?_, fun M2 H2 cs2 s2 o2 g2 => ?_, fun i M2 H2 cs2 v2 H3 s2 o2 g2 y hi => ?_⟩
  all_goals
    obtain ⟨a2, vs2, ea2, q2, pr2⟩ := seqD_tup o2 (r.mono s2) g2
    cases ea2
    have hl := Paired.len pr2
    rw [List.length_map] at hl
    have da := DrAll.of_paired pr2
  · rw [enumF_len] at hi
    exact ⟨vs2, vs2[i]'(by omega), q2, by simp [show i < vs2.length by omega]⟩
  · exact ⟨vs2, q2, by rw [enumF_len, hl]; exact Nat.le_refl _⟩
  · obtain ⟨T, x1, e1, hT, e2, hx⟩ := y
    subst e1 e2
    obtain ⟨d, hd, rd⟩ := da.getV (hx vs2 q2)
    obtain ⟨M', s', o', r'⟩ := enum_yield (i := i) o2 hT rd
    exact ⟨M', _, by have := enumF_get ds 0 i d hd; rw [Nat.zero_add] at this; exact this, s', o', r'⟩
end
theorem di_enum {X : Cx} {e : Expr} {wa : WA} {p pos tpos : Pos} {elts : List Expr} {kk : Nat} (hm : X.mg "enumerate" = none) (ha : DA X [e] wa) (hg : Gl X "enumerate" := by rfl) (hs : starEach [e] X.env = [(false, eval e X.env)] := by rfl) :
    DI X (.Tuple elts kk tpos) (.Call (.Name "enumerate" p) [e] [] pos) (wiEnum wa) :=
  pi_imp (pi_enumS hg hm ha hs) fun σ H R ⟨M, ρ, cs, P, o, r, p, k⟩ => by
    refine ⟨M, ρ, cs, _, o, r, p, fun vs xs M1 H1 cs1 s1 o1 r1 ⟨x, b, ys, ds, ex, hx, hd, p1⟩ => ?_⟩
    subst ex
    cases r1 with
    | cons r1 rr =>
      cases rr
      have hy := allDat_eq hd
      subst hy
      cases b with
      | true =>
        obtain ⟨a, vs, ea, q, pr⟩ := seqD_list o1 r1 hx
        subst ea
        exact ⟨a, rfl, .inl ⟨⟨vs, q⟩, k _ _ _ M1 H1 cs1 s1 o1 (it_enumL r1) p1⟩⟩
      | false =>
        obtain ⟨a, vs, ea, q, pr⟩ := seqD_tup o1 r1 hx
        subst ea
        exact ⟨a, rfl, .inr ⟨⟨vs, q⟩, k _ _ _ M1 H1 cs1 s1 o1 (it_enumT r1) p1⟩⟩
end DL
set_option maxRecDepth 100000
set_option maxHeartbeats 4000000
namespace DL
open PySem L2
/-! ### xs[i] += e -/
theorem get_list {X : Cx} : PGet X (rIxL X.K) := by
  intro pins s σ H x y v u Q I rx ry h
  obtain ⟨p, xs, i, z, rfl, rfl, hq, he, q⟩ := h
  cases rx
  obtain ⟨t, rfl⟩ := ry
  obtain ⟨its, r, pl, hz⟩ := I.list hq
  obtain ⟨j, h1, h2, h3, h4, h5⟩ := atI_get he
  obtain ⟨w, ew, rw'⟩ := r.get h2
  have hl := r.length
  have hn := line63
  have fin : EP X pins σ Q w s := ⟨z, H, I, rw', q⟩
  by_cases h0 : 0 ≤ i
  · have hj : i.toNat = j := by
      rw [seqIndex_of h0 h5] at h1
      exact Option.some.inj h1
    exact wpAny_getItem_list pl.isList h0 (by omega) (by rw [hj]; simpa using ew) fin
  · have hj : (i + (its.toArray.size : Int)).toNat = j := by
      rw [seqIndex_neg (by omega) h4] at h1
      rw [List.size_toArray, ← hl]
      exact Option.some.inj h1
    exact wpAny_getItem_list_neg pl.isList (by omega) (by rw [List.size_toArray] <;> omega) (by omega) (by rw [hj]; simpa using ew) fin
def wAugIx (wo wi we : WE) (f : Int → Int → Int) : WS := fun D ρ cs => wo ρ cs fun o cs1 => wi ρ cs1 fun i cs2 => ∃ a xs k j n, o = .cell a ∧ i = .dat (.int k) ∧ cs2 a = some (.lst xs) ∧ ixN xs.length k = some j ∧ xs[j]? = some (.dat (.int n)) ∧
  we ρ cs2 fun y cs3 => ∃ m, y = .dat (.int m) ∧ cs3 a = some (.lst xs) ∧ D.nx ρ (cs3.put a (.lst (xs.set j (.dat (.int (f n m))))))
section
variable {X : Cx} {a b c e o : Expr} {es : List Expr} {wa wb wc we wo : WE} {w u : WT} {wr : WA} {pos : Pos}
theorem ds_augIx {tpos : Pos} {op : Operator} {f : Int → Int → Int} (ho : DE X a wa) (hi : DE X b wb) (he : DE X e we) (hp : PIp X op (ipI f))
    (ha : ∀ ov iv new, augStore b ov iv new = (do holding [new, ov, iv] (setItem ov iv new); release [new, ov, iv] []; pure .next) := by intros; rfl) : DS X (.AugAssign (.Subscript a b tpos) op e pos) (wAugIx wa wb we f) :=
  ps_imp (ps_augS ho hi get_list he hp set_list ha) fun E σ H ⟨M, ρ, cs, D, o, r, h, e⟩ => by
    refine ⟨M, ρ, cs, _, o, r, h, fun v1 x1 M1 H1 cs1 s1 o1 r1 p1 => ?_⟩
    refine ⟨M1, ρ, cs1, _, o1, r.mono s1, p1, fun v2 x2 M2 H2 cs2 s2 o2 r2 ⟨ad, xs, k, j, n, e1, e2, hc, hj, hn, p2⟩ => ?_⟩
    subst e1 e2
    have e1 : v1 = .ref ad := r1
    obtain ⟨m0, ob, hob, cr⟩ := o2.cell ad _ hc
    cases ob <;> try exact (show False from cr).elim
    rename_i ys
    have cr : Paired (RV X.K M2) ys xs := cr
    obtain ⟨vn, hvn, rvn⟩ := Paired.getR cr hn
    rw [inv_int rvn] at hvn
    refine ⟨ad, ys, k, .int n, e1, inv_int r2, .inl (.inl hob), by unfold atI; rw [Paired.len cr, hj]; exact hvn, ?_⟩
    refine ⟨M2, ρ, cs2, _, o2, r.mono (s1.trans s2), p2, fun v3 x3 M3 H3 cs3 s3 o3 r3 ⟨m, e3, hc3, p3⟩ => ?_⟩
    subst e3
    obtain ⟨m3, ob3, hob3, cr3⟩ := o3.cell ad _ hc3
    cases ob3 <;> try exact (show False from cr3).elim
    rename_i ys3
    have cr3 : Paired (RV X.K M3) ys3 xs := cr3
    refine ⟨n, m, rfl, inv_int r3, ad, ys3, k, j, e1, inv_int r2, hob3, by rw [Paired.len cr3]; exact hj, ?_⟩
    have s123 := s1.trans (s2.trans s3)
    exact e.nx σ ρ M3 _ _ s123 (o3.setC hc3 (c := .lst (xs.set j (.dat (.int (f n m))))) (paired_set cr3 (rv_dat (.int _)))) (r.mono s123) p3
/-! ### methods of lists -/
def wApp (wo we : WE) : WE := fun ρ cs P => wo ρ cs fun o cs1 => ∃ a xs0, o = .cell a ∧ cs1 a = some (.lst xs0) ∧ we ρ cs1 fun y cs2 => ∃ xs, cs2 a = some (.lst xs) ∧ xs.length < 16777216 ∧ P (.dat .non) (cs2.put a (.lst (xs ++ [y])))
theorem size_lt {n : Nat} (h : n < 16777216) : n < sizeLine := by rw [sizeLine_eq]; exact h
theorem cell_lst {K : Frag} {M H : Hp} {cs : Cells} {a : Addr} {xs : List Vl} (o : Ok K M H cs) (h : cs a = some (.lst xs)) : ∃ ys, H a = some (.lst ys) ∧ Paired (RV K M) ys xs := by
  obtain ⟨m3, ob3, hob3, cr3⟩ := o.cell a _ h
  cases ob3 <;> try exact (show False from cr3).elim
  exact ⟨_, hob3, cr3⟩
theorem de_append {apos cpos : Pos} (ho : DE X o wo) (he : DE X e we) (hbase : attributeBase o "append" X.env (eval o X.env) = eval o X.env := by rfl)
    (hfew : ((backTo cpos (starEach [e] X.env)).all (fun x => !x.1) && (backToKw cpos (keywordEach [] X.env)).all (fun x => x.1.isSome)
      && decide ([e].length + ([] : List Keyword).length + (if ([] : List Keyword).isEmpty then 0 else 1) < 30)) = true := by rfl)
    (hline : (apos.endLine == cpos.line) = true := by rfl) (hs : starEach [e] X.env = (false, eval e X.env) :: starEach [] X.env := by rfl) (hplain : (backTo cpos (starEach [] X.env)).any (·.1) = false := by rfl) :
    DE X (.Call (.Attribute o "append" apos) [e] [] cpos) (wApp wo we) :=
  pe_imp (pe_bm PySem.F.plainAttrs_list PySem.F.slot_list_append PySem.F.type_list_append mt_append ho (pa_cons he pa_nil hs) hbase hfew hline hs hplain) fun σ H Q ⟨M, ρ, cs, P, o, r0, p, k⟩ => by
    refine ⟨M, ρ, cs, _, o, r0, p, fun v x M1 H1 cs1 s1 o1 r1 ⟨a, xs0, ea, hc, p1⟩ => ?_⟩
    subst ea
    have e1 : v = .ref a := r1
    subst e1
    obtain ⟨ys, hy, py⟩ := cell_lst o1 hc
    refine ⟨.inl ⟨rfl, _, .inl (.inl hy)⟩, M1, ρ, cs1, _, o1, r0.mono s1, p1, fun v2 x2 M2 H2 cs2 s2 o2 r2 ⟨xs, hc2, hz, p2⟩ => ?_⟩
    obtain ⟨ys2, hy2, py2⟩ := cell_lst o2 hc2
    refine ⟨a, ys2, v2, rfl, rfl, hy2, by rw [Paired.len py2]; exact size_lt hz, ?_⟩
    exact k _ _ M2 _ _ (s1.trans s2) (o2.setC hc2 (c := .lst (xs ++ [x2])) (Paired.app py2 (.cons r2 .nil))) (rv_dat .non) p2
def wExt (wo we : WE) : WE := fun ρ cs P => wo ρ cs fun o cs1 => ∃ a xs0, o = .cell a ∧ cs1 a = some (.lst xs0) ∧ we ρ cs1 fun y cs2 => ∃ b xs zs, y = .cell b ∧ cs2 a = some (.lst xs) ∧ cs2 b = some (.lst zs) ∧ xs.length + zs.length ≤ 16777216 ∧ P (.dat .non) (cs2.put a (.lst (xs ++ zs)))
theorem de_extend {apos cpos : Pos} (ho : DE X o wo) (he : DE X e we) (hbase : attributeBase o "extend" X.env (eval o X.env) = eval o X.env := by rfl)
    (hfew : ((backTo cpos (starEach [e] X.env)).all (fun x => !x.1) && (backToKw cpos (keywordEach [] X.env)).all (fun x => x.1.isSome)
      && decide ([e].length + ([] : List Keyword).length + (if ([] : List Keyword).isEmpty then 0 else 1) < 30)) = true := by rfl)
    (hline : (apos.endLine == cpos.line) = true := by rfl) (hs : starEach [e] X.env = (false, eval e X.env) :: starEach [] X.env := by rfl) (hplain : (backTo cpos (starEach [] X.env)).any (·.1) = false := by rfl) :
    DE X (.Call (.Attribute o "extend" apos) [e] [] cpos) (wExt wo we) :=
  pe_imp (pe_bm PySem.F.plainAttrs_list PySem.F.slot_list_extend PySem.F.type_list_extend mt_extend ho (pa_cons he pa_nil hs) hbase hfew hline hs hplain) fun σ H Q ⟨M, ρ, cs, P, o, r0, p, k⟩ => by
    refine ⟨M, ρ, cs, _, o, r0, p, fun v x M1 H1 cs1 s1 o1 r1 ⟨a, xs0, ea, hc, p1⟩ => ?_⟩
    subst ea
    have e1 : v = .ref a := r1
    subst e1
    obtain ⟨ys, hy, py⟩ := cell_lst o1 hc
    refine ⟨.inl ⟨rfl, _, .inl (.inl hy)⟩, M1, ρ, cs1, _, o1, r0.mono s1, p1, fun v2 x2 M2 H2 cs2 s2 o2 r2 ⟨b, xs, zs, eb, hc2, hc3, hz, p2⟩ => ?_⟩
    subst eb
    have e2 : v2 = .ref b := r2
    subst e2
    obtain ⟨ys2, hy2, py2⟩ := cell_lst o2 hc2
    obtain ⟨ys3, hy3, py3⟩ := cell_lst o2 hc3
    refine ⟨a, b, ys2, ys3, rfl, rfl, hy2, hy3, by rw [Paired.len py2, Paired.len py3]; exact size_line hz, ?_⟩
    exact k _ _ M2 _ _ (s1.trans s2) (o2.setC hc2 (c := .lst (xs ++ zs)) (Paired.app py2 py3)) (rv_dat .non) p2
/-! ### + and * of lists: new lists; what is not needed any more may be dropped -/
def SubC (cs' cs : Cells) : Prop := ∀ a c, cs' a = some c → cs a = some c
theorem SubC.refl (cs : Cells) : SubC cs cs := fun _ _ h => h
theorem SubC.put {cs : Cells} {p : Addr} {c : CO} (h : cs p = none) : SubC cs (cs.put p c) := fun a d e => by
  rw [Cells.put_ne (by intro z; rw [z, h] at e; cases e)]; exact e
theorem SubC.trans {a b c : Cells} (h : SubC a b) (h' : SubC b c) : SubC a c := fun x d e => h' x d (h x d e)
def wCat : W2 := fun x y cs P => ∃ a b xs ys cs', x = .cell a ∧ y = .cell b ∧ cs a = some (.lst xs) ∧ cs b = some (.lst ys) ∧ xs.length + ys.length ≤ 16777216 ∧ SubC cs' cs ∧ newL (xs ++ ys) cs' P
def wRep : W2 := fun x y cs P => ∃ a k xs cs', x = .cell a ∧ y = .dat (.int k) ∧ cs a = some (.lst xs) ∧ -(2 ^ 63) ≤ k ∧ k < 2 ^ 63 ∧ xs.length * k.toNat ≤ 16777216 ∧ SubC cs' cs ∧ newL (List.replicate k.toNat xs).flatten cs' P
theorem paired_rep {α β : Type} {R : α → β → Prop} {xs : List α} {ys : List β} (h : Paired R xs ys) : ∀ n, Paired R (List.replicate n xs).flatten (List.replicate n ys).flatten
  | 0 => .nil
  | n + 1 => by
    rw [List.replicate_succ, List.replicate_succ, List.flatten_cons, List.flatten_cons]
    exact Paired.app h (paired_rep h n)
theorem de_cat (ha : DE X a wa) (hb : DE X b wb) : DE X (.BinOp a .Add b pos) (wOp wCat wa wb) := de_op op_cat (fun M H cs x y a b P Q o rx ry ⟨p, q, xs, ys, cs', ea, eb, h1, h2, hz, hs, hn⟩ k => by
  subst ea eb
  obtain ⟨us, hu, pu⟩ := cell_lst o h1
  obtain ⟨vs, hv, pv⟩ := cell_lst o h2
  exact ⟨p, q, us, vs, rx, ry, hu, hv, by rw [Paired.len pu, Paired.len pv]; exact size_line hz, newL_ok (o.sub hs) (Paired.app pu pv) hn k⟩) ha hb
theorem de_rep (ha : DE X a wa) (hb : DE X b wb) : DE X (.BinOp a .Mult b pos) (wOp wRep wa wb) := de_op op_rep (fun M H cs x y a b P Q o rx ry ⟨p, k, xs, cs', ea, eb, h1, h2, h3, hz, hs, hn⟩ kk => by
  subst ea eb
  obtain ⟨us, hu, pu⟩ := cell_lst o h1
  exact ⟨p, k, us, rx, inv_int ry, hu, h2, h3, by rw [Paired.len pu]; exact size_line hz, newL_ok (o.sub hs) (paired_rep pu _) hn kk⟩) ha hb
end
/-! ### isinstance -/
inductive Ty where
  | non | bool | int | str | list | tuple | dict
  deriving DecidableEq
def Ty.nm : Ty → String
  | .non => "NoneType"
  | .bool => "bool"
  | .int => "int"
  | .str => "str"
  | .list => "list"
  | .tuple => "tuple"
  | .dict => "dict"
def isiT : Ty → Ty → Bool
  | .bool, .int => true
  | a, b => decide (a = b)
theorem kit_isi (a b : Ty) : kitB a.nm b.nm = some (isiT a b) := by cases a <;> cases b <;> decide +kernel
def coTy : Option CO → Option Ty
  | some (.lst _) => some .list
  | some (.dk _) => some .dict
  | some (.dt _) => some .dict
  | _ => none
def tyD (cs : Cells) : Vl → Option Ty
  | .dat .non => some .non
  | .dat (.bl _) => some .bool
  | .dat (.int _) => some .int
  | .dat (.str _) => some .str
  | .dat (.lst _) => some .list
  | .dat (.tup _) => some .tuple
  | .dat (.obj _ _) => none
  | .dat (.dct _) => some .dict
  | .dat (.ho _ _) => none
  | .raw (.ref a) => coTy (cs a)
  | .raw _ => none
theorem tyX_list {K : Frag} {H : Hp} {a : Addr} {xs : List V} (h : SqL K H a xs) : TyX K H (.ref a) (.type "list") := by
  rcases h with (h | ⟨o, h⟩) | ⟨o, its, n, hk, hc, _⟩
  · exact .base (.lst h)
  · exact .base (.frz h)
  · exact .kList hk hc
theorem tyX_tup {K : Frag} {H : Hp} {a : Addr} {xs : List V} (h : SqT K H a xs) : TyX K H (.ref a) (.type "tuple") := by
  rcases h with (h | ⟨o, h⟩) | ⟨o, its, n, hk, hc, _⟩
  · exact .base (.tup h)
  · exact .fTuple h
  · exact .kTuple hk hc
theorem tyD_ok {K : Frag} {M H : Hp} {cs : Cells} {v : V} {x : Vl} {t : Ty} (o : Ok K M H cs) (r : RV K M v x) (h : tyD cs x = some t) : TyX K H v (.type t.nm) := by
  match x, r, h with
  | .dat .non, r, h => cases h; rw [inv_non r]; exact .base .non
  | .dat (.bl b), r, h => cases h; rw [inv_bl r]; exact .base (.bl b)
  | .dat (.int b), r, h => cases h; rw [inv_int r]; exact .base (.int b)
  | .dat (.str b), r, h => cases h; rw [inv_str r]; exact .base (.str b)
  | .dat (.lst ds), r, h =>
    cases h
    cases (show Dr K M v (.lst ds) from r) with
    | lst q k => exact tyX_list (o.seqL q)
  | .dat (.tup ds), r, h =>
    cases h
    cases (show Dr K M v (.tup ds) from r) with
    | tup q k => exact tyX_tup (o.seqT q)
  | .dat (.dct ds), r, h =>
    cases h
    cases (show Dr K M v (.dct ds) from r) with
    | dct q k => exact .base (.dK (o.ex _ _ q))
  | .raw (.ref a), r, h =>
    cases (show v = .ref a from r)
    have h : coTy (cs a) = some t := h
    cases q : cs a with
    | none => rw [q] at h; cases h
    | some c =>
      rw [q] at h
      obtain ⟨_, u, hu, z⟩ := o.cell a _ q
      cases c with
      | lst ys =>
        cases h
        cases u <;> try exact (show False from z).elim
        exact .base (.lst hu)
      | dk ys =>
        cases h
        cases u <;> try exact (show False from z).elim
        exact .base (.dK hu)
      | dt ys =>
        cases h
        cases u <;> try exact (show False from z).elim
        exact .base (.dT hu)
      | ins C fs => cases h
      | lk o' u' ys => cases h
      | tg => cases h
      | tl q => cases h
def wIsi (T : Ty) (we : WE) : WE := fun ρ cs P => we ρ cs fun x cs1 => ∃ t, tyD cs1 x = some t ∧ P (.dat (.bl (isiT t T))) cs1
def wIsi2 (T U : Ty) (we : WE) : WE := fun ρ cs P => we ρ cs fun x cs1 => ∃ t, tyD cs1 x = some t ∧ P (.dat (.bl (isiT t T || isiT t U))) cs1
section
variable {X : Cx} {a b c e o : Expr} {es : List Expr} {wa wb wc we wo : WE} {w u : WT} {wr : WA} {pos : Pos}
theorem de_isi (T : Ty) {tn : Str} {p pt : Pos} (hm : X.mg "isinstance" = none) (ht : X.mg tn = none) (hv : bootBuiltins tn = some (.type T.nm)) (h : DE X e we) (hg : Gl X "isinstance" := by rfl) (hgt : Gl X tn := by rfl) (hn : tn ≠ "__name__" := by decide) (hd : (tn == ("__debug__" : Str)) = false := by decide)
    (h1 : starEach [e, .Name tn pt] X.env = (false, eval e X.env) :: starEach [.Name tn pt] X.env := by rfl) (h2 : starEach [.Name tn pt] X.env = (false, eval (.Name tn pt) X.env) :: starEach [] X.env := by rfl)
    (hpl : (backTo pos (starEach [.Name tn pt] X.env)).any (·.1) = false := by rfl) :
    DE X (.Call (.Name "isinstance" p) [e, .Name tn pt] [] pos) (wIsi T we) :=
  pe_imp (pe_callB call_isi hg hm (by decide +kernel) (pa_cons h (pa_cons (pe_bltn (v := .ty T.nm) hgt ht hv rfl hn hd) pa_nil h2) h1) (by decide) (by decide) h1 hpl) fun σ H Q ⟨M, ρ, cs, P, o, r0, p, k⟩ => by
    refine ⟨M, ρ, cs, _, o, r0, p, fun v x M1 H1 cs1 s1 o1 r1 ⟨t, htt, p1⟩ => ?_⟩
    exact ⟨v, .ty T.nm, .type t.nm, .type T.nm, _, rfl, .ty _, tyD_ok o1 r1 htt, kit_ty (kit_isi t T), k _ _ M1 H1 cs1 s1 o1 (rv_dat (.bl _)) p1⟩
theorem de_isi2 (T U : Ty) {tn un : Str} {p pt pu ptt : Pos} {kk : Nat} (hm : X.mg "isinstance" = none) (ht : X.mg tn = none) (hu : X.mg un = none) (hv : bootBuiltins tn = some (.type T.nm)) (hvu : bootBuiltins un = some (.type U.nm)) (h : DE X e we)
    (hg : Gl X "isinstance" := by rfl) (hgt : Gl X tn := by rfl) (hgu : Gl X un := by rfl) (hn : tn ≠ "__name__" := by decide) (hd : (tn == ("__debug__" : Str)) = false := by decide) (hnu : un ≠ "__name__" := by decide) (hdu : (un == ("__debug__" : Str)) = false := by decide)
    (h1 : starEach [e, .Tuple [.Name tn pt, .Name un pu] kk ptt] X.env = (false, eval e X.env) :: starEach [.Tuple [.Name tn pt, .Name un pu] kk ptt] X.env := by rfl)
    (h2 : starEach [.Tuple [.Name tn pt, .Name un pu] kk ptt] X.env = (false, eval (.Tuple [.Name tn pt, .Name un pu] kk ptt) X.env) :: starEach [] X.env := by rfl)
    (h3 : starEach [.Name tn pt, .Name un pu] X.env = (false, eval (.Name tn pt) X.env) :: starEach [.Name un pu] X.env := by rfl) (h4 : starEach [.Name un pu] X.env = (false, eval (.Name un pu) X.env) :: starEach [] X.env := by rfl)
    (hpl : (backTo pos (starEach [.Tuple [.Name tn pt, .Name un pu] kk ptt] X.env)).any (·.1) = false := by rfl) :
    DE X (.Call (.Name "isinstance" p) [e, .Tuple [.Name tn pt, .Name un pu] kk ptt] [] pos) (wIsi2 T U we) :=
  pe_imp (pe_callB call_isiT hg hm (by decide +kernel) (pa_cons h (pa_cons (pe_tup (pa_cons (pe_bltn (v := .ty T.nm) hgt ht hv rfl hn hd) (pa_cons (pe_bltn (v := .ty U.nm) hgu hu hvu rfl hnu hdu) pa_nil h4) h3)) pa_nil h2) h1) (by decide) (by decide) h1 hpl) fun σ H Q ⟨M, ρ, cs, P, o, r0, p, k⟩ => by
    refine ⟨M, ρ, cs, _, o, r0, p, fun v x M1 H1 cs1 s1 o1 r1 ⟨t, htt, p1⟩ => ?_⟩
    refine ⟨by show 2 ≤ sizeLine; decide, fun q hq => ?_⟩
    obtain ⟨s2, o2⟩ := o1.newM hq (.tup [.ty T.nm, .ty U.nm])
    refine ⟨v, q, [.ty T.nm, .ty U.nm], .type t.nm, [.type T.nm, .type U.nm], _, rfl, upd_same, .cons (.ty _) (.cons (.ty _) .nil), tyD_ok o2 (r1.mono s2) htt, ?_, k _ _ _ _ cs1 (s1.trans s2) o2 (rv_dat (.bl (isiT t T || isiT t U))) p1⟩
    refine kitAny_cons (kit_ty (kit_isi t T)) (fun hf => ?_) (fun hf => by rw [hf]; rfl)
    refine kitAny_cons (kit_ty (kit_isi t U)) (fun hg => ?_) (fun hg => by rw [hg, Bool.or_true])
    rw [hf, hg]; rfl
end
end DL
set_option maxRecDepth 100000
set_option maxHeartbeats 4000000
namespace DL
open PySem L2
/-! ### list comprehensions -/
def wYes : WT := fun _ cs P => P true cs
def DTs (X : Cx) (ifs : List Expr) (w : WT) : Prop := PTs X ifs (liftT X.K w)
theorem pts_imp {X : Cx} {ifs : List Expr} {t t' : TT} (h : PTs X ifs t) (m : ∀ σ H Q, t' σ H Q → t σ H Q) : PTs X ifs t' := ⟨fun pins s σ H Q I q => h.run pins s σ H Q I (m σ H Q q)⟩
theorem dts_nil {X : Cx} : DTs X [] wYes := pts_imp pts_nil fun σ H Q ⟨M, ρ, cs, P, o, r, p, k⟩ => k true M H cs (Same.refl _) o p
theorem dts_one {X : Cx} {c : Expr} {w : WT} (h : DT X c w) : DTs X [c] w := pts_one h
def wipeD (ρ : DEnv) : List Nat → DEnv
  | [] => ρ
  | v :: vs => (wipeD ρ vs).set v none
theorem wipeD_len (ρ : DEnv) : ∀ vs, (wipeD ρ vs).length = ρ.length
  | [] => rfl
  | v :: vs => by unfold wipeD; rw [List.length_set, wipeD_len ρ vs]
theorem Rho.wipe {K : Frag} {M : Hp} {σ : St} {ρ : DEnv} (r : Rho K M σ ρ) : ∀ vs, Rho K M (L2.wipe σ vs) (wipeD ρ vs)
  | [] => r
  | v :: vs => by
    have ih := Rho.wipe r vs
    unfold L2.wipe wipeD
    refine ⟨by rw [List.length_set, List.length_set]; exact ih.len, fun i x e => ?_⟩
    by_cases h : v = i
    · subst h
      by_cases hl : v < (wipeD ρ vs).length
      · rw [List.getElem?_set_self hl] at e; cases e
      · rw [List.getElem?_eq_none (by rw [List.length_set]; omega)] at e; cases e
    · rw [List.getElem?_set_ne h] at e
      obtain ⟨u, hu, ru⟩ := ih.at_ i x e
      exact ⟨u, by rw [List.getElem?_set_ne h]; exact hu, ru⟩
theorem wipe_get {σ : St} {i : Nat} : ∀ vs : List Nat, i ∉ vs → (L2.wipe σ vs)[i]? = σ[i]?
  | [], _ => rfl
  | v :: vs, h => by
    unfold L2.wipe
    rw [List.getElem?_set_ne (by intro z; exact h (by simp [z])), wipe_get vs (fun z => h (by simp [z]))]
theorem wipe_in {σ : St} {i : Nat} (hi : i < σ.length) : ∀ vs : List Nat, i ∈ vs → (L2.wipe σ vs)[i]? = some none
  | v :: vs, h => by
    unfold L2.wipe
    by_cases hv : v = i
    · subst hv
      rw [List.getElem?_set_self (by rw [wipe_length]; exact hi)]
    · rw [List.getElem?_set_ne hv]
      exact wipe_in hi vs (by
        rcases List.mem_cons.mp h with z | z
        · exact absurd z.symm hv
        · exact z)
theorem wipe_eq {σ σ2 : St} {vs js : List Nat} (hl : σ2.length = (L2.wipe σ vs).length) (hj : ∀ i, i ∉ js → σ2[i]? = (L2.wipe σ vs)[i]?) (hs : ∀ i ∈ js, i ∈ vs) : L2.wipe σ2 vs = L2.wipe σ vs := by
  rw [wipe_length] at hl
  refine List.ext_getElem? fun i => ?_
  by_cases hi : i < σ.length
  · by_cases hv : i ∈ vs
    · rw [wipe_in (by omega) vs hv, wipe_in hi vs hv]
    · rw [wipe_get vs hv, hj i (fun z => hv (hs i z))]
  · rw [List.getElem?_eq_none (by rw [wipe_length]; omega), List.getElem?_eq_none (by rw [wipe_length]; omega)]
/-- the new list: a cell, or data for ever -/
def doneL (D : Addr) (acc : List Vl) (cs : Cells) (P : Vl → Cells → Prop) : Prop := P (.cell D) cs ∨ ∃ ds, allDat acc = some ds ∧ P (.dat (.lst ds)) (cs.del D)
theorem Ok.frz {K : Frag} {M H : Hp} {cs : Cells} {a : Addr} {ds : List Dat} (o : Ok K M H cs) (h : cs a = some (.lst (ds.map .dat))) : ∃ M', Same M M' ∧ Ok K M' H (cs.del a) ∧ Dr K M' (.ref a) (.lst ds) := by
  obtain ⟨ys, hy, py⟩ := cell_lst o h
  obtain ⟨m0, _⟩ := o.cell a _ h
  have s : Same M (upd M a (.lst ys)) := same_upd m0
  refine ⟨_, s, ⟨fun b ob e => ?_, fun b c e => ?_⟩, .lst (.inl (.inl upd_same)) ((DrAll.of_paired py).mono s)⟩
  · by_cases hb : b = a
    · rw [hb] at e ⊢; rw [upd_same] at e; cases e; exact hy
    · rw [upd_ne hb] at e; exact o.ex b ob e
  · have hb : b ≠ a := by intro z; simp [Cells.del, z] at e
    have e' : cs b = some c := by simpa [Cells.del, hb] using e
    obtain ⟨m, ob, q, r⟩ := o.cell b c e'
    exact ⟨by rw [upd_ne hb]; exact m, ob, q, r.mono s⟩
def wLc (wi : WI) (g : WG) (wt : WT) (we : WE) (vs : List Nat) : WE := fun ρ cs P => wi ρ cs fun items G cs1 => ∀ D, cs1 D = none → ∃ Inv : Nat → Cells → Prop, Inv 0 (cs1.put D (.lst [])) ∧ (∀ i cs', i ≤ items.length → Inv i cs' → G cs') ∧
  (∀ i x cs', items[i]? = some x → Inv i cs' → g x (wipeD ρ vs) cs' fun ρ2 cs2 => wt ρ2 cs2 fun b cs3 => if b = true then we ρ2 cs3 fun y cs4 => ∃ acc, cs4 D = some (.lst acc) ∧ acc.length < 16777216 ∧ Inv (i + 1) (cs4.put D (.lst (acc ++ [y]))) else Inv (i + 1) cs3) ∧
  ∀ cs', Inv items.length cs' → ∃ acc, cs' D = some (.lst acc) ∧ doneL D acc cs' P
theorem liftLc {K : Frag} {wi : WI} {g : WG} {wt : WT} {we : WE} {vs js : List Nat} (hs : ∀ i ∈ js, i ∈ vs) {σ : St} {H : Hp} {Q : VK} (h : lift K (wLc wi g wt we vs) σ H Q) : tLc (liftI K wi) (liftG K js g) (liftT K wt) (lift K we) vs σ H Q := by
  obtain ⟨M, ρ, cs, P, o, r, p, k⟩ := h
  refine ⟨M, ρ, cs, _, o, r, p, fun J items G M1 H1 cs1 s1 o1 it p1 => ?_⟩
  intro D hD
  obtain ⟨Iv, i0, iG, turn, fin⟩ := p1 D (o1.freeC hD)
  refine ⟨fun i m H' => m = items.length - i ∧ i ≤ items.length ∧ ∃ M' cs', Same M1 M' ∧ Ok K M' H' cs' ∧ Iv i cs', ⟨items.length, by simp, Nat.zero_le _, M1, _, Same.refl _, o1.newC hD (u := .lst []) (c := .lst []) .nil, i0⟩, ?_⟩
  rintro i m H' ⟨rfl, hi, M', cs', s', o', inv⟩
  have g' := iG i cs' hi inv
  by_cases hlt : i < items.length
  · refine .inr ⟨it.go i M' H' cs' s' o' g' hlt, fun H2 => ∃ M2 cs2, Same M1 M2 ∧ Ok K M2 H2 cs2 ∧ Iv (i + 1) cs2, fun H2 q => ⟨_, by omega, rfl, hlt, q⟩, fun v H2 y => ?_⟩
    obtain ⟨M2, x, ex, s2, o2, rv⟩ := it.yld i M' H' cs' v H2 s' o' g' y hlt
    refine ⟨M2, wipeD ρ vs, cs', x, _, o2, ((r.mono (s1.trans (s'.trans s2))).wipe vs), rv, turn i x cs' ex inv, fun σ3 ρ3 M3 H3 cs3 s3 o3 r3 hl3 hj3 p3 => ?_⟩
    refine ⟨wipe_eq hl3 hj3 hs, M3, ρ3, cs3, _, o3, r3, p3, fun b M4 H4 cs4 s4 o4 p4 => ?_⟩
    cases b with
    | true =>
      refine iteT ?_
      refine ⟨M4, ρ3, cs4, _, o4, r3.mono s4, (show we ρ3 cs4 fun y cs4 => ∃ acc, cs4 D = some (.lst acc) ∧ acc.length < 16777216 ∧ Iv (i + 1) (cs4.put D (.lst (acc ++ [y]))) by simpa using p4), fun v5 y5 M5 H5 cs5 s5 o5 r5 ⟨acc, hacc, hz, p5⟩ => ?_⟩
      obtain ⟨ys, hy, py⟩ := cell_lst o5 hacc
      exact ⟨ys, hy, by rw [Paired.len py]; exact size_lt hz, M5, _, s'.trans (s2.trans (s3.trans (s4.trans s5))), o5.setC hacc (c := .lst (acc ++ [y5])) (Paired.app py (.cons r5 .nil)), p5⟩
    | false =>
      refine iteF ?_
      exact ⟨M4, cs4, s'.trans (s2.trans (s3.trans s4)), o4, by simpa using p4⟩
  · have ei : i = items.length := by omega
    subst ei
    refine .inl ⟨it.stop M' H' cs' s' o' g', ?_⟩
    obtain ⟨acc, hacc, q⟩ := fin cs' inv
    rcases q with q | ⟨ds, hd, q⟩
    · exact k _ _ M' H' cs' (s1.trans s') o' rv_raw q
    · rw [allDat_eq hd] at hacc
      obtain ⟨M2, s2, o2, rd⟩ := o'.frz hacc
      exact k _ _ M2 H' _ (s1.trans (s'.trans s2)) o2 (rv_dat rd) q
section
variable {X : Cx} {elt tg iter : Expr} {ifs : List Expr} {scope : Scope} {own : List (Str × Nat)} {pos : Pos} {wi : WI} {g : WG} {wt : WT} {we : WE} {js : List Nat}
theorem de_lc (hN : X.N.Nodup) (hi : DI X tg iter wi) (ok : BlkOk X.N X.env.scope scope own)
    (hg : ∀ (s : Shared) (H : Hp) (C : Addr) (cl : List (Str × Addr)) (fp : List Addr), DG (X.blk s H scope (compEnvC scope cl C X.env) fp) js tg g) (ht : ∀ (s : Shared) (H : Hp) (C : Addr) (cl : List (Str × Addr)) (fp : List Addr), DTs (X.blk s H scope (compEnvC scope cl C X.env) fp) ifs wt)
    (he : ∀ (s : Shared) (H : Hp) (C : Addr) (cl : List (Str × Addr)) (fp : List Addr), DE (X.blk s H scope (compEnvC scope cl C X.env) fp) elt we) (hj : ∀ i ∈ js, i ∈ own.map (·.2)) (hc : X.calm = true := by rfl) (hs : ∀ x, foldedSetIterable iter X.env x = pure x := by intro _; rfl) :
    DE X (.ListComp elt [⟨tg, iter, ifs, 0⟩] scope pos) (wLc wi g wt we (own.map (·.2))) := pe_imp (pe_lc (wi := liftI X.K wi) (g := liftG X.K js g) (tt := liftT X.K wt) (te := lift X.K we) hc hN hi ok hg ht he hs) fun _ _ _ h => liftLc hj h
theorem ds_setLc {i : Nat} {y : Str} {py spos : Pos} (hN : X.N.Nodup) (hi : DI X tg iter wi) (ok : BlkOk X.N X.env.scope scope own)
    (hg : ∀ (s : Shared) (H : Hp) (C : Addr) (cl : List (Str × Addr)) (fp : List Addr), DG (X.blk s H scope (compEnvC scope cl C X.env) fp) js tg g) (ht : ∀ (s : Shared) (H : Hp) (C : Addr) (cl : List (Str × Addr)) (fp : List Addr), DTs (X.blk s H scope (compEnvC scope cl C X.env) fp) ifs wt)
    (he : ∀ (s : Shared) (H : Hp) (C : Addr) (cl : List (Str × Addr)) (fp : List Addr), DE (X.blk s H scope (compEnvC scope cl C X.env) fp) elt we) (hj : ∀ i ∈ js, i ∈ own.map (·.2))
    (hsw : swapsWith (.ListComp elt [⟨tg, iter, ifs, 0⟩] scope pos) (some (.Name y py)) spos.line X.env = pure true) (hy : X.N[i]? = some y := by rfl) (hyl : X.env.scope.names.lookup y = some .local := by rfl) (hc : X.calm = true := by rfl) (hs : ∀ x, foldedSetIterable iter X.env x = pure x := by intro _; rfl) :
    DS X (.Assign [.Name y py] (.ListComp elt [⟨tg, iter, ifs, 0⟩] scope pos) spos) (wAsg (wLc wi g wt we (own.map (·.2))) (gN i)) :=
  ps_imp (ps_setLc (wi := liftI X.K wi) (g := liftG X.K js g) (tt := liftT X.K wt) (te := lift X.K we) hc hN hy hyl hsw hi ok hg ht he hs) fun E σ H ⟨M, ρ, cs, D, o, r, h, e⟩ => liftLc hj ⟨M, ρ, cs, _, o, r, h, fun v x M' H' cs' s o' rv p => e.nx _ _ M' H' cs' s o' ((r.mono s).set rv) p⟩
end
/-! ### defs -/
abbrev DXP := Value → List (Str × Vl) → Cells → Prop
abbrev DSp := List Vl → Cells → (Vl → Cells → Prop) → DXP → Prop
def XRep (K : Frag) (M : Hp) : Option Addr → List (Str × Vl) → Prop
  | none, fs => fs = []
  | some d, fs => ∃ gs, M d = some (.xd gs) ∧ Paired (fun (p : Str × V) (q : Str × Vl) => p.1 = q.1 ∧ RV K M p.2 q.2) gs fs
def KontX (K : Frag) (M : Hp) (XP : DXP) (E : XK) : Prop := ∀ cls od fs M' H' cs', Same M M' → Ok K M' H' cs' → XRep K M' od fs → XP cls fs cs' → E cls od H'
theorem KontX.mono {K : Frag} {M M' : Hp} {P : DXP} {E : XK} (s : Same M M') (k : KontX K M P E) : KontX K M' P E := fun v x fs M2 H2 cs2 s2 o r p => k v x fs M2 H2 cs2 (s.trans s2) o r p
abbrev X0 : DXP := fun _ _ _ => False
def liftSp (K : Frag) (dsp : DSp) : Sp := fun vs H Q E => ∃ M xs cs P XP, Ok K M H cs ∧ Paired (RV K M) vs xs ∧ dsp xs cs P XP ∧ Kont K M P Q ∧ KontX K M XP E
/-- what stands may be seen otherwise: cells dropped, a list of data frozen -/
def Gh (K : Frag) (v : Vl) (cs : Cells) (v' : Vl) (cs' : Cells) : Prop := ∀ M H x, Ok K M H cs → RV K M x v → ∃ M', Same M M' ∧ Ok K M' H cs' ∧ RV K M' x v'
theorem Gh.refl (K : Frag) (v : Vl) (cs : Cells) : Gh K v cs v cs := fun M _ _ o r => ⟨M, Same.refl _, o, r⟩
theorem Gh.sub {K : Frag} {v : Vl} {cs cs' : Cells} (h : SubC cs' cs) : Gh K v cs v cs' := fun M _ _ o r => ⟨M, Same.refl _, o.sub h, r⟩
theorem Gh.frz {K : Frag} {a : Addr} {cs : Cells} {ds : List Dat} (h : cs a = some (.lst (ds.map .dat))) : Gh K (.cell a) cs (.dat (.lst ds)) (cs.del a) := fun M H x o r => by
  obtain ⟨M', s, o', rd⟩ := o.frz h
  have e : x = .ref a := r
  rw [e]
  exact ⟨M', s, o', rv_dat rd⟩
theorem Gh.trans {K : Frag} {v v' v'' : Vl} {cs cs' cs'' : Cells} (h : Gh K v cs v' cs') (h' : Gh K v' cs' v'' cs'') : Gh K v cs v'' cs'' := fun M H x o r => by
  obtain ⟨M', s, o', r'⟩ := h M H x o r
  obtain ⟨M2, s2, o2, r2⟩ := h' M' H x o' r'
  exact ⟨M2, s.trans s2, o2, r2⟩
def GhK (K : Frag) (P : Vl → Cells → Prop) : Vl → Cells → Prop := fun v cs => ∃ v' cs', Gh K v cs v' cs' ∧ P v' cs'
theorem GhK.now {K : Frag} {P : Vl → Cells → Prop} {v : Vl} {cs : Cells} (h : P v cs) : GhK K P v cs := ⟨v, cs, .refl K v cs, h⟩
theorem GhK.drop {K : Frag} {P : Vl → Cells → Prop} {v : Vl} {cs cs' : Cells} (hs : SubC cs' cs) (h : P v cs') : GhK K P v cs := ⟨v, cs', .sub hs, h⟩
theorem Kont.gh {K : Frag} {M : Hp} {P : Vl → Cells → Prop} {Q : VK} (k : Kont K M P Q) : Kont K M (GhK K P) Q := fun v x M' H' cs' s o r ⟨x2, cs2, gh, p⟩ => by
  obtain ⟨M2, s2, o2, r2⟩ := gh M' H' v o r
  exact k v x2 M2 H' cs2 (s.trans s2) o2 r2 p
def retE (K : Frag) (P : Vl → Cells → Prop) : DEnds := { nx := fun _ cs => GhK K P (.dat .non) cs, rt := GhK K P }
def startD (n : Nat) (xs : List Vl) : DEnv := xs.map some ++ List.replicate (n - xs.length) none
theorem start_rho {K : Frag} {M : Hp} {N : List Str} {vs : List V} {xs : List Vl} (h : Paired (RV K M) vs xs) : Rho K M (L2.start N vs) (startD N.length xs) := by
  unfold L2.start startD
  have hl := Paired.len h
  refine ⟨by rw [List.length_append, List.length_append, List.length_map, List.length_map, List.length_replicate, List.length_replicate, hl], fun i x e => ?_⟩
  by_cases hi : i < xs.length
  · rw [List.getElem?_append_left (by rw [List.length_map]; exact hi), List.getElem?_map] at e
    cases q : xs[i]? with
    | none => rw [q] at e; cases e
    | some y =>
      rw [q] at e
      cases e
      obtain ⟨v, hv, rv⟩ := Paired.getR h q
      exact ⟨v, by rw [List.getElem?_append_left (by rw [List.length_map]; omega), List.getElem?_map, hv]; rfl, rv⟩
  · rw [List.getElem?_append_right (by rw [List.length_map]; omega), List.getElem?_replicate] at e
    split at e <;> cases e
/-- a def of the text, called by its name -/
structure DOk (P : Program) (w : World) (K : Frag) (mg : Str → Option Value) (base : Heap) (CX : CXT) (x : Str) (ps : List Str) (k : Nat) (dsp : DSp) : Prop where
  ex : ∃ f fd, FnOk P w K mg base CX k f fd ps (liftSp K dsp) ∧ mg x = some (.ref f) ∧ PySem.W.keepIn K (.ref f) = true ∧ Binds K fd ps []
theorem fn_dataF {P : Program} {w : World} {K : Frag} {mg : Str → Option Value} {base : Heap} {x : Str} {st : Stmt} {f : Addr} {fd : FuncData} {N ps : List Str} {k : Nat} {dsp : DSp} {ws : WS} (F : Fun K x x st f fd) (S : FnScope N ps (defScope st))
    (len : ∀ xs cs Q XP, dsp xs cs Q XP → xs.length = ps.length)
    (body : ∀ (cdv : Value) (A : Around) (outer : List Env) (s : Shared) (H : Hp) (E : XK), Room k (A.deeper (PyProof.Rows.envOfC x (defScope st) s.heap.objs.size f cdv)) → DSs (cxOf CX0 P w K mg base N x (defScope st) f cdv A outer s H E).nox (defBody st) ws)
    (pure : ∀ xs cs Q XP, dsp xs cs Q XP → ws (retE K Q) (startD N.length xs) cs) : FnOk P w K mg base CX0 (k + 1) f fd ps (liftSp K dsp) := by
  refine F.ok S (fun vs H Q E ⟨M, xs, cs, P', XP, o, r, d, _⟩ => (Paired.len r).trans (len xs cs P' XP d)) (fun cdv A outer s H vs Q E hr ⟨M, xs, cs, P', XP, o, r, d, kk, _⟩ => ⟨_, body cdv A outer s H E hr, ?_⟩)
  exact ⟨M, startD N.length xs, cs, retE K P', o, start_rho r, pure xs cs P' XP d, ⟨fun σ' ρ' M' H' cs' s o' _ p => kk.gh _ _ M' H' cs' s o' (rv_dat .non) p, kk.gh, fun _ _ _ _ _ _ _ _ p => p.elim, fun _ _ _ _ _ _ _ _ p => p.elim⟩⟩
theorem fn_dataQ {P : Program} {w : World} {K : Frag} {mg : Str → Option Value} {base : Heap} {x qual : Str} {st : Stmt} {f : Addr} {fd : FuncData} {N ps : List Str} {k : Nat} {dsp : DSp} {ws : WS} (F : Fun K x qual st f fd) (S : FnScope N ps (defScope st))
    (len : ∀ xs cs Q XP, dsp xs cs Q XP → xs.length = ps.length)
    (body : ∀ (cdv : Value) (A : Around) (outer : List Env) (s : Shared) (H : Hp) (E : XK), Room k (A.deeper (PyProof.Rows.envOfC qual (defScope st) s.heap.objs.size f cdv)) → DSs (cxOf CX0 P w K mg base N qual (defScope st) f cdv A outer s H E).nox (defBody st) ws)
    (pure : ∀ xs cs Q XP, dsp xs cs Q XP → ws (retE K Q) (startD N.length xs) cs) : FnOk P w K mg base CX0 (k + 1) f fd ps (liftSp K dsp) := by
  refine F.ok S (fun vs H Q E ⟨M, xs, cs, P', XP, o, r, d, _⟩ => (Paired.len r).trans (len xs cs P' XP d)) (fun cdv A outer s H vs Q E hr ⟨M, xs, cs, P', XP, o, r, d, kk, _⟩ => ⟨_, body cdv A outer s H E hr, ?_⟩)
  exact ⟨M, startD N.length xs, cs, retE K P', o, start_rho r, pure xs cs P' XP d, ⟨fun σ' ρ' M' H' cs' s o' _ p => kk.gh _ _ M' H' cs' s o' (rv_dat .non) p, kk.gh, fun _ _ _ _ _ _ _ _ p => p.elim, fun _ _ _ _ _ _ _ _ p => p.elim⟩⟩
theorem fn_data {P : Program} {w : World} {K : Frag} {mg : Str → Option Value} {base : Heap} {x : Str} {st : Stmt} {f : Addr} {fd : FuncData} {N ps : List Str} {k : Nat} {dsp : DSp} {ws : WS} (F : Fun K x x st f fd) (S : FnScope N ps (defScope st)) (hm : mg x = some (.ref f)) (hb : Binds K fd ps [])
    (len : ∀ xs cs Q XP, dsp xs cs Q XP → xs.length = ps.length)
    (body : ∀ (cdv : Value) (A : Around) (outer : List Env) (s : Shared) (H : Hp) (E : XK), Room k (A.deeper (PyProof.Rows.envOfC x (defScope st) s.heap.objs.size f cdv)) → DSs (cxOf CX0 P w K mg base N x (defScope st) f cdv A outer s H E).nox (defBody st) ws)
    (pure : ∀ xs cs Q XP, dsp xs cs Q XP → ws (retE K Q) (startD N.length xs) cs) : DOk P w K mg base CX0 x ps (k + 1) dsp := ⟨f, fd, fn_dataF F S len body pure, hm, F.kp, hb⟩
theorem never_data {P : Program} {w : World} {K : Frag} {mg : Str → Option Value} {base : Heap} {x : Str} {st : Stmt} {f : Addr} {fd : FuncData} {ps : List Str} {k : Nat} (F : Fun K x x st f fd) (hm : mg x = some (.ref f)) (hb : Binds K fd ps []) : DOk P w K mg base CX0 x ps k (fun _ _ _ _ => False) :=
  ⟨f, fd, ⟨fun _ _ _ _ ⟨_, _, _, _, _, _, _, h, _⟩ => h.elim, fun _ _ _ _ _ _ _ _ _ _ _ _ _ ⟨_, _, _, _, _, _, _, h, _⟩ => h.elim⟩, hm, F.kp, hb⟩
/-- the law's own promise -/
def spLaw (K : Frag) : Sp := fun vs H Q _ => ∃ (a : Addr) (ns : List Int), vs = [.ref a] ∧ SqL K H a (ns.map V.int) ∧ ns.length ≤ 63 ∧ ∀ H', Q (.bl true) H'
theorem law_imp {K : Frag} {dsp : DSp} (h : ∀ (ns : List Int) cs Q XP, ns.length ≤ 63 → (∀ cs', Q (.dat (.bl true)) cs') → dsp [.dat (.lst (ns.map .int))] cs Q XP) : ∀ vs H Q E, spLaw K vs H Q E → liftSp K dsp vs H Q E := by
  rintro vs H Q E ⟨a, ns, rfl, hS, hl, k⟩
  have hd : DrAll K H (ns.map V.int) (ns.map Dat.int) := by
    clear hS hl
    induction ns with
    | nil => exact .nil
    | cons n r ih => exact .cons (.int n) ih
  refine ⟨H, [.dat (.lst (ns.map .int))], fun _ => none, fun v _ => v = .dat (.bl true), X0, ⟨Same.refl _, fun _ _ e => by cases e⟩, .cons (.lst hS hd) .nil, h ns _ _ _ hl (fun _ => rfl), ?_, fun _ _ _ _ _ _ _ _ _ z => z.elim⟩
  intro v x M' H' cs' _ _ r p
  subst p
  rw [inv_bl r]
  exact k H'
def wCall (dsp : DSp) (wr : WA) : WE := fun ρ cs P => wr ρ cs fun xs cs1 => dsp xs cs1 P X0
theorem de_call {X : Cx} {x : Str} {ps : List Str} {k : Nat} {dsp : DSp} {p pos : Pos} {e : Expr} {es : List Expr} {wr : WA} (G : DOk X.prog X.w X.K X.mg X.base CX0 x ps k dsp) (hr : Room k X.A) (ha : DA X (e :: es) wr) (hg : Gl X x := by rfl)
    (hdb : (x == ("__debug__" : Str)) = false := by decide) (he : starEach (e :: es) X.env = (false, eval e X.env) :: starEach es X.env := by rfl) (hpl : (backTo pos (starEach es X.env)).any (·.1) = false := by rfl) :
    DE X (.Call (.Name x p) (e :: es) [] pos) (wCall dsp wr) := by
  obtain ⟨f, fd, F, hm, hk, hb⟩ := G.ex
  refine pe_imp (pe_call F hr hg hm hk hb .nil pass0 ha hdb he hpl) fun σ H Q ⟨M, ρ, cs, P, o, r0, p, kk⟩ => ?_
  refine ⟨M, ρ, cs, _, o, r0, p, fun vs xs M1 H1 cs1 s1 o1 r1 p1 => ?_⟩
  show liftSp X.K dsp (vs ++ []) H1 Q E0
  rw [List.append_nil]
  exact ⟨M1, xs, cs1, P, X0, o1, r1, p1, kk.mono s1, fun _ _ _ _ _ _ _ _ _ z => z.elim⟩
theorem de_gintE {X : Cx} {x : Str} {i : Int} {pos : Pos} (hm : ∃ t, X.mg x = some (.int i t)) (hg : Gl X x := by rfl) (hd : (x == ("__debug__" : Str)) = false := by decide) : DE X (.Name x pos) (wC (.int i)) := by
  obtain ⟨t, ht⟩ := hm
  exact de_gint ht hg hd
end DL
set_option maxRecDepth 100000
set_option maxHeartbeats 4000000
namespace DL
open PySem L2
/-! ### == over data: plain data of bounded depth -/
def Dat.lv : Nat → Dat → Prop
  | _, .non => True
  | _, .bl _ => False
  | _, .int _ => True
  | _, .str x => PyData.strOk x = true
  | 0, .lst _ => False
  | 0, .tup _ => False
  | n + 1, .lst xs => xs.length ≤ 16777216 ∧ ∀ x ∈ xs, Dat.lv n x
  | n + 1, .tup xs => xs.length ≤ 16777216 ∧ ∀ x ∈ xs, Dat.lv n x
  | _, .obj _ _ => False
  | _, .dct _ => False
  | _, .ho _ _ => False
theorem pys_lv {n : Nat} (ih : ∀ d : Dat, d.lv n → ∃ p, d.py = some p ∧ p.canLay0 = true ∧ p.depth ≤ n + 1) : ∀ xs : List Dat, (∀ x ∈ xs, x.lv n) → ∃ ps, Dat.pys xs = some ps ∧ PyData.canLayAll0 ps = true ∧ PyData.depthAll ps ≤ n + 1
  | [], _ => ⟨[], rfl, rfl, Nat.zero_le _⟩
  | x :: xs, h => by
    obtain ⟨p, e1, c1, d1⟩ := ih x (h x (by simp))
    obtain ⟨ps, e2, c2, d2⟩ := pys_lv ih xs (fun y hy => h y (by simp [hy]))
    refine ⟨p :: ps, ?_, ?_, ?_⟩
    · unfold Dat.pys; rw [e1, e2]
    · unfold PyData.canLayAll0; rw [c1, c2]; rfl
    · unfold PyData.depthAll; exact Nat.max_le.mpr ⟨d1, d2⟩
theorem py_lv : ∀ (n : Nat) (d : Dat), d.lv n → ∃ p, d.py = some p ∧ p.canLay0 = true ∧ p.depth ≤ n + 1 := by
  intro n
  induction n with
  | zero =>
    intro d h
    cases d with
    | non => exact ⟨_, rfl, rfl, by decide⟩
    | int i => exact ⟨_, rfl, rfl, by unfold PyData.depth; omega⟩
    | str x => exact ⟨_, rfl, h, by unfold PyData.depth; omega⟩
    | _ => exact (show False from h).elim
  | succ n ih =>
    intro d h
    cases d with
    | non => exact ⟨_, rfl, rfl, by unfold PyData.depth; omega⟩
    | int i => exact ⟨_, rfl, rfl, by unfold PyData.depth; omega⟩
    | str x => exact ⟨_, rfl, h, by unfold PyData.depth; omega⟩
    | bl b => exact (show False from h).elim
    | obj C fs => exact (show False from h).elim
    | dct kvs => exact (show False from h).elim
    | ho φ ex => exact (show False from h).elim
    | lst xs =>
      obtain ⟨ps, e, c, dd⟩ := pys_lv ih xs h.2
      exact ⟨.list ps, by unfold Dat.py; rw [e]; rfl, by unfold PyData.canLay0; exact c, by unfold PyData.depth; omega⟩
    | tup xs =>
      obtain ⟨ps, e, c, dd⟩ := pys_lv ih xs h.2
      exact ⟨.tuple ps, by unfold Dat.py; rw [e]; rfl, by unfold PyData.canLay0; exact c, by unfold PyData.depth; omega⟩
theorem shaped_lv {n : Nat} (hn : n ≤ 60) {d : Dat} (h : d.lv n) : ∃ p, d.py = some p ∧ SeqAt.shaped p = true := by
  obtain ⟨p, e, c, dd⟩ := py_lv n d h
  exact ⟨p, e, by unfold SeqAt.shaped; rw [c, decide_eq_true (by omega)]; rfl⟩
mutual
theorem eqv_py : ∀ (n : Nat) (d e : Dat) (p q : PyData), d.lv n → e.lv n → d.py = some p → e.py = some q → (PyData.eqv p q = true ↔ d = e)
  | _, .non, e, p, q, _, he, hp, hq => by
    cases hp
    cases e with
    | non => cases hq; simp [PyData.eqv]
    | bl b => exact (by cases ‹Nat› <;> exact he.elim)
    | int i => cases hq; simp [PyData.eqv]
    | str x => cases hq; simp [PyData.eqv]
    | lst xs => unfold Dat.py at hq; obtain ⟨ps, e1, rfl⟩ := Option.map_eq_some_iff.mp hq; simp [PyData.eqv]
    | tup xs => unfold Dat.py at hq; obtain ⟨ps, e1, rfl⟩ := Option.map_eq_some_iff.mp hq; simp [PyData.eqv]
    | obj C fs => cases hq
    | dct kvs => cases hq
    | ho φ ex => cases hq
  | n, .bl b, _, _, _, hd, _, _, _ => by cases n <;> exact (show False from hd).elim
  | n, .int i, e, p, q, _, he, hp, hq => by
    cases hp
    cases e with
    | non => cases hq; simp [PyData.eqv]
    | bl b => cases n <;> exact (show False from he).elim
    | int i => cases hq; simp [PyData.eqv]
    | str x => cases hq; simp [PyData.eqv]
    | lst xs => unfold Dat.py at hq; obtain ⟨ps, e1, rfl⟩ := Option.map_eq_some_iff.mp hq; simp [PyData.eqv]
    | tup xs => unfold Dat.py at hq; obtain ⟨ps, e1, rfl⟩ := Option.map_eq_some_iff.mp hq; simp [PyData.eqv]
    | obj C fs => cases hq
    | dct kvs => cases hq
    | ho φ ex => cases hq
  | n, .str x, e, p, q, _, he, hp, hq => by
    cases hp
    cases e with
    | non => cases hq; simp [PyData.eqv]
    | bl b => cases n <;> exact (show False from he).elim
    | int i => cases hq; simp [PyData.eqv]
    | str x => cases hq; simp [PyData.eqv]
    | lst xs => unfold Dat.py at hq; obtain ⟨ps, e1, rfl⟩ := Option.map_eq_some_iff.mp hq; simp [PyData.eqv]
    | tup xs => unfold Dat.py at hq; obtain ⟨ps, e1, rfl⟩ := Option.map_eq_some_iff.mp hq; simp [PyData.eqv]
    | obj C fs => cases hq
    | dct kvs => cases hq
    | ho φ ex => cases hq
  | n, .lst xs, e, p, q, hd, he, hp, hq => by
    cases n with
    | zero => exact (show False from hd).elim
    | succ n =>
      unfold Dat.py at hp
      obtain ⟨ps, e0, rfl⟩ := Option.map_eq_some_iff.mp hp
      cases e with
      | non => cases hq; simp [PyData.eqv]
      | bl b => exact (show False from he).elim
      | int i => cases hq; simp [PyData.eqv]
      | str x => cases hq; simp [PyData.eqv]
      | lst ys =>
        unfold Dat.py at hq
        obtain ⟨qs, e1, rfl⟩ := Option.map_eq_some_iff.mp hq
        have := eqvs_py n xs ys ps qs hd.2 he.2 e0 e1
        simp only [PyData.eqv, Dat.lst.injEq]
        exact this
      | tup ys => unfold Dat.py at hq; obtain ⟨ps, e1, rfl⟩ := Option.map_eq_some_iff.mp hq; simp [PyData.eqv]
      | obj C fs => cases hq
      | dct kvs => cases hq
      | ho φ ex => cases hq
  | n, .tup xs, e, p, q, hd, he, hp, hq => by
    cases n with
    | zero => exact (show False from hd).elim
    | succ n =>
      unfold Dat.py at hp
      obtain ⟨ps, e0, rfl⟩ := Option.map_eq_some_iff.mp hp
      cases e with
      | non => cases hq; simp [PyData.eqv]
      | bl b => exact (show False from he).elim
      | int i => cases hq; simp [PyData.eqv]
      | str x => cases hq; simp [PyData.eqv]
      | tup ys =>
        unfold Dat.py at hq
        obtain ⟨qs, e1, rfl⟩ := Option.map_eq_some_iff.mp hq
        have := eqvs_py n xs ys ps qs hd.2 he.2 e0 e1
        simp only [PyData.eqv, Dat.tup.injEq]
        exact this
      | lst ys => unfold Dat.py at hq; obtain ⟨ps, e1, rfl⟩ := Option.map_eq_some_iff.mp hq; simp [PyData.eqv]
      | obj C fs => cases hq
      | dct kvs => cases hq
      | ho φ ex => cases hq
  | _, .obj _ _, _, _, _, _, _, hp, _ => by cases hp
  | _, .dct _, _, _, _, _, _, hp, _ => by cases hp
  | _, .ho _ _, _, _, _, _, _, hp, _ => by cases hp
theorem eqvs_py : ∀ (n : Nat) (xs ys : List Dat) (ps qs : List PyData), (∀ x ∈ xs, x.lv n) → (∀ x ∈ ys, x.lv n) → Dat.pys xs = some ps → Dat.pys ys = some qs → (PyData.eqvAll ps qs = true ↔ xs = ys)
  | _, [], ys, ps, qs, _, _, hp, hq => by
    cases hp
    cases ys with
    | nil => cases hq; simp [PyData.eqvAll]
    | cons y ys =>
      unfold Dat.pys at hq
      split at hq
      · cases hq; simp [PyData.eqvAll]
      · cases hq
  | n, x :: xs, ys, ps, qs, hd, he, hp, hq => by
    unfold Dat.pys at hp
    split at hp
    · rename_i p ps' e1 e2
      cases hp
      cases ys with
      | nil => cases hq; simp [PyData.eqvAll]
      | cons y ys =>
        unfold Dat.pys at hq
        split at hq
        · rename_i q qs' f1 f2
          cases hq
          simp only [PyData.eqvAll, Bool.and_eq_true, List.cons.injEq]
          rw [eqv_py n x y p q (hd x (by simp)) (he y (by simp)) e1 f1, eqvs_py n xs ys ps' qs' (fun z hz => hd z (by simp [hz])) (fun z hz => he z (by simp [hz])) e2 f2]
        · cases hq
    · cases hp
end
/-- the answer of == told by equality -/
theorem wEq_of {neg : Bool} {x y : Vl} {cs : Cells} {P : Vl → Cells → Prop} {d e : Dat} (n : Nat) (hn : n ≤ 60) (h1 : seen cs x = some d) (h2 : seen cs y = some e) (l1 : d.lv n) (l2 : e.lv n) (hy : d = e → P (.dat (.bl (!neg))) cs) (hno : d ≠ e → P (.dat (.bl neg)) cs) : wEqD neg x y cs P := by
  obtain ⟨p, e1, s1⟩ := shaped_lv hn l1
  obtain ⟨q, e2, s2⟩ := shaped_lv hn l2
  refine ⟨d, e, p, q, h1, h2, e1, e2, s1, s2, ?_⟩
  have key := eqv_py n d e p q l1 l2 e1 e2
  by_cases h : d = e
  · rw [key.mpr h]
    have := hy h
    cases neg <;> simpa using this
  · have : PyData.eqv p q = false := by
      cases q1 : PyData.eqv p q with
      | false => rfl
      | true => exact absurd (key.mp q1) h
    rw [this]
    have := hno h
    cases neg <;> simpa using this
theorem wEq_int {neg : Bool} {i j : Int} {cs : Cells} {P : Vl → Cells → Prop} : wEqD neg (.dat (.int i)) (.dat (.int j)) cs P ↔ P (.dat (.bl (if neg then !(i == j) else (i == j)))) cs := by
  constructor
  · rintro ⟨d, e, p, q, h1, h2, h3, h4, _, _, h⟩
    cases h1; cases h2; cases h3; cases h4
    simpa only [PyData.eqv] using h
  · intro h
    exact ⟨_, _, _, _, rfl, rfl, rfl, rfl, rfl, rfl, by simpa only [PyData.eqv] using h⟩
theorem wEq_bl {neg : Bool} {i j : Bool} {cs : Cells} {P : Vl → Cells → Prop} : wEqD neg (.dat (.bl i)) (.dat (.bl j)) cs P ↔ P (.dat (.bl (if neg then !(i == j) else (i == j)))) cs := by
  constructor
  · rintro ⟨d, e, p, q, h1, h2, h3, h4, _, _, h⟩
    cases h1; cases h2; cases h3; cases h4
    simpa only [PyData.eqv] using h
  · intro h
    exact ⟨_, _, _, _, rfl, rfl, rfl, rfl, rfl, rfl, by simpa only [PyData.eqv] using h⟩
/-! ### small facts for readings -/
theorem divOk {i j : Int} (h : 0 < j) (h2 : j ≤ 1000000000000000000000000000000) : CDivW i j := by
  refine wide_div (b := 100) h ?_ (by decide) (by decide)
  have : j.natAbs ≤ 1000000000000000000000000000000 := by omega
  exact Nat.lt_of_le_of_lt this (by decide)
theorem mulR {i j : Int} (h : -18446744073709551616 < j) (h2 : j < 18446744073709551616) : CMul i j := .inr ⟨by omega, by omega⟩
theorem mulL {i j : Int} (h : -18446744073709551616 < i) (h2 : i < 18446744073709551616) : CMul i j := .inl ⟨by omega, by omega⟩
theorem atI_nat {α : Type} {xs : List α} {i : Nat} {x : α} (h : xs[i]? = some x) : atI xs (i : Int) = some x := by
  have hl := (List.getElem?_eq_some_iff.mp h).1
  unfold atI ixN
  rw [if_pos (by omega), if_pos (by omega)]
  simpa using h
theorem atI_int {α : Type} {xs : List α} {i : Int} {x : α} (h0 : 0 ≤ i) (h : xs[i.toNat]? = some x) : atI xs i = some x := by
  have := atI_nat h
  rwa [Int.toNat_of_nonneg h0] at this
theorem atI_last {α : Type} {xs : List α} {x : α} (h : xs.getLast? = some x) : atI xs (-1) = some x := by
  have h0 : xs ≠ [] := by intro z; subst z; cases h
  have hl : 0 < xs.length := List.length_pos_iff.mpr h0
  unfold atI ixN
  rw [if_neg (by omega), if_pos (by omega)]
  rw [List.getLast?_eq_getElem?] at h
  show xs[((-1 : Int) + xs.length).toNat]? = some x
  rw [show ((-1 : Int) + xs.length).toNat = xs.length - 1 by omega]
  exact h
theorem ixN_nat {n i : Nat} (h : i < n) : ixN n (i : Int) = some i := by
  unfold ixN
  rw [if_pos (by omega), if_pos (by omega)]
  simp
theorem ixN_int {n : Nat} {i : Int} (h0 : 0 ≤ i) (h : i < n) : ixN n i = some i.toNat := by
  unfold ixN
  rw [if_pos h0, if_pos h]
/-! ### equations for the walk -/
section
variable {α : Type} {a b c d e f : α} {l : List α}
theorem at_0 : atI (a :: l) (0 : Int) = some a := atI_nat (i := 0) rfl
theorem at_1 : atI (a :: b :: l) (1 : Int) = some b := atI_nat (i := 1) rfl
theorem at_2 : atI (a :: b :: c :: l) (2 : Int) = some c := atI_nat (i := 2) rfl
theorem at_3 : atI (a :: b :: c :: d :: l) (3 : Int) = some d := atI_nat (i := 3) rfl
theorem at_4 : atI (a :: b :: c :: d :: e :: l) (4 : Int) = some e := atI_nat (i := 4) rfl
theorem at_5 : atI (a :: b :: c :: d :: e :: f :: l) (5 : Int) = some f := atI_nat (i := 5) rfl
theorem ix_0 {n : Nat} (h : 0 < n) : ixN n (0 : Int) = some 0 := ixN_nat (i := 0) h
theorem ix_1 {n : Nat} (h : 1 < n) : ixN n (1 : Int) = some 1 := ixN_nat (i := 1) h
theorem ix_2 {n : Nat} (h : 2 < n) : ixN n (2 : Int) = some 2 := ixN_nat (i := 2) h
theorem ix_3 {n : Nat} (h : 3 < n) : ixN n (3 : Int) = some 3 := ixN_nat (i := 3) h
end
section
variable {cs : Cells} {ds : List Dat} {d : Dat} {a : Addr} {xs : List Vl} {i : Int} {b : Bool} {z : Str} {x : Vl}
theorem seqD_lst : seqD cs (.dat (.lst ds)) = some (true, ds.map .dat) := rfl
theorem seqD_tp : seqD cs (.dat (.tup ds)) = some (false, ds.map .dat) := rfl
theorem seqD_cell : seqD cs (.raw (.ref a)) = coSeq (cs a) := rfl
theorem coSeq_lst : coSeq (some (.lst xs)) = some (true, xs) := rfl
theorem allDat_nil : allDat [] = some [] := rfl
theorem allDat_cons : allDat (.dat d :: xs) = (allDat xs).map (d :: ·) := rfl
theorem tyD_non : tyD cs (.dat .non) = some .non := rfl
theorem tyD_bl : tyD cs (.dat (.bl b)) = some .bool := rfl
theorem tyD_int : tyD cs (.dat (.int i)) = some .int := rfl
theorem tyD_str : tyD cs (.dat (.str z)) = some .str := rfl
theorem tyD_lst : tyD cs (.dat (.lst ds)) = some .list := rfl
theorem tyD_tup : tyD cs (.dat (.tup ds)) = some .tuple := rfl
theorem tyD_cell : tyD cs (.raw (.ref a)) = coTy (cs a) := rfl
theorem coTy_lst : coTy (some (.lst xs)) = some .list := rfl
theorem seen_dat : seen cs (.dat d) = some d := rfl
theorem seen_cell : seen cs (.raw (.ref a)) = coDat (cs a) := rfl
theorem coDat_lst : coDat (some (.lst xs)) = (allDat xs).map .lst := rfl
theorem isNon_non : isNon (.dat .non) = true := rfl
theorem isNon_bl : isNon (.dat (.bl b)) = false := rfl
theorem isNon_int : isNon (.dat (.int i)) = false := rfl
theorem isNon_str : isNon (.dat (.str z)) = false := rfl
theorem isNon_lst : isNon (.dat (.lst ds)) = false := rfl
theorem isNon_tup : isNon (.dat (.tup ds)) = false := rfl
theorem isNon_cell : isNon (.raw (.ref a)) = false := rfl
end
end DL
set_option maxRecDepth 100000
set_option maxHeartbeats 4000000
namespace DL
open PySem L2
/-! ### three at once -/
def wPar3 (i j l : Nat) (wa : WA) : WS := fun D ρ cs => wa ρ cs fun xs cs1 => ∃ x y z, xs = [x, y, z] ∧ D.nx (((ρ.set i (some x)).set j (some y)).set l (some z)) cs1
section
variable {X : Cx} {a b c e o : Expr} {es : List Expr} {wa wb wc we wo : WE} {w u : WT} {wr : WA} {pos : Pos}
theorem ds_par3 {i j l : Nat} {x y z : Str} {px py pz pt pt2 : Pos} {kt k2 : Nat} (hc : X.calm = true) (hN : X.N.Nodup) (ha : DA X [a, b, c] wr) (hi : X.N[i]? = some x := by rfl) (hj : X.N[j]? = some y := by rfl) (hl : X.N[l]? = some z := by rfl) (hij : i ≠ j := by decide) (hil : i ≠ l := by decide) (hjl : j ≠ l := by decide)
    (hx : X.env.scope.names.lookup x = some .local := by rfl) (hy : X.env.scope.names.lookup y = some .local := by rfl) (hz : X.env.scope.names.lookup z = some .local := by rfl)
    (hw : swappedStores [.Tuple [.Name x px, .Name y py, .Name z pz] kt pt] (.Tuple [a, b, c] k2 pt2) X.env = pure (some [x, y, z]) := by rfl)
    (hs : swapsWithSole [.Tuple [.Name x px, .Name y py, .Name z pz] kt pt] (.Tuple [a, b, c] k2 pt2) pos.line X.env = pure false := by rfl) :
    DS X (.Assign [.Tuple [.Name x px, .Name y py, .Name z pz] kt pt] (.Tuple [a, b, c] k2 pt2) pos) (wPar3 i j l wr) :=
  ps_imp (ps_par3 hc hN hi hj hl hij hil hjl hx hy hz ha hw hs) fun E σ H ⟨M, ρ, cs, D, o, r, h, e⟩ => ⟨M, ρ, cs, _, o, r, h, fun vs xs M' H' cs' s o' rv ⟨x1, y1, z1, ex, p⟩ => by
    subst ex
    cases rv with
    | cons r1 rr =>
      cases rr with
      | cons r2 rr =>
        cases rr with
        | cons r3 rr =>
          cases rr
          exact ⟨_, _, _, rfl, e.nx _ _ M' H' cs' s o' ((((r.mono s).set r1).set r2).set r3) p⟩⟩
/-! ### slices -/
abbrev WO := DEnv → Cells → (Option Int → Cells → Prop) → Prop
def KontO (K : Frag) (M : Hp) (P : Option Int → Cells → Prop) (Q : Option Int → Hp → Prop) : Prop := ∀ b M' H' cs', Same M M' → Ok K M' H' cs' → P b cs' → Q b H'
def liftO (K : Frag) (w : WO) : TO := fun σ H Q => ∃ M ρ cs P, Ok K M H cs ∧ Rho K M σ ρ ∧ w ρ cs P ∧ KontO K M P Q
def DOp (X : Cx) (e : Option Expr) (w : WO) : Prop := PO X e (liftO X.K w)
theorem po_imp {e : Option Expr} {t t' : TO} (h : PO X e t) (m : ∀ σ H Q, t' σ H Q → t σ H Q) : PO X e t' := ⟨fun pins s σ H Q I q => h.run pins s σ H Q I (m σ H Q q)⟩
def wNoPart : WO := fun _ cs P => P none cs
def wPart (we : WE) : WO := fun ρ cs P => we ρ cs fun x cs1 => ∃ i, x = .dat (.int i) ∧ P (some i) cs1
theorem do_none : DOp X none wNoPart := po_imp po_none fun σ H Q ⟨M, ρ, cs, P, o, r, p, k⟩ => k none M H cs (Same.refl _) o p
theorem do_some (h : DE X e we) : DOp X (some e) (wPart we) := po_imp (po_some h) fun σ H Q ⟨M, ρ, cs, P, o, r, p, k⟩ => ⟨M, ρ, cs, _, o, r, p, fun v x M' H' cs' s o' rv ⟨i, ex, p1⟩ => by
  subst ex
  exact ⟨i, inv_int rv, k _ M' H' cs' s o' p1⟩⟩
def cutD {α : Type} (xs : List α) (lo hi : Option Int) : List α := (xs.drop (HT.sIx xs.length 0 lo)).take (HT.sIx xs.length xs.length hi - HT.sIx xs.length 0 lo)
theorem Paired.drop {α β : Type} {R : α → β → Prop} : ∀ {xs : List α} {ys : List β} (n : Nat), Paired R xs ys → Paired R (xs.drop n) (ys.drop n)
  | _, _, 0, h => h
  | _, _, _ + 1, .nil => .nil
  | _, _, n + 1, .cons _ k => Paired.drop n k
theorem Paired.take {α β : Type} {R : α → β → Prop} : ∀ {xs : List α} {ys : List β} (n : Nat), Paired R xs ys → Paired R (xs.take n) (ys.take n)
  | _, _, 0, _ => by rw [List.take_zero, List.take_zero]; exact .nil
  | _, _, _ + 1, .nil => .nil
  | _, _, n + 1, .cons h k => .cons h (Paired.take n k)
theorem paired_cut {K : Frag} {M : Hp} {vs : List V} {xs : List Vl} {lo hi : Option Int} (h : Paired (RV K M) vs xs) : Paired (RV K M) (cutV vs lo hi) (cutD xs lo hi) := by
  unfold cutV cutD
  rw [Paired.len h]
  exact Paired.take _ (Paired.drop _ h)
theorem cutD_map {α β : Type} (f : α → β) (xs : List α) (lo hi : Option Int) : cutD (xs.map f) lo hi = (cutD xs lo hi).map f := by
  unfold cutD
  rw [List.length_map, List.map_take, List.map_drop]
/-- xs[lo:hi] of a list: a new list -/
def wSlL (we : WE) (wl wh : WO) : WE := fun ρ cs P => we ρ cs fun x cs1 => wl ρ cs1 fun lo cs2 => wh ρ cs2 fun hi cs3 => ∃ xs, seqD cs3 x = some (true, xs) ∧ newL (cutD xs lo hi) cs3 P
theorem de_slL {lo hi : Option Expr} {wl wh : WO} {p2 : Pos} (he : DE X e we) (hl : DOp X lo wl) (hh : DOp X hi wh) : DE X (.Subscript e (.Slice lo hi none p2) pos) (wSlL we wl wh) :=
  pe_imp (pe_slice sl_list he hl hh) fun σ H Q ⟨M, ρ, cs, P, o, r, p, k⟩ => ⟨M, ρ, cs, _, o, r, p, fun v x M1 H1 cs1 s1 o1 r1 p1 =>
    ⟨M1, ρ, cs1, _, o1, r.mono s1, p1, fun lo M2 H2 cs2 s2 o2 p2 => ⟨M2, ρ, cs2, _, o2, r.mono (s1.trans s2), p2, fun hi M3 H3 cs3 s3 o3 ⟨xs, hx, p3⟩ => by
      obtain ⟨ad, vs, ev, q, pr⟩ := seqD_list o3 (r1.mono (s2.trans s3)) hx
      exact ⟨ad, vs, ev, q, newL_ok o3 (paired_cut pr) p3 (k.mono (s1.trans (s2.trans s3)))⟩⟩⟩⟩
/-- t[lo:hi] of a tuple: data -/
def wSlT (we : WE) (wl wh : WO) : WE := fun ρ cs P => we ρ cs fun x cs1 => wl ρ cs1 fun lo cs2 => wh ρ cs2 fun hi cs3 => ∃ ds, x = .dat (.tup ds) ∧ P (.dat (.tup (cutD ds lo hi))) cs3
theorem de_slT {lo hi : Option Expr} {wl wh : WO} {p2 : Pos} (he : DE X e we) (hl : DOp X lo wl) (hh : DOp X hi wh) : DE X (.Subscript e (.Slice lo hi none p2) pos) (wSlT we wl wh) :=
  pe_imp (pe_slice sl_tupA he hl hh) fun σ H Q ⟨M, ρ, cs, P, o, r, p, k⟩ => ⟨M, ρ, cs, _, o, r, p, fun v x M1 H1 cs1 s1 o1 r1 p1 =>
    ⟨M1, ρ, cs1, _, o1, r.mono s1, p1, fun lo M2 H2 cs2 s2 o2 p2 => ⟨M2, ρ, cs2, _, o2, r.mono (s1.trans s2), p2, fun hi M3 H3 cs3 s3 o3 ⟨ds, hx, p3⟩ => by
      subst hx
      have s23 := s2.trans s3
      have k3 := k.mono (s1.trans s23)
      have r3 := r1.mono s23
      obtain ⟨ad, vs, ev, q, pr⟩ := seqD_tup o3 r3 (xs := ds.map .dat) rfl
      refine ⟨ad, vs, ev, q, fun hw => ?_, fun _ => newT_ok o3 (by rw [← cutD_map]; exact paired_cut pr) p3 k3⟩
      have hl : vs.length = ds.length := (Paired.len pr).trans (List.length_map _)
      rw [hl] at hw
      have hc : cutD ds lo hi = ds := by
        unfold cutD
        rw [hw.1, hw.2, List.drop_zero, Nat.sub_zero, List.take_length]
      rw [hc] at p3
      rw [← ev]
      exact k3 _ _ M3 H3 cs3 (Same.refl _) o3 r3 p3⟩⟩⟩
/-! ### t + u of tuples -/
def wCatT : W2 := fun x y cs P => ∃ ds es, x = .dat (.tup ds) ∧ y = .dat (.tup es) ∧ ds.length + es.length ≤ 16777216 ∧ P (.dat (.tup (ds ++ es))) cs
theorem de_catT (ha : DE X a wa) (hb : DE X b wb) : DE X (.BinOp a .Add b pos) (wOp wCatT wa wb) := de_op op_catA (fun M H cs x y a b P Q o rx ry ⟨ds, es, ea, eb, hz, hn⟩ k => by
  subst ea eb
  obtain ⟨ad, vs, ev, q, pr⟩ := seqD_tup o rx (xs := ds.map .dat) rfl
  obtain ⟨bd, us, eu, q2, pr2⟩ := seqD_tup o ry (xs := es.map .dat) rfl
  have l1 : vs.length = ds.length := (Paired.len pr).trans (List.length_map _)
  have l2 : us.length = es.length := (Paired.len pr2).trans (List.length_map _)
  refine ⟨ad, bd, vs, us, ev, eu, q, q2, by rw [l1, l2]; exact size_line hz, fun h0 => ?_, fun _ h0 => ?_, fun _ _ => newT_ok o (by rw [List.map_append]; exact Paired.app pr pr2) hn k⟩
  · rw [h0] at l1
    have : ds = [] := List.length_eq_zero_iff.mp l1.symm
    subst this
    rw [← eu]
    exact k _ _ M H cs (Same.refl _) o ry hn
  · rw [h0] at l2
    have : es = [] := List.length_eq_zero_iff.mp l2.symm
    subst this
    rw [← ev]
    rw [List.append_nil] at hn
    exact k _ _ M H cs (Same.refl _) o rx hn) ha hb
/-! ### int(b), max(xs), min(xs), sum(xs) -/
def wInt : WN := fun xs cs P => (∃ i, xs = [.dat (.int i)] ∧ P (.dat (.int i)) cs) ∨ ∃ b, xs = [.dat (.bl b)] ∧ P (.dat (.int (if b then 1 else 0))) cs
theorem rn_int {K : Frag} : RNOk K (fun xs H Q => (∃ i, xs = [.int i] ∧ Q (.int i) H) ∨ ∃ k, xs = [.bl k] ∧ Q (.int (if k then 1 else 0)) H) wInt := fun M H cs xs as P Q o r h k => by
  rcases h with ⟨i, e, p⟩ | ⟨b, e, p⟩
  · subst e
    cases r with
    | cons r1 rr =>
      cases rr
      exact .inl ⟨i, by rw [inv_int r1], k _ _ M H cs (Same.refl _) o (rv_dat (.int _)) p⟩
  · subst e
    cases r with
    | cons r1 rr =>
      cases rr
      exact .inr ⟨b, by rw [inv_bl r1], k _ _ M H cs (Same.refl _) o (rv_dat (.int _)) p⟩
theorem de_int1 {p : Pos} (hm : X.mg "int" = none) (ha : DA X [e] wr) (hg : Gl X "int" := by rfl) (he : starEach [e] X.env = (false, eval e X.env) :: starEach [] X.env := by rfl) (hpl : (backTo pos (starEach [] X.env)).any (·.1) = false := by rfl) :
    DE X (.Call (.Name "int" p) [e] [] pos) (wFn wInt wr) := de_callTy call_int1 rn_int hm (by decide +kernel) ha hg (by decide) (by decide) he hpl
theorem paired_ints {K : Frag} {M : Hp} : ∀ {ns : List Int} {vs : List V}, Paired (RV K M) vs (ns.map fun i => Vl.dat (.int i)) → vs = ns.map V.int
  | [], _, .nil => rfl
  | n :: ns, _, .cons r k => by rw [inv_int r, paired_ints k]; rfl
def wMax : WN := fun xs cs P => ∃ (x : Vl) (ns : List Int), xs = [x] ∧ seqD cs x = some (true, ns.map fun i => Vl.dat (.int i)) ∧ 0 < ns.length ∧ ∀ m, m ∈ ns → (∀ y ∈ ns, y ≤ m) → P (.dat (.int m)) cs
def wMin : WN := fun xs cs P => ∃ (x : Vl) (ns : List Int), xs = [x] ∧ seqD cs x = some (true, ns.map fun i => Vl.dat (.int i)) ∧ 0 < ns.length ∧ ∀ m, m ∈ ns → (∀ y ∈ ns, m ≤ y) → P (.dat (.int m)) cs
def wSum : WN := fun xs cs P => ∃ (x : Vl) (ns : List Int), xs = [x] ∧ seqD cs x = some (true, ns.map fun i => Vl.dat (.int i)) ∧ P (.dat (.int ns.sum)) cs
theorem rn_max {K : Frag} : RNOk K (rMax K) wMax := fun M H cs xs as P Q o r ⟨x, ns, e, h, h0, p⟩ k => by
  subst e
  cases r with
  | cons r1 rr =>
    cases rr
    obtain ⟨ad, vs, ev, q, pr⟩ := seqD_list o r1 h
    rw [paired_ints pr] at q
    exact ⟨ad, ns, by rw [ev], q, h0, fun m hm hle => k _ _ M H cs (Same.refl _) o (rv_dat (.int _)) (p m hm hle)⟩
theorem rn_min {K : Frag} : RNOk K (rMin K) wMin := fun M H cs xs as P Q o r ⟨x, ns, e, h, h0, p⟩ k => by
  subst e
  cases r with
  | cons r1 rr =>
    cases rr
    obtain ⟨ad, vs, ev, q, pr⟩ := seqD_list o r1 h
    rw [paired_ints pr] at q
    exact ⟨ad, ns, by rw [ev], q, h0, fun m hm hle => k _ _ M H cs (Same.refl _) o (rv_dat (.int _)) (p m hm hle)⟩
theorem de_max {p : Pos} (hc : X.calm = true) (hm : X.mg "max" = none) (ha : DA X [e] wr) (hg : Gl X "max" := by rfl) (he : starEach [e] X.env = (false, eval e X.env) :: starEach [] X.env := by rfl) (hpl : (backTo pos (starEach [] X.env)).any (·.1) = false := by rfl) :
    DE X (.Call (.Name "max" p) [e] [] pos) (wFn wMax wr) := de_callB (cr_max hc) rn_max hm (by decide +kernel) ha hg (by decide) (by decide) he hpl
theorem de_min {p : Pos} (hc : X.calm = true) (hm : X.mg "min" = none) (ha : DA X [e] wr) (hg : Gl X "min" := by rfl) (he : starEach [e] X.env = (false, eval e X.env) :: starEach [] X.env := by rfl) (hpl : (backTo pos (starEach [] X.env)).any (·.1) = false := by rfl) :
    DE X (.Call (.Name "min" p) [e] [] pos) (wFn wMin wr) := de_callB (cr_min hc) rn_min hm (by decide +kernel) ha hg (by decide) (by decide) he hpl
end
/-! ### sorted(xs), len(set(xs)): tuples of ints -/
def tupI (ns : List Int) : Dat := .tup (ns.map .int)
theorem dr_tupI {K : Frag} {M : Hp} {v : V} {ns : List Int} (h : Dr K M v (tupI ns)) : TupI K M v ns := by
  unfold tupI at h
  cases h with
  | tup q k =>
    refine ⟨_, rfl, ?_⟩
    have := paired_ints (ns := ns) (by have := k.paired; rwa [List.map_map] at this)
    rwa [this] at q
theorem dr_tupI' {K : Frag} {M H : Hp} {cs : Cells} {v : V} {ns : List Int} (o : Ok K M H cs) (h : Dr K M v (tupI ns)) : TupI K H v ns := by
  obtain ⟨t, e, q⟩ := dr_tupI h
  exact ⟨t, e, o.seqT q⟩
def leI (x y : List Int) : Bool := decide (x ≤ y)
def rSortT (K : PySem.W.Frag) : List V → Hp → VK → Prop := fun vs H Q => ∃ (a : Addr) (xs : List V) (nss : List (List Int)), vs = [V.ref a] ∧ SqL K H a xs ∧ Paired (TupI K H) xs nss ∧ (∀ n ∈ nss, n ≠ []) ∧
  ∀ (bs : List (V × List Int)) (p : Addr), bs.Perm (xs.zip nss) → bs.map (·.2) = nss.mergeSort leI → H p = none → Q (.ref p) (upd H p (.lst (bs.map (·.1))))
theorem pair_zip {α β : Type} {R : α → β → Prop} : ∀ {xs : List α} {ys : List β}, Paired R xs ys → ∀ q ∈ xs.zip ys, R q.1 q.2
  | _, _, .nil, q, h => absurd h (by simp)
  | _, _, .cons r k, q, h => by
    rw [List.zip_cons_cons] at h
    rcases List.mem_cons.mp h with e | h
    · rw [e]; exact r
    · exact pair_zip k q h
theorem zip_fst {α β : Type} : ∀ {xs : List α} {ys : List β}, xs.length = ys.length → (xs.zip ys).map (·.1) = xs ∧ (xs.zip ys).map (·.2) = ys
  | [], [], _ => ⟨rfl, rfl⟩
  | x :: xs, y :: ys, h => by
    obtain ⟨h1, h2⟩ := zip_fst (xs := xs) (ys := ys) (by simpa using h)
    exact ⟨by simp [h1], by simp [h2]⟩
  | [], _ :: _, h => by simp at h
  | _ :: _, [], h => by simp at h
section
open PySem.W
theorem each_vals {α : Type} {R : Value → V × α → Prop} (hR : ∀ v b, R v b → RelV b.1 v) : ∀ {vs : List Value} {bs : List (V × α)}, EachIs R vs bs → Vals (bs.map (·.1)) vs
  | _, _, .nil => .nil
  | _, _, .cons h t => .cons (hR _ _ h) (each_vals hR t)
theorem vals_each {α : Type} {xs : List V} {us : List Value} (r : Vals xs us) : ∀ {ys : List α}, xs.length = ys.length → EachIs (fun v (b : V × α) => RelV b.1 v ∧ b ∈ xs.zip ys) us (xs.zip ys) := by
  induction r with
  | nil => intro ys h; exact .nil
  | cons a k ih =>
    intro ys h
    cases ys with
    | nil => cases h
    | cons y ys =>
      rw [List.zip_cons_cons]
      refine .cons ⟨a, by simp⟩ ((ih (ys := ys) (by simpa using h)).mono fun v b q => ⟨q.1, by simp [q.2]⟩)
end
section
variable {X : Cx}
theorem cr_sortTup (hu : X.A.units + 64 < cLine) : CallR X (.builtin "sorted") (rSortT X.K) := by
  intro pins s σ H vs us Q I r h
  obtain ⟨a, xs, nss, rfl, hs, hx, hne, q⟩ := h
  obtain ⟨its, rv, hl, hz⟩ := I.list hs
  rw [Vals.ref1 r]
  have hlen := Paired.len hx
  have er : PySem.W.EachIs (fun v (b : V × List Int) => RelV b.1 v ∧ b ∈ xs.zip nss) its (xs.zip nss) := vals_each rv hlen
  have key : ∀ b ∈ xs.zip nss, TupI X.K H b.1 b.2 := pair_zip hx
  have dpOf : ∀ b ∈ xs.zip nss, Dp X.K H b.1 (.tuple (b.2.map .int)) := fun b hb => by
    obtain ⟨t, e, ht⟩ := key b hb
    rw [e]
    refine .tup ht ?_
    generalize b.2 = ns
    induction ns with
    | nil => exact .nil
    | cons n ns ih => exact .cons (.int n) ih
  have hle : PySem.W.dataLe false (fun b : V × List Int => PyData.tuple (b.2.map .int)) = fun p q => leI p.2 q.2 := by
    funext p q
    show (!PySem.W.dataLt (.tuple (q.2.map .int)) (.tuple (p.2.map .int))) = _
    rw [PySem.W.dataLt_tuple]
    show (!PySem.W.rowLt (q.2.map .int) (p.2.map .int)) = _
    rw [PySem.W.dataLt_ints]
    unfold leI
    by_cases h : q.2 < p.2
    · have h' : ¬ p.2 ≤ q.2 := fun r => List.not_lt.mpr r h
      simp [h, h']
    · have h' : p.2 ≤ q.2 := List.not_lt.mp h
      simp [h, h']
  refine PySem.W.sorted_data (enc := fun b : V × List Int => PyData.tuple (b.2.map .int)) (R := fun v b => RelV b.1 v) (bs := xs.zip nss) hl.isList (er.mono fun _ _ q => q.1)
    (er.mono fun v b q => Dp.reads I _ _ _ (dpOf b q.2) q.1) (PySem.W.AllAlike.of fun b b' => by simp only [PySem.W.alike]; exact PySem.W.alike_ints _ _) (.inl fun d hd => ?_) ?_ (fun b hb => ?_) fun out ho eo => ?_
  · obtain ⟨b, hb, e⟩ := List.mem_map.mp hd
    have := hne b.2 (List.of_mem_zip (show (b.1, b.2) ∈ _ from hb)).2
    cases e2 : b.2 with
    | nil => exact absurd e2 this
    | cons n ns => exact ⟨.int n, ns.map .int, by rw [← e, e2]; rfl⟩
  · rw [List.length_zip, hlen, Nat.min_self, ← hlen]; exact hz
  · show _ + 2 + PyData.depth (.tuple (b.2.map .int)) < cLine
    unfold PyData.depth
    rw [PySem.W.depth_ints]
    omega
  · rw [hle] at eo
    obtain ⟨ep, he'⟩ := PyProof.Rows.sortedAll_at s.heap its out.toArray
    have hv := each_vals (R := fun v (b : V × List Int) => RelV b.1 v) (fun _ _ q => q) eo
    have pm : ((xs.zip nss).mergeSort fun p q => leI p.2 q.2).Perm (xs.zip nss) := List.mergeSort_perm _ _
    have hll : (((xs.zip nss).mergeSort fun p q => leI p.2 q.2).map (·.1)).length ≤ sizeLine := by
      rw [List.length_map, pm.length_eq, List.length_zip, hlen, Nat.min_self, ← hlen]; exact hz
    refine ⟨.ref _, upd H (s.heap.objs.size + 1) (.lst (((xs.zip nss).mergeSort fun p q => leI p.2 q.2).map (·.1))), I.laid (t' := s.toks) (fun _ _ => PyProof.Rows.sortedAll_old) (Nat.le_succ _) ⟨hll, out, ep, hv, he'⟩, rfl, q _ _ pm ?_ (I.hok.fresh (Nat.le_succ _))⟩
    rw [List.map_mergeSort (s := leI) (fun _ _ _ _ => rfl), (zip_fst hlen).2]
def wSortT : WN := fun xs cs P => ∃ (x : Vl) (nss : List (List Int)), xs = [x] ∧ seqD cs x = some (true, nss.map fun ns => Vl.dat (tupI ns)) ∧ (∀ n ∈ nss, n ≠ []) ∧ newL ((nss.mergeSort leI).map fun ns => Vl.dat (tupI ns)) cs P
theorem zip_paired {α β : Type} {R : α → β → Prop} : ∀ {bs : List (α × β)}, (∀ q ∈ bs, R q.1 q.2) → Paired R (bs.map (·.1)) (bs.map (·.2))
  | [], _ => .nil
  | b :: bs, h => .cons (h b (by simp)) (zip_paired fun q hq => h q (by simp [hq]))
theorem paired_mapR {α β γ : Type} {R : α → γ → Prop} (f : β → γ) : ∀ {xs : List α} {ys : List β}, Paired (fun a b => R a (f b)) xs ys → Paired R xs (ys.map f)
  | _, _, .nil => .nil
  | _, _, .cons h k => .cons h (paired_mapR f k)
theorem paired_mapR' {α β γ : Type} {R : α → γ → Prop} (f : β → γ) : ∀ {xs : List α} {ys : List β}, Paired R xs (ys.map f) → Paired (fun a b => R a (f b)) xs ys
  | _, [], .nil => .nil
  | _, _ :: _, .cons h k => .cons h (paired_mapR' f k)
theorem rn_sortT {K : Frag} : RNOk K (rSortT K) wSortT := fun M H cs xs as P Q o r ⟨x, nss, e, h, hne, p⟩ k => by
  subst e
  cases r with
  | cons r1 rr =>
    cases rr
    obtain ⟨ad, vs, ev, q, pr⟩ := seqD_list o r1 h
    have pr' := paired_mapR' _ pr
    refine ⟨ad, vs, nss, by rw [ev], q, paired_mono (fun v ns h => dr_tupI' o h) pr', hne, fun bs pp pm hs hp => ?_⟩
    refine newL_ok o (xs := (nss.mergeSort leI).map fun ns => Vl.dat (tupI ns)) ?_ p k pp hp
    rw [← hs]
    refine paired_mapR _ (zip_paired fun b hb => ?_)
    exact pair_zip pr' b (pm.mem_iff.mp hb)
end
section
variable {X : Cx} {a b c e o : Expr} {es : List Expr} {wa wb wc we wo : WE} {w u : WT} {wr : WA} {pos : Pos}
theorem de_sortT {p : Pos} (hu : X.A.units + 64 < cLine) (hm : X.mg "sorted" = none) (ha : DA X [e] wr) (hg : Gl X "sorted" := by rfl) (he : starEach [e] X.env = (false, eval e X.env) :: starEach [] X.env := by rfl) (hpl : (backTo pos (starEach [] X.env)).any (·.1) = false := by rfl) :
    DE X (.Call (.Name "sorted" p) [e] [] pos) (wFn wSortT wr) := de_callB (cr_sortTup hu) rn_sortT hm (by decide +kernel) ha hg (by decide) (by decide) he hpl
def tLenSetT (K : PySem.W.Frag) (ta : TE) : TE := fun σ H Q => ta σ H fun x H1 => ∃ (l : Addr) (ks : List (Addr × List Int)), x = V.ref l ∧ SqL K H1 l (ks.map fun p => V.ref p.1) ∧ (∀ p ∈ ks, SqT K H1 p.1 (p.2.map V.int)) ∧ ks.length < 64 ∧ (ks.map (·.2)).Nodup ∧ Q (.int ks.length) H1
theorem nodup_len {α : Type} [DecidableEq α] : ∀ {l m : List α}, l.Nodup → (∀ x ∈ l, x ∈ m) → l.length ≤ m.length
  | [], _, _, _ => Nat.zero_le _
  | x :: l, m, hn, hs => by
    have hx : x ∈ m := hs x (by simp)
    obtain ⟨h1, h2⟩ := List.nodup_cons.mp hn
    have := nodup_len (l := l) (m := m.erase x) h2 fun y hy => (List.mem_erase_of_ne (by intro z; exact h1 (z ▸ hy))).mpr (hs y (by simp [hy]))
    rw [List.length_erase_of_mem hx] at this
    have : 0 < m.length := List.length_pos_of_mem hx
    simp only [List.length_cons]
    omega
open PySem.Spec PyProof.Rows in
theorem pe_lenSetT {ta : TE} {p p2 q : Pos} (hc : X.calm = true) (hu : X.A.units + 64 < cLine) (hm : X.mg "len" = none) (hm2 : X.mg "set" = none) (ha : PE X a ta) (hg : Gl X "len" := by rfl) (hg2 : Gl X "set" := by rfl)
    (na : starEach [a] X.env = (false, eval a X.env) :: starEach [] X.env := by rfl) : PE X (.Call (.Name "len" p) [.Call (.Name "set" p2) [a] [] q] [] pos) (tLenSetT X.K ta) := by
  refine ⟨fun pins s σ H Q I h => Call_ (ld_blt I hg hm PySem.boot_len ?_)⟩
  refine PyProof.Rows.callWith_builtin1 (PyProof.Rows.args_cons (Call_ (ld_blt I hg2 hm2 PyProof.Rows.boot_set ?_)) rfl) rfl rfl
  refine PyProof.Rows.callWith_type1 (PyProof.Rows.args_cons (thn (ha.run pins s σ H _ I h) fun v s1 ⟨x, H1, I1, r1, q1⟩ => PyProof.Rows.args_nil ?_) na) na rfl
  obtain ⟨l, ks, rfl, hq, hk, h64, hnd, q1⟩ := q1
  cases r1
  obtain ⟨its, rv, pl, hz⟩ := I1.list hq
  refine call_set_tups (P := X.prog) (w := X.w) ks (I1.ok.hd hc) pl.isList (by simpa using refs_of_vals rv) (fun p hp => I1.isT (hk p hp)) h64 (by omega) fun h' tk L es ep t R g kp => ?_
  have hL : L.length = ks.length := by
    have h1 : (L.map (·.2)).length ≤ (ks.map (·.2)).length := nodup_len R.nd fun y hy => by
      obtain ⟨p, hp, e⟩ := List.mem_map.mp hy
      exact List.mem_map.mpr ⟨p, List.mem_of_mem_take (g.sub p hp), e⟩
    have h2 : (ks.map (·.2)).length ≤ (L.map (·.2)).length := nodup_len hnd fun y hy => by
      obtain ⟨p, hp, e⟩ := List.mem_map.mp hy
      rw [← e]
      exact g.all p (by rw [List.take_length]; exact hp)
    simp only [List.length_map] at h1 h2
    omega
  obtain ⟨o, ho, hex, hd⟩ := R.ob
  have hes : es.size = ks.length := by
    rw [← Array.length_toList, R.rows]
    unfold rowsOf
    rw [List.length_map]; exact hL
  refine PyProof.Rows.args_nil ?_
  have I2 : Inv X pins σ H1 { s1 with heap := h', toks := tk } := I1.kept fun b o e => kp b o e
  exact call_len_set ho hex hd (SetTR.fits (s := { s1 with heap := h', toks := tk }) R) (by rw [hes]; omega) ⟨.int ks.length, H1, I2.tok _, ⟨_, by rw [hes]⟩, q1⟩
theorem seq_refs {K : Frag} {H : Hp} : ∀ {vs : List V} {nss : List (List Int)}, Paired (TupI K H) vs nss → ∃ ks : List (Addr × List Int), vs = ks.map (fun p => V.ref p.1) ∧ nss = ks.map (·.2) ∧ ∀ p ∈ ks, SqT K H p.1 (p.2.map V.int)
  | _, _, .nil => ⟨[], rfl, rfl, fun _ h => absurd h (by simp)⟩
  | _, _, .cons ⟨t, e, h⟩ k => by
    obtain ⟨ks, e1, e2, h2⟩ := seq_refs k
    refine ⟨(t, _) :: ks, by rw [e, e1]; rfl, by rw [e2]; rfl, fun p hp => ?_⟩
    rcases List.mem_cons.mp hp with z | z
    · rw [z]; exact h
    · exact h2 p z
def wLenSet (we : WE) : WE := fun ρ cs P => we ρ cs fun x cs1 => ∃ nss : List (List Int), seqD cs1 x = some (true, nss.map fun ns => Vl.dat (tupI ns)) ∧ nss.length < 64 ∧ nss.Nodup ∧ P (.dat (.int nss.length)) cs1
theorem de_lenSet {p p2 q : Pos} (hc : X.calm = true) (hu : X.A.units + 64 < cLine) (hm : X.mg "len" = none) (hm2 : X.mg "set" = none) (ha : DE X a wa) (hg : Gl X "len" := by rfl) (hg2 : Gl X "set" := by rfl)
    (na : starEach [a] X.env = (false, eval a X.env) :: starEach [] X.env := by rfl) : DE X (.Call (.Name "len" p) [.Call (.Name "set" p2) [a] [] q] [] pos) (wLenSet wa) :=
  pe_imp (pe_lenSetT hc hu hm hm2 ha hg hg2 na) fun σ H Q ⟨M, ρ, cs, P, o, r, p, k⟩ => ⟨M, ρ, cs, _, o, r, p, fun v x M1 H1 cs1 s1 o1 r1 ⟨nss, hx, h64, hnd, p1⟩ => by
    obtain ⟨ad, vs, ev, q, pr⟩ := seqD_list o1 r1 hx
    have pr' := paired_mapR' _ pr
    obtain ⟨ks, e1, e2, h2⟩ := seq_refs (paired_mono (fun v ns h => dr_tupI' o1 h) pr')
    rw [e1] at q
    have hl : ks.length = nss.length := by rw [e2, List.length_map]
    exact ⟨ad, ks, ev, q, h2, by rw [hl]; exact h64, by rw [← e2]; exact hnd, by rw [hl]; exact k _ _ M1 H1 cs1 s1 o1 (rv_dat (.int _)) p1⟩⟩
end
end DL
set_option maxRecDepth 100000
set_option maxHeartbeats 4000000
/-! What runs can't wake a generator that is never woken: its state in the table stays, whatever it is. -/
namespace GT
open PySem
open Sem (wp)
def isR : Frame → Bool
  | .ret .. => true
  | .gen .. => false
theorem split_isR : ∀ {fs : List Frame}, fs.all isR = true → splitAtGen fs = none
  | [], _ => rfl
  | .ret .. :: fs, h => by
    have : fs.all isR = true := by simpa [isR] using h
    unfold splitAtGen
    rw [split_isR this]; rfl
  | .gen .. :: fs, h => by simp [isR] at h
def susp : GenState → Bool
  | .suspended .. => true
  | _ => false
def deaf : GenState → GenState
  | .suspended _ l c p fs cl => .suspended (fun _ => .unsupported "") l c p fs cl
  | x => x
def wfG : GenState → Bool
  | .suspended _ _ _ _ fs _ => fs.all isR
  | _ => true
def wfE : End → Bool
  | .ret _ => true
  | .susp _ _ _ _ _ _ fs => fs.all isR
theorem deaf_seen (x : GenState) : (deaf x).seen = x.seen := by cases x <;> rfl
theorem deaf_bare (x : GenState) : (deaf x).bare = x.bare := by cases x <;> rfl
theorem genState_wf {e : End} (h : wfE e = true) : wfG e.genState = true := by
  cases e with
  | ret r => rfl
  | susp v g l k c p fs => exact h
def thaw (R : Nat → Option GenState) (s : Shared) : Shared := { s with gens := s.gens.mapIdx fun i x => (R i).getD x }
structure Good (R : Nat → Option GenState) (s : Shared) : Prop where
  deaf : ∀ i r, R i = some r → susp r = true ∧ s.gens[i]? = some (deaf r)
  wf : ∀ i x, s.gens[i]? = some x → R i = none → wfG x = true
section
variable {R : Nat → Option GenState} {s : Shared} {g : Nat} {x : GenState}
theorem thaw_size : (thaw R s).gens.size = s.gens.size := by simp [thaw]
theorem thaw_get (i : Nat) : (thaw R s).gens[i]? = (s.gens[i]?).map fun x => (R i).getD x := by simp [thaw]
theorem thaw_get0 (h : R g = none) : (thaw R s).gens[g]? = s.gens[g]? := by
  rw [thaw_get, h]; cases s.gens[g]? <;> rfl
theorem thaw_set (h : R g = none) : thaw R (s.setGen g x) = (thaw R s).setGen g x := by
  unfold thaw Shared.setGen
  congr 1
  refine Array.ext_getElem? fun i => ?_
  rw [Array.getElem?_mapIdx, Array.getElem?_setIfInBounds, Array.getElem?_setIfInBounds, Array.getElem?_mapIdx]
  by_cases e : g = i
  · subst e
    rw [if_pos rfl, if_pos rfl, Array.size_mapIdx]
    split
    · rw [h]; rfl
    · rfl
  · rw [if_neg e, if_neg e]
theorem Good.lt (G : Good R s) {i : Nat} {r : GenState} (h : R i = some r) : i < s.gens.size := (Array.getElem?_eq_some_iff.mp (G.deaf i r h).2).1
theorem Good.new (G : Good R s) : R s.gens.size = none := by
  cases e : R s.gens.size with
  | none => rfl
  | some r => exact absurd (G.lt e) (Nat.lt_irrefl _)
theorem thaw_push (G : Good R s) : thaw R { s with gens := s.gens.push x } = { thaw R s with gens := (thaw R s).gens.push x } := by
  unfold thaw
  congr 1
  show (s.gens.push x).mapIdx _ = _
  rw [Array.mapIdx_push, G.new]; rfl
theorem Good.set (G : Good R s) (h : R g = none) (w : wfG x = true) : Good R (s.setGen g x) := by
  refine ⟨fun i r hi => ⟨(G.deaf i r hi).1, ?_⟩, fun i y hy hi => ?_⟩
  · have : g ≠ i := by intro z; rw [z, hi] at h; cases h
    show (s.gens.setIfInBounds g x)[i]? = _
    rw [Array.getElem?_setIfInBounds_ne this]
    exact (G.deaf i r hi).2
  · have hy : (s.gens.setIfInBounds g x)[i]? = some y := hy
    rw [Array.getElem?_setIfInBounds] at hy
    split at hy
    · split at hy
      · cases hy; exact w
      · cases hy
    · exact G.wf i y hy hi
theorem Good.push (G : Good R s) (w : wfG x = true) : Good R { s with gens := s.gens.push x } := by
  refine ⟨fun i r hi => ⟨(G.deaf i r hi).1, ?_⟩, fun i y hy hi => ?_⟩
  · show (s.gens.push x)[i]? = _
    rw [Array.getElem?_push_lt (G.lt hi), ← Array.getElem?_eq_getElem]
    exact (G.deaf i r hi).2
  · have hy : (s.gens.push x)[i]? = some y := hy
    rw [Array.getElem?_push] at hy
    split at hy
    · cases hy; exact w
    · exact G.wf i y hy hi
theorem Good.same (G : Good R s) {h' : Heap} {d : Drawn} {t : Nat} {o : OsState} : Good R { s with heap := h', drawn := d, toks := t, os := o } := ⟨G.deaf, G.wf⟩
theorem Good.not (G : Good R s) (h : s.gens[g]? = some x) (hx : susp x = false) : R g = none := by
  cases e : R g with
  | none => rfl
  | some r =>
    obtain ⟨h1, h2⟩ := G.deaf g r e
    rw [h] at h2
    cases h2
    cases r <;> simp_all [susp, GT.deaf]
end
theorem never_unsupported {M : Model} {Γ : Ctx} {p : Pos} {w : String} {fs : List Frame} {s s' : Shared} {e : End} (h : Runs M Γ p (.unsupported w) fs s e s') : False := by
  generalize ht : (Sem.unsupported w : Sem Fin) = t at h
  induction h <;> first | (cases ht; done) | (rename_i ih; exact ih ht) | (rename_i ih _; exact ih ht) | skip
  all_goals first | (subst ht; simp_all; done) | simp_all

theorem runs_thaw {M : Model} {R : Nat → Option GenState} {Γ : Ctx} {p : Pos} {t : Sem Fin} {fs : List Frame} {s s' : Shared} {e : End} (h : Runs M Γ p t fs s e s') : fs.all isR = true → Good R s → Good R s' ∧ wfE e = true ∧ Runs M Γ p t fs (thaw R s) e (thaw R s') := by
  induction h with
  | done => intro _ G; exact ⟨G, rfl, .done⟩
  | raise => intro _ G; exact ⟨G, rfl, .raise⟩
  | again q _ ih => intro f G; obtain ⟨a, b, c⟩ := ih rfl G; exact ⟨a, b, .again q c⟩
  | rule _ ih => intro f G; obtain ⟨a, b, c⟩ := ih rfl G; exact ⟨a, b, .rule c⟩
  | «at» _ ih => intro f G; obtain ⟨a, b, c⟩ := ih rfl G; exact ⟨a, b, .at c⟩
  | load q _ ih => intro f G; obtain ⟨a, b, c⟩ := ih rfl G; exact ⟨a, b, .load q c⟩
  | update q _ ih => intro f G; obtain ⟨a, b, c⟩ := ih rfl ⟨G.deaf, G.wf⟩; exact ⟨a, b, .update q c⟩
  | loadIfAlive _ ih => intro f G; obtain ⟨a, b, c⟩ := ih rfl G; exact ⟨a, b, .loadIfAlive c⟩
  | point _ ih => intro f G; obtain ⟨a, b, c⟩ := ih rfl G; exact ⟨a, b, .point c⟩
  | alloc _ ih => intro f G; obtain ⟨a, b, c⟩ := ih rfl ⟨G.deaf, G.wf⟩; exact ⟨a, b, .alloc c⟩
  | fresh _ ih => intro f G; obtain ⟨a, b, c⟩ := ih rfl ⟨G.deaf, G.wf⟩; exact ⟨a, b, .fresh c⟩
  | ask _ ih => intro f G; obtain ⟨a, b, c⟩ := ih rfl G; exact ⟨a, b, .ask c⟩
  | choose q _ ih => intro f G; obtain ⟨a, b, c⟩ := ih rfl ⟨G.deaf, G.wf⟩; exact ⟨a, b, .choose q c⟩
  | os _ ih => intro f G; obtain ⟨a, b, c⟩ := ih rfl ⟨G.deaf, G.wf⟩; exact ⟨a, b, .os c⟩
  | handled _ ih => intro f G; obtain ⟨a, b, c⟩ := ih rfl G; exact ⟨a, b, .handled c⟩
  | @genState g st Γ p k s e s' q _ ih =>
    intro f G
    obtain ⟨a, b, c⟩ := ih rfl G
    refine ⟨a, b, ?_⟩
    cases e2 : R g with
    | none => exact .genState (by rw [thaw_get0 e2]; exact q) c
    | some r =>
      have h2 := (G.deaf g r e2).2
      rw [q] at h2
      cases h2
      refine .genState (st := r) (by rw [thaw_get, q, e2]; rfl) ?_
      rw [deaf_seen] at c
      exact c
  | stack _ ih => intro f G; obtain ⟨a, b, c⟩ := ih rfl G; exact ⟨a, b, .stack c⟩
  | thread _ ih => intro f G; obtain ⟨a, b, c⟩ := ih rfl G; exact ⟨a, b, .thread c⟩
  | newGen _ ih =>
    intro f G
    obtain ⟨a, b, c⟩ := ih rfl (G.push rfl)
    refine ⟨a, b, .newGen ?_⟩
    rw [thaw_push G] at c
    rw [thaw_size]
    exact c
  | call _ _ ih1 ih2 =>
    intro f G
    obtain ⟨a, _, c⟩ := ih1 rfl G
    obtain ⟨a2, b2, c2⟩ := ih2 rfl a
    exact ⟨a2, b2, .call c c2⟩
  | callSusp _ ih =>
    intro f G
    obtain ⟨a, b, c⟩ := ih rfl G
    refine ⟨a, ?_, .callSusp c⟩
    unfold wfE at b ⊢
    simp only [List.all_append, b, Bool.true_and]
    rfl
  | yield => intro f G; exact ⟨G, rfl, .yield⟩
  | resumeFresh q _ qq _ ih1 ih2 =>
    intro f G
    have hn := G.not q rfl
    obtain ⟨a, b, c⟩ := ih1 rfl (G.set hn rfl)
    obtain ⟨a2, b2, c2⟩ := ih2 rfl (a.set hn (genState_wf b))
    rw [thaw_set hn] at c c2
    exact ⟨a2, b2, .resumeFresh (by rw [thaw_get0 hn]; exact q) c qq c2⟩
  | @resumeSuspended Γ p g r l k s k₀ l₀ c₀ p₀ fs cl e₁ s₁ e s' q h1 qq _ ih1 ih2 =>
    intro f G
    cases e2 : R g with
    | some x =>
      obtain ⟨h2, h3⟩ := G.deaf g x e2
      rw [q] at h3
      cases x with
      | suspended k2 l2 c2 p2 f2 cl2 =>
        cases h3
        exact (never_unsupported h1).elim
      | _ => cases h2
    | none =>
      have w := G.wf g _ q e2
      obtain ⟨a, b, c⟩ := ih1 w (G.set e2 rfl)
      obtain ⟨a2, b2, c2⟩ := ih2 rfl (a.set e2 (genState_wf b))
      rw [thaw_set e2] at c c2
      exact ⟨a2, b2, .resumeSuspended (by rw [thaw_get0 e2]; exact q) c qq c2⟩
  | resumeJustStarted q v _ ih => intro f G; obtain ⟨a, b, c⟩ := ih rfl G; exact ⟨a, b, .resumeJustStarted (by rw [thaw_get0 (G.not q rfl)]; exact q) v c⟩
  | resumeThrowFresh q _ ih =>
    intro f G
    have hn := G.not q rfl
    obtain ⟨a, b, c⟩ := ih rfl (G.set hn rfl)
    rw [thaw_set hn] at c
    exact ⟨a, b, .resumeThrowFresh (by rw [thaw_get0 hn]; exact q) c⟩
  | resumeRunning q _ ih => intro f G; obtain ⟨a, b, c⟩ := ih rfl G; exact ⟨a, b, .resumeRunning (by rw [thaw_get0 (G.not q rfl)]; exact q) c⟩
  | resumeFinished q _ ih => intro f G; obtain ⟨a, b, c⟩ := ih rfl G; exact ⟨a, b, .resumeFinished (by rw [thaw_get0 (G.not q rfl)]; exact q) c⟩
  | segRet _ _ ih1 ih2 =>
    intro f G
    have f' := f
    rw [List.all_cons, Bool.and_eq_true] at f'
    obtain ⟨a, _, c⟩ := ih1 rfl G
    obtain ⟨a2, b2, c2⟩ := ih2 f'.2 a
    exact ⟨a2, b2, .segRet c c2⟩
  | segGen => intro f G; simp [isR] at f
  | segSuspOut q _ ih =>
    intro f G
    obtain ⟨a, b, c⟩ := ih rfl G
    refine ⟨a, ?_, .segSuspOut q c⟩
    unfold wfE at b ⊢
    simp only [List.all_append, b, Bool.true_and]
    exact f
  | segSuspGen q => intro f G; rw [split_isR f] at q; cases q
theorem wakes_thaw {M : Model} {R : Nat → Option GenState} {Γ : Ctx} {p : Pos} {g : Nat} {r : Resume} {s s' : Shared} {res : GenResult} (h : Wakes M Γ p g r s res s') (G : Good R s) : Good R s' ∧ Wakes M Γ p g r (thaw R s) res (thaw R s') := by
  unfold Wakes at h ⊢
  cases q : s.gens[g]? with
  | none => rw [q] at h; exact h.elim
  | some x =>
    rw [q] at h
    cases x with
    | fresh c =>
      have hn := G.not q rfl
      rw [thaw_get0 hn, q]
      cases r with
      | throw x =>
        obtain ⟨rfl, rfl⟩ := h
        exact ⟨G.set hn rfl, rfl, thaw_set hn⟩
      | send v =>
        cases v with
        | none =>
          obtain ⟨e₁, s₁, hr, hq, rfl, rfl⟩ := h
          obtain ⟨a, b, c⟩ := runs_thaw hr rfl (G.set hn rfl)
          rw [thaw_set hn] at c
          exact ⟨a.set hn (genState_wf b), e₁, _, c, hq, rfl, thaw_set hn⟩
        | _ => obtain ⟨rfl, rfl⟩ := h; exact ⟨G, rfl, rfl⟩
    | suspended k₀ l₀ c₀ p₀ fs cl =>
      obtain ⟨e₁, s₁, hr, hq, rfl, rfl⟩ := h
      cases e2 : R g with
      | some y =>
        obtain ⟨h2, h3⟩ := G.deaf g y e2
        rw [q] at h3
        cases y with
        | suspended k2 l2 c2 p2 f2 cl2 =>
          cases h3
          exact (never_unsupported hr).elim
        | _ => cases h2
      | none =>
        rw [thaw_get0 e2, q]
        obtain ⟨a, b, c⟩ := runs_thaw hr (G.wf g _ q e2) (G.set e2 rfl)
        rw [thaw_set e2] at c
        exact ⟨a.set e2 (genState_wf b), e₁, _, c, hq, rfl, thaw_set e2⟩
    | running =>
      rw [thaw_get0 (G.not q rfl), q]
      obtain ⟨rfl, rfl⟩ := h
      exact ⟨G, rfl, rfl⟩
    | finished =>
      rw [thaw_get0 (G.not q rfl), q]
      obtain ⟨rfl, rfl⟩ := h
      exact ⟨G, rfl, rfl⟩
theorem wp_thaw {α : Type} {M : Model} {R : Nat → Option GenState} {Γ : Ctx} (t : Sem α) : ∀ (Q : α → Pos → Shared → Prop) (E : Value → Pos → Shared → Prop) (p : Pos) (s : Shared), Good R s → wp M Γ t Q E p s →
    wp M Γ t (fun a p' s' => ∃ s₁, s' = thaw R s₁ ∧ Good R s₁ ∧ Q a p' s₁) (fun e p' s' => ∃ s₁, s' = thaw R s₁ ∧ Good R s₁ ∧ E e p' s₁) p (thaw R s) := by
  induction t with
  | pure a => intro Q E p s G h; exact ⟨s, rfl, G, h⟩
  | raise e => intro Q E p s G h; exact ⟨s, rfl, G, h⟩
  | unsupported _ => intro Q E p s _ h; exact h
  | finish _ => intro Q E p s _ h; exact h
  | rule _ k ih => intro Q E p s G h; exact ih () Q E p s G h
  | «at» p' k ih => intro Q E p s G h; exact ih () Q E p' s G h
  | load a _ k ih => intro Q E p s G h; obtain ⟨o, ho, h⟩ := h; exact ⟨o, ho, ih o Q E p s G h⟩
  | update a _ f k ih => intro Q E p s G h; exact ⟨h.1, ih () Q E p { s with heap := s.heap.update a f } ⟨G.deaf, G.wf⟩ h.2⟩
  | loadIfAlive a k ih => intro Q E p s G h; exact ih _ Q E p s G h
  | point _ k ih => intro Q E p s G h; exact ih () Q E p s G h
  | register _ _ => intro Q E p s _ h; exact h
  | alloc o k ih => intro Q E p s G h; exact ih _ Q E p { s with heap := s.heap.push o } ⟨G.deaf, G.wf⟩ h
  | fresh k ih => intro Q E p s G h; exact ih _ Q E p { s with toks := s.toks + 1 } ⟨G.deaf, G.wf⟩ h
  | ask k ih => intro Q E p s G h; exact ih _ Q E p s G h
  | choose src m k ih => intro Q E p s G h; exact ⟨h.1, ih _ Q E p { s with drawn := s.drawn.bump src } ⟨G.deaf, G.wf⟩ h.2⟩
  | os q _ k ih => intro Q E p s G h; exact ih _ Q E p { s with os := (Os.step s.os q).1 } ⟨G.deaf, G.wf⟩ h
  | call c hd _ _ k ih =>
    intro Q E p s G h
    obtain ⟨r, s', hr, h⟩ := h
    obtain ⟨a, _, c'⟩ := runs_thaw hr rfl G
    exact ⟨r, _, c', ih r Q E p s' a h⟩
  | handled own k ih => intro Q E p s G h; exact ih _ Q E p s G h
  | genState g k ih =>
    intro Q E p s G h
    obtain ⟨st, hs, h⟩ := h
    cases e2 : R g with
    | none => exact ⟨st, by rw [thaw_get0 e2]; exact hs, ih _ Q E p s G h⟩
    | some r =>
      have h2 := (G.deaf g r e2).2
      rw [hs] at h2
      cases h2
      rw [deaf_seen] at h
      exact ⟨r, by rw [thaw_get, hs, e2]; rfl, ih _ Q E p s G h⟩
  | newGen c k ih =>
    intro Q E p s G h
    have := ih _ Q E p _ (G.push rfl) h
    rw [thaw_push G] at this
    show wp M Γ (k (thaw R s).gens.size) _ _ _ _
    rw [thaw_size]
    exact this
  | resume g r _ k ih =>
    intro Q E p s G h
    obtain ⟨res, s', hw, h⟩ := h
    obtain ⟨a, w⟩ := wakes_thaw hw G
    exact ⟨res, _, w, ih res Q E p s' a h⟩
  | yield _ _ _ _ => intro Q E p s _ h; exact h
  | stack k ih => intro Q E p s G h; exact ih _ Q E p s G h
  | fork _ _ => intro Q E p s _ h; exact h
  | thread k ih => intro Q E p s G h; exact ih _ Q E p s G h
  | await _ _ _ _ _ => intro Q E p s _ h; exact h
/-! ### the frame rule -/
def real (s : Shared) (i : Nat) : Option GenState := match s.gens[i]? with
  | some x => if susp x = true then some x else none
  | none => none
def deafen (s : Shared) : Shared := { s with gens := s.gens.map deaf }
theorem deafen_get (s : Shared) (i : Nat) : (deafen s).gens[i]? = (s.gens[i]?).map deaf := by simp [deafen]
theorem deaf_id {x : GenState} (h : susp x ≠ true) : deaf x = x := by cases x <;> simp_all [susp, deaf]
theorem good_deafen (s : Shared) : Good (real s) (deafen s) := by
  refine ⟨fun i r h => ?_, fun i x hx h => ?_⟩
  · unfold real at h
    cases q : s.gens[i]? with
    | none => rw [q] at h; cases h
    | some y =>
      rw [q] at h
      simp only at h
      split at h
      · rename_i hs
        cases h
        exact ⟨hs, by rw [deafen_get, q]; rfl⟩
      · cases h
  · rw [deafen_get] at hx
    obtain ⟨y, q, rfl⟩ := Option.map_eq_some_iff.mp hx
    unfold real at h
    rw [q] at h
    simp only at h
    split at h
    · cases h
    · rename_i hs
      rw [deaf_id hs]
      cases y <;> simp_all [susp, wfG]
theorem thaw_deafen (s : Shared) : thaw (real s) (deafen s) = s := by
  unfold thaw deafen
  obtain ⟨h, g, d, t, o⟩ := s
  congr 1
  refine Array.ext_getElem? fun i => ?_
  rw [Array.getElem?_mapIdx, Array.getElem?_map]
  unfold real
  cases q : g[i]? with
  | none => rfl
  | some y =>
    simp only [Option.map_some]
    split
    · rfl
    · rename_i hs
      rw [deaf_id hs]; rfl
theorem bare_deafen {s : Shared} (h : PyProof.Rows.AllBare s.gens) : PyProof.Rows.AllBare (deafen s).gens := fun y hy => by
  obtain ⟨x, hx, rfl⟩ := Array.mem_map.mp hy
  rw [deaf_bare]; exact h x hx
/-- s' is s₁ but for the table of generators: what slept in s sleeps on -/
structure Slept (s s₁ s' : Shared) : Prop where
  eq : s' = { s₁ with gens := s'.gens }
  kept : ∀ (i : Nat) (x : GenState), s.gens[i]? = some x → susp x = true → s'.gens[i]? = some x
  bare : PyProof.Rows.AllBare s.gens → PyProof.Rows.AllBare s₁.gens → PyProof.Rows.AllBare s'.gens
theorem slept_of {s s₁ : Shared} (G : Good (real s) s₁) : Slept s s₁ (thaw (real s) s₁) := by
  refine ⟨rfl, fun i x hx hs => ?_, fun hb hb1 y hy => ?_⟩
  · have hr : real s i = some x := by unfold real; rw [hx]; simp [hs]
    rw [thaw_get, (G.deaf i x hr).2, hr]; rfl
  · obtain ⟨i, hi, e⟩ := Array.mem_iff_getElem.mp hy
    have q : (thaw (real s) s₁).gens[i]? = some y := by rw [Array.getElem?_eq_getElem hi, e]
    rw [thaw_get] at q
    obtain ⟨z, hz, ez⟩ := Option.map_eq_some_iff.mp q
    cases e2 : real s i with
    | none => rw [e2] at ez; cases ez; exact hb1 _ (Array.mem_of_getElem? hz)
    | some r =>
      rw [e2] at ez
      cases ez
      unfold real at e2
      cases q2 : s.gens[i]? with
      | none => rw [q2] at e2; cases e2
      | some y2 =>
        rw [q2] at e2
        simp only at e2
        split at e2
        · cases e2; exact hb _ (Array.mem_of_getElem? q2)
        · cases e2
theorem wpAny_slept {α : Type} {M : Model} {A : Around} {t : Sem α} {Q : α → Shared → Prop} {E : Value → Shared → Prop} {s : Shared} (h : wpAny M A t Q E (deafen s)) :
    wpAny M A t (fun a s' => ∃ s₁, Slept s s₁ s' ∧ Q a s₁) (fun e s' => ∃ s₁, Slept s s₁ s' ∧ E e s₁) s := by
  intro Γ p hΓ
  have := wp_thaw (R := real s) t _ _ p (deafen s) (good_deafen s) (h Γ p hΓ)
  rw [thaw_deafen] at this
  refine Sem.wp_mono M Γ t ?_ ?_ p s this
  · rintro a p' s' ⟨s₁, rfl, G, q⟩; exact ⟨s₁, slept_of G, q⟩
  · rintro a p' s' ⟨s₁, rfl, G, q⟩; exact ⟨s₁, slept_of G, q⟩
end GT
set_option maxRecDepth 100000
set_option maxHeartbeats 4000000
namespace GT
open PySem L2 PySem.Spec PyProof.Rows GenW DL
/-! ### a stretch of a generator's code, up to its next yield or its end -/
def SegZ (M : Model) (A : Around) (Z : End → Shared → Prop) (c : Code) (t : Sem PySem.Fin) (fs : List Frame) (s : Shared) : Prop :=
  ∀ Γ p, Γ.code = c → Γ.Woken A → ∃ e s', Runs M Γ p t fs s e s' ∧ Z e s'
section
variable {M : Model} {A : Around} {Z : End → Shared → Prop} {c : Code} {fs : List Frame} {s : Shared}
theorem sz_wrap {α : Type} {m : Sem α} {K : α → Sem PySem.Fin} {H : Value → Sem PySem.Fin} {gd lv}
    (h : wpAny M (A.over c fs) m (fun a s' => SegZ M A Z c (K a) fs s') (fun x s' => SegZ M A Z c (H x) fs s') s) : SegZ M A Z c (m.wrap K H gd lv) fs s := fun Γ p hc hΓ => by
  subst hc
  exact runs_wrap_of_wp K H gd lv m (h _ p (hΓ.over fs)) (fun a p' s' q => q Γ p' rfl hΓ) (fun x p' s' q => q Γ p' rfl hΓ)
theorem sz_bind {α : Type} {m : Sem α} {K : α → Sem PySem.Fin} (h : wpAny M (A.over c fs) m (fun a s' => SegZ M A Z c (K a) fs s') (fun x s' => SegZ M A Z c (.raise x) fs s') s) : SegZ M A Z c (m >>= K) fs s := by
  rw [Sem.bind_eq_wrap']
  exact sz_wrap h
theorem sz_at {p' : Pos} {k : Unit → Sem PySem.Fin} (h : SegZ M A Z c (k ()) fs s) : SegZ M A Z c (.at p' k) fs s :=
  sz_wrap (m := standAt p') (K := k) (H := .raise) (gd := id) (lv := id) (wpAny_standAt h)
theorem sz_point {l : List Value} {k : Unit → Sem PySem.Fin} (h : SegZ M A Z c (k ()) fs s) : SegZ M A Z c (.point l k) fs s :=
  sz_wrap (m := point) (K := k) (H := .raise) (gd := id) (lv := fun _ => l) (wpAny_point h)
theorem sz_call {c' : Code} {h g l} {k : Result → Sem PySem.Fin} (hc : ∀ p, SegZ M A Z c' (M.den c') (.ret k h g l c p [] :: fs) s) : SegZ M A Z c (.call c' h g l k) fs s := fun Γ p e hΓ => by
  subst e
  obtain ⟨e, s', hr, he⟩ := hc p (Γ.goto c') p rfl (hΓ.goto c')
  exact ⟨e, s', runs_call_seg hr, he⟩
theorem sz_leaf {k h g l c₁ p₁ kp} (r : Result) (hk : SegZ M A Z c₁ (k r) fs s) : SegZ M A Z c (leafOf r) (.ret k h g l c₁ p₁ kp :: fs) s := fun Γ p e hΓ => by
  subst e
  obtain ⟨e, s', hr, he⟩ := hk (Γ.goto c₁) p₁ rfl (hΓ.goto c₁)
  exact ⟨e, s', Runs.pop r hr, he⟩
theorem sz_again {c' : Code} (hq : c'.quiet = true) (hc : SegZ M A Z c' (M.den c') fs s) : SegZ M A Z c (.pure (.again c')) fs s := fun Γ p e hΓ => by
  subst e
  obtain ⟨e, s', hr, he⟩ := hc (Γ.goto c') p rfl (hΓ.goto c')
  exact ⟨e, s', Runs.head (c₁ := c') (fun _ _ x => .again hq x) hr, he⟩
theorem sz_end (r : Result) (h : Z (.ret r) s) : SegZ M A Z c (leafOf r) [] s := fun Γ p _ _ => ⟨.ret r, s, Runs.leaf r, h⟩
theorem sz_yield {v g l} {k : Resume → Sem PySem.Fin} (hfs : splitAtGen fs = none) (h : ∀ p, Z (.susp v g l k c p fs) s) : SegZ M A Z c (.yield v g l k) fs s := fun Γ p e _ => by
  subst e
  exact ⟨_, s, Runs.yield' fs hfs, h p⟩
theorem sz_mono {Z' : End → Shared → Prop} {t : Sem PySem.Fin} (h : SegZ M A Z c t fs s) (m : ∀ e s', Z e s' → Z' e s') : SegZ M A Z' c t fs s := fun Γ p e hΓ => by
  obtain ⟨e, s', hr, he⟩ := h Γ p e hΓ
  exact ⟨e, s', hr, m e s' he⟩
end
/-! ### the heap below an address -/
def cut (N : Nat) (h : Heap) : Heap := { h with objs := h.objs.extract 0 N }
theorem cut_size {N : Nat} {h : Heap} (hN : N ≤ h.objs.size) : (cut N h).objs.size = N := by
  show (h.objs.extract 0 N).size = N
  rw [Array.size_extract]; omega
theorem cut_get {N : Nat} {h : Heap} {b : Addr} : (cut N h).get? b = if b < N then h.get? b else none := by
  unfold Heap.get? cut
  show (match (h.objs.extract 0 N)[b]? with | some ⟨_, _, .freed, _⟩ => none | o => o) = _
  rw [Array.getElem?_extract]
  by_cases hb : b < N
  · rw [if_pos hb]
    by_cases hs : b < h.objs.size
    · rw [if_pos (by show b < min N h.objs.size - 0; exact Nat.lt_min.mpr ⟨hb, hs⟩), Nat.zero_add]
      rfl
    · rw [if_neg (by intro z; exact hs (Nat.lt_of_lt_of_le z (by show min N h.objs.size - 0 ≤ _; exact Nat.min_le_right _ _))), Array.getElem?_eq_none (Nat.le_of_not_lt hs)]
  · rw [if_neg (by intro z; exact hb (Nat.lt_of_lt_of_le z (by show min N h.objs.size - 0 ≤ _; exact Nat.min_le_left _ _))), if_neg hb]
theorem cut_some {N : Nat} {h : Heap} {b : Addr} {o : Obj} (e : (cut N h).get? b = some o) : b < N ∧ h.get? b = some o := by
  rw [cut_get] at e
  split at e
  · exact ⟨by assumption, e⟩
  · cases e
theorem cut_lt {N : Nat} {h : Heap} {b : Addr} (hb : b < N) : (cut N h).get? b = h.get? b := by rw [cut_get, if_pos hb]
def cutS (N : Nat) (s : Shared) : Shared := { s with heap := cut N s.heap }
/-! ### a generator's frame -/
structure GP where
  P : Program
  w : World
  K : PySem.W.Frag
  mg : Str → Option Value
  base : Heap
  N : List Str
  qual : Str
  scope : Scope
  f : Addr
  cdv : Value
  A : Around
  outer : List Env
  L : Addr
  pn : List (Addr × Obj)
abbrev GP.env (G : GP) : Env := envOfC G.qual G.scope G.L G.f G.cdv
def GP.X (G : GP) (s : Shared) (H : Hp) : Cx where
  prog := G.P
  w := G.w
  K := G.K
  mg := G.mg
  base := G.base
  A := G.A.deeper G.env
  N := G.N
  s_0 := s
  H_0 := H
  env := G.env
  outer := G.outer
  stack := G.env :: G.outer
  ex := []
  calm := true
  fn := fun _ => true
  pn := G.pn
  xe := fun _ _ => False
theorem funs_cut {N : Nat} {h base : Heap} : ∀ {l : List Env}, h.FunFrames base l → (∀ b ∈ frs l, b < N) → (cut N h).FunFrames base l
  | [], _, _ => trivial
  | env :: rest, ⟨h1, ⟨L, o, h2, h3, h4, h5⟩, h6⟩, hl => by
    have hL : L < N := hl L (by unfold frs; rw [List.filterMap_cons, h2]; exact List.mem_cons_self)
    refine ⟨h1, ⟨L, o, h2, h3, by rw [cut_lt hL]; exact h4, h5⟩, funs_cut h6 fun b hb => hl b ?_⟩
    unfold frs at hb ⊢
    rw [List.filterMap_cons, h2]
    exact List.mem_cons_of_mem _ hb
/-- woken: the frame's objects are as they were; the reference is what stands now -/
theorem rebase {G : GP} {s₀ s s2 : Shared} {H₀ H H2 : Hp} {ip : List (Addr × Obj)} {σ : L2.St} (hz : s₀.heap.objs.size = G.L) (hcl : G.env.cells = []) (I : Inv (G.X s₀ H₀) ip σ H s) {A2 : Around}
    (e0 : Env0 G.P G.w G.K G.mg G.base A2 G.outer s2 H2) (hL : ∀ o, s.heap.get? G.L = some o → s2.heap.get? G.L = some o) (hLH : H2 G.L = none) (hp : ∀ p ∈ G.pn ++ ip, s2.heap.get? p.1 = some p.2 ∧ H2 p.1 = none) :
    Inv (G.X (cutS G.L s2) H2) ip σ H2 s2 := by
  obtain ⟨m, hns, hloc⟩ := I.loc
  obtain ⟨oL, es, ep, hoL, hrest⟩ := id hns
  have hLlt : G.L < s2.heap.objs.size := Heap.lt_size (hL oL hoL)
  have hsz : (cutS G.L s2).heap.objs.size = G.L := cut_size (Nat.le_of_lt hLlt)
  have hfr : ∀ b ∈ frs G.outer, b < G.L := fun b hb => by
    obtain ⟨_, o, e, _⟩ := I.ok.funs.mem hb
    have := Heap.lt_size e
    rw [← hz]; exact this
  have nocell : ∀ x c, ¬ G.env.cells.lookup x = some c := fun x c h => by rw [hcl] at h; cases h
  refine ⟨⟨I.ok.mod, I.ok.kind, I.ok.glob, I.ok.blt, ?_, fun x y c h => (nocell x c h).elim, I.ok.has, fun x c _ h => (nocell x c h).elim, I.ok.hd, I.ok.frames, I.ok.stk, fun b hb => absurd hb (by simp [GP.X]), fun b o e => ?_, ?_, fun b o e h => absurd h (by simp [GP.X]), fun b hb => absurd hb (by simp [GP.X]), ?_, e0.frf⟩, rfl, e0.bare, ?_, ⟨m, ⟨oL, es, ep, hL oL hoL, hrest⟩, fun i x v h1 h2 h3 => ?_⟩, fun x c h => (nocell x c h).elim, hLH, fun x c h => (nocell x c h).elim, fun p hp' => ?_, e0.hok, I.len⟩
  · show (cutS G.L s2).heap.objs.size ≤ G.L
    rw [hsz]; exact Nat.le_refl _
  · have hb : b < G.L := by
      have h1 := Heap.lt_size (I.ok.bs b o e).1
      exact Nat.lt_of_lt_of_eq h1 hz
    exact ⟨by show (cut G.L s2.heap).get? b = _; rw [cut_lt hb]; exact (e0.bs b o e).1, (e0.bs b o e).2⟩
  · show G.base.objs.size ≤ (cutS G.L s2).heap.objs.size
    rw [hsz, ← hz]; exact I.ok.bsz
  · exact funs_cut e0.funs hfr
  · refine ⟨fun b o e _ _ _ => (cut_some e).2, fun b o e _ _ _ => ⟨o.slots, (cut_some e).2⟩, fun b o _ n _ => n, fun b o e _ => ⟨o, (cut_some e).2⟩, fun _ _ q => q, fun _ _ _ q => q, fun b ps q => ⟨#[], by rw [show H2 b = some (HO.tbl ps) from q]; simp⟩⟩
  · obtain ⟨u, r, look⟩ := hloc i x v h1 h2 h3
    refine ⟨u, r, ?_⟩
    rcases look with look | ⟨_, c, hc, _⟩
    · exact .inl look
    · exact (nocell x c hc).elim
  · obtain ⟨_, _, i3, i4, i5⟩ := I.pin p hp'
    obtain ⟨j1, j2⟩ := hp p hp'
    exact ⟨j1, j2, i3, i4, i5⟩
/-- what the one who woke it finds: all else but the frame's own things -/
def young (L : Addr) (h : Heap) : List Addr := (List.range h.objs.size).filter fun b => decide (L ≤ b)
theorem mem_young {L b : Addr} {h : Heap} : b ∈ young L h ↔ b < h.objs.size ∧ L ≤ b := by
  unfold young; rw [List.mem_filter, List.mem_range, decide_eq_true_eq]
theorem un_woken {G : GP} {s2 s' : Shared} {H2 H' : Hp} {ip : List (Addr × Obj)} {σ : L2.St} (I : Inv (G.X (cutS G.L s2) H2) ip σ H' s') : Un (frs G.outer) (young G.L s2.heap) H2 H' s2.heap s'.heap := by
  have old : ∀ b o, s2.heap.get? b = some o → b ∉ young G.L s2.heap → (cut G.L s2.heap).get? b = some o := fun b o e hb => by
    have hlt : b < G.L := by
      apply Decidable.byContradiction
      intro z
      exact hb (mem_young.mpr ⟨Heap.lt_size e, Nat.le_of_not_lt z⟩)
    rw [cut_lt hlt]; exact e
  exact ⟨fun b o e n h1 h2 => I.base.keep b o (old b o e h2) n h1 (by simp [GP.X]), fun b o e n h1 h2 => I.base.slot b o (old b o e h2) n h1 (by simp [GP.X]), fun b o e n h2 => I.base.free b o (old b o e h2) n (by simp [GP.X]),
    fun b o e h2 => I.base.there b o (old b o e h2) (by simp [GP.X]), I.base.tups, I.base.frzs, I.base.tbls⟩
end GT
set_option maxRecDepth 100000
set_option maxHeartbeats 4000000
namespace GT
open PySem L2 PySem.Spec PyProof.Rows GenW DL
/-- what stood when it was woken -/
structure Gh where
  s : Shared
  H : Hp
  M : Hp
  cs : Cells
/-- it may be woken: it knows M, its own objects are pv -/
structure Wake (G : GP) (Gd : Cells → Prop) (M : Hp) (pv : List (Addr × Obj)) (y : Gh) : Prop where
  env : Env0 G.P G.w G.K G.mg G.base G.A G.outer y.s y.H
  same : Same M y.M
  ok : Ok G.K y.M y.H y.cs
  gd : Gd y.cs
  pv : ∀ p ∈ pv, y.s.heap.get? p.1 = some p.2 ∧ y.H p.1 = none
/-- how it leaves things -/
structure Left (G : GP) (y : Gh) (s' : Shared) (H' M' : Hp) : Prop where
  os : s'.os = y.s.os
  bare : AllBare s'.gens
  un : Un (frs G.outer) (young G.L y.s.heap) y.H H' y.s.heap s'.heap
  hok : HOk G.P G.w H' s'.heap
  same : Same y.M M'
  ok : Ok G.K M' H' y.cs
structure PvOk (G : GP) (pv : List (Addr × Obj)) (s' : Shared) (H' : Hp) : Prop where
  at_ : ∀ p ∈ pv, s'.heap.get? p.1 = some p.2 ∧ H' p.1 = none ∧ G.L ≤ p.1 ∧ ∀ v, p.2.data ≠ .cell v
  pn : ∀ p ∈ G.pn, p ∈ pv
/-- what it hands out from now on: ds, and if fin that is all -/
def Zy (G : GP) (Gd : Cells → Prop) (fin : Bool) : List Dat → Gh → End → Shared → Prop
  | [], y, e, s' => e.quiet = true ∧ (fin = true → e = .ret (.ok (.ret .none)) ∧ ∃ H' M', Left G y s' H' M' ∧ ∀ p ∈ G.pn, s'.heap.get? p.1 = some p.2)
  | d :: r, y, e, s' => ∃ v g l k c p fs, e = .susp v g l k c p fs ∧ e.quiet = true ∧ ∃ H' M' pv x, Left G y s' H' M' ∧ RelV x v ∧ Dr G.K M' x d ∧ PvOk G pv s' H' ∧
      ∀ y', Wake G Gd M' pv y' → SegZ (model G.P G.w) G.A (Zy G Gd fin r y') c (k (.send .none)) fs y'.s
/-- running -/
def RunG (G : GP) (Mk : Hp) (y : Gh) (ip : List (Addr × Obj)) (ρ : DEnv) (cs : Cells) (s : Shared) : Prop :=
  ∃ σ H M, Inv (G.X (cutS G.L y.s) y.H) ip σ H s ∧ Same Mk M ∧ Same y.M M ∧ Ok G.K M H cs ∧ Rho G.K M σ ρ
structure GDs where
  nx : List Dat → Cells → DEnv → Cells → Prop
  rt : List Dat → Cells → Vl → Cells → Prop
  bk : List Dat → Cells → DEnv → Cells → Prop := fun _ _ _ _ => False
  ct : List Dat → Cells → DEnv → Cells → Prop := fun _ _ _ _ => False
abbrev WGn := GDs → List Dat → Cells → DEnv → Cells → Prop
def GDs.at (D : GDs) (xs : List Dat) (c0 : Cells) : DEnds := { nx := D.nx xs c0, rt := D.rt xs c0, bk := D.bk xs c0, ct := D.ct xs c0 }
def GSPd (G : GP) (Mk : Hp) (y : Gh) (ip : List (Addr × Obj)) (D : GDs) (xs : List Dat) (f : Flow) (s : Shared) : Prop :=
  match f with
  | .next => ∃ ρ cs, RunG G Mk y ip ρ cs s ∧ D.nx xs y.cs ρ cs
  | .brk => ∃ ρ cs, RunG G Mk y ip ρ cs s ∧ D.bk xs y.cs ρ cs
  | .cont => ∃ ρ cs, RunG G Mk y ip ρ cs s ∧ D.ct xs y.cs ρ cs
  | .ret u => ∃ v x σ H M cs, Inv (G.X (cutS G.L y.s) y.H) ip σ H s ∧ Same Mk M ∧ Same y.M M ∧ Ok G.K M H cs ∧ RelV v u ∧ RV G.K M v x ∧ D.rt xs y.cs x cs
/-- where its code stands -/
structure GCd (G : GP) (ip : List (Addr × Obj)) (c : Code) (fs : List Frame) (gd : Bool → Bool) : Prop where
  cells : G.env.cells = []
  yng : ∀ p ∈ G.pn ++ ip, G.L ≤ p.1
  over : G.A.over c fs = G.A.deeper G.env
  split : splitAtGen fs = none
  guard : fs.any Frame.guarded = false
  gd : gd false = false
/-- the wakings that it can stand -/
def Lg (G : GP) (y : Gh) : Prop := G.L ≤ y.s.heap.objs.size
def GKd (G : GP) (Gd : Cells → Prop) (fin : Bool) (Mk : Hp) (ip : List (Addr × Obj)) (c : Code) (fs : List Frame) (K : Flow → Sem PySem.Fin) (D : GDs) : Prop :=
  ∀ (y : Gh) (xs : List Dat) (s : Shared) (f : Flow), Lg G y → GSPd G Mk y ip D xs f s → SegZ (model G.P G.w) G.A (Zy G Gd fin xs y) c (K f) fs s
/-- a statement of a generator, for every state that it may be woken in -/
structure DGS (G : GP) (Gd : Cells → Prop) (fin : Bool) (st : Stmt) (t : WGn) : Prop where
  run : ∀ (Mk : Hp) (y : Gh) (ip : List (Addr × Obj)) (c : Code) (fs : List Frame) (K : Flow → Sem PySem.Fin) (J : Value → Sem PySem.Fin) (gd : Bool → Bool) (lv : List Value → List Value) (s : Shared) (xs : List Dat) (ρ : DEnv) (cs : Cells) (D : GDs),
    GCd G ip c fs gd → Lg G y → GKd G Gd fin Mk ip c fs K D → RunG G Mk y ip ρ cs s → t D xs y.cs ρ cs → SegZ (model G.P G.w) G.A (Zy G Gd fin xs y) c ((exec st G.env).wrap K J gd lv) fs s
structure DGSs (G : GP) (Gd : Cells → Prop) (fin : Bool) (st : List Stmt) (t : WGn) : Prop where
  run : ∀ (Mk : Hp) (y : Gh) (ip : List (Addr × Obj)) (c : Code) (fs : List Frame) (K : Flow → Sem PySem.Fin) (J : Value → Sem PySem.Fin) (gd : Bool → Bool) (lv : List Value → List Value) (s : Shared) (xs : List Dat) (ρ : DEnv) (cs : Cells) (D : GDs),
    GCd G ip c fs gd → Lg G y → GKd G Gd fin Mk ip c fs K D → RunG G Mk y ip ρ cs s → t D xs y.cs ρ cs → SegZ (model G.P G.w) G.A (Zy G Gd fin xs y) c ((execs st G.env).wrap K J gd lv) fs s
section
variable {G : GP} {Gd : Cells → Prop} {fin : Bool} {st : Stmt} {sts : List Stmt} {ws : WS} {t u : WGn}
/-- the data's ends are the code's ends -/
theorem sp_gd {y : Gh} {ip : List (Addr × Obj)} {D : GDs} {xs : List Dat} {f : Flow} {s : Shared} {M Mk : Hp} (hk : Same Mk M) (hM : Same y.M M)
    (h : SP (G.X (cutS G.L y.s) y.H) ip { nx := fun σ H => ∃ M' ρ cs, Same M M' ∧ Ok G.K M' H cs ∧ Rho G.K M' σ ρ ∧ D.nx xs y.cs ρ cs, rt := fun v H => ∃ M' x cs, Same M M' ∧ Ok G.K M' H cs ∧ RV G.K M' v x ∧ D.rt xs y.cs x cs, bk := fun σ H => ∃ M' ρ cs, Same M M' ∧ Ok G.K M' H cs ∧ Rho G.K M' σ ρ ∧ D.bk xs y.cs ρ cs, ct := fun σ H => ∃ M' ρ cs, Same M M' ∧ Ok G.K M' H cs ∧ Rho G.K M' σ ρ ∧ D.ct xs y.cs ρ cs } f s) :
    GSPd G Mk y ip D xs f s := by
  cases f with
  | next => obtain ⟨σ, H, I, M', ρ, cs, a, b, c, d⟩ := h; exact ⟨ρ, cs, ⟨σ, H, M', I, hk.trans a, hM.trans a, b, c⟩, d⟩
  | brk => obtain ⟨σ, H, I, M', ρ, cs, a, b, c, d⟩ := h; exact ⟨ρ, cs, ⟨σ, H, M', I, hk.trans a, hM.trans a, b, c⟩, d⟩
  | cont => obtain ⟨σ, H, I, M', ρ, cs, a, b, c, d⟩ := h; exact ⟨ρ, cs, ⟨σ, H, M', I, hk.trans a, hM.trans a, b, c⟩, d⟩
  | ret u => obtain ⟨v, σ, H, I, r, M', x, cs, a, b, c, d⟩ := h; exact ⟨v, x, σ, H, M', cs, I, hk.trans a, hM.trans a, b, r, c, d⟩
def wGP (ws : WS) : WGn := fun D xs c0 ρ cs => ws (D.at xs c0) ρ cs
theorem ends_gd {y : Gh} {D : GDs} {xs : List Dat} {M : Hp} : EndsOk G.K M (D.at xs y.cs) { nx := fun σ H => ∃ M' ρ cs, Same M M' ∧ Ok G.K M' H cs ∧ Rho G.K M' σ ρ ∧ D.nx xs y.cs ρ cs, rt := fun v H => ∃ M' x cs, Same M M' ∧ Ok G.K M' H cs ∧ RV G.K M' v x ∧ D.rt xs y.cs x cs, bk := fun σ H => ∃ M' ρ cs, Same M M' ∧ Ok G.K M' H cs ∧ Rho G.K M' σ ρ ∧ D.bk xs y.cs ρ cs, ct := fun σ H => ∃ M' ρ cs, Same M M' ∧ Ok G.K M' H cs ∧ Rho G.K M' σ ρ ∧ D.ct xs y.cs ρ cs } :=
  ⟨fun σ' ρ' M' H' cs' s o r p => ⟨M', ρ', cs', s, o, r, p⟩, fun v x M' H' cs' s o r p => ⟨M', x, cs', s, o, r, p⟩, fun σ' ρ' M' H' cs' s o r p => ⟨M', ρ', cs', s, o, r, p⟩, fun σ' ρ' M' H' cs' s o r p => ⟨M', ρ', cs', s, o, r, p⟩⟩
theorem dgs_plain (h : ∀ s H, DS (G.X s H) st ws) : DGS G Gd fin st (wGP ws) := by
  refine ⟨fun Mk y ip c fs K J gd lv s xs ρ cs D g hy k ⟨σ, H, M, I, hk, hM, o, r⟩ ht => sz_wrap ?_⟩
  rw [g.over]
  exact wpAny_mono ((h _ _).run ip s σ H _ I ⟨M, ρ, cs, D.at xs y.cs, o, r, ht, ends_gd⟩) (fun f s' hs => k y xs s' f hy (sp_gd hk hM hs)) fun x s' hx => hx.elim
theorem dgss_plain (h : ∀ s H, DSs (G.X s H) sts ws) : DGSs G Gd fin sts (wGP ws) := by
  refine ⟨fun Mk y ip c fs K J gd lv s xs ρ cs D g hy k ⟨σ, H, M, I, hk, hM, o, r⟩ ht => sz_wrap ?_⟩
  rw [g.over]
  exact wpAny_mono ((h _ _).run ip s σ H _ I ⟨M, ρ, cs, D.at xs y.cs, o, r, ht, ends_gd⟩) (fun f s' hs => k y xs s' f hy (sp_gd hk hM hs)) fun x s' hx => hx.elim
def wG0 : WGn := fun D xs c0 ρ cs => D.nx xs c0 ρ cs
theorem dgss_nil : DGSs G Gd fin [] wG0 := ⟨fun Mk y ip c fs K J gd lv s xs ρ cs D g hy k hR ht => k y xs s .next hy ⟨ρ, cs, hR, ht⟩⟩
def wGSeq (t u : WGn) : WGn := fun D xs c0 ρ cs => t { D with nx := u D } xs c0 ρ cs
theorem dgss_cons (a : DGS G Gd fin st t) (b : DGSs G Gd fin sts u) : DGSs G Gd fin (st :: sts) (wGSeq t u) := by
  refine ⟨fun Mk y ip c fs K J gd lv s xs ρ cs D g hy k hR ht => ?_⟩
  rw [execs_cons_wrap]
  refine a.run Mk y ip c fs _ J gd lv s xs ρ cs { D with nx := u D } g hy (fun y' xs' s' f hy' hs => ?_) hR ht
  cases f with
  | next =>
    obtain ⟨ρ', cs', hR', q⟩ := hs
    exact b.run Mk y' ip c fs K J gd lv s' xs' ρ' cs' D g hy' k hR' q
  | brk => exact k y' xs' s' .brk hy' hs
  | cont => exact k y' xs' s' .cont hy' hs
  | ret v => exact k y' xs' s' (.ret v) hy' hs
/-! ### if -/
def wGIf (c : WT) (t u : WGn) : WGn := fun D xs c0 ρ cs => c ρ cs fun b cs1 => if b = true then t D xs c0 ρ cs1 else u D xs c0 ρ cs1
theorem dgs_if {test : Expr} {sa sb : List Stmt} {pos : Pos} {w : WT} (hc : ∀ s H, DT (G.X s H) test w) (ha : DGSs G Gd fin sa t) (hb : DGSs G Gd fin sb u) : DGS G Gd fin (.If test sa sb pos) (wGIf w t u) := by
  refine ⟨fun Mk y ip c fs K J gd lv s xs ρ cs D g hy k ⟨σ, H, M, I, hk, hM, o, r⟩ ht => ?_⟩
  rw [exec_If]
  refine sz_at ?_
  show SegZ _ _ _ c ((isTrue test G.env (eval test G.env) >>= fun b => if b = true then execs sa G.env else execs sb G.env).wrap K J gd lv) fs s
  rw [Sem.bind_eq_wrap', Sem.wrap_wrap]
  refine sz_wrap ?_
  rw [g.over]
  refine wpAny_mono ((hc _ _).run ip s σ H (fun b H' => ∃ M' cs', Same M M' ∧ Ok G.K M' H' cs' ∧ if b = true then t D xs y.cs ρ cs' else u D xs y.cs ρ cs') I ⟨M, ρ, cs, _, o, r, ht, fun b M' H' cs' s o' p => ⟨M', cs', s, o', p⟩⟩) (fun b s' hs => ?_) fun x s' hx => hx.elim
  obtain ⟨H', I', M', cs', sm, o', p⟩ := hs
  cases b with
  | true => exact ha.run Mk y ip c fs K J gd lv s' xs ρ cs' D g hy k ⟨σ, H', M', I', hk.trans sm, hM.trans sm, o', r.mono sm⟩ (by simpa using p)
  | false => exact hb.run Mk y ip c fs K J gd lv s' xs ρ cs' D g hy k ⟨σ, H', M', I', hk.trans sm, hM.trans sm, o', r.mono sm⟩ (by simpa using p)
/-! ### yield -/
def wGY (Gd : Cells → Prop) (fin : Bool) (we : WE) : WGn := fun D xs c0 ρ cs => we ρ cs fun x cs1 => SubC c0 cs1 ∧ ((xs = [] ∧ fin = false) ∨ ∃ d r, x = .dat d ∧ xs = d :: r ∧ ∀ c1, Gd c1 → D.nx r c1 ρ c1)
theorem dgs_yield {e : Expr} {yp pos : Pos} {we : WE} (he : ∀ s H, DE (G.X s H) e we) (hco : G.scope.isCoroutine = false := by rfl) (hi : interactive G.env = false := by rfl) : DGS G Gd fin (.Expr (.Yield (some e) yp) pos) (wGY Gd fin we) := by
  refine ⟨fun Mk y ip c fs K J gd lv s xs ρ cs D g hy k ⟨σ, H, M, I, hk, hM, o, r⟩ ht => ?_⟩
  rw [exec_Expr G.env _ pos hi rfl]
  show SegZ _ _ _ c (.at pos fun _ => ((eval e G.env >>= fun v => (standAt yp >>= fun _ => yieldOut G.env v)) >>= fun x => dropValue (.Yield (some e) yp) pos x).wrap K J gd lv) fs s
  have hyo : ∀ v, yieldOut G.env v = yieldValue v := fun v => by
    unfold yieldOut
    rw [if_neg (by show ¬ G.scope.isCoroutine = true; rw [hco]; decide)]
  simp only [hyo]
  refine sz_at ?_
  rw [Sem.bind_eq_wrap', Sem.bind_eq_wrap', Sem.wrap_wrap, Sem.wrap_wrap]
  refine sz_wrap ?_
  rw [g.over]
  refine wpAny_mono ((he _ _).run ip s σ H (fun v H' => ∃ x M' cs', Same M M' ∧ Ok G.K M' H' cs' ∧ RV G.K M' v x ∧ SubC y.cs cs' ∧ ((xs = [] ∧ fin = false) ∨ ∃ d r, x = .dat d ∧ xs = d :: r ∧ ∀ c1, Gd c1 → D.nx r c1 ρ c1)) I ⟨M, ρ, cs, _, o, r, ht, fun v x M' H' cs' s o' rv p => ⟨x, M', cs', s, o', rv, p.1, p.2⟩⟩) (fun v s' hs => ?_) fun x s' hx => hx.elim
  obtain ⟨x, H', I', rx, xd, M', cs', sm, o', rv, hsub, hx⟩ := hs
  refine sz_at (sz_yield g.split fun p => ?_)
  have hq : ∀ l kk, (End.susp v (gd false) l kk c p fs).quiet = true := fun l kk => by simp [End.quiet, g.gd, g.guard]
  rcases hx with ⟨e1, e2⟩ | ⟨d, rest, e1, e2, q⟩
  · rw [e1]
    exact ⟨hq _ _, fun z => by rw [e2] at z; cases z⟩
  · rw [e2]
    subst e1
    obtain ⟨m, hns, hloc⟩ := I'.loc
    obtain ⟨oL, es, ep, hoL, hdat, hrest⟩ := id hns
    have hoL : s'.heap.get? G.L = some oL := hoL
    refine ⟨v, gd false, _, _, c, p, fs, rfl, hq _ _, H', M', (G.L, oL) :: (G.pn ++ ip), x, ⟨I'.os, I'.bare, un_woken I', I'.hok, hM.trans sm, o'.sub hsub⟩, rx, rv, ⟨fun q hq => ?_, fun q hq => List.mem_cons_of_mem _ (List.mem_append_left _ hq)⟩, fun y' W => ?_⟩
    · rcases List.mem_cons.mp hq with z | z
      · rw [z]
        exact ⟨hoL, I'.free, Nat.le_refl _, fun v z => by rw [hdat] at z; cases z⟩
      · obtain ⟨i1, i2, _, _, i5⟩ := I'.pin q z
        exact ⟨i1, i2, g.yng q z, i5⟩
    · have hL := (W.pv (G.L, oL) List.mem_cons_self)
      have I2 := rebase (cut_size hy) g.cells I' W.env (fun o e => by rw [hoL] at e; cases e; exact hL.1) hL.2 (fun q hq => W.pv q (List.mem_cons_of_mem _ hq))
      have hy' : Lg G y' := Nat.le_of_lt (Heap.lt_size hL.1)
      exact k y' rest y'.s .next hy' ⟨ρ, y'.cs, ⟨σ, y'.H, y'.M, I2, (hk.trans sm).trans W.same, Same.refl _, W.ok, (r.mono sm).mono W.same⟩, q y'.cs W.gd⟩
end
end GT
set_option maxRecDepth 100000
set_option maxHeartbeats 4000000
namespace GT
open PySem L2 PySem.Spec PyProof.Rows GenW DL
section
variable {M : Model} {A : Around} {Z : End → Shared → Prop} {c : Code} {fs : List Frame} {s : Shared}
theorem sz_bindw {α β : Type} {m : Sem α} {f : α → Sem β} {K : β → Sem PySem.Fin} {H : Value → Sem PySem.Fin} {gd lv}
    (h : wpAny M (A.over c fs) m (fun a s' => SegZ M A Z c ((f a).wrap K H gd lv) fs s') (fun x s' => SegZ M A Z c (H x) fs s') s) : SegZ M A Z c ((m >>= f).wrap K H gd lv) fs s := by
  rw [Sem.bind_eq_wrap', Sem.wrap_wrap]
  exact sz_wrap h
end
/-! ### for -/
def wGFor (wi : WI) (g : WG) (tb : WGn) : WGn := fun D xs c0 ρ cs => wi ρ cs fun items Gi cs1 => ∃ Inv : Nat → List Dat → Cells → DEnv → Cells → Prop, Inv 0 xs c0 ρ cs1 ∧ (∀ i xs c0 ρ' cs', i ≤ items.length → Inv i xs c0 ρ' cs' → Gi cs') ∧
  (∀ i x xs c0 ρ' cs', items[i]? = some x → Inv i xs c0 ρ' cs' → g x ρ' cs' fun ρ2 cs2 => tb { D with nx := Inv (i + 1), ct := Inv (i + 1), bk := D.nx } xs c0 ρ2 cs2) ∧ ∀ xs c0 ρ' cs', Inv items.length xs c0 ρ' cs' → D.nx xs c0 ρ' cs'
section
variable {G : GP} {Gd : Cells → Prop} {fin : Bool}
theorem gcd_loop {ip : List (Addr × Obj)} {c c' : Code} {fs : List Frame} {gd : Bool → Bool} {k : Result → Sem PySem.Fin} {l kp : List Value} {p : Pos} (g : GCd G ip c fs gd) (hw : c'.weight = 0) (hu : c'.cUnits = 0) : GCd G ip c' (.ret k none (gd false) l c p kp :: fs) id where
  cells := g.cells
  yng := g.yng
  over := (over_loop hw hu).trans g.over
  split := by
    show (splitAtGen fs).map _ = none
    rw [g.split]; rfl
  guard := by
    show (gd false || fs.any Frame.guarded) = false
    rw [g.gd, g.guard]; rfl
  gd := rfl
theorem dgs_for {tg iter : Expr} {body : List Stmt} {pos : Pos} {js : List Nat} {wi : WI} {g : WG} {tb : WGn} (hi : ∀ s H, DI (G.X s H) tg iter wi) (hg : ∀ s H, DG (G.X s H) js tg g) (hb : DGSs G Gd fin body tb)
    (hs : ∀ x, foldedSetIterable iter G.env x = pure x := by intro _; rfl) : DGS G Gd fin (.For tg iter body [] pos) (wGFor wi g tb) := by
  refine ⟨fun Mk y ip c fs K J gd lv s xs ρ cs D gc hy k ⟨σ, H, M, I, hk, hM, o, r⟩ ht => ?_⟩
  rw [exec_For]
  refine sz_at ?_
  show SegZ _ _ _ c ((eval iter G.env >>= fun v => foldedSetIterable iter G.env v >>= fun x => standAt iter.pos >>= fun _ => holding [x] (pyIter x) >>= fun it => runOwn (.forLoop tg it body [] G.env) G.env).wrap K J gd lv) fs s
  refine sz_bindw ?_
  rw [gc.over]
  refine wpAny_mono ((hi _ _).run ip s σ H (fun JJ H' => ∃ items Gi M' cs', Same M M' ∧ Ok G.K M' H' cs' ∧ ItOk G.K M' JJ items Gi ∧ ∃ Inv : Nat → List Dat → Cells → DEnv → Cells → Prop, Inv 0 xs y.cs ρ cs' ∧ (∀ i xs c0 ρ' cs', i ≤ items.length → Inv i xs c0 ρ' cs' → Gi cs') ∧
    (∀ i x xs c0 ρ' cs', items[i]? = some x → Inv i xs c0 ρ' cs' → g x ρ' cs' fun ρ2 cs2 => tb { D with nx := Inv (i + 1), ct := Inv (i + 1), bk := D.nx } xs c0 ρ2 cs2) ∧ ∀ xs c0 ρ' cs', Inv items.length xs c0 ρ' cs' → D.nx xs c0 ρ' cs') I
    ⟨M, ρ, cs, _, o, r, ht, fun JJ items Gi M' H' cs' sm o' it p => ⟨items, Gi, M', cs', sm, o', it, p⟩⟩) (fun v s1 h1 => ?_) fun x s' hx => hx.elim
  rw [hs]
  refine sz_bindw (wpAny_pure ?_)
  refine sz_bindw (wpAny_standAt ?_)
  refine sz_bindw (wpAny_holding ?_)
  rw [gc.over]
  refine wpAny_mono h1 (fun itv s2 h2 => ?_) fun x s' hx => hx.elim
  obtain ⟨it, fp, tn, JJ, H2, rfl, I2, T, tn0, fpk, items, Gi, M1, cs1, sm1, o1, iok, Iv, iv0, ivG, turn, fin'⟩ := h2
  have hLb : ∀ b ∈ fp, G.L ≤ b := fun b hb => by
    rcases (fpk b hb).2.2.2.1 with z | z
    · exact absurd z (by simp [GP.X])
    · exact Nat.le_trans (Nat.le_of_eq (cut_size hy).symm) z
  have stat : ∀ {y' : Gh} {H' : Hp}, Lg G y' → (∀ b ∈ fp, H' b = none) → ∀ b ∈ fp, FpOk (G.X (cutS G.L y'.s) y'.H) ip H' b := fun {y' H'} hy' hn b hb => by
    obtain ⟨_, f1, f2, _, f4, f5⟩ := fpk b hb
    exact ⟨hn b hb, f1, f2, .inr (Nat.le_trans (Nat.le_of_eq (cut_size hy')) (hLb b hb)), f4, f5⟩
  refine sz_call fun p => ?_
  have gl := fun (kk : Result → Sem PySem.Fin) => gcd_loop (k := kk) (c' := .forLoop tg (.ref it) body [] G.env) (l := lv []) (kp := []) (p := p) gc rfl rfl
  have gl2 := fun (kk : Result → Sem PySem.Fin) => gcd_loop (k := kk) (c' := .block [] G.env) (l := lv []) (kp := []) (p := p) gc rfl rfl
  have loop : ∀ (m i : Nat) (y : Gh) (xs : List Dat) (s : Shared) (ρ : DEnv) (cs : Cells), m = items.length - i → i ≤ items.length → Lg G y → (∃ σ H M, Inv (G.X (cutS G.L y.s) y.H) ip σ H s ∧ Same Mk M ∧ Same M1 M ∧ Same y.M M ∧ Ok G.K M H cs ∧ Rho G.K M σ ρ ∧ (∀ b ∈ fp, H b = none) ∧ tn i s.heap) → Iv i xs y.cs ρ cs →
      SegZ (model G.P G.w) G.A (Zy G Gd fin xs y) (.forLoop tg (.ref it) body [] G.env) ((model G.P G.w).den (.forLoop tg (.ref it) body [] G.env))
        (.ret (fun r => ((match r with | .ok f => (.pure f : Sem Flow) | .error e => .raise e).onRaise (cameBack G.env)).wrap K J gd lv) none (gd false) (lv []) c p [] :: fs) s := by
    intro m
    induction m with
    | zero =>
      intro i y xs s ρ cs hm hi hy ⟨σ, H, M, I, hk, h1, hM, o, r, fr, ht⟩ iv
      have ei : i = items.length := by omega
      subst ei
      show SegZ _ _ _ _ ((forTurn tg (.ref it) body [] G.env).onRaise _) _ _
      rw [Sem.onRaise_eq_wrap]
      unfold forTurn
      refine sz_bindw (wpAny_standAt ?_)
      refine sz_bindw (wpAny_onRaise ?_)
      rw [(gl _).over]
      refine wpAny_mono (T.done (G.X (cutS G.L y.s) y.H) rfl rfl rfl rfl items.length ip s σ H (fun _ _ => False) I (stat hy fr) ht (iok.stop M H cs h1 o (ivG _ _ _ _ _ hi iv))) (fun rr s3 h3 => ?_) fun _ _ z => z.elim
      obtain ⟨rfl, I3⟩ := h3
      show SegZ _ _ _ _ (.pure (.again (.block [] G.env))) _ _
      refine sz_again rfl ?_
      show SegZ _ _ _ _ (.pure (.done .next)) _ _
      exact sz_leaf (.ok .next) (k y xs s3 .next hy ⟨ρ, cs, ⟨σ, H, M, I3, hk, hM, o, r⟩, fin' _ _ _ _ iv⟩)
    | succ m ih =>
      intro i y xs s ρ cs hm hi hy ⟨σ, H, M, I, hk, h1, hM, o, r, fr, ht⟩ iv
      have hlt : i < items.length := by omega
      have gi := ivG _ _ _ _ _ hi iv
      show SegZ _ _ _ _ ((forTurn tg (.ref it) body [] G.env).onRaise _) _ _
      rw [Sem.onRaise_eq_wrap]
      unfold forTurn
      refine sz_bindw (wpAny_standAt ?_)
      refine sz_bindw (wpAny_onRaise ?_)
      rw [(gl _).over]
      refine wpAny_mono (T.item (G.X (cutS G.L y.s) y.H) rfl rfl rfl rfl i ip s σ H (fun _ _ => False) I (stat hy fr) ht (iok.go i M H cs h1 o gi hlt)) (fun rr s3 h3 => ?_) fun _ _ z => z.elim
      obtain ⟨u, rfl, h3⟩ := h3
      refine sz_bindw ?_
      rw [(gl _).over]
      refine wpAny_mono h3 (fun _ s4 h4 => ?_) fun _ _ z => z.elim
      obtain ⟨x, H4, I4, rx, yl, t4, fr4⟩ := h4
      obtain ⟨M4, xv, ex, s4', o4, rv⟩ := iok.yld i M H cs x H4 h1 o gi yl hlt
      have I4' := I4.pinned (stat hy fr4) (T.obj _ _ t4)
      refine sz_bindw ?_
      rw [(gl _).over]
      refine wpAny_mono ((hg _ _).run (ip ++ pinsAt fp s4.heap) s4 σ H4 x u (fun σ' H' => ∃ M' ρ' cs', Same M4 M' ∧ Ok G.K M' H' cs' ∧ Rho G.K M' σ' ρ' ∧ tb { D with nx := Iv (i + 1), ct := Iv (i + 1), bk := D.nx } xs y.cs ρ' cs') I4' rx
        ⟨M4, ρ, cs, xv, _, o4, r.mono s4', rv, turn i xv xs y.cs ρ cs ex iv, fun σ' ρ' M' H' cs' sm o' r' _ _ p => ⟨M', ρ', cs', sm, o', r', p⟩⟩) (fun _ s5 h5 => ?_) fun _ _ z => z.elim
      obtain ⟨σ5, H5, I5, M5, ρ5, cs5, sm5, o5, r5, q5⟩ := h5
      rw [Sem.bind_eq_wrap', Sem.wrap_wrap]
      have s15 : Same M M5 := s4'.trans sm5
      have gx : ∀ kk, GCd G (ip ++ pinsAt fp s4.heap) (.forLoop tg (.ref it) body [] G.env) (.ret kk none (gd false) (lv []) c p [] :: fs) id := fun kk => ⟨gc.cells, fun q hq => by
        rcases List.mem_append.mp hq with z | z
        · exact gc.yng q (List.mem_append_left _ z)
        · rcases List.mem_append.mp z with z | z
          · exact gc.yng q (List.mem_append_right _ z)
          · exact hLb _ (of_pinsAt z).1, (gl kk).over, (gl kk).split, (gl kk).guard, rfl⟩
      have back : ∀ {y' : Gh} {s7 : Shared} {σ7 : L2.St} {H7 : Hp}, Inv (G.X (cutS G.L y'.s) y'.H) (ip ++ pinsAt fp s4.heap) σ7 H7 s7 → Inv (G.X (cutS G.L y'.s) y'.H) ip σ7 H7 s7 ∧ (∀ b ∈ fp, H7 b = none) ∧ tn (i + 1) s7.heap := fun {y' s7 σ7 H7} I7 => by
        refine ⟨I7.unpinned, fun b hb => ?_, T.keep _ _ _ t4 fun b hb o e => (I7.pin (b, o) (List.mem_append_right _ (List.mem_append_right _ (mem_pinsAt hb e)))).1⟩
        obtain ⟨o, e, _⟩ := T.obj _ _ t4 b hb
        exact (I7.pin (b, o) (List.mem_append_right _ (List.mem_append_right _ (mem_pinsAt hb e)))).2.1
      refine hb.run (fun b => M5 b) y (ip ++ pinsAt fp s4.heap) _ _ _ _ id id s5 xs ρ5 cs5 { D with nx := Iv (i + 1), ct := Iv (i + 1), bk := D.nx } (gx _) hy (fun y' xs' s7 f hy' hs7 => ?_) ⟨σ5, H5, M5, I5, Same.refl _, hM.trans s15, o5, r5⟩ q5
      have hk5 := hk.trans s15
      have h15 := h1.trans s15
      cases f with
      | next =>
        obtain ⟨ρ7, cs7, ⟨σ7, H7, M7, I7, k7, m7, o7, r7⟩, q7⟩ := hs7
        obtain ⟨b1, b2, b3⟩ := back I7
        exact sz_again rfl (ih (i + 1) y' xs' s7 ρ7 cs7 (by omega) hlt hy' ⟨σ7, H7, M7, b1, hk5.trans k7, h15.trans k7, m7, o7, r7, b2, b3⟩ q7)
      | cont =>
        obtain ⟨ρ7, cs7, ⟨σ7, H7, M7, I7, k7, m7, o7, r7⟩, q7⟩ := hs7
        obtain ⟨b1, b2, b3⟩ := back I7
        exact sz_again rfl (ih (i + 1) y' xs' s7 ρ7 cs7 (by omega) hlt hy' ⟨σ7, H7, M7, b1, hk5.trans k7, h15.trans k7, m7, o7, r7, b2, b3⟩ q7)
      | brk =>
        obtain ⟨ρ7, cs7, ⟨σ7, H7, M7, I7, k7, m7, o7, r7⟩, q7⟩ := hs7
        exact sz_leaf (.ok .next) (k y' xs' s7 .next hy' ⟨ρ7, cs7, ⟨σ7, H7, M7, (back I7).1, hk5.trans k7, m7, o7, r7⟩, q7⟩)
      | ret v =>
        obtain ⟨v7, x7, σ7, H7, M7, cs7, I7, k7, m7, o7, rv7, rx7, q7⟩ := hs7
        exact sz_leaf (.ok (.ret v)) (k y' xs' s7 (.ret v) hy' ⟨v7, x7, σ7, H7, M7, cs7, (back I7).1, hk5.trans k7, m7, o7, rv7, rx7, q7⟩)
  exact loop (items.length - 0) 0 y xs s2 ρ cs1 rfl (Nat.zero_le _) hy ⟨σ, H2, M1, I2, hk.trans sm1, Same.refl _, hM.trans sm1, o1, r.mono sm1, fun b hb => (fpk b hb).1, tn0⟩ iv0
end
end GT
set_option maxRecDepth 100000
set_option maxHeartbeats 4000000
namespace GT
open PySem L2 PySem.Spec PyProof.Rows GenW DL
open Sem (wp)
/-! ### waking -/
def Wk (M : Model) (A : Around) (Z : End → Shared → Prop) (gs : GenState) (s : Shared) : Prop :=
  match gs with
  | .fresh c => SegZ M A Z c (M.den c) [] s
  | .suspended k _ c _ fs _ => SegZ M A Z c (k (.send .none)) fs s
  | _ => False
theorem wp_resumeZ {M : Model} {A : Around} {Z : End → Shared → Prop} {E : Value → Shared → Prop} {s : Shared} {g : Nat} {gs : GenState} {l : List Value} {α : Type} {k : GenResult → Sem α} {Q : α → Shared → Prop} (hg : s.gens[g]? = some gs) (hgo : Wk M A Z gs (s.setGen g .running))
    (hZ : ∀ e s₁, Z e s₁ → e.quiet = true ∧ wpAny M A (k e.result) Q E (s₁.setGen g e.genState)) : wpAny M A (.resume g (.send .none) l k) Q E s := by
  intro Γ p hΓ
  rw [Sem.wp_resume]
  have hB : ∀ c, (Γ.wake c p).Woken A := fun c => hΓ.wake c p
  cases gs with
  | fresh c =>
    obtain ⟨e₁, s₁, hr, he⟩ := hgo (Γ.wake c p) p rfl (hB c)
    exact ⟨_, _, by unfold Wakes; rw [hg]; exact ⟨e₁, s₁, hr, (hZ e₁ s₁ he).1, rfl, rfl⟩, (hZ e₁ s₁ he).2 Γ p hΓ⟩
  | suspended k₀ l₀ c₀ p₀ fs₀ cl =>
    obtain ⟨e₁, s₁, hr, he⟩ := hgo (Γ.wake c₀ p) p₀ rfl (hB c₀)
    exact ⟨_, _, by unfold Wakes; rw [hg]; exact ⟨e₁, s₁, hr, (hZ e₁ s₁ he).1, rfl, rfl⟩, (hZ e₁ s₁ he).2 Γ p hΓ⟩
  | running => exact hgo.elim
  | finished => exact hgo.elim
section
variable {P : Program} {w : World} {A : Around} {E : Value → Shared → Prop} {s : Shared}
theorem next_Z {a : Addr} {g : Nat} {gs : GenState} {Z : End → Shared → Prop} {Q : Option Value → Shared → Prop} (hh : A.handled = none) (hl : s.heap.NoLimit) (hroom : A.depth < recursionLimit) (hg : s.heap.IsGen a g) (hgs : s.gens[g]? = some gs)
    (hgo : Wk (model P w) A.in1 Z gs (s.setGen g .running)) (hq : ∀ e s₁, Z e s₁ → e.quiet = true ∧ ((∃ v gd l k c p fs, e = .susp v gd l k c p fs) ∨ e = .ret (.ok (.ret .none))))
    (hY : ∀ v s₁ gd l k c p fs, Z (.susp v gd l k c p fs) s₁ → Q (some v) (s₁.setGen g (End.susp v gd l k c p fs).genState))
    (hP : ∀ s₁, Z (.ret (.ok (.ret .none))) s₁ → ∀ h', (∀ b o, s₁.heap.get? b = some o → h'.get? b = some o) → Q none { s₁.setGen g .finished with heap := h' }) : wpAny (model P w) A (pyNext (.ref a)) Q E s := by
  unfold pyNext
  refine wpAny_bind (wpAny_attempt (wpAny_callSpecial?_slot (name := Str.ofString "__next__") hg.typeIs slot_gen_next (wpAny_call_entry slot_gen_next hg.typeIs entry_gen_next ?_ (args_gen_next _))))
  show wpAny _ A.in1 (Builtin.Generator.genWake (.ref a) (.send .none)) _ _ s
  unfold Builtin.Generator.genWake
  refine wpAny_bind (wpAny_holding (wpAny_genNumber hg (wpAny_bind (wpAny_genState hgs ?_))))
  cases gs with
  | running => exact hgo.elim
  | finished => exact hgo.elim
  | _ =>
    refine wpAny_bind (wpAny_roomToWake hl hroom ?_)
    show wpAny _ A.in1 (.resume g (.send .none) [] _) _ _ s
    refine wp_resumeZ hgs hgo fun e s₁ he => ⟨(hq e s₁ he).1, ?_⟩
    rcases (hq e s₁ he).2 with ⟨v, gd, l, k, c, p, fs, rfl⟩ | rfl
    · exact wpAny_pure ⟨v, rfl, wpAny_pure (hY v s₁ gd l k c p fs he)⟩
    · show wpAny _ A.in1 (newExc (.type "StopIteration") [] >>= _) _ _ _
      refine wpAny_bind ?_
      simp only [newExc, newTuple]
      refine wpAny_bind (wpAny_newObj_type ?_ (by size_fits))
      refine wpAny_bind (m := firstArgMember _ _) (wpAny_of_eq (a := Value.none) (by first | rfl | (simp only [firstArgMember]; rfl)) ?_)
      refine wpAny_newObj_type ?_ (by size_fits)
      simp only [raiseNew]
      refine wpAny_bind (wpAny_bind (wpAny_handled ?_))
      first | rw [show A.in1.handled = none from hh] | rw [hh]
      refine wpAny_throw ?_
      refine wpAny_bind (wpAny_isInstance (T := "StopIteration") (b := true) ⟨_, Heap.get?_push_size _ rfl, rfl⟩ isSubtype_stop ?_)
      exact wpAny_pure (hP s₁ he _ fun b o hb => Heap.get?_push_of_some _ (Heap.get?_push_of_some _ hb))
end
/-! ### a generator made by a call -/
abbrev GSpec := List Vl → Cells → List Dat → Bool → (Cells → Prop) → Prop
def GP.at (G : GP) (A : Around) : GP := { G with A := A }
structure MadeD (P : Program) (w : World) (K : Frag) (mg : Str → Option Value) (base : Heap) (k : Nat) (outer : List Env) (M : Hp) (s : Shared) (ds : List Dat) (fin : Bool) (Gd : Cells → Prop) (a : Addr) (s' : Shared) (G : GP) (g : Nat) (go oL : Obj) (c : Code) : Prop where
  eqP : G.P = P ∧ G.w = w ∧ G.K = K ∧ G.mg = mg ∧ G.base = base ∧ G.outer = outer ∧ G.L = s.heap.objs.size ∧ G.pn = [(a, go)]
  gen : ∀ h : Heap, h.get? a = some go → h.IsGen a g
  cls : go.cls = .type "generator" ∧ ∃ vs, go.data = .fields vs
  obj : s'.heap.get? a = some go ∧ s'.heap.get? G.L = some oL ∧ G.L ≤ a ∧ (∀ v, go.data ≠ .cell v) ∧ (∀ v, oL.data ≠ .cell v)
  new : s'.gens[g]? = some (.fresh c)
  os : s'.os = s.os
  bare : AllBare s'.gens
  keep : ∀ b o, s.heap.get? b = some o → s'.heap.get? b = some o
  wake : ∀ A, Room k A → A.frames = some outer → ∀ y, Wake (G.at A) Gd M [(G.L, oL), (a, go)] y → SegZ (model P w) A (Zy (G.at A) Gd fin ds y) c ((model P w).den c) [] y.s
structure GFnD (P : Program) (w : World) (K : Frag) (mg : Str → Option Value) (base : Heap) (k : Nat) (f : Addr) (fd : FuncData) (ps : List Str) (sp : GSpec) : Prop where
  len : ∀ xs cs ds fin Gd, sp xs cs ds fin Gd → xs.length = ps.length
  run : ∀ (A : Around) (outer : List Env) (s : Shared) (H M : Hp) (cs : Cells) (args : Args) (us : List Value) (vs : List V) (xs : List Vl) (ds : List Dat) (fin : Bool) (Gd : Cells → Prop), Room k A → Env0 P w K mg base A outer s H → BindsTo s fd args (ps.zip us) → Vals vs us → Ok K M H cs → Paired (RV K M) vs xs → sp xs cs ds fin Gd →
    codeAny (model P w) A (.call (.ref f) args) (fun r s' => ∃ a G g go oL c, r = .ok (.ret (.ref a)) ∧ MadeD P w K mg base k outer M s ds fin Gd a s' G g go oL c) s
theorem cells_nil : ∀ (names : List (Str × NameKind)) (n : Nat), (∀ y ∈ names, y.2 ≠ .cell) → cellsFrom n names [] = []
  | [], _, _ => rfl
  | (nm, kd) :: r, n, h => by
    unfold cellsFrom
    have h1 : kd ≠ .cell := h (nm, kd) List.mem_cons_self
    rw [if_neg (by intro z; exact h1 (eq_of_beq z))]
    exact cells_nil r n fun y hy => h y (List.mem_cons_of_mem _ hy)
theorem sz_func {P : Program} {w : World} {A : Around} {Z : End → Shared → Prop} {fs : List Frame} {s : Shared} {body : List Stmt} {env : Env}
    (h : SegZ (model P w) A Z (.func body env) ((execs body env).wrap (fun f => .pure (.done (.ret (match f with | .ret v => v | _ => .none)))) (fun e => (leaving env e).wrap (fun _ => .raise e) .raise id id) id id) fs s) :
    SegZ (model P w) A Z (.func body env) ((model P w).den (.func body env)) fs s := by
  show SegZ _ A Z _ (.point [] fun _ => ((execs body env).onRaise (leaving env)) >>= _) fs s
  refine sz_point ?_
  rw [Sem.onRaise_eq_wrap, Sem.bind_eq_wrap', Sem.wrap_wrap]
  rw [Sem.wrap_congr (execs body env) _ _ (K' := fun f => .pure (.done (.ret (match f with | .ret v => v | _ => .none)))) (H' := fun e => (leaving env e).wrap (fun _ => .raise e) .raise id id) (fun f => by cases f <;> rfl) (fun e => by rw [Sem.bind_eq_wrap, Sem.wrap_wrap]; rfl)]
  exact h
/-- the ends of a generator's body -/
def genD : GDs := { nx := fun xs c0 _ cs => xs = [] ∧ SubC c0 cs, rt := fun xs c0 x cs => x = .dat .non ∧ xs = [] ∧ SubC c0 cs }
theorem gfn_data {P : Program} {w : World} {K : Frag} {mg : Str → Option Value} {base : Heap} {x qual : Str} {st : Stmt} {f : Addr} {fd : FuncData} {N ps : List Str} {k : Nat} {sp : GSpec} {t : (Cells → Prop) → Bool → WGn} (F : Fun K x qual st f fd) (S : GScope N ps (defScope st)) (hnc : ∀ y ∈ (defScope st).names, y.2 ≠ .cell)
    (len : ∀ xs cs ds fin Gd, sp xs cs ds fin Gd → xs.length = ps.length)
    (body : ∀ (cdv : Value) (A : Around) (outer : List Env) (L : Addr) (pn : List (Addr × Obj)) (Gd : Cells → Prop) (fin : Bool), Room k (A.deeper (envOfC qual (defScope st) L f cdv)) → DGSs ⟨P, w, K, mg, base, N, qual, defScope st, f, cdv, A, outer, L, pn⟩ Gd fin (defBody st) (t Gd fin))
    (pure : ∀ xs cs ds fin Gd, sp xs cs ds fin Gd → ∀ c1, Gd c1 → t Gd fin genD ds c1 (startD N.length xs) c1) : GFnD P w K mg base (k + 1) f fd ps sp := by
  obtain ⟨oc, od, kV, doc, pm, an, cdv, ct, osl, rfl, lk, hcd⟩ := F.ex
  refine ⟨len, fun A outer s H M cs args us vs xs ds fin Gd hr e0 hb rvs o rxs hsp => ?_⟩
  have hl := (Paired.len rxs).trans (len _ _ _ _ _ hsp)
  have KX : K.In s.heap := e0.mod.kin.keeps fun b o e => (e0.bs b o e).1
  have lim : s.heap.NoLimit := e0.mod.nolimit.keeps fun b o e => (e0.bs b o e).1
  have hkind : ∀ y ∈ ps.zip us, (defScope st).names.lookup y.1 = some .local ∨ ((defScope st).names.lookup y.1 = some .cell ∧ ((cellsFrom (s.heap.objs.size + 1) (defScope st).names []).lookup y.1).isSome = true) := fun ⟨n, v⟩ hy => by
    rcases S.par n (List.of_mem_zip hy).1 with q | q
    · exact .inl q
    · exact .inr ⟨q, PySem.W.cellsFrom_some _ _ _ (.inl q)⟩
  refine codeAny_call_generator hr.depth (KX _ _ lk) rfl S.co S.gen rfl (PySem.W.codeRec_of KX hcd) (hb _ _ _ _ ?_)
  refine wpAny_newFunctionEnv_cells S.kind hkind fun env he s1 xc => ?_
  subst he
  have lim1 : s1.heap.NoLimit := lim.keeps xc.toInCall.keep
  refine ⟨lim1, ?_⟩
  obtain ⟨h1, tk, es1, hk1⟩ := xc.done
  have os1 : s1.os = s.os := by rw [es1]
  have gen1 : s1.gens = s.gens := by rw [es1]
  have lt1 : s.heap.objs.size < s1.heap.objs.size := xc.toInCall.ns.lt
  have kp1 : ∀ b o, s.heap.get? b = some o → s1.heap.get? b = some o := xc.toInCall.keep
  obtain ⟨oL, es, ep, hoL, hdat, hrest⟩ := xc.toInCall.ns
  have hoL : s1.heap.get? s.heap.objs.size = some oL := hoL
  have hcl : (envOfC qual (defScope st) s.heap.objs.size f cdv).cells = [] := cells_nil _ _ hnc
  refine ⟨s1.heap.objs.size, ⟨P, w, K, mg, base, N, qual, defScope st, f, cdv, A, outer, s.heap.objs.size, [(s1.heap.objs.size, _)]⟩, s1.gens.size, _, oL, _, rfl, ⟨⟨rfl, rfl, rfl, rfl, rfl, rfl, rfl, rfl⟩, fun h e => ⟨_, _, _, e, rfl, rfl, rfl⟩, ⟨rfl, _, rfl⟩, ⟨Heap.get?_push_size _ rfl, Heap.get?_push_of_some _ hoL, Nat.le_of_lt lt1, fun v z => (by cases z), fun v z => (by rw [hdat] at z; cases z)⟩, Array.getElem?_push_size .., os1, AllBare.push (by rw [gen1]; exact e0.bare) rfl, fun b o e => Heap.get?_push_of_some _ (kp1 b o e), ?_⟩⟩
  intro Aw hrw hfr y W
  have e0w : Env0 P w K mg base Aw outer s H := ⟨hfr, e0.mod, e0.bs, e0.bsz, e0.funs, e0.frf, e0.hok, e0.bare⟩
  have I1 : Inv (gcxOf P w K mg base N qual (defScope st) f cdv Aw outer s H E0 []) [] (start N vs) H s1 := inv_startG S hrw.hd e0w hl rvs xc
  have hL1 := W.pv (s.heap.objs.size, oL) List.mem_cons_self
  have hA1 := W.pv _ (List.mem_cons_of_mem _ List.mem_cons_self)
  have hga : H s1.heap.objs.size = none := I1.hok.fresh (Nat.le_refl _)
  have I2 := I1.kept (t' := s1.toks) (h' := s1.heap.push { cls := .type "generator", data := .fields #[.int s1.gens.size 0, .str x s1.toks, .str qual (s1.toks + 1)] }) fun b u e => Heap.get?_push_of_some _ e
  have I3 : Inv (GP.X ⟨P, w, K, mg, base, N, qual, defScope st, f, cdv, Aw, outer, s.heap.objs.size, [(s1.heap.objs.size, { cls := .type "generator", data := .fields #[.int s1.gens.size 0, .str x s1.toks, .str qual (s1.toks + 1)] })]⟩ s H) [] (start N vs) H { s1 with heap := s1.heap.push { cls := .type "generator", data := .fields #[.int s1.gens.size 0, .str x s1.toks, .str qual (s1.toks + 1)] }, toks := s1.toks } := by
    refine ⟨⟨I2.ok.mod, I2.ok.kind, I2.ok.glob, I2.ok.blt, I2.ok.above, I2.ok.inj, I2.ok.has, I2.ok.cab, I2.ok.hd, I2.ok.frames, I2.ok.stk, I2.ok.exf, I2.ok.bs, I2.ok.bsz, I2.ok.noex, I2.ok.exfs, I2.ok.funs, I2.ok.frf⟩, I2.os, I2.bare, I2.base, I2.loc, I2.cell, I2.free, I2.freeC, fun p hp => ?_, I2.hok, I2.len⟩
    rw [List.mem_singleton.mp (show p ∈ [_] from hp)]
    exact ⟨Heap.get?_push_size _ rfl, hga, Nat.ne_of_gt lt1, I1.nofs (Nat.le_refl _), fun v z => by cases z⟩
  have hy : Lg ⟨P, w, K, mg, base, N, qual, defScope st, f, cdv, Aw, outer, s.heap.objs.size, [(s1.heap.objs.size, { cls := .type "generator", data := .fields #[.int s1.gens.size 0, .str x s1.toks, .str qual (s1.toks + 1)] })]⟩ y := Nat.le_of_lt (Heap.lt_size hL1.1)
  have I4 := rebase (G := ⟨P, w, K, mg, base, N, qual, defScope st, f, cdv, Aw, outer, s.heap.objs.size, [(s1.heap.objs.size, { cls := .type "generator", data := .fields #[.int s1.gens.size 0, .str x s1.toks, .str qual (s1.toks + 1)] })]⟩) rfl hcl I3 W.env (fun o e => by
    have e' : (s1.heap.push _).get? s.heap.objs.size = some o := e
    rw [Heap.get?_push_of_some _ hoL] at e'
    cases e'
    exact hL1.1) hL1.2 (fun q hq => by
      rw [List.mem_singleton.mp (show q ∈ [_] from hq)]
      exact hA1)
  refine sz_func ?_
  refine (body cdv Aw outer s.heap.objs.size _ Gd fin (hrw.deeper _)).run y.M y [] _ [] _ _ id id y.s ds (startD N.length xs) y.cs genD ⟨hcl, fun q hq => ?_, over_func, rfl, rfl, rfl⟩ hy (fun y' xs' s' fl hy' hs => ?_) ⟨start N vs, y.H, y.M, I4, Same.refl _, Same.refl _, W.ok, (start_rho rxs).mono W.same⟩ (pure xs cs ds fin Gd hsp y.cs W.gd)
  · rw [List.mem_singleton.mp (show q ∈ [_] from hq)]
    exact Nat.le_of_lt lt1
  · cases fl with
    | next =>
      obtain ⟨ρ', cs', ⟨σ', H', M', I', k', m', o', r'⟩, rfl, sub⟩ := hs
      exact sz_end (.ok (.ret .none)) ⟨rfl, fun _ => ⟨rfl, H', M', ⟨I'.os, I'.bare, un_woken I', I'.hok, m', o'.sub sub⟩, fun q hq => (I'.pin q (List.mem_append_left _ hq)).1⟩⟩
    | brk => obtain ⟨ρ', cs', _, z⟩ := hs; exact z.elim
    | cont => obtain ⟨ρ', cs', _, z⟩ := hs; exact z.elim
    | ret u =>
      obtain ⟨v', x', σ', H', M', cs', I', k', m', o', rv', rx', rfl, rfl, sub⟩ := hs
      rw [inv_non rx'] at rv'
      have eu : u = Value.none := rv'
      subst eu
      exact sz_end (.ok (.ret .none)) ⟨rfl, fun _ => ⟨rfl, H', M', ⟨I'.os, I'.bare, un_woken I', I'.hok, m', o'.sub sub⟩, fun q hq => (I'.pin q (List.mem_append_left _ hq)).1⟩⟩
end GT
set_option maxRecDepth 100000
set_option maxHeartbeats 4000000
namespace GT
open PySem L2 PySem.Spec PyProof.Rows GenW DL
theorem inv_gens {X : Cx} {pins : List (Addr × Obj)} {σ : L2.St} {H : Hp} {s s' : Shared} (I : Inv X pins σ H s) (hh : s'.heap = s.heap) (ho : s'.os = s.os) (hb : AllBare s'.gens) : Inv X pins σ H s' := by
  obtain ⟨h, g, d, t, o⟩ := s
  obtain ⟨h', g', d', t', o'⟩ := s'
  have e1 : h' = h := hh
  have e2 : o' = o := ho
  subst e1 e2
  exact ⟨I.ok, I.os, hb, I.base, I.loc, I.cell, I.free, I.freeC, I.pin, I.hok, I.len⟩
theorem genState_susp {v g l k c p fs} : susp (End.susp v g l k c p fs).genState = true := rfl
theorem zy_ends {G : GP} {Gd : Cells → Prop} {fin : Bool} {ds : List Dat} {y : Gh} {e : End} {s' : Shared} (hf : ds = [] → fin = true) (h : Zy G Gd fin ds y e s') : e.quiet = true ∧ ((∃ v gd l k c p fs, e = .susp v gd l k c p fs) ∨ e = .ret (.ok (.ret .none))) := by
  cases ds with
  | nil =>
    obtain ⟨q, h⟩ := h
    exact ⟨q, .inr (h (hf rfl)).1⟩
  | cons d r =>
    obtain ⟨v, g, l, k, c, p, fs, rfl, q, _⟩ := h
    exact ⟨q, .inl ⟨v, g, l, k, c, p, fs, rfl⟩⟩
/-- an expression whose value is a new generator -/
abbrev WGe := DEnv → Cells → (List Dat → Bool → (Cells → Prop) → Cells → Prop) → Prop
structure DGe (X : Cx) (k : Nat) (e : Expr) (wg : WGe) : Prop where
  run : ∀ (pins : List (Addr × Obj)) (s : Shared) (σ : L2.St) (H M : Hp) (ρ : DEnv) (cs : Cells) (R : List Dat → Bool → (Cells → Prop) → Cells → Prop), Inv X pins σ H s → Ok X.K M H cs → Rho X.K M σ ρ → wg ρ cs R →
    wpAny (model X.prog X.w) X.A (eval e X.env) (fun u s' => ∃ a H1 M1 cs1 sc ds fin Gd G g go oL c, u = .ref a ∧ Inv X pins σ H1 sc ∧ Same M M1 ∧ Ok X.K M1 H1 cs1 ∧ MadeD X.prog X.w X.K X.mg X.base k X.stack M1 sc ds fin Gd a s' G g go oL c ∧ R ds fin Gd cs1) X.xe s
def wForG (wg : WGe) (g : WG) (wb : WS) : WS := fun D ρ cs => wg ρ cs fun ds fin Gd cs1 => ∃ Iv : Nat → DEnv → Cells → Prop, Iv 0 ρ cs1 ∧ (∀ i ρ' cs', i ≤ ds.length → Iv i ρ' cs' → Gd cs') ∧
  (∀ i d ρ' cs', ds[i]? = some d → Iv i ρ' cs' → g (.dat d) ρ' cs' fun ρ2 cs2 => wb { D with nx := Iv (i + 1), ct := Iv (i + 1), bk := D.nx } ρ2 cs2) ∧ ∀ ρ' cs', Iv ds.length ρ' cs' → fin = true ∧ D.nx ρ' cs'
theorem drop_cons {α : Type} {ds : List α} {i : Nat} {d : α} (h : ds[i]? = some d) : ds.drop i = d :: ds.drop (i + 1) := by
  have hl := (List.getElem?_eq_some_iff.mp h).1
  rw [List.drop_eq_getElem_cons hl, (List.getElem?_eq_some_iff.mp h).2]
theorem ds_forG {X : Cx} {k : Nat} {tg iter : Expr} {body : List Stmt} {pos : Pos} {js : List Nat} {wg : WGe} {g : WG} {wb : WS} (hx0 : ∀ e s, ¬ X.xe e s) (hc : X.calm = true) (hr : Room (k + 1) X.A) (hi : DGe X k iter wg) (hg : DG X js tg g) (hb : DSs X body wb)
    (hs : ∀ x, foldedSetIterable iter X.env x = pure x := by intro _; rfl) : DS X (.For tg iter body [] pos) (wForG wg g wb) := by
  refine ⟨fun pins s σ H E I ⟨M, ρ, cs, D, o, r, h, eo⟩ => ?_⟩
  have hh : X.A.handled = none := I.ok.hd hc
  refine wpAny_For (wpAny_mono (hi.run pins s σ H M ρ cs _ I o r h) (fun u s1 h1 => ?_) fun e s' hx => (hx0 e s' hx).elim) hs
  obtain ⟨a, H1, M1, cs1, sc, ds, fin, Gd, G, gn, go, oL, c, rfl, I1, sm1, o1, mk, Iv, iv0, ivG, turn, fin'⟩ := h1
  obtain ⟨eP, eW, eK, eM, eB, eO, eL, ePn⟩ := mk.eqP
  obtain ⟨ob1, ob2, ob3, ob4, ob5⟩ := mk.obj
  refine wpAny_pyIter_gen (mk.gen _ ob1) ?_
  -- the generator's objects are young
  have scl : ∀ p ∈ X.pn ++ pins, p.1 < G.L := fun p hp => by rw [eL]; exact Heap.lt_size (I1.pin p hp).1
  have locl : X.env.locals < G.L := by rw [eL]; exact I1.lt
  have celll : ∀ x c, X.env.cells.lookup x = some c → c < G.L := fun x c hx => by
    obtain ⟨v, q⟩ := I1.cell x c hx
    rw [eL]; exact q.lt
  have szl : X.s_0.heap.objs.size ≤ G.L := by rw [eL]; exact I1.sz
  have fsl : ∀ b ∈ X.fs, b < G.L := fun b hb => by
    apply Nat.lt_of_not_le
    intro z
    exact I1.nofs (by rw [← eL]; exact z) hb
  have hch : ∀ (h : Heap), ∀ b ∈ young G.L h, (b ∈ X.ex ∨ X.s_0.heap.objs.size ≤ b) ∧ b ≠ X.env.locals ∧ (∀ x c, X.env.cells.lookup x = some c → c ≠ b) ∧ ∀ p ∈ X.pn ++ pins, p.1 ≠ b := fun h b hb => by
    have hb := (mem_young.mp hb).2
    exact ⟨.inr (Nat.le_trans szl hb), Nat.ne_of_gt (Nat.lt_of_lt_of_le locl hb), fun x c hx => Nat.ne_of_lt (Nat.lt_of_lt_of_le (celll x c hx) hb), fun p hp => Nat.ne_of_lt (Nat.lt_of_lt_of_le (scl p hp) hb)⟩
  have room1 : Room k X.A.in1 := hr.in1
  have frm1 : X.A.in1.frames = some X.stack := I1.ok.frames
  let G1 := G.at X.A.in1
  have hG1L : G1.L = G.L := rfl
  refine codeAny_forLoop_any (fun n s' => ∃ i σ' H' M' ρ' cs' gs pv, n = ds.length - i ∧ i ≤ ds.length ∧ Inv X pins σ' H' s' ∧ Same M1 M' ∧ Ok X.K M' H' cs' ∧ Rho X.K M' σ' ρ' ∧ Iv i ρ' cs' ∧ s'.gens[gn]? = some gs ∧ PvOk G1 pv s' H' ∧
    ∀ y, Wake G1 Gd M' pv y → Wk (model X.prog X.w) X.A.in1 (Zy G1 Gd fin (ds.drop i) y) gs y.s) ?_ ds.length ?_
  · rintro n s3 ⟨i, σ3, H3, M3, ρ3, cs3, gs, pv, rfl, hi3, I3, sm3, o3, r3, iv3, hgs, pvk, wk⟩
    have gd3 := ivG i ρ3 cs3 hi3 iv3
    have ha3 : s3.heap.get? a = some go := (pvk.at_ (a, go) (pvk.pn _ (by show (a, go) ∈ G.pn; rw [ePn]; exact List.mem_cons_self))).1
    have hW : Wake G1 Gd M3 pv ⟨s3.setGen gn .running, H3, M3, cs3⟩ := by
      refine ⟨?_, Same.refl _, by show Ok G.K _ _ _; rw [eK]; exact o3, gd3, fun p hp => ⟨(pvk.at_ p hp).1, (pvk.at_ p hp).2.1⟩⟩
      show Env0 G.P G.w G.K G.mg G.base X.A.in1 G.outer (s3.setGen gn .running) H3
      rw [eP, eW, eK, eM, eB, eO]
      have e := I3.env0
      exact ⟨e.frames, e.mod, e.bs, e.bsz, e.funs, e.frf, e.hok, allBare_setGen e.bare rfl⟩
    have wk3 := wk _ hW
    have nolim : s3.heap.NoLimit := I3.nolimit
    have back : ∀ {s₁ : Shared} {H' M' : Hp} {g' : Array GenState}, Left G1 ⟨s3.setGen gn .running, H3, M3, cs3⟩ s₁ H' M' → AllBare g' → ∀ (h' : Heap), (∀ b o, s₁.heap.get? b = some o → h'.get? b = some o) → Inv X pins σ3 H' { s₁ with gens := g', heap := h' } ∧ Same M3 M' ∧ Ok X.K M' H' cs3 := fun {s₁ H' M' g'} lf hg' h' hk => by
      have un : Un (frs X.stack) (young G.L s3.heap) H3 H' s3.heap s₁.heap := by rw [← eO]; exact lf.un
      have hok : HOk X.prog X.w H' s₁.heap := by
        have := lf.hok
        rw [show G1.P = X.prog from eP, show G1.w = X.w from eW] at this
        exact this
      refine ⟨I3.call' (s' := { s₁ with gens := g', heap := h' }) (ch := young G.L s3.heap) lf.os (un.trans (Un.kept hk)) (hok.kept hk) hg' (hch _), lf.same, ?_⟩
      have := lf.ok
      rw [show G1.K = X.K from eK] at this
      exact this
    by_cases hlt : i < ds.length
    · obtain ⟨d, hd⟩ : ∃ d, ds[i]? = some d := ⟨_, List.getElem?_eq_getElem hlt⟩
      rw [drop_cons hd] at wk3
      have hgl : gn < s3.gens.size := (Array.getElem?_eq_some_iff.mp hgs).1
      refine wpAny_gsz (n := gn + 1) hgl (next_Z hh nolim hr.depth (mk.gen _ ha3) hgs wk3 (fun e s₁ he => zy_ends (fun z => by cases z) he) (fun v s₁ gd l kk c' p fs hz => ?_) (fun s₁ hz => ?_))
      · intro hsz
        obtain ⟨v', gd', l', kk', c'', p', fs', heq, hqt, H', M', pv', x, lf, rv, dr, pvk', wk'⟩ := hz
        cases heq
        generalize hgs' : (End.susp v gd l kk c' p fs).genState = gs'
        have hsus : susp gs' = true := by rw [← hgs']; rfl
        have hbare' : gs'.bare = true := by rw [← hgs']; exact End.bare_of_quiet hqt
        rw [hgs'] at hsz
        have hsz1 : gn < s₁.gens.size := by
          have q : (s₁.setGen gn gs').gens.size = s₁.gens.size := setGen_size _ _ _
          have hsz' : gn + 1 ≤ (s₁.setGen gn gs').gens.size := hsz
          omega
        have wkk : ∀ y, Wake G1 Gd M' pv' y → Wk (model X.prog X.w) X.A.in1 (Zy G1 Gd fin (ds.drop (i + 1)) y) gs' y.s := fun y W => by
          rw [← hgs']
          have := wk' y W
          rw [show G1.P = X.prog from eP, show G1.w = X.w from eW] at this
          exact this
        clear wk'
        have ha5 : s₁.heap.get? a = some go := (pvk'.at_ (a, go) (pvk'.pn _ (by show (a, go) ∈ G.pn; rw [ePn]; exact List.mem_cons_self))).1
        obtain ⟨I4, sm4, o4⟩ := back lf (allBare_setGen (s := s₁) (g := gn) (x := gs') lf.bare hbare') s₁.heap (fun _ _ e => e)
        have I4 : Inv X pins σ3 H' (s₁.setGen gn gs') := I4
        have hg4 : (s₁.setGen gn gs').gens[gn]? = some gs' := setGen_at hsz1
        have hb4 : AllBare (s₁.setGen gn gs').gens := I4.bare
        have hh4 : (s₁.setGen gn gs').heap = s₁.heap := rfl
        generalize s₁.setGen gn gs' = s4 at I4 hg4 hb4 hh4 ⊢
        show wpAny _ _ (letOwnedTupleGo tg (.ref a) v) _ _ s4
        obtain ⟨vsD, hdD⟩ := mk.cls.2
        refine go_of (by rw [hh4]; exact ha5) mk.cls.1 hdD (by decide) ?_
        have pinv : ∀ p ∈ pv', s4.heap.get? p.1 = some p.2 ∧ H' p.1 = none ∧ p.1 ≠ X.env.locals ∧ p.1 ∉ X.fs ∧ ∀ v, p.2.data ≠ .cell v := fun p hp => by
          obtain ⟨q1, q2, q3, q4⟩ := pvk'.at_ p hp
          exact ⟨by rw [hh4]; exact q1, q2, Nat.ne_of_gt (Nat.lt_of_lt_of_le locl q3), fun z => Nat.lt_irrefl _ (Nat.lt_of_lt_of_le (fsl _ z) q3), q4⟩
        have I5 : Inv X (pins ++ pv') σ3 H' s4 := I4.pins_of fun p hp => by
          rcases List.mem_append.mp hp with z | z
          · exact I4.pin p (List.mem_append_right _ z)
          · exact pinv p z
        have dr' : RV X.K M' x (.dat d) := by
          have : Dr G.K M' x d := dr
          rw [eK] at this
          exact this
        -- the target is stored
        refine wpAny_mono (wpAny_slept (hg.run (pins ++ pv') (deafen s4) σ3 H' x v (fun σ' H2 => ∃ M2 ρ2 cs2, Same M' M2 ∧ Ok X.K M2 H2 cs2 ∧ Rho X.K M2 σ' ρ2 ∧ wb { D with nx := Iv (i + 1), ct := Iv (i + 1), bk := D.nx } ρ2 cs2) (inv_gens I5 rfl rfl (bare_deafen hb4)) rv
          ⟨M', ρ3, cs3, .dat d, _, o4, r3.mono sm4, dr', turn i d ρ3 cs3 hd iv3, fun σ' ρ' M2 H2 cs' sm o' r' _ _ p => ⟨M2, ρ', cs', sm, o', r', p⟩⟩)) (fun _ s6 h6 => ?_) (fun e s' ⟨_, _, hx⟩ => (hx0 _ _ hx).elim)
        obtain ⟨s60, sl6, σ6, H6, I60, M6, ρ6, cs6, sm6, o6, r6, q6⟩ := h6
        have b6 : AllBare s6.gens := sl6.bare hb4 I60.bare
        have I6 : Inv X (pins ++ pv') σ6 H6 s6 := inv_gens I60 (by rw [sl6.eq]) (by rw [sl6.eq]) b6
        have g6 := sl6.kept gn gs' hg4 hsus
        -- the body
        refine wpAny_mono (wpAny_slept (hb.run (pins ++ pv') (deafen s6) σ6 H6 { nx := fun σ' H2 => ∃ M2 ρ2 cs2, Same M6 M2 ∧ Ok X.K M2 H2 cs2 ∧ Rho X.K M2 σ' ρ2 ∧ Iv (i + 1) ρ2 cs2, rt := E.rt, bk := E.nx, ct := fun σ' H2 => ∃ M2 ρ2 cs2, Same M6 M2 ∧ Ok X.K M2 H2 cs2 ∧ Rho X.K M2 σ' ρ2 ∧ Iv (i + 1) ρ2 cs2 } (inv_gens I6 rfl rfl (bare_deafen b6))
          ⟨M6, ρ6, cs6, _, o6, r6, q6, ⟨fun σ' ρ' M2 H2 cs' sm o' r' p => ⟨M2, ρ', cs', sm, o', r', p⟩, eo.rt.mono (sm1.trans (sm3.trans (sm4.trans sm6))), eo.nx.mono (sm1.trans (sm3.trans (sm4.trans sm6))), fun σ' ρ' M2 H2 cs' sm o' r' p => ⟨M2, ρ', cs', sm, o', r', p⟩⟩⟩)) (fun f s7 h7 => ?_) (fun e s' ⟨_, _, hx⟩ => (hx0 _ _ hx).elim)
        obtain ⟨s70, sl7, q7⟩ := h7
        have g7 := sl7.kept gn gs' g6 hsus
        have real7 : ∀ {σ7 : L2.St} {H7 : Hp}, Inv X (pins ++ pv') σ7 H7 s70 → Inv X (pins ++ pv') σ7 H7 s7 := fun {σ7 H7} I7 => inv_gens I7 (by rw [sl7.eq]) (by rw [sl7.eq]) (sl7.bare b6 I7.bare)
        have again : ∀ {σ7 : L2.St} {H7 : Hp}, Inv X (pins ++ pv') σ7 H7 s70 → (∃ M2 ρ2 cs2, Same M6 M2 ∧ Ok X.K M2 H7 cs2 ∧ Rho X.K M2 σ7 ρ2 ∧ Iv (i + 1) ρ2 cs2) → ∃ m, m < ds.length - i ∧ ∃ i σ' H' M' ρ' cs' gs pv, m = ds.length - i ∧ i ≤ ds.length ∧ Inv X pins σ' H' s7 ∧ Same M1 M' ∧ Ok X.K M' H' cs' ∧ Rho X.K M' σ' ρ' ∧ Iv i ρ' cs' ∧ s7.gens[gn]? = some gs ∧ PvOk G1 pv s7 H' ∧
            ∀ y, Wake G1 Gd M' pv y → Wk (model X.prog X.w) X.A.in1 (Zy G1 Gd fin (ds.drop i) y) gs y.s := fun {σ7 H7} I70 ⟨M7, ρ7, cs7, sm7, o7, r7, iv7⟩ => by
          have I7 := real7 I70
          refine ⟨ds.length - (i + 1), by omega, i + 1, σ7, H7, M7, ρ7, cs7, gs', pv', rfl, hlt, I7.unpinned, sm3.trans (sm4.trans (sm6.trans sm7)), o7, r7, iv7, g7, ⟨fun p hp => ?_, pvk'.pn⟩, fun y W => wkk y ⟨W.env, (sm6.trans sm7).trans W.same, W.ok, W.gd, W.pv⟩⟩
          obtain ⟨z1, z2, _⟩ := I7.pin p (List.mem_append_right _ (List.mem_append_right _ hp))
          obtain ⟨_, _, q3, q4⟩ := pvk'.at_ p hp
          exact ⟨z1, z2, q3, q4⟩
        cases f with
        | next => obtain ⟨σ7, H7, I7, n7⟩ := q7; exact again I7 n7
        | cont => obtain ⟨σ7, H7, I7, n7⟩ := q7; exact again I7 n7
        | brk => obtain ⟨σ7, H7, I7, n7⟩ := q7; exact ⟨σ7, H7, (real7 I7).unpinned, n7⟩
        | ret v => obtain ⟨x7, σ7, H7, I7, r7, n7⟩ := q7; exact ⟨x7, σ7, H7, (real7 I7).unpinned, r7, n7⟩
      · obtain ⟨v', gd', l', kk', c'', p', fs', heq, _⟩ := hz
        cases heq
    · have ei : i = ds.length := by omega
      subst ei
      obtain ⟨hfin, hnx⟩ := fin' ρ3 cs3 iv3
      rw [List.drop_length] at wk3
      refine next_Z hh nolim hr.depth (mk.gen _ ha3) hgs wk3 (fun e s₁ he => zy_ends (fun _ => hfin) he) (fun v s₁ gd l kk c p fs hz => ?_) (fun s₁ hz h' hk => ?_)
      · have := (hz.2 hfin).1
        cases this
      · obtain ⟨_, H', M', lf, _⟩ := hz.2 hfin
        obtain ⟨I4, sm4, o4⟩ := back lf (allBare_setGen (g := gn) (x := .finished) lf.bare rfl) h' hk
        exact wpAny_execs_nil ⟨σ3, H', I4, eo.nx σ3 ρ3 M' H' cs3 (sm1.trans (sm3.trans sm4)) o4 (r3.mono sm4) hnx⟩
  · have keepU := mk.keep
    refine ⟨0, σ, H1, M1, ρ, cs1, .fresh c, [(G.L, oL), (a, go)], rfl, Nat.zero_le _, I1.call' (ch := []) mk.os (Un.kept mk.keep) (I1.hok.kept mk.keep) mk.bare (fun b z => by simp at z), Same.refl _, o1, r.mono sm1, iv0, mk.new, ⟨fun p hp => ?_, fun p hp => ?_⟩, fun y W => ?_⟩
    · rcases List.mem_cons.mp hp with z | z
      · rw [z]
        exact ⟨ob2, I1.hok.fresh (by rw [eL]; exact Nat.le_refl _), Nat.le_refl _, ob5⟩
      · rw [List.mem_singleton.mp z]
        exact ⟨ob1, I1.hok.fresh (by rw [← eL]; exact ob3), ob3, ob4⟩
    · have hp : p ∈ G.pn := hp
      rw [ePn] at hp
      exact List.mem_cons_of_mem _ hp
    · rw [List.drop_zero]
      exact mk.wake X.A.in1 room1 frm1 y W
end GT
set_option maxRecDepth 100000
set_option maxHeartbeats 4000000
/-! Generators once more: what the one who wakes one knows (Hands), generators that walk generators, foreign pins. -/
namespace GN
open PySem L2 PySem.Spec PyProof.Rows GenW DL GT
/-! ### what slept in s sleeps on, through several steps -/
structure Sl (s s₁ s' : Shared) : Prop where
  eq : s' = thaw (real s) s₁
  good : Good (real s) s₁
  sz : s.gens.size ≤ s'.gens.size
theorem Sl.slept {s s₁ s' : Shared} (h : Sl s s₁ s') : Slept s s₁ s' := by rw [h.eq]; exact slept_of h.good
theorem wpAny_sl2 {α : Type} {M : Model} {A : Around} {t : Sem α} {Q : α → Shared → Prop} {E : Value → Shared → Prop} {s s₁ s' : Shared} (sl : Sl s s₁ s') (h : wpAny M A t Q E s₁) :
    wpAny M A t (fun a s2 => ∃ s3, Sl s s3 s2 ∧ Q a s3) (fun e s2 => ∃ s3, Sl s s3 s2 ∧ E e s3) s' := by
  refine wpAny_gsz sl.sz ?_
  intro Γ p hΓ
  have := wp_thaw (R := real s) t _ _ p s₁ sl.good (h Γ p hΓ)
  rw [← sl.eq] at this
  refine Sem.wp_mono M Γ t ?_ ?_ p s' this
  · rintro a p' s2 ⟨s3, rfl, G, q⟩ hz; exact ⟨s3, ⟨rfl, G, hz⟩, q⟩
  · rintro a p' s2 ⟨s3, rfl, G, q⟩ hz; exact ⟨s3, ⟨rfl, G, hz⟩, q⟩
theorem Sl.start (s : Shared) : Sl s (deafen s) s := ⟨(thaw_deafen s).symm, good_deafen s, Nat.le_refl _⟩
theorem wpAny_sl {α : Type} {M : Model} {A : Around} {t : Sem α} {Q : α → Shared → Prop} {E : Value → Shared → Prop} {s : Shared} (h : wpAny M A t Q E (deafen s)) :
    wpAny M A t (fun a s2 => ∃ s3, Sl s s3 s2 ∧ Q a s3) (fun e s2 => ∃ s3, Sl s s3 s2 ∧ E e s3) s := wpAny_sl2 (Sl.start s) h
/-- what the one who wakes it knows of it: where it was made -/
structure GC where
  P : Program
  w : World
  K : PySem.W.Frag
  mg : Str → Option Value
  base : Heap
  k : Nat
  outer : List Env
  L : Addr
  self : Addr × Obj
  g : Nat
  loc : Addr
/-- what stood when it was woken; fp: what must stay -/
structure Gh where
  s : Shared
  H : Hp
  M : Hp
  cs : Cells
  fp : List (Addr × Obj)
structure Wake (C : GC) (A : Around) (Gd : Cells → Prop) (M : Hp) (pv : List (Addr × Obj)) (gv : List (Nat × GenState)) (y : Gh) : Prop where
  room : Room C.k A
  env : Env0 C.P C.w C.K C.mg C.base A C.outer y.s y.H
  same : Same M y.M
  ok : Ok C.K y.M y.H y.cs
  gd : Gd y.cs
  dis : ∀ p ∈ pv, ∀ q ∈ y.fp, q.1 ≠ p.1
  pv : ∀ p ∈ pv, y.s.heap.get? p.1 = some p.2 ∧ y.H p.1 = none
  gv : ∀ p ∈ gv, y.s.gens[p.1]? = some p.2
  gz : C.g < y.s.gens.size
  fp : ∀ p ∈ y.fp, y.s.heap.get? p.1 = some p.2 ∧ y.H p.1 = none ∧ p.1 ≠ C.loc ∧ p.1 ∉ frs C.outer ∧ ∀ v, p.2.data ≠ .cell v
structure Left (C : GC) (y : Gh) (s' : Shared) (H' M' : Hp) : Prop where
  os : s'.os = y.s.os
  bare : AllBare s'.gens
  un : Un (frs C.outer) (young C.L y.s.heap) y.H H' y.s.heap s'.heap
  hok : HOk C.P C.w H' s'.heap
  same : Same y.M M'
  ok : Ok C.K M' H' y.cs
  fp : ∀ p ∈ y.fp, s'.heap.get? p.1 = some p.2 ∧ H' p.1 = none
structure PvOk (C : GC) (y : Gh) (pv : List (Addr × Obj)) (s' : Shared) (H' : Hp) : Prop where
  at_ : ∀ p ∈ pv, s'.heap.get? p.1 = some p.2 ∧ H' p.1 = none ∧ C.L ≤ p.1 ∧ ∀ v, p.2.data ≠ .cell v
  self : C.self ∈ pv
  loc : ∃ o, (C.loc, o) ∈ pv
  dis : ∀ p ∈ pv, ∀ q ∈ y.fp, q.1 ≠ p.1
structure GvOk (g : Nat) (gv : List (Nat × GenState)) (s' : Shared) : Prop where
  sz : g < s'.gens.size
  at_ : ∀ p ∈ gv, g < p.1 ∧ s'.gens[p.1]? = some p.2 ∧ susp p.2 = true
/-- how it ends behind what it hands out: nobody asks; it returns -/
inductive GEnd where
  | cut
  | done
def HEnd (C : GC) (y : Gh) (e : End) (s' : Shared) : GEnd → Prop
  | .cut => False
  | .done => (e = .ret (.ok (.ret .none)) ∨ e = .ret (.ok .next)) ∧ ∃ H' M', Left C y s' H' M'
/-- it was woken in y, and came to e in s': as it must if it has xs to hand out -/
def HZ (C : GC) (Gd : Cells → Prop) (fin : GEnd) : List Dat → Around → Gh → End → Shared → Prop
  | [], _, y, e, s' => HEnd C y e s' fin
  | d :: r, _, y, e, s' => ∃ v g l k c p fs, e = .susp v g l k c p fs ∧ e.quiet = true ∧ ∃ H' M' pv gv x, Left C y s' H' M' ∧ RelV x v ∧ Dr C.K M' x d ∧ PvOk C y pv s' H' ∧ GvOk C.g gv s' ∧
      ((r = [] ∧ fin = .cut) ∨ ∀ A2 y2, Wake C A2 Gd M' pv gv y2 → Wk (model C.P C.w) A2 (HZ C Gd fin r A2 y2) (End.susp v g l k c p fs).genState y2.s)
/-- in the state gs it has ds to hand out -/
def Hands (C : GC) (Gd : Cells → Prop) (fin : GEnd) (ds : List Dat) (M : Hp) (pv : List (Addr × Obj)) (gv : List (Nat × GenState)) (gs : GenState) : Prop :=
  (ds = [] ∧ fin = .cut) ∨ ∀ A y, Wake C A Gd M pv gv y → Wk (model C.P C.w) A (HZ C Gd fin ds A y) gs y.s
theorem hz_ends {C : GC} {Gd : Cells → Prop} {fin : GEnd} {ds : List Dat} {A : Around} {y : Gh} {e : End} {s' : Shared} (h : HZ C Gd fin ds A y e s') : e.quiet = true ∧ ((∃ v gd l k c p fs, e = .susp v gd l k c p fs) ∨ e = .ret (.ok (.ret .none)) ∨ e = .ret (.ok .next)) := by
  cases ds with
  | nil =>
    cases fin with
    | cut => exact (show False from h).elim
    | done =>
      obtain ⟨z, _⟩ := h
      rcases z with z | z <;> subst z
      · exact ⟨rfl, .inr (.inl rfl)⟩
      · exact ⟨rfl, .inr (.inr rfl)⟩
  | cons d r =>
    obtain ⟨v, g, l, k, c, p, fs, rfl, q, _⟩ := h
    exact ⟨q, .inl ⟨v, g, l, k, c, p, fs, rfl⟩⟩
/-! ### its own context -/
structure GP where
  P : Program
  w : World
  K : PySem.W.Frag
  mg : Str → Option Value
  base : Heap
  N : List Str
  env : Env
  outer : List Env
  k : Nat
  self : Addr × Obj
  g : Nat
  L : Addr
  Z : List (Nat × GenState) → Prop := fun _ => True
abbrev GP.C (G : GP) : GC := ⟨G.P, G.w, G.K, G.mg, G.base, G.k, G.outer, G.L, G.self, G.g, G.env.locals⟩
def GP.X (G : GP) (A : Around) (s : Shared) (H : Hp) : Cx where
  prog := G.P
  w := G.w
  K := G.K
  mg := G.mg
  base := G.base
  A := A.deeper G.env
  N := G.N
  s_0 := s
  H_0 := H
  env := G.env
  outer := G.outer
  stack := G.env :: G.outer
  ex := []
  calm := true
  fn := fun _ => true
  pn := [G.self]
  xe := fun _ _ => False
theorem rebase {G : GP} {A A2 : Around} {s₀ s s2 : Shared} {H₀ H H2 : Hp} {ip ip2 : List (Addr × Obj)} {σ : L2.St} (hz : s₀.heap.objs.size = G.L) (hle : G.L ≤ G.env.locals) (hcl : G.env.cells = []) (I : Inv (G.X A s₀ H₀) ip σ H s) (hfrm : G.env.frame = some G.env.locals) (hd2 : A2.handled = none) (hdf : (A2.deeper G.env).handled = none)
    (e0 : Env0 G.P G.w G.K G.mg G.base A2 G.outer s2 H2) (hL : ∀ o, s.heap.get? G.env.locals = some o → s2.heap.get? G.env.locals = some o) (hLH : H2 G.env.locals = none) (hp : ∀ p ∈ G.self :: ip2, s2.heap.get? p.1 = some p.2 ∧ H2 p.1 = none ∧ p.1 ≠ G.env.locals ∧ p.1 ∉ frs G.outer ∧ ∀ v, p.2.data ≠ .cell v)
    (hfr2 : (A2.deeper G.env).frames = some (G.env :: G.outer)) :
    Inv (G.X A2 (cutS G.L s2) H2) ip2 σ H2 s2 := by
  obtain ⟨m, hns, hloc⟩ := I.loc
  obtain ⟨oL, es, ep, hoL, hrest⟩ := id hns
  have hLlt : G.L < s2.heap.objs.size := Nat.lt_of_le_of_lt hle (Heap.lt_size (hL oL hoL))
  have hsz : (cutS G.L s2).heap.objs.size = G.L := cut_size (Nat.le_of_lt hLlt)
  have hfr : ∀ b ∈ frs G.outer, b < G.L := fun b hb => by
    obtain ⟨_, o, e, _⟩ := I.ok.funs.mem hb
    have := Heap.lt_size e
    rw [← hz]; exact this
  have nocell : ∀ x c, ¬ G.env.cells.lookup x = some c := fun x c h => by rw [hcl] at h; cases h
  refine ⟨⟨I.ok.mod, I.ok.kind, I.ok.glob, I.ok.blt, ?_, fun x y c h => (nocell x c h).elim, I.ok.has, fun x c _ h => (nocell x c h).elim, fun _ => hdf, hfr2, .inr ⟨rfl, hfrm⟩, fun b hb => absurd hb (by simp [GP.X]), fun b o e => ?_, ?_, fun b o e h => absurd h (by simp [GP.X]), fun b hb => absurd hb (by simp [GP.X]), ?_, e0.frf⟩, rfl, e0.bare, ?_, ⟨m, ⟨oL, es, ep, hL oL hoL, hrest⟩, fun i x v h1 h2 h3 => ?_⟩, fun x c h => (nocell x c h).elim, hLH, fun x c h => (nocell x c h).elim, fun p hp' => ?_, e0.hok, I.len⟩
  · show (cutS G.L s2).heap.objs.size ≤ G.env.locals
    rw [hsz]; exact hle
  · have hb : b < G.L := by
      have h1 := Heap.lt_size (I.ok.bs b o e).1
      exact Nat.lt_of_lt_of_eq h1 hz
    exact ⟨by show (cut G.L s2.heap).get? b = _; rw [cut_lt hb]; exact (e0.bs b o e).1, (e0.bs b o e).2⟩
  · show G.base.objs.size ≤ (cutS G.L s2).heap.objs.size
    rw [hsz, ← hz]; exact I.ok.bsz
  · exact funs_cut e0.funs hfr
  · refine ⟨fun b o e _ _ _ => (cut_some e).2, fun b o e _ _ _ => ⟨o.slots, (cut_some e).2⟩, fun b o _ n _ => n, fun b o e _ => ⟨o, (cut_some e).2⟩, fun _ _ q => q, fun _ _ _ q => q, fun b ps q => ⟨#[], by rw [show H2 b = some (HO.tbl ps) from q]; simp⟩⟩
  · obtain ⟨u, r, look⟩ := hloc i x v h1 h2 h3
    refine ⟨u, r, ?_⟩
    rcases look with look | ⟨_, c, hc, _⟩
    · exact .inl look
    · exact (nocell x c hc).elim
  · exact hp p hp'
theorem un_woken {G : GP} {A : Around} {s2 s' : Shared} {H2 H' : Hp} {ip : List (Addr × Obj)} {σ : L2.St} (I : Inv (G.X A (cutS G.L s2) H2) ip σ H' s') : Un (frs G.outer) (young G.L s2.heap) H2 H' s2.heap s'.heap := by
  have old : ∀ b o, s2.heap.get? b = some o → b ∉ young G.L s2.heap → (cut G.L s2.heap).get? b = some o := fun b o e hb => by
    have hlt : b < G.L := by
      apply Decidable.byContradiction
      intro z
      exact hb (mem_young.mpr ⟨Heap.lt_size e, Nat.le_of_not_lt z⟩)
    rw [cut_lt hlt]; exact e
  exact ⟨fun b o e n h1 h2 => I.base.keep b o (old b o e h2) n h1 (by simp [GP.X]), fun b o e n h1 h2 => I.base.slot b o (old b o e h2) n h1 (by simp [GP.X]), fun b o e n h2 => I.base.free b o (old b o e h2) n (by simp [GP.X]),
    fun b o e h2 => I.base.there b o (old b o e h2) (by simp [GP.X]), I.base.tups, I.base.frzs, I.base.tbls⟩
/-- running -/
def Dis (G : GP) (ip : List (Addr × Obj)) (y : Gh) : Prop := ∀ p ∈ G.self :: ip, ∀ q ∈ y.fp, q.1 ≠ p.1
def RunG (G : GP) (A : Around) (Mk : Hp) (y : Gh) (ip : List (Addr × Obj)) (gv : List (Nat × GenState)) (ρ : DEnv) (cs : Cells) (s : Shared) : Prop :=
  ∃ σ H M, Inv (G.X A (cutS G.L y.s) y.H) (ip ++ y.fp) σ H s ∧ Same Mk M ∧ Same y.M M ∧ Ok G.K M H cs ∧ Rho G.K M σ ρ ∧ GvOk G.g gv s ∧ Dis G ip y
abbrev GDs := GT.GDs
abbrev WGn := GT.WGn
def GSPd (G : GP) (A : Around) (Mk : Hp) (y : Gh) (ip : List (Addr × Obj)) (gv : List (Nat × GenState)) (D : GDs) (xs : List Dat) (f : Flow) (s : Shared) : Prop :=
  match f with
  | .next => ∃ ρ cs, RunG G A Mk y ip gv ρ cs s ∧ D.nx xs y.cs ρ cs
  | .brk => ∃ ρ cs, RunG G A Mk y ip gv ρ cs s ∧ D.bk xs y.cs ρ cs
  | .cont => ∃ ρ cs, RunG G A Mk y ip gv ρ cs s ∧ D.ct xs y.cs ρ cs
  | .ret u => ∃ v x σ H M cs, Inv (G.X A (cutS G.L y.s) y.H) (ip ++ y.fp) σ H s ∧ Same Mk M ∧ Same y.M M ∧ Ok G.K M H cs ∧ RelV v u ∧ RV G.K M v x ∧ D.rt xs y.cs x cs
/-- where its code stands -/
structure GCd (G : GP) (ip : List (Addr × Obj)) (gv : List (Nat × GenState)) (c : Code) (fs : List Frame) (gd : Bool → Bool) : Prop where
  cells : G.env.cells = []
  frm : G.env.frame = some G.env.locals
  kd : G.env.scope.kind = .function
  z : G.Z gv
  le : G.L ≤ G.env.locals
  yng : ∀ p ∈ G.self :: ip, G.L ≤ p.1
  over : ∀ A : Around, A.over c fs = A.deeper G.env
  split : splitAtGen fs = none
  guard : fs.any Frame.guarded = false
  gd : gd false = false
def Lg (G : GP) (y : Gh) : Prop := G.L ≤ y.s.heap.objs.size
abbrev Rm (G : GP) (A : Around) : Prop := Room G.k A
def GKd (G : GP) (Gd : Cells → Prop) (fin : GEnd) (Mk : Hp) (ip : List (Addr × Obj)) (gv : List (Nat × GenState)) (c : Code) (fs : List Frame) (K : Flow → Sem PySem.Fin) (D : GDs) : Prop :=
  ∀ (A : Around) (y : Gh) (xs : List Dat) (s : Shared) (f : Flow), Rm G A → Lg G y → GSPd G A Mk y ip gv D xs f s → SegZ (model G.P G.w) A (HZ G.C Gd fin xs A y) c (K f) fs s
structure DGS (G : GP) (Gd : Cells → Prop) (fin : GEnd) (st : Stmt) (t : WGn) : Prop where
  run : ∀ (A : Around) (Mk : Hp) (y : Gh) (ip : List (Addr × Obj)) (gv : List (Nat × GenState)) (c : Code) (fs : List Frame) (K : Flow → Sem PySem.Fin) (J : Value → Sem PySem.Fin) (gd : Bool → Bool) (lv : List Value → List Value) (s : Shared) (xs : List Dat) (ρ : DEnv) (cs : Cells) (D : GDs),
    GCd G ip gv c fs gd → Rm G A → Lg G y → GKd G Gd fin Mk ip gv c fs K D → RunG G A Mk y ip gv ρ cs s → t D xs y.cs ρ cs → SegZ (model G.P G.w) A (HZ G.C Gd fin xs A y) c ((exec st G.env).wrap K J gd lv) fs s
structure DGSs (G : GP) (Gd : Cells → Prop) (fin : GEnd) (st : List Stmt) (t : WGn) : Prop where
  run : ∀ (A : Around) (Mk : Hp) (y : Gh) (ip : List (Addr × Obj)) (gv : List (Nat × GenState)) (c : Code) (fs : List Frame) (K : Flow → Sem PySem.Fin) (J : Value → Sem PySem.Fin) (gd : Bool → Bool) (lv : List Value → List Value) (s : Shared) (xs : List Dat) (ρ : DEnv) (cs : Cells) (D : GDs),
    GCd G ip gv c fs gd → Rm G A → Lg G y → GKd G Gd fin Mk ip gv c fs K D → RunG G A Mk y ip gv ρ cs s → t D xs y.cs ρ cs → SegZ (model G.P G.w) A (HZ G.C Gd fin xs A y) c ((execs st G.env).wrap K J gd lv) fs s
/-- what slept sleeps on -/
theorem gv_slept {g : Nat} {gv : List (Nat × GenState)} {s s₁ s' : Shared} (h : GvOk g gv s) (sl : Sl s s₁ s') : GvOk g gv s' := ⟨Nat.lt_of_lt_of_le h.sz sl.sz, fun p hp => ⟨(h.at_ p hp).1, sl.slept.kept p.1 p.2 (h.at_ p hp).2.1 (h.at_ p hp).2.2, (h.at_ p hp).2.2⟩⟩
theorem inv_deaf {X : Cx} {pins : List (Addr × Obj)} {σ : L2.St} {H : Hp} {s : Shared} (I : Inv X pins σ H s) : Inv X pins σ H (deafen s) := inv_gens I rfl rfl (bare_deafen I.bare)
theorem inv_back {X : Cx} {pins : List (Addr × Obj)} {σ : L2.St} {H : Hp} {s s₁ s' : Shared} (sl : Sl s s₁ s') (hb : AllBare s.gens) (I : Inv X pins σ H s₁) : Inv X pins σ H s' := inv_gens I (by rw [sl.slept.eq]) (by rw [sl.slept.eq]) (sl.slept.bare hb I.bare)
section
variable {G : GP} {Gd : Cells → Prop} {fin : GEnd} {st : Stmt} {sts : List Stmt} {ws : WS} {t u : WGn}
theorem sp_gd {A : Around} {y : Gh} {ip : List (Addr × Obj)} {gv : List (Nat × GenState)} {D : GDs} {xs : List Dat} {f : Flow} {s s₁ s' : Shared} {M Mk : Hp} (hk : Same Mk M) (hM : Same y.M M) (hb : AllBare s.gens) (hv : GvOk G.g gv s) (hd : Dis G ip y) (sl : Sl s s₁ s')
    (h : SP (G.X A (cutS G.L y.s) y.H) (ip ++ y.fp) { nx := fun σ H => ∃ M' ρ cs, Same M M' ∧ Ok G.K M' H cs ∧ Rho G.K M' σ ρ ∧ D.nx xs y.cs ρ cs, rt := fun v H => ∃ M' x cs, Same M M' ∧ Ok G.K M' H cs ∧ RV G.K M' v x ∧ D.rt xs y.cs x cs, bk := fun σ H => ∃ M' ρ cs, Same M M' ∧ Ok G.K M' H cs ∧ Rho G.K M' σ ρ ∧ D.bk xs y.cs ρ cs, ct := fun σ H => ∃ M' ρ cs, Same M M' ∧ Ok G.K M' H cs ∧ Rho G.K M' σ ρ ∧ D.ct xs y.cs ρ cs } f s₁) :
    GSPd G A Mk y ip gv D xs f s' := by
  cases f with
  | next => obtain ⟨σ, H, I, M', ρ, cs, a, b, c, d⟩ := h; exact ⟨ρ, cs, ⟨σ, H, M', inv_back sl hb I, hk.trans a, hM.trans a, b, c, gv_slept hv sl, hd⟩, d⟩
  | brk => obtain ⟨σ, H, I, M', ρ, cs, a, b, c, d⟩ := h; exact ⟨ρ, cs, ⟨σ, H, M', inv_back sl hb I, hk.trans a, hM.trans a, b, c, gv_slept hv sl, hd⟩, d⟩
  | cont => obtain ⟨σ, H, I, M', ρ, cs, a, b, c, d⟩ := h; exact ⟨ρ, cs, ⟨σ, H, M', inv_back sl hb I, hk.trans a, hM.trans a, b, c, gv_slept hv sl, hd⟩, d⟩
  | ret u => obtain ⟨v, σ, H, I, r, M', x, cs, a, b, c, d⟩ := h; exact ⟨v, x, σ, H, M', cs, inv_back sl hb I, hk.trans a, hM.trans a, b, r, c, d⟩
theorem ends_gd {y : Gh} {D : GDs} {xs : List Dat} {M : Hp} : EndsOk G.K M (D.at xs y.cs) { nx := fun σ H => ∃ M' ρ cs, Same M M' ∧ Ok G.K M' H cs ∧ Rho G.K M' σ ρ ∧ D.nx xs y.cs ρ cs, rt := fun v H => ∃ M' x cs, Same M M' ∧ Ok G.K M' H cs ∧ RV G.K M' v x ∧ D.rt xs y.cs x cs, bk := fun σ H => ∃ M' ρ cs, Same M M' ∧ Ok G.K M' H cs ∧ Rho G.K M' σ ρ ∧ D.bk xs y.cs ρ cs, ct := fun σ H => ∃ M' ρ cs, Same M M' ∧ Ok G.K M' H cs ∧ Rho G.K M' σ ρ ∧ D.ct xs y.cs ρ cs } :=
  ⟨fun σ' ρ' M' H' cs' s o r p => ⟨M', ρ', cs', s, o, r, p⟩, fun v x M' H' cs' s o r p => ⟨M', x, cs', s, o, r, p⟩, fun σ' ρ' M' H' cs' s o r p => ⟨M', ρ', cs', s, o, r, p⟩, fun σ' ρ' M' H' cs' s o r p => ⟨M', ρ', cs', s, o, r, p⟩⟩
theorem dgs_plain (h : ∀ A s H, Room G.k A → DS (G.X A s H) st ws) : DGS G Gd fin st (wGP ws) := by
  refine ⟨fun A Mk y ip gv c fs K J gd lv s xs ρ cs D g hr hy k ⟨σ, H, M, I, hk, hM, o, r, hv, hd⟩ ht => sz_wrap ?_⟩
  rw [g.over]
  refine wpAny_mono (wpAny_sl ((h A _ _ hr).run (ip ++ y.fp) (deafen s) σ H _ (inv_deaf I) ⟨M, ρ, cs, D.at xs y.cs, o, r, ht, ends_gd⟩)) (fun f s' ⟨s₁, sl, hs⟩ => k A y xs s' f hr hy (sp_gd hk hM I.bare hv hd sl hs)) fun x s' ⟨_, _, hx⟩ => hx.elim
theorem dgss_plain (h : ∀ A s H, Room G.k A → DSs (G.X A s H) sts ws) : DGSs G Gd fin sts (wGP ws) := by
  refine ⟨fun A Mk y ip gv c fs K J gd lv s xs ρ cs D g hr hy k ⟨σ, H, M, I, hk, hM, o, r, hv, hd⟩ ht => sz_wrap ?_⟩
  rw [g.over]
  refine wpAny_mono (wpAny_sl ((h A _ _ hr).run (ip ++ y.fp) (deafen s) σ H _ (inv_deaf I) ⟨M, ρ, cs, D.at xs y.cs, o, r, ht, ends_gd⟩)) (fun f s' ⟨s₁, sl, hs⟩ => k A y xs s' f hr hy (sp_gd hk hM I.bare hv hd sl hs)) fun x s' ⟨_, _, hx⟩ => hx.elim
theorem dgss_nil : DGSs G Gd fin [] wG0 := ⟨fun A Mk y ip gv c fs K J gd lv s xs ρ cs D g hr hy k hR ht => k A y xs s .next hr hy ⟨ρ, cs, hR, ht⟩⟩
theorem dgss_cons (a : DGS G Gd fin st t) (b : DGSs G Gd fin sts u) : DGSs G Gd fin (st :: sts) (wGSeq t u) := by
  refine ⟨fun A Mk y ip gv c fs K J gd lv s xs ρ cs D g hr hy k hR ht => ?_⟩
  rw [execs_cons_wrap]
  refine a.run A Mk y ip gv c fs _ J gd lv s xs ρ cs { D with nx := u D } g hr hy (fun A' y' xs' s' f hr' hy' hs => ?_) hR ht
  cases f with
  | next =>
    obtain ⟨ρ', cs', hR', q⟩ := hs
    exact b.run A' Mk y' ip gv c fs K J gd lv s' xs' ρ' cs' D g hr' hy' k hR' q
  | brk => exact k A' y' xs' s' .brk hr' hy' hs
  | cont => exact k A' y' xs' s' .cont hr' hy' hs
  | ret v => exact k A' y' xs' s' (.ret v) hr' hy' hs
/-! ### if -/
theorem dgs_if {test : Expr} {sa sb : List Stmt} {pos : Pos} {w : WT} (hc : ∀ A s H, Room G.k A → DT (G.X A s H) test w) (ha : DGSs G Gd fin sa t) (hb : DGSs G Gd fin sb u) : DGS G Gd fin (.If test sa sb pos) (wGIf w t u) := by
  refine ⟨fun A Mk y ip gv c fs K J gd lv s xs ρ cs D g hr hy k ⟨σ, H, M, I, hk, hM, o, r, hv, hd⟩ ht => ?_⟩
  rw [exec_If]
  refine sz_at ?_
  show SegZ _ _ _ c ((isTrue test G.env (eval test G.env) >>= fun b => if b = true then execs sa G.env else execs sb G.env).wrap K J gd lv) fs s
  rw [Sem.bind_eq_wrap', Sem.wrap_wrap]
  refine sz_wrap ?_
  rw [g.over]
  refine wpAny_mono (wpAny_sl ((hc A _ _ hr).run (ip ++ y.fp) (deafen s) σ H (fun b H' => ∃ M' cs', Same M M' ∧ Ok G.K M' H' cs' ∧ if b = true then t D xs y.cs ρ cs' else u D xs y.cs ρ cs') (inv_deaf I) ⟨M, ρ, cs, _, o, r, ht, fun b M' H' cs' s o' p => ⟨M', cs', s, o', p⟩⟩)) (fun b s' ⟨s₁, sl, hs⟩ => ?_) fun x s' ⟨_, _, hx⟩ => hx.elim
  obtain ⟨H', I', M', cs', sm, o', p⟩ := hs
  have I2 := inv_back sl I.bare I'
  cases b with
  | true => exact ha.run A Mk y ip gv c fs K J gd lv s' xs ρ cs' D g hr hy k ⟨σ, H', M', I2, hk.trans sm, hM.trans sm, o', r.mono sm, gv_slept hv sl, hd⟩ (by simpa using p)
  | false => exact hb.run A Mk y ip gv c fs K J gd lv s' xs ρ cs' D g hr hy k ⟨σ, H', M', I2, hk.trans sm, hM.trans sm, o', r.mono sm, gv_slept hv sl, hd⟩ (by simpa using p)
/-! ### yield -/
def wGY (Gd : Cells → Prop) (fin : GEnd) (we : WE) : WGn := fun D xs c0 ρ cs => we ρ cs fun x cs1 => SubC c0 cs1 ∧ ∃ d r, x = .dat d ∧ xs = d :: r ∧ ((r = [] ∧ fin = .cut) ∨ ∀ c1, Gd c1 → D.nx r c1 ρ c1)
theorem dgs_yield {e : Expr} {yp pos : Pos} {we : WE} (he : ∀ A s H, Room G.k A → DE (G.X A s H) e we) (hco : G.env.scope.isCoroutine = false := by rfl) (hi : interactive G.env = false := by rfl) : DGS G Gd fin (.Expr (.Yield (some e) yp) pos) (wGY Gd fin we) := by
  refine ⟨fun A Mk y ip gv c fs K J gd lv s xs ρ cs D g hr hy k ⟨σ, H, M, I, hk, hM, o, r, hv, hd⟩ ht => ?_⟩
  rw [exec_Expr G.env _ pos hi rfl]
  show SegZ _ _ _ c (.at pos fun _ => ((eval e G.env >>= fun v => (standAt yp >>= fun _ => yieldOut G.env v)) >>= fun x => dropValue (.Yield (some e) yp) pos x).wrap K J gd lv) fs s
  have hyo : ∀ v, yieldOut G.env v = yieldValue v := fun v => by
    unfold yieldOut
    rw [if_neg (by rw [hco]; decide)]
  simp only [hyo]
  refine sz_at ?_
  rw [Sem.bind_eq_wrap', Sem.bind_eq_wrap', Sem.wrap_wrap, Sem.wrap_wrap]
  refine sz_wrap ?_
  rw [g.over]
  refine wpAny_mono (wpAny_sl ((he A _ _ hr).run (ip ++ y.fp) (deafen s) σ H (fun v H' => ∃ x M' cs', Same M M' ∧ Ok G.K M' H' cs' ∧ RV G.K M' v x ∧ SubC y.cs cs' ∧ ∃ d r, x = .dat d ∧ xs = d :: r ∧ ((r = [] ∧ fin = .cut) ∨ ∀ c1, Gd c1 → D.nx r c1 ρ c1)) (inv_deaf I) ⟨M, ρ, cs, _, o, r, ht, fun v x M' H' cs' s o' rv p => ⟨x, M', cs', s, o', rv, p.1, p.2⟩⟩)) (fun v s' ⟨s₁, sl, hs⟩ => ?_) fun x s' ⟨_, _, hx⟩ => hx.elim
  obtain ⟨x, H', I1, rx, xd, M', cs', sm, o', rv, hsub, d, rest, e1, e2, q⟩ := hs
  have I' := inv_back sl I.bare I1
  have hv' := gv_slept hv sl
  refine sz_at (sz_yield g.split fun p => ?_)
  have hq : ∀ l kk, (End.susp v (gd false) l kk c p fs).quiet = true := fun l kk => by simp [End.quiet, g.gd, g.guard]
  rw [e2]
  subst e1
  obtain ⟨m, hns, hloc⟩ := I'.loc
  obtain ⟨oL, es, ep, hoL, hdat, hrest⟩ := id hns
  have hoL : s'.heap.get? G.env.locals = some oL := hoL
  refine ⟨v, gd false, _, _, c, p, fs, rfl, hq _ _, H', M', (G.env.locals, oL) :: G.self :: ip, gv, x, ⟨I'.os, I'.bare, un_woken I', I'.hok, hM.trans sm, o'.sub hsub, fun q hq => ?_⟩, rx, rv, ⟨fun q hq => ?_, List.mem_cons_of_mem _ List.mem_cons_self, ⟨oL, List.mem_cons_self⟩, fun p hp q hq => ?_⟩, hv', ?_⟩
  · have := I'.pin q (List.mem_append_right _ (List.mem_append_right _ hq))
    exact ⟨this.1, this.2.1⟩
  · rcases List.mem_cons.mp hq with z | z
    · rw [z]
      exact ⟨hoL, I'.free, g.le, fun v z => by rw [hdat] at z; cases z⟩
    · obtain ⟨i1, i2, _, _, i5⟩ := I'.pin q (by
        rcases List.mem_cons.mp z with z | z
        · rw [z]; exact List.mem_append_left _ List.mem_cons_self
        · exact List.mem_append_right _ (List.mem_append_left _ z))
      exact ⟨i1, i2, g.yng q z, i5⟩
  · rcases List.mem_cons.mp hp with z | z
    · rw [z]
      exact (I'.pin q (List.mem_append_right _ (List.mem_append_right _ hq))).2.2.1
    · exact hd p z q hq
  · rcases q with z | q
    · exact .inl z
    · refine .inr fun A2 y2 W => ?_
      have hL := (W.pv (G.env.locals, oL) List.mem_cons_self)
      have hself : ∀ q ∈ G.self :: ip, G.L ≤ q.1 := g.yng
      have I2 : Inv (G.X A2 (cutS G.L y2.s) y2.H) (ip ++ y2.fp) σ y2.H y2.s := by
        refine rebase (cut_size hy) g.le g.cells I' g.frm W.room.hd (show (A2.deeper G.env).handled = none from W.room.hd) W.env (fun o e => by rw [hoL] at e; cases e; exact hL.1) hL.2 (fun q hq => ?_) ?_
        · have old : ∀ q, q ∈ G.self :: ip → y2.s.heap.get? q.1 = some q.2 ∧ y2.H q.1 = none ∧ q.1 ≠ G.env.locals ∧ q.1 ∉ frs G.outer ∧ ∀ v, q.2.data ≠ .cell v := fun q hq => by
            obtain ⟨j1, j2⟩ := W.pv q (List.mem_cons_of_mem _ hq)
            obtain ⟨_, _, i3, i4, i5⟩ := I'.pin q (by
              rcases List.mem_cons.mp hq with z | z
              · rw [z]; exact List.mem_append_left _ List.mem_cons_self
              · exact List.mem_append_right _ (List.mem_append_left _ z))
            exact ⟨j1, j2, i3, i4, i5⟩
          rcases List.mem_cons.mp hq with z | z
          · exact old q (by rw [z]; exact List.mem_cons_self)
          · rcases List.mem_append.mp z with z | z
            · exact old q (List.mem_cons_of_mem _ z)
            · exact W.fp q z
        · show A2.frames.map (G.env :: ·) = _
          rw [W.env.frames]; rfl
      have hy' : Lg G y2 := Nat.le_of_lt (Nat.lt_of_le_of_lt g.le (Heap.lt_size hL.1))
      have := k A2 y2 rest y2.s .next W.room hy' ⟨ρ, y2.cs, ⟨σ, y2.H, y2.M, I2, (hk.trans sm).trans W.same, Same.refl _, W.ok, (r.mono sm).mono W.same, ⟨W.gz, fun p hp => ⟨(hv'.at_ p hp).1, W.gv p hp, (hv'.at_ p hp).2.2⟩⟩, fun p hp q hq => W.dis p (List.mem_cons_of_mem _ hp) q hq⟩, q y2.cs W.gd⟩
      exact this
end
end GN
set_option maxRecDepth 100000
set_option maxHeartbeats 4000000
namespace GN
open PySem L2 PySem.Spec PyProof.Rows GenW DL GT
section
variable {G : GP} {Gd : Cells → Prop} {fin : GEnd}
theorem gcd_loop {ip : List (Addr × Obj)} {gv : List (Nat × GenState)} {c c' : Code} {fs : List Frame} {gd : Bool → Bool} {k : Result → Sem PySem.Fin} {l kp : List Value} {p : Pos} (g : GCd G ip gv c fs gd) (hw : c'.weight = 0) (hu : c'.cUnits = 0) : GCd G ip gv c' (.ret k none (gd false) l c p kp :: fs) id where
  cells := g.cells
  frm := g.frm
  kd := g.kd
  z := g.z
  le := g.le
  yng := g.yng
  over := fun A => (over_loop hw hu).trans (g.over A)
  split := by
    show (splitAtGen fs).map _ = none
    rw [g.split]; rfl
  guard := by
    show (gd false || fs.any Frame.guarded) = false
    rw [g.gd, g.guard]; rfl
  gd := rfl
theorem dgs_for {tg iter : Expr} {body : List Stmt} {pos : Pos} {js : List Nat} {wi : WI} {g : WG} {tb : WGn} (hi : ∀ A s H, Room G.k A → DI (G.X A s H) tg iter wi) (hg : ∀ A s H, Room G.k A → DG (G.X A s H) js tg g) (hb : DGSs G Gd fin body tb)
    (hs : ∀ x, foldedSetIterable iter G.env x = pure x := by intro _; rfl) : DGS G Gd fin (.For tg iter body [] pos) (wGFor wi g tb) := by
  refine ⟨fun A Mk y ip gv c fs K J gd lv s xs ρ cs D gc hr hy k ⟨σ, H, M, I, hk, hM, o, r, hv, hd⟩ ht => ?_⟩
  rw [exec_For]
  refine sz_at ?_
  show SegZ _ _ _ c ((eval iter G.env >>= fun v => foldedSetIterable iter G.env v >>= fun x => standAt iter.pos >>= fun _ => holding [x] (pyIter x) >>= fun it => runOwn (.forLoop tg it body [] G.env) G.env).wrap K J gd lv) fs s
  refine sz_bindw ?_
  rw [gc.over]
  refine wpAny_mono (wpAny_sl ((hi A _ _ hr).run (ip ++ y.fp) (deafen s) σ H (fun JJ H' => ∃ items Gi M' cs', Same M M' ∧ Ok G.K M' H' cs' ∧ ItOk G.K M' JJ items Gi ∧ ∃ Inv : Nat → List Dat → Cells → DEnv → Cells → Prop, Inv 0 xs y.cs ρ cs' ∧ (∀ i xs c0 ρ' cs', i ≤ items.length → Inv i xs c0 ρ' cs' → Gi cs') ∧
    (∀ i x xs c0 ρ' cs', items[i]? = some x → Inv i xs c0 ρ' cs' → g x ρ' cs' fun ρ2 cs2 => tb { D with nx := Inv (i + 1), ct := Inv (i + 1), bk := D.nx } xs c0 ρ2 cs2) ∧ ∀ xs c0 ρ' cs', Inv items.length xs c0 ρ' cs' → D.nx xs c0 ρ' cs') (inv_deaf I)
    ⟨M, ρ, cs, _, o, r, ht, fun JJ items Gi M' H' cs' sm o' it p => ⟨items, Gi, M', cs', sm, o', it, p⟩⟩)) (fun v s1 ⟨s10, sl1, h1⟩ => ?_) fun x s' ⟨_, _, hx⟩ => hx.elim
  rw [hs]
  refine sz_bindw (wpAny_pure ?_)
  refine sz_bindw (wpAny_standAt ?_)
  refine sz_bindw (wpAny_holding ?_)
  rw [gc.over]
  refine wpAny_mono (wpAny_sl2 sl1 h1) (fun itv s2 ⟨s20, sl2, h2⟩ => ?_) fun x s' ⟨_, _, hx⟩ => hx.elim
  obtain ⟨it, fp, tn, JJ, H2, rfl, I20, T, tn0, fpk, items, Gi, M1, cs1, sm1, o1, iok, Iv, iv0, ivG, turn, fin'⟩ := h2
  have I2 := inv_back sl2 I.bare I20
  have hv2 := gv_slept hv sl2
  have tn2 : tn 0 s2.heap := by rw [sl2.slept.eq]; exact tn0
  have hLb : ∀ b ∈ fp, G.L ≤ b := fun b hb => by
    rcases (fpk b hb).2.2.2.1 with z | z
    · exact absurd z (by simp [GP.X])
    · exact Nat.le_trans (Nat.le_of_eq (cut_size hy).symm) z
  have hdis : ∀ b ∈ fp, ∀ q ∈ y.fp, q.1 ≠ b := fun b hb q hq => (fpk b hb).2.2.2.2.2 q (List.mem_append_right _ (List.mem_append_right _ hq))
  have stat : ∀ {A' : Around} {y' : Gh} {H' : Hp}, Lg G y' → (∀ b ∈ fp, ∀ q ∈ y'.fp, q.1 ≠ b) → (∀ b ∈ fp, H' b = none) → ∀ b ∈ fp, FpOk (G.X A' (cutS G.L y'.s) y'.H) (ip ++ y'.fp) H' b := fun {A' y' H'} hy' hds hn b hb => by
    obtain ⟨_, f1, f2, _, f4, f5⟩ := fpk b hb
    refine ⟨hn b hb, f1, f2, .inr (Nat.le_trans (Nat.le_of_eq (cut_size hy')) (hLb b hb)), f4, fun p hp => ?_⟩
    rcases List.mem_append.mp hp with z | z
    · exact f5 p (List.mem_append_left _ z)
    · rcases List.mem_append.mp z with z | z
      · exact f5 p (List.mem_append_right _ (List.mem_append_left _ z))
      · exact hds b hb p z
  refine sz_call fun p => ?_
  have gl := fun (kk : Result → Sem PySem.Fin) => gcd_loop (k := kk) (c' := .forLoop tg (.ref it) body [] G.env) (l := lv []) (kp := []) (p := p) gc rfl rfl
  have loop : ∀ (m i : Nat) (A : Around) (y : Gh) (xs : List Dat) (s : Shared) (ρ : DEnv) (cs : Cells), m = items.length - i → i ≤ items.length → Rm G A → Lg G y → (∃ σ H M, Inv (G.X A (cutS G.L y.s) y.H) (ip ++ y.fp) σ H s ∧ Same Mk M ∧ Same M1 M ∧ Same y.M M ∧ Ok G.K M H cs ∧ Rho G.K M σ ρ ∧ GvOk G.g gv s ∧ Dis G ip y ∧ (∀ b ∈ fp, ∀ q ∈ y.fp, q.1 ≠ b) ∧ (∀ b ∈ fp, H b = none) ∧ tn i s.heap) → Iv i xs y.cs ρ cs →
      SegZ (model G.P G.w) A (HZ G.C Gd fin xs A y) (.forLoop tg (.ref it) body [] G.env) ((model G.P G.w).den (.forLoop tg (.ref it) body [] G.env))
        (.ret (fun r => ((match r with | .ok f => (.pure f : Sem Flow) | .error e => .raise e).onRaise (cameBack G.env)).wrap K J gd lv) none (gd false) (lv []) c p [] :: fs) s := by
    intro m
    induction m with
    | zero =>
      intro i A y xs s ρ cs hm hi hr hy ⟨σ, H, M, I, hk, h1, hM, o, r, hv, hd, hds, fr, ht⟩ iv
      have ei : i = items.length := by omega
      subst ei
      show SegZ _ _ _ _ ((forTurn tg (.ref it) body [] G.env).onRaise _) _ _
      rw [Sem.onRaise_eq_wrap]
      unfold forTurn
      refine sz_bindw (wpAny_standAt ?_)
      refine sz_bindw (wpAny_onRaise ?_)
      rw [(gl _).over]
      refine wpAny_mono (wpAny_sl (T.done (G.X A (cutS G.L y.s) y.H) rfl rfl rfl rfl items.length (ip ++ y.fp) (deafen s) σ H (fun _ _ => False) (inv_deaf I) (stat hy hds fr) ht (iok.stop M H cs h1 o (ivG _ _ _ _ _ hi iv)))) (fun rr s3 ⟨s30, sl3, h3⟩ => ?_) fun _ _ ⟨_, _, z⟩ => z.elim
      obtain ⟨rfl, I3⟩ := h3
      show SegZ _ _ _ _ (.pure (.again (.block [] G.env))) _ _
      refine sz_again rfl ?_
      show SegZ _ _ _ _ (.pure (.done .next)) _ _
      exact sz_leaf (.ok .next) (k A y xs s3 .next hr hy ⟨ρ, cs, ⟨σ, H, M, inv_back sl3 I.bare I3, hk, hM, o, r, gv_slept hv sl3, hd⟩, fin' _ _ _ _ iv⟩)
    | succ m ih =>
      intro i A y xs s ρ cs hm hi hr hy ⟨σ, H, M, I, hk, h1, hM, o, r, hv, hd, hds, fr, ht⟩ iv
      have hlt : i < items.length := by omega
      have gi := ivG _ _ _ _ _ hi iv
      show SegZ _ _ _ _ ((forTurn tg (.ref it) body [] G.env).onRaise _) _ _
      rw [Sem.onRaise_eq_wrap]
      unfold forTurn
      refine sz_bindw (wpAny_standAt ?_)
      refine sz_bindw (wpAny_onRaise ?_)
      rw [(gl _).over]
      refine wpAny_mono (wpAny_sl (T.item (G.X A (cutS G.L y.s) y.H) rfl rfl rfl rfl i (ip ++ y.fp) (deafen s) σ H (fun _ _ => False) (inv_deaf I) (stat hy hds fr) ht (iok.go i M H cs h1 o gi hlt))) (fun rr s3 ⟨s30, sl3, h3⟩ => ?_) fun _ _ ⟨_, _, z⟩ => z.elim
      obtain ⟨u, rfl, h3⟩ := h3
      refine sz_bindw ?_
      rw [(gl _).over]
      refine wpAny_mono (wpAny_sl2 sl3 h3) (fun _ s4 ⟨s40, sl4, h4⟩ => ?_) fun _ _ ⟨_, _, z⟩ => z.elim
      obtain ⟨x, H4, I40, rx, yl, t40, fr4⟩ := h4
      have I4 := inv_back sl4 I.bare I40
      have t4 : tn (i + 1) s4.heap := by rw [sl4.slept.eq]; exact t40
      have hv4 := gv_slept hv sl4
      obtain ⟨M4, xv, ex, s4', o4, rv⟩ := iok.yld i M H cs x H4 h1 o gi yl hlt
      have I4a := I4.pinned (stat hy hds fr4) (T.obj _ _ t4)
      have re : ∀ {A' : Around} {y' : Gh} {σ' : L2.St} {H' : Hp} {s' : Shared}, Inv (G.X A' (cutS G.L y'.s) y'.H) ((ip ++ y'.fp) ++ pinsAt fp s4.heap) σ' H' s' → Inv (G.X A' (cutS G.L y'.s) y'.H) ((ip ++ pinsAt fp s4.heap) ++ y'.fp) σ' H' s' := fun {A' y' σ' H' s'} J => J.pins_of fun p hp => by
        rcases List.mem_append.mp hp with z | z
        · rcases List.mem_append.mp z with z | z
          · exact J.pin p (List.mem_append_right _ (List.mem_append_left _ (List.mem_append_left _ z)))
          · exact J.pin p (List.mem_append_right _ (List.mem_append_right _ z))
        · exact J.pin p (List.mem_append_right _ (List.mem_append_left _ (List.mem_append_right _ z)))
      have I4' := re I4a
      refine sz_bindw ?_
      rw [(gl _).over]
      refine wpAny_mono (wpAny_sl ((hg A _ _ hr).run ((ip ++ pinsAt fp s4.heap) ++ y.fp) (deafen s4) σ H4 x u (fun σ' H' => ∃ M' ρ' cs', Same M4 M' ∧ Ok G.K M' H' cs' ∧ Rho G.K M' σ' ρ' ∧ tb { D with nx := Iv (i + 1), ct := Iv (i + 1), bk := D.nx } xs y.cs ρ' cs') (inv_deaf I4') rx
        ⟨M4, ρ, cs, xv, _, o4, r.mono s4', rv, turn i xv xs y.cs ρ cs ex iv, fun σ' ρ' M' H' cs' sm o' r' _ _ p => ⟨M', ρ', cs', sm, o', r', p⟩⟩)) (fun _ s5 ⟨s50, sl5, h5⟩ => ?_) fun _ _ ⟨_, _, z⟩ => z.elim
      obtain ⟨σ5, H5, I50, M5, ρ5, cs5, sm5, o5, r5, q5⟩ := h5
      have I5 := inv_back sl5 I4'.bare I50
      have hv5 := gv_slept hv4 sl5
      rw [Sem.bind_eq_wrap', Sem.wrap_wrap]
      have s15 : Same M M5 := s4'.trans sm5
      have gx : ∀ kk, GCd G (ip ++ pinsAt fp s4.heap) gv (.forLoop tg (.ref it) body [] G.env) (.ret kk none (gd false) (lv []) c p [] :: fs) id := fun kk => ⟨gc.cells, gc.frm, gc.kd, gc.z, gc.le, fun q hq => by
        rcases List.mem_cons.mp hq with z | z
        · exact gc.yng q (by rw [z]; exact List.mem_cons_self)
        · rcases List.mem_append.mp z with z | z
          · exact gc.yng q (List.mem_cons_of_mem _ z)
          · exact hLb _ (of_pinsAt z).1, (gl kk).over, (gl kk).split, (gl kk).guard, rfl⟩
      have hd5 : Dis G (ip ++ pinsAt fp s4.heap) y := fun p hp q hq => by
        rcases List.mem_cons.mp hp with z | z
        · exact hd p (by rw [z]; exact List.mem_cons_self) q hq
        · rcases List.mem_append.mp z with z | z
          · exact hd p (List.mem_cons_of_mem _ z) q hq
          · exact hds p.1 (of_pinsAt z).1 q hq
      have back : ∀ {A' : Around} {y' : Gh} {s7 : Shared} {σ7 : L2.St} {H7 : Hp}, Dis G (ip ++ pinsAt fp s4.heap) y' → Inv (G.X A' (cutS G.L y'.s) y'.H) ((ip ++ pinsAt fp s4.heap) ++ y'.fp) σ7 H7 s7 → Inv (G.X A' (cutS G.L y'.s) y'.H) (ip ++ y'.fp) σ7 H7 s7 ∧ (∀ b ∈ fp, H7 b = none) ∧ tn (i + 1) s7.heap ∧ Dis G ip y' ∧ (∀ b ∈ fp, ∀ q ∈ y'.fp, q.1 ≠ b) := fun {A' y' s7 σ7 H7} hd7 I7 => by
        have pin : ∀ b ∈ fp, ∀ o, s4.heap.get? b = some o → (b, o) ∈ (G.X A' (cutS G.L y'.s) y'.H).pn ++ ((ip ++ pinsAt fp s4.heap) ++ y'.fp) := fun b hb o e => List.mem_append_right _ (List.mem_append_left _ (List.mem_append_right _ (mem_pinsAt hb e)))
        refine ⟨I7.pins_of fun p hp => ?_, fun b hb => ?_, T.keep _ _ _ t4 fun b hb o e => (I7.pin (b, o) (pin b hb o e)).1, fun p hp q hq => ?_, fun b hb q hq => ?_⟩
        · rcases List.mem_append.mp hp with z | z
          · exact I7.pin p (List.mem_append_right _ (List.mem_append_left _ (List.mem_append_left _ z)))
          · exact I7.pin p (List.mem_append_right _ (List.mem_append_right _ z))
        · obtain ⟨o, e, _⟩ := T.obj _ _ t4 b hb
          exact (I7.pin (b, o) (pin b hb o e)).2.1
        · refine hd7 p ?_ q hq
          rcases List.mem_cons.mp hp with z | z
          · rw [z]; exact List.mem_cons_self
          · exact List.mem_cons_of_mem _ (List.mem_append_left _ z)
        · obtain ⟨o, e, _⟩ := T.obj _ _ t4 b hb
          exact hd7 (b, o) (List.mem_cons_of_mem _ (List.mem_append_right _ (mem_pinsAt hb e))) q hq
      refine hb.run A (fun b => M5 b) y (ip ++ pinsAt fp s4.heap) gv _ _ _ _ id id s5 xs ρ5 cs5 { D with nx := Iv (i + 1), ct := Iv (i + 1), bk := D.nx } (gx _) hr hy (fun A' y' xs' s7 f hr' hy' hs7 => ?_) ⟨σ5, H5, M5, I5, Same.refl _, hM.trans s15, o5, r5, hv5, hd5⟩ q5
      have hk5 := hk.trans s15
      have h15 := h1.trans s15
      cases f with
      | next =>
        obtain ⟨ρ7, cs7, ⟨σ7, H7, M7, I7, k7, m7, o7, r7, v7, d7⟩, q7⟩ := hs7
        obtain ⟨b1, b2, b3, b4, b5⟩ := back d7 I7
        exact sz_again rfl (ih (i + 1) A' y' xs' s7 ρ7 cs7 (by omega) hlt hr' hy' ⟨σ7, H7, M7, b1, hk5.trans k7, h15.trans k7, m7, o7, r7, v7, b4, b5, b2, b3⟩ q7)
      | cont =>
        obtain ⟨ρ7, cs7, ⟨σ7, H7, M7, I7, k7, m7, o7, r7, v7, d7⟩, q7⟩ := hs7
        obtain ⟨b1, b2, b3, b4, b5⟩ := back d7 I7
        exact sz_again rfl (ih (i + 1) A' y' xs' s7 ρ7 cs7 (by omega) hlt hr' hy' ⟨σ7, H7, M7, b1, hk5.trans k7, h15.trans k7, m7, o7, r7, v7, b4, b5, b2, b3⟩ q7)
      | brk =>
        obtain ⟨ρ7, cs7, ⟨σ7, H7, M7, I7, k7, m7, o7, r7, v7, d7⟩, q7⟩ := hs7
        obtain ⟨b1, b2, b3, b4, b5⟩ := back d7 I7
        exact sz_leaf (.ok .next) (k A' y' xs' s7 .next hr' hy' ⟨ρ7, cs7, ⟨σ7, H7, M7, b1, hk5.trans k7, m7, o7, r7, v7, b4⟩, q7⟩)
      | ret v =>
        obtain ⟨v7, x7, σ7, H7, M7, cs7, I7, k7, m7, o7, rv7, rx7, q7⟩ := hs7
        exact sz_leaf (.ok (.ret v)) (k A' y' xs' s7 (.ret v) hr' hy' ⟨v7, x7, σ7, H7, M7, cs7, I7.pins_of fun p hp => by
          rcases List.mem_append.mp hp with z | z
          · exact I7.pin p (List.mem_append_right _ (List.mem_append_left _ (List.mem_append_left _ z)))
          · exact I7.pin p (List.mem_append_right _ (List.mem_append_right _ z)), hk5.trans k7, m7, o7, rv7, rx7, q7⟩)
  exact loop (items.length - 0) 0 A y xs s2 ρ cs1 rfl (Nat.zero_le _) hr hy ⟨σ, H2, M1, I2, hk.trans sm1, Same.refl _, hM.trans sm1, o1, r.mono sm1, hv2, hd, hdis, fun b hb => (fpk b hb).1, tn2⟩ iv0
end
end GN
set_option maxRecDepth 100000
set_option maxHeartbeats 4000000
namespace GN
open PySem L2 PySem.Spec PyProof.Rows GenW DL GT
section
variable {G : GP} {Gd : Cells → Prop} {fin : GEnd}
/-! ### while -/
def wGWhile (wt : WT) (tb : WGn) : WGn := fun D xs c0 ρ cs => ∃ Iv : Nat → List Dat → Cells → DEnv → Cells → Prop, (∃ n, Iv n xs c0 ρ cs) ∧ ∀ n xs c0 ρ cs, Iv n xs c0 ρ cs → wt ρ cs fun b cs1 =>
  if b = true then tb { D with nx := fun xs' c0' ρ' cs' => ∃ m, m < n ∧ Iv m xs' c0' ρ' cs', ct := fun xs' c0' ρ' cs' => ∃ m, m < n ∧ Iv m xs' c0' ρ' cs', bk := D.nx } xs c0 ρ cs1 else D.nx xs c0 ρ cs1
theorem dgs_while {test : Expr} {body : List Stmt} {pos : Pos} {wt : WT} {tb : WGn} (hc : ∀ A s H, Room G.k A → DT (G.X A s H) test wt) (hb : DGSs G Gd fin body tb) : DGS G Gd fin (.While test body [] pos) (wGWhile wt tb) := by
  refine ⟨fun A Mk y ip gv c fs K J gd lv s xs ρ cs D gc hr hy k hR ht => ?_⟩
  obtain ⟨Iv, ⟨n0, iv0⟩, turn⟩ := ht
  rw [exec_While]
  refine sz_at ?_
  show SegZ _ _ _ c ((runOwn (.whileLoop test body [] G.env) G.env).wrap K J gd lv) fs s
  refine sz_call fun p => ?_
  have gl := fun (kk : Result → Sem PySem.Fin) => gcd_loop (k := kk) (c' := .whileLoop test body [] G.env) (l := lv []) (kp := []) (p := p) gc rfl rfl
  have loop : ∀ (n : Nat) (A : Around) (y : Gh) (xs : List Dat) (s : Shared) (ρ : DEnv) (cs : Cells), Rm G A → Lg G y → RunG G A Mk y ip gv ρ cs s → Iv n xs y.cs ρ cs →
      SegZ (model G.P G.w) A (HZ G.C Gd fin xs A y) (.whileLoop test body [] G.env) ((model G.P G.w).den (.whileLoop test body [] G.env))
        (.ret (fun r => ((match r with | .ok f => (.pure f : Sem Flow) | .error e => .raise e).onRaise (cameBack G.env)).wrap K J gd lv) none (gd false) (lv []) c p [] :: fs) s := by
    intro n
    induction n using Nat.strongRecOn with
    | ind n ih =>
      intro A y xs s ρ cs hr hy ⟨σ, H, M, I, hk, hM, o, r, hv, hd⟩ iv
      show SegZ _ _ _ _ ((whileTurn test body [] G.env).onRaise _) _ _
      rw [Sem.onRaise_eq_wrap]
      unfold whileTurn
      refine sz_bindw ?_
      rw [(gl _).over]
      refine wpAny_mono (wpAny_sl ((hc A _ _ hr).run (ip ++ y.fp) (deafen s) σ H (fun b H' => ∃ M' cs', Same M M' ∧ Ok G.K M' H' cs' ∧ if b = true then tb { D with nx := fun xs' c0' ρ' cs' => ∃ m, m < n ∧ Iv m xs' c0' ρ' cs', ct := fun xs' c0' ρ' cs' => ∃ m, m < n ∧ Iv m xs' c0' ρ' cs', bk := D.nx } xs y.cs ρ cs' else D.nx xs y.cs ρ cs') (inv_deaf I) ⟨M, ρ, cs, _, o, r, turn n xs y.cs ρ cs iv, fun b M' H' cs' s o' p => ⟨M', cs', s, o', p⟩⟩)) (fun b s' ⟨s₁, sl, hs⟩ => ?_) fun x s' ⟨_, _, hx⟩ => hx.elim
      obtain ⟨H', I', M', cs', sm, o', p⟩ := hs
      have I2 := inv_back sl I.bare I'
      have hv2 := gv_slept hv sl
      cases b with
      | true =>
        have p : tb { D with nx := fun xs' c0' ρ' cs' => ∃ m, m < n ∧ Iv m xs' c0' ρ' cs', ct := fun xs' c0' ρ' cs' => ∃ m, m < n ∧ Iv m xs' c0' ρ' cs', bk := D.nx } xs y.cs ρ cs' := by simpa using p
        rw [if_pos rfl, Sem.bind_eq_wrap', Sem.wrap_wrap]
        refine hb.run A Mk y ip gv _ _ _ _ id id s' xs ρ cs' _ (gl _) hr hy (fun A' y' xs' s7 f hr' hy' hs7 => ?_) ⟨σ, H', M', I2, hk.trans sm, hM.trans sm, o', r.mono sm, hv2, hd⟩ p
        cases f with
        | next =>
          obtain ⟨ρ7, cs7, hR7, m, hm, q7⟩ := hs7
          exact sz_again rfl (ih m hm A' y' xs' s7 ρ7 cs7 hr' hy' hR7 q7)
        | cont =>
          obtain ⟨ρ7, cs7, hR7, m, hm, q7⟩ := hs7
          exact sz_again rfl (ih m hm A' y' xs' s7 ρ7 cs7 hr' hy' hR7 q7)
        | brk =>
          obtain ⟨ρ7, cs7, hR7, q7⟩ := hs7
          exact sz_leaf (.ok .next) (k A' y' xs' s7 .next hr' hy' ⟨ρ7, cs7, hR7, q7⟩)
        | ret v => exact sz_leaf (.ok (.ret v)) (k A' y' xs' s7 (.ret v) hr' hy' hs7)
      | false =>
        have p : D.nx xs y.cs ρ cs' := by simpa using p
        rw [if_neg (by decide)]
        show SegZ _ _ _ _ (.pure (.done .next)) _ _
        exact sz_leaf (.ok .next) (k A y xs s' .next hr hy ⟨ρ, cs', ⟨σ, H', M', I2, hk.trans sm, hM.trans sm, o', r.mono sm, hv2, hd⟩, p⟩)
  exact loop n0 A y xs s ρ cs hr hy hR iv0
end
/-! ### a generator made by a call -/
abbrev GSpec := List Vl → Cells → List Dat → GEnd → (Cells → Prop) → Prop
structure MadeD (P : Program) (w : World) (K : Frag) (mg : Str → Option Value) (base : Heap) (k : Nat) (outer : List Env) (M : Hp) (s : Shared) (ds : List Dat) (fin : GEnd) (Gd : Cells → Prop) (a : Addr) (s' : Shared) (C : GC) (g : Nat) (go oL : Obj) (c : Code) : Prop where
  eqC : C = ⟨P, w, K, mg, base, k, outer, s.heap.objs.size, (a, go), g, s.heap.objs.size⟩
  gen : ∀ h : Heap, h.get? a = some go → h.IsGen a g
  cls : go.cls = .type "generator" ∧ ∃ vs, go.data = .fields vs
  obj : s'.heap.get? a = some go ∧ s'.heap.get? s.heap.objs.size = some oL ∧ s.heap.objs.size < a ∧ (∀ v, go.data ≠ .cell v) ∧ (∀ v, oL.data ≠ .cell v)
  new : s'.gens[g]? = some (.fresh c)
  num : g = s.gens.size
  os : s'.os = s.os
  bare : AllBare s'.gens
  keep : ∀ b o, s.heap.get? b = some o → s'.heap.get? b = some o
  gens : ∀ (i : Nat) (x : GenState), s.gens[i]? = some x → s'.gens[i]? = some x
  hands : Hands C Gd fin ds M [(s.heap.objs.size, oL), (a, go)] [] (.fresh c)
structure GFnD (P : Program) (w : World) (K : Frag) (mg : Str → Option Value) (base : Heap) (k : Nat) (f : Addr) (fd : FuncData) (ps : List Str) (sp : GSpec) : Prop where
  len : ∀ xs cs ds fin Gd, sp xs cs ds fin Gd → xs.length = ps.length
  run : ∀ (A : Around) (outer : List Env) (s : Shared) (H M : Hp) (cs : Cells) (args : Args) (us : List Value) (vs : List V) (xs : List Vl) (ds : List Dat) (fin : GEnd) (Gd : Cells → Prop), Room k A → Env0 P w K mg base A outer s H → BindsTo s fd args (ps.zip us) → Vals vs us → Ok K M H cs → Paired (RV K M) vs xs → sp xs cs ds fin Gd →
    codeAny (model P w) A (.call (.ref f) args) (fun r s' => ∃ a C g go oL c, r = .ok (.ret (.ref a)) ∧ MadeD P w K mg base k outer M s ds fin Gd a s' C g go oL c) s
/-- the ends of a generator's body -/
def genE (fin : GEnd) : GDs := { nx := fun xs c0 _ cs => xs = [] ∧ fin = .done ∧ SubC c0 cs, rt := fun xs c0 x cs => x = .dat .non ∧ xs = [] ∧ fin = .done ∧ SubC c0 cs }
theorem gfn_data {P : Program} {w : World} {K : Frag} {mg : Str → Option Value} {base : Heap} {x qual : Str} {st : Stmt} {f : Addr} {fd : FuncData} {N ps : List Str} {k : Nat} {sp : GSpec} {t : (Cells → Prop) → GEnd → WGn} (F : Fun K x qual st f fd) (S : GScope N ps (defScope st)) (hnc : ∀ y ∈ (defScope st).names, y.2 ≠ .cell)
    (len : ∀ xs cs ds fin Gd, sp xs cs ds fin Gd → xs.length = ps.length)
    (body : ∀ (cdv : Value) (outer : List Env) (L : Addr) (self : Addr × Obj) (g : Nat) (Gd : Cells → Prop) (fin : GEnd), DGSs ⟨P, w, K, mg, base, N, envOfC qual (defScope st) L f cdv, outer, k + 1, self, g, L, fun gv => gv = []⟩ Gd fin (defBody st) (t Gd fin))
    (pure : ∀ xs cs ds fin Gd, sp xs cs ds fin Gd → (ds = [] ∧ fin = .cut) ∨ ∀ c1, Gd c1 → t Gd fin (genE fin) ds c1 (startD N.length xs) c1) : GFnD P w K mg base (k + 1) f fd ps sp := by
  obtain ⟨oc, od, kV, doc, pm, an, cdv, ct, osl, rfl, lk, hcd⟩ := F.ex
  refine ⟨len, fun A outer s H M cs args us vs xs ds fin Gd hr e0 hb rvs o rxs hsp => ?_⟩
  have hl := (Paired.len rxs).trans (len _ _ _ _ _ hsp)
  have KX : K.In s.heap := e0.mod.kin.keeps fun b o e => (e0.bs b o e).1
  have lim : s.heap.NoLimit := e0.mod.nolimit.keeps fun b o e => (e0.bs b o e).1
  have hkind : ∀ y ∈ ps.zip us, (defScope st).names.lookup y.1 = some .local ∨ ((defScope st).names.lookup y.1 = some .cell ∧ ((cellsFrom (s.heap.objs.size + 1) (defScope st).names []).lookup y.1).isSome = true) := fun ⟨n, v⟩ hy => by
    rcases S.par n (List.of_mem_zip hy).1 with q | q
    · exact .inl q
    · exact .inr ⟨q, PySem.W.cellsFrom_some _ _ _ (.inl q)⟩
  refine codeAny_call_generator hr.depth (KX _ _ lk) rfl S.co S.gen rfl (PySem.W.codeRec_of KX hcd) (hb _ _ _ _ ?_)
  refine wpAny_newFunctionEnv_cells S.kind hkind fun env he s1 xc => ?_
  subst he
  have lim1 : s1.heap.NoLimit := lim.keeps xc.toInCall.keep
  refine ⟨lim1, ?_⟩
  obtain ⟨h1, tk, es1, hk1⟩ := xc.done
  have os1 : s1.os = s.os := by rw [es1]
  have gen1 : s1.gens = s.gens := by rw [es1]
  have lt1 : s.heap.objs.size < s1.heap.objs.size := xc.toInCall.ns.lt
  have kp1 : ∀ b o, s.heap.get? b = some o → s1.heap.get? b = some o := xc.toInCall.keep
  obtain ⟨oL, es, ep, hoL, hdat, hrest⟩ := xc.toInCall.ns
  have hoL : s1.heap.get? s.heap.objs.size = some oL := hoL
  have hcl : (envOfC qual (defScope st) s.heap.objs.size f cdv).cells = [] := cells_nil _ _ hnc
  generalize hgo : ({ cls := .type "generator", data := .fields #[.int s1.gens.size 0, .str x s1.toks, .str qual (s1.toks + 1)] } : Obj) = go
  have hgod : go.cls = .type "generator" ∧ go.data = .fields #[.int s1.gens.size 0, .str x s1.toks, .str qual (s1.toks + 1)] := by rw [← hgo]; exact ⟨rfl, rfl⟩
  refine ⟨s1.heap.objs.size, _, s1.gens.size, go, oL, _, rfl, ⟨rfl, fun h e => by rw [← hgo] at e; exact ⟨_, _, _, e, rfl, rfl, rfl⟩, ⟨hgod.1, _, hgod.2⟩, ⟨by rw [← hgo]; exact Heap.get?_push_size _ rfl, Heap.get?_push_of_some _ hoL, lt1, fun v z => (by rw [hgod.2] at z; cases z), fun v z => (by rw [hdat] at z; cases z)⟩, Array.getElem?_push_size .., by rw [gen1], os1, AllBare.push (by rw [gen1]; exact e0.bare) rfl, fun b o e => Heap.get?_push_of_some _ (kp1 b o e), fun i x e => ?_, ?_⟩⟩
  · show (s1.gens.push _)[i]? = some x
    rw [gen1]
    have hi := (Array.getElem?_eq_some_iff.mp e).1
    rw [Array.getElem?_push, if_neg (Nat.ne_of_lt hi)]; exact e
  rcases pure xs cs ds fin Gd hsp with z | pure
  · exact .inl z
  refine .inr fun Aw y W => ?_
  have hrw : Room (k + 1) Aw := W.room
  have hfr : Aw.frames = some outer := W.env.frames
  have e0w : Env0 P w K mg base Aw outer s H := ⟨hfr, e0.mod, e0.bs, e0.bsz, e0.funs, e0.frf, e0.hok, e0.bare⟩
  have I1 : Inv (gcxOf P w K mg base N qual (defScope st) f cdv Aw outer s H E0 []) [] (start N vs) H s1 := inv_startG S hrw.hd e0w hl rvs xc
  have hL1 := W.pv (s.heap.objs.size, oL) List.mem_cons_self
  have hA1 := W.pv (s1.heap.objs.size, go) (List.mem_cons_of_mem _ List.mem_cons_self)
  have hga : H s1.heap.objs.size = none := I1.hok.fresh (Nat.le_refl _)
  have hafs : s1.heap.objs.size ∉ frs outer := I1.nofs (Nat.le_refl _)
  have I2 := I1.kept (t' := s1.toks) (h' := s1.heap.push go) fun b u e => Heap.get?_push_of_some _ e
  let Gn : GP := ⟨P, w, K, mg, base, N, envOfC qual (defScope st) s.heap.objs.size f cdv, outer, k + 1, (s1.heap.objs.size, go), s1.gens.size, s.heap.objs.size, fun gv => gv = []⟩
  have I3 : Inv (Gn.X Aw s H) [] (start N vs) H { s1 with heap := s1.heap.push go, toks := s1.toks } := by
    refine ⟨⟨I2.ok.mod, I2.ok.kind, I2.ok.glob, I2.ok.blt, I2.ok.above, I2.ok.inj, I2.ok.has, I2.ok.cab, I2.ok.hd, I2.ok.frames, I2.ok.stk, I2.ok.exf, I2.ok.bs, I2.ok.bsz, I2.ok.noex, I2.ok.exfs, I2.ok.funs, I2.ok.frf⟩, I2.os, I2.bare, I2.base, I2.loc, I2.cell, I2.free, I2.freeC, fun p hp => ?_, I2.hok, I2.len⟩
    rw [List.mem_singleton.mp (show p ∈ [_] from hp)]
    refine ⟨?_, hga, Nat.ne_of_gt lt1, hafs, fun v z => by rw [hgod.2] at z; cases z⟩
    exact Heap.get?_push_size _ (by rw [← hgo]; rfl)
  have hy : Lg Gn y := Nat.le_of_lt (Heap.lt_size hL1.1)
  have hfs' : (Aw.deeper Gn.env).frames = some (Gn.env :: outer) := by
    show Aw.frames.map (Gn.env :: ·) = _
    rw [hfr]; rfl
  have I4 : Inv (Gn.X Aw (cutS Gn.L y.s) y.H) ([] ++ y.fp) (start N vs) y.H y.s := by
    refine rebase (G := Gn) rfl (Nat.le_refl _) hcl I3 rfl hrw.hd hrw.hd W.env (fun o e => ?_) hL1.2 (fun q hq => ?_) hfs'
    · have e' : (s1.heap.push _).get? s.heap.objs.size = some o := e
      rw [Heap.get?_push_of_some _ hoL] at e'
      cases e'
      exact hL1.1
    · rcases List.mem_cons.mp hq with z | z
      · rw [z]
        exact ⟨hA1.1, hA1.2, Nat.ne_of_gt lt1, hafs, fun v z => by rw [hgod.2] at z; cases z⟩
      · exact W.fp q z
  refine sz_func ?_
  refine (body cdv outer s.heap.objs.size (s1.heap.objs.size, go) s1.gens.size Gd fin).run Aw y.M y [] [] _ [] _ _ id id y.s ds (startD N.length xs) y.cs (genE fin) ⟨hcl, rfl, S.kind, rfl, Nat.le_refl _, fun q hq => ?_, fun A => over_func, rfl, rfl, rfl⟩ hrw hy (fun A' y' xs' s' fl hr' hy' hs => ?_) ⟨start N vs, y.H, y.M, I4, Same.refl _, Same.refl _, W.ok, (start_rho rxs).mono W.same, ⟨W.gz, fun p hp => by cases hp⟩, (fun p hp q hq => W.dis p (by rw [List.mem_singleton.mp (show p ∈ [_] from hp)]; exact List.mem_cons_of_mem _ List.mem_cons_self) q hq)⟩ (pure y.cs W.gd)
  · rw [List.mem_singleton.mp (show q ∈ [_] from hq)]
    exact Nat.le_of_lt lt1
  · cases fl with
    | next =>
      obtain ⟨ρ', cs', ⟨σ', H', M', I', k', m', o', r', v', d'⟩, rfl, rfl, sub⟩ := hs
      exact sz_end (.ok (.ret .none)) ⟨.inl rfl, H', M', ⟨I'.os, I'.bare, un_woken I', I'.hok, m', o'.sub sub, fun q hq => ⟨(I'.pin q (List.mem_append_right _ (List.mem_append_right _ hq))).1, (I'.pin q (List.mem_append_right _ (List.mem_append_right _ hq))).2.1⟩⟩⟩
    | brk => obtain ⟨ρ', cs', _, z⟩ := hs; exact z.elim
    | cont => obtain ⟨ρ', cs', _, z⟩ := hs; exact z.elim
    | ret u =>
      obtain ⟨v', x', σ', H', M', cs', I', k', m', o', rv', rx', rfl, rfl, rfl, sub⟩ := hs
      rw [inv_non rx'] at rv'
      have eu : u = Value.none := rv'
      subst eu
      exact sz_end (.ok (.ret .none)) ⟨.inl rfl, H', M', ⟨I'.os, I'.bare, un_woken I', I'.hok, m', o'.sub sub, fun q hq => ⟨(I'.pin q (List.mem_append_right _ (List.mem_append_right _ hq))).1, (I'.pin q (List.mem_append_right _ (List.mem_append_right _ hq))).2.1⟩⟩⟩
end GN
set_option maxRecDepth 100000
set_option maxHeartbeats 4000000
namespace GN
open PySem L2 PySem.Spec PyProof.Rows GenW DL GT
section
variable {P : Program} {w : World} {A : Around} {E : Value → Shared → Prop} {s : Shared}
theorem next_Z {a : Addr} {g : Nat} {gs : GenState} {Z : End → Shared → Prop} {Q : Option Value → Shared → Prop} (hh : A.handled = none) (hl : s.heap.NoLimit) (hroom : A.depth < recursionLimit) (hg : s.heap.IsGen a g) (hgs : s.gens[g]? = some gs)
    (hgo : Wk (model P w) A.in1 Z gs (s.setGen g .running)) (hq : ∀ e s₁, Z e s₁ → e.quiet = true ∧ ((∃ v gd l k c p fs, e = .susp v gd l k c p fs) ∨ e = .ret (.ok (.ret .none)) ∨ e = .ret (.ok .next)))
    (hY : ∀ v s₁ gd l k c p fs, Z (.susp v gd l k c p fs) s₁ → Q (some v) (s₁.setGen g (End.susp v gd l k c p fs).genState))
    (hP : ∀ e s₁, e = .ret (.ok (.ret .none)) ∨ e = .ret (.ok .next) → Z e s₁ → ∀ h', (∀ b o, s₁.heap.get? b = some o → h'.get? b = some o) → Q none { s₁.setGen g .finished with heap := h' }) : wpAny (model P w) A (pyNext (.ref a)) Q E s := by
  unfold pyNext
  refine wpAny_bind (wpAny_attempt (wpAny_callSpecial?_slot (name := Str.ofString "__next__") hg.typeIs slot_gen_next (wpAny_call_entry slot_gen_next hg.typeIs entry_gen_next ?_ (args_gen_next _))))
  show wpAny _ A.in1 (Builtin.Generator.genWake (.ref a) (.send .none)) _ _ s
  unfold Builtin.Generator.genWake
  refine wpAny_bind (wpAny_holding (wpAny_genNumber hg (wpAny_bind (wpAny_genState hgs ?_))))
  cases gs with
  | running => exact hgo.elim
  | finished => exact hgo.elim
  | _ =>
    refine wpAny_bind (wpAny_roomToWake hl hroom ?_)
    show wpAny _ A.in1 (.resume g (.send .none) [] _) _ _ s
    refine wp_resumeZ hgs hgo fun e s₁ he => ⟨(hq e s₁ he).1, ?_⟩
    rcases (hq e s₁ he).2 with ⟨v, gd, l, k, c, p, fs, rfl⟩ | hend
    · exact wpAny_pure ⟨v, rfl, wpAny_pure (hY v s₁ gd l k c p fs he)⟩
    · have hres : e.result = .returned .none := by rcases hend with z | z <;> subst z <;> rfl
      have hst : e.genState = .finished := by rcases hend with z | z <;> subst z <;> rfl
      rw [hres, hst]
      show wpAny _ A.in1 (newExc (.type "StopIteration") [] >>= _) _ _ _
      refine wpAny_bind ?_
      simp only [newExc, newTuple]
      refine wpAny_bind (wpAny_newObj_type ?_ (by size_fits))
      refine wpAny_bind (m := firstArgMember _ _) (wpAny_of_eq (a := Value.none) (by first | rfl | (simp only [firstArgMember]; rfl)) ?_)
      refine wpAny_newObj_type ?_ (by size_fits)
      simp only [raiseNew]
      refine wpAny_bind (wpAny_bind (wpAny_handled ?_))
      first | rw [show A.in1.handled = none from hh] | rw [hh]
      refine wpAny_throw ?_
      refine wpAny_bind (wpAny_isInstance (T := "StopIteration") (b := true) ⟨_, Heap.get?_push_size _ rfl, rfl⟩ isSubtype_stop ?_)
      exact wpAny_pure (hP e s₁ hend he _ fun b o hb => Heap.get?_push_of_some _ (Heap.get?_push_of_some _ hb))
end
/-! ### it is woken -/
theorem next_hands {C : GC} {A : Around} {s : Shared} {H M M' : Hp} {cs : Cells} {fp : List (Addr × Obj)} {Gd : Cells → Prop} {fin : GEnd} {ds : List Dat} {pv : List (Addr × Obj)} {gv : List (Nat × GenState)} {gs : GenState} {Q : Option Value → Shared → Prop} {E : Value → Shared → Prop}
    (hh : A.handled = none) (lim : s.heap.NoLimit) (dp : A.depth < recursionLimit) (hg : s.heap.IsGen C.self.1 C.g) (hgs : s.gens[C.g]? = some gs) (hw : Hands C Gd fin ds M pv gv gs) (hne : ¬ (ds = [] ∧ fin = .cut)) (W : Wake C A.in1 Gd M pv gv ⟨s.setGen C.g .running, H, M', cs, fp⟩)
    (hY : ∀ d r v x s₁ gs' H' M2 pv' gv', ds = d :: r → susp gs' = true → gs'.bare = true → Left C ⟨s.setGen C.g .running, H, M', cs, fp⟩ s₁ H' M2 → RelV x v → Dr C.K M2 x d → PvOk C ⟨s.setGen C.g .running, H, M', cs, fp⟩ pv' s₁ H' → GvOk C.g gv' s₁ → Hands C Gd fin r M2 pv' gv' gs' → Q (some v) (s₁.setGen C.g gs'))
    (hD : ∀ s₁ H' M2 h', ds = [] → fin = .done → Left C ⟨s.setGen C.g .running, H, M', cs, fp⟩ s₁ H' M2 → (∀ b o, s₁.heap.get? b = some o → h'.get? b = some o) → Q none { s₁.setGen C.g .finished with heap := h' }) :
    wpAny (model C.P C.w) A (pyNext (.ref C.self.1)) Q E s := by
  rcases hw with z | hw
  · exact absurd z hne
  have wk := hw A.in1 _ W
  refine next_Z hh lim dp hg hgs wk (fun e s₁ he => hz_ends he) (fun v s₁ gd l kk c' p fs hz => ?_) (fun e s₁ hend hz h' hk => ?_)
  · cases ds with
    | nil =>
      cases fin with
      | cut => exact (show False from hz).elim
      | done => obtain ⟨z, _⟩ := hz; rcases z with z | z <;> cases z
    | cons d r =>
      obtain ⟨v', gd', l', kk', c'', p', fs', heq, hqt, H', M2, pv', gv', x, lf, rv, dr, pvk', gvk', wk'⟩ := hz
      cases heq
      exact hY d r v x s₁ _ H' M2 pv' gv' rfl rfl (End.bare_of_quiet hqt) lf rv dr pvk' gvk' wk'
  · cases ds with
    | nil =>
      cases fin with
      | cut => exact (show False from hz).elim
      | done =>
        obtain ⟨_, H', M2, lf⟩ := hz
        exact hD s₁ H' M2 h' rfl rfl lf hk
    | cons d r =>
      obtain ⟨v', gd', l', kk', c'', p', fs', heq, _⟩ := hz
      rcases hend with z | z <;> rw [z] at heq <;> cases heq
/-- what a consumer X knows of a generator that it holds -/
structure Held (X : Cx) (pins : List (Addr × Obj)) (C : GC) : Prop where
  P : C.P = X.prog
  w : C.w = X.w
  K : C.K = X.K
  mg : C.mg = X.mg
  base : C.base = X.base
  outer : C.outer = X.stack
  pinl : ∀ p ∈ X.pn ++ pins, p.1 < C.L
  locl : X.env.locals < C.L
  celll : ∀ x c, X.env.cells.lookup x = some c → c < C.L
  szl : X.s_0.heap.objs.size ≤ C.L
  fsl : ∀ b ∈ X.fs, b < C.L
  stl : ∀ b ∈ frs X.stack, b < C.L
  cls : C.self.2.cls = .type "generator" ∧ ∃ vs, C.self.2.data = .fields vs
  gen : ∀ h : Heap, h.get? C.self.1 = some C.self.2 → h.IsGen C.self.1 C.g
theorem held_of {X : Cx} {pins : List (Addr × Obj)} {σ : L2.St} {H : Hp} {k : Nat} {M : Hp} {s s' : Shared} {ds : List Dat} {fin : GEnd} {Gd : Cells → Prop} {a : Addr} {C : GC} {g : Nat} {go oL : Obj} {c : Code} (I : Inv X pins σ H s)
    (mk : MadeD X.prog X.w X.K X.mg X.base k X.stack M s ds fin Gd a s' C g go oL c) : Held X pins C := by
  have e := mk.eqC
  subst e
  refine ⟨rfl, rfl, rfl, rfl, rfl, rfl, fun p hp => Heap.lt_size (I.pin p hp).1, I.lt, fun x c hx => ?_, I.sz, fun b hb => ?_, fun b hb => ?_, mk.cls, mk.gen⟩
  · obtain ⟨v, q⟩ := I.cell x c hx
    exact q.lt
  · apply Nat.lt_of_not_le
    intro z
    exact I.nofs z hb
  · rcases List.mem_cons.mp (I.stkSub b hb) with z | z
    · rw [z]; exact I.lt
    · apply Nat.lt_of_not_le
      intro z2
      exact I.nofs z2 z
/-! ### an expression whose value is a new generator -/
structure Made (X : Cx) (pins : List (Addr × Obj)) (σ : L2.St) (k n0 : Nat) (M : Hp) (cs : Cells) (ds : List Dat) (fin : GEnd) (Gd : Cells → Prop) (a : Addr) (s' : Shared) (H : Hp) (C : GC) (gs : GenState) (pv : List (Addr × Obj)) (gv : List (Nat × GenState)) : Prop where
  held : Held X pins C
  ek : C.k = k
  ea : C.self.1 = a
  inv : Inv X pins σ H s'
  ok : Ok X.K M H cs
  gsk : s'.gens[C.g]? = some gs
  num : n0 ≤ C.g
  pvk : ∀ p ∈ pv, s'.heap.get? p.1 = some p.2 ∧ H p.1 = none ∧ C.L ≤ p.1 ∧ ∀ v, p.2.data ≠ .cell v
  self : C.self ∈ pv
  loc : ∃ o, (C.loc, o) ∈ pv
  gvk : GvOk C.g gv s'
  hands : Hands C Gd fin ds M pv gv gs
theorem made_of {X : Cx} {pins : List (Addr × Obj)} {σ : L2.St} {H : Hp} {k n0 : Nat} {M : Hp} {cs : Cells} {s s' : Shared} {ds : List Dat} {fin : GEnd} {Gd : Cells → Prop} {a : Addr} {C : GC} {g : Nat} {go oL : Obj} {c : Code} (I : Inv X pins σ H s) (o : Ok X.K M H cs) (hn : n0 ≤ s.gens.size)
    (mk : MadeD X.prog X.w X.K X.mg X.base k X.stack M s ds fin Gd a s' C g go oL c) : Made X pins σ k n0 M cs ds fin Gd a s' H C (.fresh c) [(s.heap.objs.size, oL), (a, go)] [] := by
  have hC := held_of I mk
  have eC := mk.eqC
  obtain ⟨ob1, ob2, ob3, ob4, ob5⟩ := mk.obj
  have eL : C.L = s.heap.objs.size := by rw [eC]
  have eg : C.g = g := by rw [eC]
  refine ⟨hC, by rw [eC], by rw [eC], I.call' (ch := []) mk.os (Un.kept mk.keep) (I.hok.kept mk.keep) mk.bare (fun b z => by simp at z), o, by rw [eg]; exact mk.new, by rw [eg, mk.num]; exact hn, fun p hp => ?_, by rw [eC]; exact List.mem_cons_of_mem _ List.mem_cons_self, ⟨oL, by rw [eC]; exact List.mem_cons_self⟩, ⟨by rw [eg]; exact (Array.getElem?_eq_some_iff.mp mk.new).1, fun p hp => by cases hp⟩, mk.hands⟩
  rcases List.mem_cons.mp hp with z | z
  · rw [z]
    exact ⟨ob2, I.hok.fresh (Nat.le_refl _), by rw [eL]; exact Nat.le_refl _, ob5⟩
  · rw [List.mem_singleton.mp z]
    exact ⟨ob1, I.hok.fresh (Nat.le_of_lt ob3), by rw [eL]; exact Nat.le_of_lt ob3, ob4⟩
abbrev WGe := DEnv → Cells → (List Dat → GEnd → (Cells → Prop) → Cells → Prop) → Prop
structure DGe (X : Cx) (k : Nat) (e : Expr) (wg : WGe) : Prop where
  run : ∀ (pins : List (Addr × Obj)) (s : Shared) (σ : L2.St) (H M : Hp) (ρ : DEnv) (cs : Cells) (R : List Dat → GEnd → (Cells → Prop) → Cells → Prop), Inv X pins σ H s → Ok X.K M H cs → Rho X.K M σ ρ → wg ρ cs R →
    wpAny (model X.prog X.w) X.A (eval e X.env) (fun u s' => ∃ a H1 M1 cs1 ds fin Gd C gs pv gv, u = .ref a ∧ Same M M1 ∧ Made X pins σ k s.gens.size M1 cs1 ds fin Gd a s' H1 C gs pv gv ∧ R ds fin Gd cs1) X.xe s
section
variable {X : Cx} {pins fp : List (Addr × Obj)} {C : GC} {σ : L2.St} {H : Hp} {s : Shared}
theorem Held.young (h : Held X pins C) (hp : Heap) : ∀ b ∈ young C.L hp, (b ∈ X.ex ∨ X.s_0.heap.objs.size ≤ b) ∧ b ≠ X.env.locals ∧ (∀ x c, X.env.cells.lookup x = some c → c ≠ b) ∧ ∀ p ∈ X.pn ++ pins, p.1 ≠ b := fun b hb => by
  have hb := (mem_young.mp hb).2
  exact ⟨.inr (Nat.le_trans h.szl hb), Nat.ne_of_gt (Nat.lt_of_lt_of_le h.locl hb), fun x c hx => Nat.ne_of_lt (Nat.lt_of_lt_of_le (h.celll x c hx) hb), fun p hp => Nat.ne_of_lt (Nat.lt_of_lt_of_le (h.pinl p hp) hb)⟩
/-- it may be woken -/
theorem Held.wake {pins2 : List (Addr × Obj)} (h : Held X pins C) (I : Inv X pins2 σ H s) {A : Around} (hA : A.frames = X.A.frames) (hr : Room C.k A) {M M' : Hp} {cs : Cells} (o : Ok X.K M' H cs) (sm : Same M M') {Gd : Cells → Prop} (gd : Gd cs) {pv : List (Addr × Obj)} {gv : List (Nat × GenState)}
    (pvk : ∀ p ∈ pv, s.heap.get? p.1 = some p.2 ∧ H p.1 = none) (gvk : GvOk C.g gv s) (dis : ∀ p ∈ pv, ∀ q ∈ fp, q.1 ≠ p.1) (hfp : ∀ p ∈ fp, s.heap.get? p.1 = some p.2 ∧ H p.1 = none ∧ p.1 ≠ C.loc ∧ p.1 ∉ frs C.outer ∧ ∀ v, p.2.data ≠ .cell v) :
    Wake C A Gd M pv gv ⟨s.setGen C.g .running, H, M', cs, fp⟩ := by
  refine ⟨hr, ?_, sm, by show Ok C.K _ _ _; rw [h.K]; exact o, gd, dis, pvk, fun p hp => ?_, ?_, hfp⟩
  · rw [h.P, h.w, h.K, h.mg, h.base, h.outer]
    have e := I.env0
    exact ⟨hA.trans e.frames, e.mod, e.bs, e.bsz, e.funs, e.frf, e.hok, allBare_setGen e.bare rfl⟩
  · obtain ⟨g1, g2, _⟩ := gvk.at_ p hp
    show (s.setGen C.g .running).gens[p.1]? = some p.2
    rw [show (s.setGen C.g .running).gens = s.gens.setIfInBounds C.g .running from rfl, Array.getElem?_setIfInBounds, if_neg (Nat.ne_of_lt g1)]
    exact g2
  · show C.g < (s.setGen C.g .running).gens.size
    rw [setGen_size]; exact gvk.sz
/-- back from it -/
theorem Held.back (h : Held X pins C) (I : Inv X (pins ++ fp) σ H s) {M' : Hp} {cs : Cells} {s₁ : Shared} {H' M2 : Hp} (lf : Left C ⟨s.setGen C.g .running, H, M', cs, fp⟩ s₁ H' M2) {g' : Array GenState} (hg : AllBare g') (h' : Heap) (hk : ∀ b o, s₁.heap.get? b = some o → h'.get? b = some o) :
    Inv X (pins ++ fp) σ H' { s₁ with gens := g', heap := h' } ∧ Same M' M2 ∧ Ok X.K M2 H' cs := by
  have un : Un (frs X.stack) (GT.young C.L s.heap) H H' s.heap s₁.heap := by rw [← h.outer]; exact lf.un
  have hok : HOk X.prog X.w H' s₁.heap := by
    have := lf.hok
    rw [h.P, h.w] at this
    exact this
  let ch := (GT.young C.L s.heap).filter fun b => decide (∀ q ∈ fp, q.1 ≠ b)
  have out : ∀ b, b ∉ ch → b ∉ GT.young C.L s.heap ∨ ∃ q ∈ fp, q.1 = b := fun b hb => by
    by_cases hy : b ∈ GT.young C.L s.heap
    · right
      apply Decidable.byContradiction
      intro z
      exact hb (List.mem_filter.mpr ⟨hy, decide_eq_true fun q hq e => z ⟨q, hq, e⟩⟩)
    · exact .inl hy
  have fpI : ∀ q ∈ fp, s.heap.get? q.1 = some q.2 := fun q hq => (I.pin q (List.mem_append_right _ (List.mem_append_right _ hq))).1
  have un2 : Un (frs X.stack) ch H H' s.heap s₁.heap := by
    refine ⟨fun b o e n hf hx => ?_, fun b o e n hf hx => ?_, fun b o e n hx => ?_, fun b o e hx => ?_, un.tups, un.frzs, un.tbls⟩
    · rcases out b hx with z | ⟨q, hq, rfl⟩
      · exact un.keep b o e n hf z
      · rw [fpI q hq] at e; cases e; exact (lf.fp q hq).1
    · rcases out b hx with z | ⟨q, hq, rfl⟩
      · exact un.slot b o e n hf z
      · rw [fpI q hq] at e; cases e; exact ⟨_, (lf.fp q hq).1⟩
    · rcases out b hx with z | ⟨q, hq, rfl⟩
      · exact un.free b o e n z
      · exact (lf.fp q hq).2
    · rcases out b hx with z | ⟨q, hq, rfl⟩
      · exact un.there b o e z
      · exact ⟨_, (lf.fp q hq).1⟩
  refine ⟨I.call' (s' := { s₁ with gens := g', heap := h' }) (ch := ch) lf.os (un2.trans (Un.kept hk)) (hok.kept hk) hg (fun b hb => ?_), lf.same, ?_⟩
  · obtain ⟨hb1, hb2⟩ := List.mem_filter.mp hb
    obtain ⟨y1, y2, y3, y4⟩ := h.young s.heap b hb1
    refine ⟨y1, y2, y3, fun p hp => ?_⟩
    rcases List.mem_append.mp hp with z | z
    · exact y4 p (List.mem_append_left _ z)
    · rcases List.mem_append.mp z with z | z
      · exact y4 p (List.mem_append_right _ z)
      · exact of_decide_eq_true hb2 p z
  · have := lf.ok
    rw [h.K] at this
    exact this
end
def wForG (wg : WGe) (g : WG) (wb : WS) : WS := fun D ρ cs => wg ρ cs fun ds fin Gd cs1 => ∃ Iv : Nat → DEnv → Cells → Prop, Iv 0 ρ cs1 ∧ (∀ i ρ' cs', i ≤ ds.length → Iv i ρ' cs' → Gd cs') ∧
  (∀ i d ρ' cs', ds[i]? = some d → Iv i ρ' cs' → g (.dat d) ρ' cs' fun ρ2 cs2 => wb { D with nx := Iv (i + 1), ct := Iv (i + 1), bk := D.nx } ρ2 cs2) ∧ ∀ ρ' cs', Iv ds.length ρ' cs' → fin = .done ∧ D.nx ρ' cs'
theorem ds_forG {X : Cx} {k : Nat} {tg iter : Expr} {body : List Stmt} {pos : Pos} {js : List Nat} {wg : WGe} {g : WG} {wb : WS} (hx0 : ∀ e s, ¬ X.xe e s) (hc : X.calm = true) (hr : Room (k + 1) X.A) (hi : DGe X k iter wg) (hg : DG X js tg g) (hb : DSs X body wb)
    (hs : ∀ x, foldedSetIterable iter X.env x = pure x := by intro _; rfl) : DS X (.For tg iter body [] pos) (wForG wg g wb) := by
  refine ⟨fun pins s σ H E I ⟨M, ρ, cs, D, o, r, h, eo⟩ => ?_⟩
  have hh : X.A.handled = none := I.ok.hd hc
  refine wpAny_For (wpAny_mono (hi.run pins s σ H M ρ cs _ I o r h) (fun u s1 h1 => ?_) fun e s' hx => (hx0 e s' hx).elim) hs
  obtain ⟨a, H1, M1, cs1, ds, fin, Gd, C, gs0, pv0, gv0, rfl, sm1, mk, Iv, iv0, ivG, turn, fin'⟩ := h1
  have hC := mk.held
  have ea : C.self.1 = a := mk.ea
  have ek : C.k = k := mk.ek
  refine wpAny_pyIter_gen (by have := hC.gen _ (mk.pvk _ mk.self).1; rw [ea] at this; exact this) ?_
  have room1 : Room C.k X.A.in1 := by rw [ek]; exact hr.in1
  have frm1 : X.A.in1.frames = X.A.frames := rfl
  refine codeAny_forLoop_any (fun n s' => ∃ i σ' H' M' ρ' cs' gs pv gv, n = ds.length - i ∧ i ≤ ds.length ∧ Inv X pins σ' H' s' ∧ Same M1 M' ∧ Ok X.K M' H' cs' ∧ Rho X.K M' σ' ρ' ∧ Iv i ρ' cs' ∧ s'.gens[C.g]? = some gs ∧ (∀ p ∈ pv, s'.heap.get? p.1 = some p.2 ∧ H' p.1 = none ∧ C.L ≤ p.1 ∧ ∀ v, p.2.data ≠ .cell v) ∧ C.self ∈ pv ∧ GvOk C.g gv s' ∧ Hands C Gd fin (ds.drop i) M' pv gv gs) ?_ ds.length ?_
  · rintro n s3 ⟨i, σ3, H3, M3, ρ3, cs3, gs, pv, gv, rfl, hi3, I3, sm3, o3, r3, iv3, hgs, pvk, slf, gvk, hw⟩
    have gd3 := ivG i ρ3 cs3 hi3 iv3
    have ha3 : s3.heap.get? C.self.1 = some C.self.2 := (pvk _ slf).1
    have hW := hC.wake (fp := []) I3 frm1 room1 o3 (Same.refl M3) gd3 (fun p hp => ⟨(pvk p hp).1, (pvk p hp).2.1⟩) gvk (fun p _ q hq => by cases hq) (fun p hp => by cases hp)
    have hn0 : ¬ (ds.drop i = [] ∧ fin = .cut) := by
      rintro ⟨z1, z2⟩
      have : ds.length ≤ i := by
        have := congrArg List.length z1
        rw [List.length_drop, List.length_nil] at this
        omega
      have ei : i = ds.length := by omega
      rw [ei] at iv3
      have := (fin' ρ3 cs3 iv3).1
      rw [z2] at this
      cases this
    have key := fun (Q : Option Value → Shared → Prop) (E : Value → Shared → Prop) => next_hands (Q := Q) (E := E) hh I3.nolimit hr.depth (hC.gen _ ha3) hgs hw hn0 hW
    rw [hC.P, hC.w, ea] at key
    refine key _ _ (fun d rr v x s₁ gs' H' M' pv' gv' hds hsus hbare' lf rv dr pvk' gvk' hw' => ?_) (fun s₁ H' M' h' hds hfin lf hk => ?_)
    · have hlt : i < ds.length := by
        have := congrArg List.length hds
        rw [List.length_drop, List.length_cons] at this
        omega
      have hd : ds[i]? = some d ∧ ds.drop (i + 1) = rr := by
        have e1 := drop_cons (List.getElem?_eq_getElem hlt)
        rw [hds] at e1
        cases e1
        exact ⟨List.getElem?_eq_getElem hlt, rfl⟩
      rw [← hd.2] at hw'
      obtain ⟨I4, sm4, o4⟩ := hC.back (fp := []) (by rw [List.append_nil]; exact I3) lf (allBare_setGen (s := s₁) (g := C.g) (x := gs') lf.bare hbare') s₁.heap (fun _ _ e => e)
      rw [List.append_nil] at I4
      have I4 : Inv X pins σ3 H' (s₁.setGen C.g gs') := I4
      have hg4 : (s₁.setGen C.g gs').gens[C.g]? = some gs' := setGen_at gvk'.sz
      have hb4 : AllBare (s₁.setGen C.g gs').gens := I4.bare
      have hh4 : (s₁.setGen C.g gs').heap = s₁.heap := rfl
      have gvk4 : GvOk C.g gv' (s₁.setGen C.g gs') := ⟨by rw [setGen_size]; exact gvk'.sz, fun p hp => by
        obtain ⟨g1, g2, g3⟩ := gvk'.at_ p hp
        refine ⟨g1, ?_, g3⟩
        rw [show (s₁.setGen C.g gs').gens = s₁.gens.setIfInBounds C.g gs' from rfl, Array.getElem?_setIfInBounds, if_neg (Nat.ne_of_lt g1)]
        exact g2⟩
      have ha5 : s₁.heap.get? C.self.1 = some C.self.2 := (pvk'.at_ _ pvk'.self).1
      generalize s₁.setGen C.g gs' = s4 at I4 hg4 hb4 hh4 gvk4 ⊢
      show wpAny _ _ (letOwnedTupleGo tg (.ref a) v) _ _ s4
      obtain ⟨vsD, hdD⟩ := hC.cls.2
      rw [← ea]
      refine go_of (by rw [hh4]; exact ha5) hC.cls.1 hdD (by decide) ?_
      have pinv : ∀ p ∈ pv', s4.heap.get? p.1 = some p.2 ∧ H' p.1 = none ∧ p.1 ≠ X.env.locals ∧ p.1 ∉ X.fs ∧ ∀ v, p.2.data ≠ .cell v := fun p hp => by
        obtain ⟨q1, q2, q3, q4⟩ := pvk'.at_ p hp
        exact ⟨by rw [hh4]; exact q1, q2, Nat.ne_of_gt (Nat.lt_of_lt_of_le hC.locl q3), fun z => Nat.lt_irrefl _ (Nat.lt_of_lt_of_le (hC.fsl _ z) q3), q4⟩
      have I5 : Inv X (pins ++ pv') σ3 H' s4 := I4.pins_of fun p hp => by
        rcases List.mem_append.mp hp with z | z
        · exact I4.pin p (List.mem_append_right _ z)
        · exact pinv p z
      have dr' : RV X.K M' x (.dat d) := by
        have : Dr C.K M' x d := dr
        rw [hC.K] at this
        exact this
      -- the target is stored
      refine wpAny_mono (wpAny_sl (hg.run (pins ++ pv') (deafen s4) σ3 H' x v (fun σ' H2 => ∃ M2 ρ2 cs2, Same M' M2 ∧ Ok X.K M2 H2 cs2 ∧ Rho X.K M2 σ' ρ2 ∧ wb { D with nx := Iv (i + 1), ct := Iv (i + 1), bk := D.nx } ρ2 cs2) (inv_deaf I5) rv
        ⟨M', ρ3, cs3, .dat d, _, o4, r3.mono sm4, dr', turn i d ρ3 cs3 hd.1 iv3, fun σ' ρ' M2 H2 cs' sm o' r' _ _ p => ⟨M2, ρ', cs', sm, o', r', p⟩⟩)) (fun _ s6 h6 => ?_) (fun e s' ⟨_, _, hx⟩ => (hx0 _ _ hx).elim)
      obtain ⟨s60, sl6, σ6, H6, I60, M6, ρ6, cs6, sm6, o6, r6, q6⟩ := h6
      have I6 : Inv X (pins ++ pv') σ6 H6 s6 := inv_back sl6 hb4 I60
      have g6 := sl6.slept.kept C.g gs' hg4 hsus
      have gvk6 := gv_slept gvk4 sl6
      -- the body
      refine wpAny_mono (wpAny_sl (hb.run (pins ++ pv') (deafen s6) σ6 H6 { nx := fun σ' H2 => ∃ M2 ρ2 cs2, Same M6 M2 ∧ Ok X.K M2 H2 cs2 ∧ Rho X.K M2 σ' ρ2 ∧ Iv (i + 1) ρ2 cs2, rt := E.rt, bk := E.nx, ct := fun σ' H2 => ∃ M2 ρ2 cs2, Same M6 M2 ∧ Ok X.K M2 H2 cs2 ∧ Rho X.K M2 σ' ρ2 ∧ Iv (i + 1) ρ2 cs2 } (inv_deaf I6)
        ⟨M6, ρ6, cs6, _, o6, r6, q6, ⟨fun σ' ρ' M2 H2 cs' sm o' r' p => ⟨M2, ρ', cs', sm, o', r', p⟩, eo.rt.mono (sm1.trans (sm3.trans (sm4.trans sm6))), eo.nx.mono (sm1.trans (sm3.trans (sm4.trans sm6))), fun σ' ρ' M2 H2 cs' sm o' r' p => ⟨M2, ρ', cs', sm, o', r', p⟩⟩⟩)) (fun f s7 h7 => ?_) (fun e s' ⟨_, _, hx⟩ => (hx0 _ _ hx).elim)
      obtain ⟨s70, sl7, q7⟩ := h7
      have g7 := sl7.slept.kept C.g gs' g6 hsus
      have gvk7 := gv_slept gvk6 sl7
      have real7 : ∀ {σ7 : L2.St} {H7 : Hp}, Inv X (pins ++ pv') σ7 H7 s70 → Inv X (pins ++ pv') σ7 H7 s7 := fun {σ7 H7} I7 => inv_back sl7 I6.bare I7
      have again : ∀ {σ7 : L2.St} {H7 : Hp}, Inv X (pins ++ pv') σ7 H7 s70 → (∃ M2 ρ2 cs2, Same M6 M2 ∧ Ok X.K M2 H7 cs2 ∧ Rho X.K M2 σ7 ρ2 ∧ Iv (i + 1) ρ2 cs2) → ∃ m, m < ds.length - i ∧ ∃ i σ' H' M' ρ' cs' gs pv gv, m = ds.length - i ∧ i ≤ ds.length ∧ Inv X pins σ' H' s7 ∧ Same M1 M' ∧ Ok X.K M' H' cs' ∧ Rho X.K M' σ' ρ' ∧ Iv i ρ' cs' ∧ s7.gens[C.g]? = some gs ∧ (∀ p ∈ pv, s7.heap.get? p.1 = some p.2 ∧ H' p.1 = none ∧ C.L ≤ p.1 ∧ ∀ v, p.2.data ≠ .cell v) ∧ C.self ∈ pv ∧ GvOk C.g gv s7 ∧ Hands C Gd fin (ds.drop i) M' pv gv gs := fun {σ7 H7} I70 ⟨M7, ρ7, cs7, sm7, o7, r7, iv7⟩ => by
        have I7 := real7 I70
        refine ⟨ds.length - (i + 1), by omega, i + 1, σ7, H7, M7, ρ7, cs7, gs', pv', gv', rfl, hlt, I7.unpinned, sm3.trans (sm4.trans (sm6.trans sm7)), o7, r7, iv7, g7, fun p hp => ?_, pvk'.self, gvk7, ?_⟩
        · obtain ⟨z1, z2, _⟩ := I7.pin p (List.mem_append_right _ (List.mem_append_right _ hp))
          obtain ⟨_, _, q3, q4⟩ := pvk'.at_ p hp
          exact ⟨z1, z2, q3, q4⟩
        · rcases hw' with z | hw'
          · exact .inl z
          · exact .inr fun A y W => hw' A y ⟨W.room, W.env, (sm6.trans sm7).trans W.same, W.ok, W.gd, W.dis, W.pv, W.gv, W.gz, W.fp⟩
      cases f with
      | next => obtain ⟨σ7, H7, I7, n7⟩ := q7; exact again I7 n7
      | cont => obtain ⟨σ7, H7, I7, n7⟩ := q7; exact again I7 n7
      | brk => obtain ⟨σ7, H7, I7, n7⟩ := q7; exact ⟨σ7, H7, (real7 I7).unpinned, n7⟩
      | ret v => obtain ⟨x7, σ7, H7, I7, r7, n7⟩ := q7; exact ⟨x7, σ7, H7, (real7 I7).unpinned, r7, n7⟩
    · have ei : i = ds.length := by
        have := congrArg List.length hds
        rw [List.length_drop, List.length_nil] at this
        omega
      subst ei
      obtain ⟨_, hnx⟩ := fin' ρ3 cs3 iv3
      obtain ⟨I4, sm4, o4⟩ := hC.back (fp := []) (by rw [List.append_nil]; exact I3) lf (allBare_setGen (g := C.g) (x := .finished) lf.bare rfl) h' hk
      rw [List.append_nil] at I4
      exact wpAny_execs_nil ⟨σ3, H', I4, eo.nx σ3 ρ3 M' H' cs3 (sm1.trans (sm3.trans sm4)) o4 (r3.mono sm4) hnx⟩
  · exact ⟨0, σ, H1, M1, ρ, cs1, gs0, pv0, gv0, rfl, Nat.zero_le _, mk.inv, Same.refl _, mk.ok, r.mono sm1, iv0, mk.gsk, mk.pvk, mk.self, mk.gvk, by rw [List.drop_zero]; exact mk.hands⟩
end GN
set_option maxRecDepth 100000
set_option maxHeartbeats 4000000
namespace GN
open PySem L2 PySem.Spec PyProof.Rows GenW DL GT
/-! ### a generator that walks a generator -/
def wGForG (wg : WGe) (g : WG) (tb : WGn) : WGn := fun D xs c0 ρ cs => wg ρ cs fun ds finI GdI cs1 => ∃ Iv : Nat → List Dat → Cells → DEnv → Cells → Prop, Iv 0 xs c0 ρ cs1 ∧ (∀ i xs c0 ρ' cs', i ≤ ds.length → Iv i xs c0 ρ' cs' → GdI cs') ∧
  (∀ i d xs c0 ρ' cs', ds[i]? = some d → Iv i xs c0 ρ' cs' → g (.dat d) ρ' cs' fun ρ2 cs2 => tb { D with nx := Iv (i + 1), ct := Iv (i + 1), bk := D.nx } xs c0 ρ2 cs2) ∧ ∀ xs c0 ρ' cs', Iv ds.length xs c0 ρ' cs' → finI = .done ∧ D.nx xs c0 ρ' cs'
theorem room_in {k : Nat} {A : Around} {env : Env} (h : Room (k + 2) A) : Room k (A.deeper env).in1 := (h.deeper env).in1
theorem Hands.mono {C : GC} {Gd : Cells → Prop} {fin : GEnd} {ds : List Dat} {M M' : Hp} {pv : List (Addr × Obj)} {gv : List (Nat × GenState)} {gs : GenState} (sm : Same M M') (h : Hands C Gd fin ds M pv gv gs) : Hands C Gd fin ds M' pv gv gs := by
  rcases h with z | h
  · exact .inl z
  · exact .inr fun A y W => h A y ⟨W.room, W.env, sm.trans W.same, W.ok, W.gd, W.dis, W.pv, W.gv, W.gz, W.fp⟩
theorem gvOk_set {g : Nat} {gv : List (Nat × GenState)} {s : Shared} {x : GenState} (h : GvOk g gv s) : GvOk g gv (s.setGen g x) := ⟨by rw [setGen_size]; exact h.sz, fun p hp => by
  obtain ⟨g1, g2, g3⟩ := h.at_ p hp
  refine ⟨g1, ?_, g3⟩
  rw [show (s.setGen g x).gens = s.gens.setIfInBounds g x from rfl, Array.getElem?_setIfInBounds, if_neg (Nat.ne_of_lt g1)]
  exact g2⟩
theorem dgs_forG {G : GP} {Gd : Cells → Prop} {fin : GEnd} {kk : Nat} {tg iter : Expr} {body : List Stmt} {pos : Pos} {js : List Nat} {wg : WGe} {g : WG} {tb : WGn} (hkk : kk + 2 ≤ G.k) (hZ : ∀ gv, G.Z gv → gv = []) (hi : ∀ A s H, Room G.k A → DGe (G.X A s H) kk iter wg) (hg : ∀ A s H, Room G.k A → DG (G.X A s H) js tg g)
    (hb : DGSs { G with Z := fun _ => True } Gd fin body tb) (hs : ∀ x, foldedSetIterable iter G.env x = pure x := by intro _; rfl) : DGS G Gd fin (.For tg iter body [] pos) (wGForG wg g tb) := by
  refine ⟨fun A Mk y ip gv c fs K J gd lv s xs ρ cs D gc hr hy k ⟨σ, H, M, I, hk, hM, o, r, hv, hd⟩ ht => ?_⟩
  have egv := hZ gv gc.z
  subst egv
  rw [exec_For]
  refine sz_at ?_
  show SegZ _ _ _ c ((eval iter G.env >>= fun v => foldedSetIterable iter G.env v >>= fun x => standAt iter.pos >>= fun _ => holding [x] (pyIter x) >>= fun it => runOwn (.forLoop tg it body [] G.env) G.env).wrap K J gd lv) fs s
  refine sz_bindw ?_
  rw [gc.over]
  refine wpAny_gsz (n := G.g + 1) hv.sz (wpAny_mono ((hi A _ _ hr).run (ip ++ y.fp) s σ H M ρ cs _ I o r ht) (fun v s1 h1 hsz1 => ?_) fun x s' hx => hx.elim)
  obtain ⟨a, H1, M1, cs1, ds, finI, GdI, C, gs0, pv0, gv0, rfl, sm1, mk, Iv, iv0, ivG, turn, fin'⟩ := h1
  have hC0 : Held (G.X A (cutS G.L y.s) y.H) (ip ++ y.fp) C := mk.held
  have ea : C.self.1 = a := mk.ea
  have ek : C.k = kk := mk.ek
  have hC : ∀ (A' : Around) (y' : Gh), Lg G y' → Held (G.X A' (cutS G.L y'.s) y'.H) ip C := fun A' y' hy' =>
    ⟨hC0.P, hC0.w, hC0.K, hC0.mg, hC0.base, hC0.outer, fun p hp => hC0.pinl p (by
      rcases List.mem_append.mp hp with z | z
      · exact List.mem_append_left _ z
      · exact List.mem_append_right _ (List.mem_append_left _ z)), hC0.locl, hC0.celll, by
        show (cutS G.L y'.s).heap.objs.size ≤ C.L
        rw [show (cutS G.L y'.s).heap.objs.size = G.L from cut_size hy']
        exact Nat.le_trans gc.le (Nat.le_of_lt hC0.locl), hC0.fsl, hC0.stl, hC0.cls, hC0.gen⟩
  -- its number is behind ours
  have hgn : G.g < C.g := by
    exact Nat.lt_of_lt_of_le hv.sz mk.num
  rw [hs]
  refine sz_bindw (wpAny_pure ?_)
  refine sz_bindw (wpAny_standAt ?_)
  refine sz_bindw (wpAny_holding ?_)
  rw [gc.over]
  refine wpAny_pyIter_gen (by have := hC0.gen _ (mk.pvk _ mk.self).1; rw [ea] at this; exact this) ?_
  refine sz_call fun p => ?_
  have gl := fun (kf : Result → Sem PySem.Fin) => gcd_loop (k := kf) (c' := .forLoop tg (.ref a) body [] G.env) (l := lv []) (kp := []) (p := p) gc rfl rfl
  have hrI : ∀ {A' : Around}, Room G.k A' → Room C.k (A'.deeper G.env).in1 := fun {A'} h => by rw [ek]; exact room_in (h.mono hkk)
  have loop : ∀ (m i : Nat) (A : Around) (y : Gh) (xs : List Dat) (s : Shared) (ρ : DEnv) (cs : Cells), m = ds.length - i → i ≤ ds.length → Rm G A → Lg G y →
      (∃ σ H M gs pv gv, Inv (G.X A (cutS G.L y.s) y.H) (ip ++ y.fp) σ H s ∧ Same Mk M ∧ Same M1 M ∧ Same y.M M ∧ Ok G.K M H cs ∧ Rho G.K M σ ρ ∧ G.g < s.gens.size ∧ Dis G ip y ∧ s.gens[C.g]? = some gs ∧ (∀ p ∈ pv, s.heap.get? p.1 = some p.2 ∧ H p.1 = none ∧ C.L ≤ p.1 ∧ ∀ v, p.2.data ≠ .cell v) ∧ C.self ∈ pv ∧ (∃ o, (C.loc, o) ∈ pv) ∧ GvOk C.g gv s ∧ (∀ p ∈ pv, ∀ q ∈ y.fp, q.1 ≠ p.1) ∧ Hands C GdI finI (ds.drop i) M pv gv gs) → Iv i xs y.cs ρ cs →
      SegZ (model G.P G.w) A (HZ G.C Gd fin xs A y) (.forLoop tg (.ref a) body [] G.env) ((model G.P G.w).den (.forLoop tg (.ref a) body [] G.env))
        (.ret (fun r => ((match r with | .ok f => (.pure f : Sem Flow) | .error e => .raise e).onRaise (cameBack G.env)).wrap K J gd lv) none (gd false) (lv []) c p [] :: fs) s := by
    intro m
    induction m using Nat.strongRecOn with
    | ind m ih =>
      intro i A y xs s ρ cs hm hi hr hy ⟨σ, H, M, gs, pv, gv, I, hk, h1, hM, o, r, hgz, hd, hgs, pvk, slf, ⟨oLo, hLo⟩, gvk, hds, hw⟩ iv
      have gi := ivG _ _ _ _ _ hi iv
      have hX := hC A y hy
      have ha3 : s.heap.get? C.self.1 = some C.self.2 := (pvk _ slf).1
      have hfpI : ∀ q ∈ y.fp, s.heap.get? q.1 = some q.2 ∧ H q.1 = none ∧ q.1 ≠ C.loc ∧ q.1 ∉ frs C.outer ∧ ∀ v, q.2.data ≠ .cell v := fun q hq => by
        obtain ⟨i1, i2, i3, i4, i5⟩ := I.pin q (List.mem_append_right _ (List.mem_append_right _ hq))
        refine ⟨i1, i2, hds _ hLo q hq, fun z => ?_, i5⟩
        rw [hX.outer] at z
        rcases List.mem_cons.mp (I.stkSub _ z) with z | z
        · exact i3 z
        · exact i4 z
      have hW := hX.wake (fp := y.fp) I (A := (A.deeper G.env).in1) rfl (hrI hr) o (Same.refl M) gi (fun p hp => ⟨(pvk p hp).1, (pvk p hp).2.1⟩) gvk hds hfpI
      have hn0 : ¬ (ds.drop i = [] ∧ finI = .cut) := by
        rintro ⟨z1, z2⟩
        have : ds.length ≤ i := by
          have := congrArg List.length z1
          rw [List.length_drop, List.length_nil] at this
          omega
        have ei : i = ds.length := by omega
        rw [ei] at iv
        have := (fin' _ _ _ _ iv).1
        rw [z2] at this
        cases this
      have hrd : Room (G.k - 1) (A.deeper G.env) := (show Room (G.k - 1 + 1) A from hr.mono (by omega)).deeper G.env
      have key := fun (Q : Option Value → Shared → Prop) (E : Value → Shared → Prop) => next_hands (Q := Q) (E := E) (A := A.deeper G.env) hr.hd I.nolimit hrd.depth (hX.gen _ ha3) hgs hw hn0 hW
      rw [hX.P, hX.w, ea] at key
      show SegZ _ _ _ _ ((forTurn tg (.ref a) body [] G.env).onRaise _) _ _
      rw [Sem.onRaise_eq_wrap]
      unfold forTurn
      refine sz_bindw (wpAny_standAt ?_)
      refine sz_bindw (wpAny_onRaise ?_)
      rw [(gl _).over]
      refine wpAny_gsz (n := G.g + 1) hgz (key _ _ (fun d rr v x s₁ gs' H' M' pv' gv' hdsE hsus hbare' lf rv dr pvk' gvk' hw' _ => ?_) (fun s₁ H' M' h' hdsE hfin lf hk' hsz9 => ?_))
      · have hlt : i < ds.length := by
          have := congrArg List.length hdsE
          rw [List.length_drop, List.length_cons] at this
          omega
        have hd' : ds[i]? = some d ∧ ds.drop (i + 1) = rr := by
          have e1 := drop_cons (List.getElem?_eq_getElem hlt)
          rw [hdsE] at e1
          cases e1
          exact ⟨List.getElem?_eq_getElem hlt, rfl⟩
        rw [← hd'.2] at hw'
        obtain ⟨I4, sm4, o4⟩ := hX.back I lf (allBare_setGen (s := s₁) (g := C.g) (x := gs') lf.bare hbare') s₁.heap (fun _ _ e => e)
        have I4 : Inv (G.X A (cutS G.L y.s) y.H) (ip ++ y.fp) σ H' (s₁.setGen C.g gs') := I4
        have hg4 : (s₁.setGen C.g gs').gens[C.g]? = some gs' := setGen_at gvk'.sz
        have hh4 : (s₁.setGen C.g gs').heap = s₁.heap := rfl
        have gvk4 : GvOk C.g gv' (s₁.setGen C.g gs') := gvOk_set gvk'
        have ha5 : s₁.heap.get? C.self.1 = some C.self.2 := (pvk'.at_ _ pvk'.self).1
        generalize s₁.setGen C.g gs' = s4 at I4 hg4 hh4 gvk4 ⊢
        have gvb : GvOk G.g ((C.g, gs') :: gv') s4 := ⟨Nat.lt_trans hgn gvk4.sz, fun p hp => by
          rcases List.mem_cons.mp hp with z | z
          · rw [z]; exact ⟨hgn, hg4, hsus⟩
          · obtain ⟨g1, g2, g3⟩ := gvk4.at_ p z
            exact ⟨Nat.lt_trans hgn g1, g2, g3⟩⟩
        refine sz_bindw ?_
        rw [(gl _).over]
        obtain ⟨vsD, hdD⟩ := hX.cls.2
        show wpAny _ _ (letOwnedTupleGo tg (.ref a) v) _ _ s4
        rw [← ea]
        refine go_of (by rw [hh4]; exact ha5) hX.cls.1 hdD (by decide) ?_
        have pinv : ∀ p ∈ pv', s4.heap.get? p.1 = some p.2 ∧ H' p.1 = none ∧ p.1 ≠ G.env.locals ∧ p.1 ∉ frs G.outer ∧ ∀ v, p.2.data ≠ .cell v := fun p hp => by
          obtain ⟨q1, q2, q3, q4⟩ := pvk'.at_ p hp
          exact ⟨by rw [hh4]; exact q1, q2, Nat.ne_of_gt (Nat.lt_of_lt_of_le hX.locl q3), fun z => Nat.lt_irrefl _ (Nat.lt_of_lt_of_le (hX.fsl _ z) q3), q4⟩
        have I5 : Inv (G.X A (cutS G.L y.s) y.H) ((ip ++ pv') ++ y.fp) σ H' s4 := I4.pins_of fun p hp => by
          rcases List.mem_append.mp hp with z | z
          · rcases List.mem_append.mp z with z | z
            · exact I4.pin p (List.mem_append_right _ (List.mem_append_left _ z))
            · exact pinv p z
          · exact I4.pin p (List.mem_append_right _ (List.mem_append_right _ z))
        have dr' : RV G.K M' x (.dat d) := by
          have : Dr C.K M' x d := dr
          rw [hX.K] at this
          exact this
        have hd5 : Dis G (ip ++ pv') y := fun p hp q hq => by
          rcases List.mem_cons.mp hp with z | z
          · exact hd p (by rw [z]; exact List.mem_cons_self) q hq
          · rcases List.mem_append.mp z with z | z
            · exact hd p (List.mem_cons_of_mem _ z) q hq
            · exact pvk'.dis p z q hq
        -- the target is stored
        rw [ea]
        refine sz_bindw ?_
        rw [(gl _).over]
        refine wpAny_mono (wpAny_sl ((hg A _ _ hr).run ((ip ++ pv') ++ y.fp) (deafen s4) σ H' x v (fun σ' H2 => ∃ M2 ρ2 cs2, Same M' M2 ∧ Ok G.K M2 H2 cs2 ∧ Rho G.K M2 σ' ρ2 ∧ tb { D with nx := Iv (i + 1), ct := Iv (i + 1), bk := D.nx } xs y.cs ρ2 cs2) (inv_deaf I5) rv
          ⟨M', ρ, cs, .dat d, _, o4, r.mono sm4, dr', turn i d xs y.cs ρ cs hd'.1 iv, fun σ' ρ' M2 H2 cs' sm o' r' _ _ p => ⟨M2, ρ', cs', sm, o', r', p⟩⟩)) (fun _ s6 ⟨s60, sl6, h6⟩ => ?_) (fun _ _ ⟨_, _, z⟩ => z.elim)
        obtain ⟨σ6, H6, I60, M6, ρ6, cs6, sm6, o6, r6, q6⟩ := h6
        have I6 := inv_back sl6 I5.bare I60
        have gvb6 := gv_slept gvb sl6
        rw [Sem.bind_eq_wrap', Sem.wrap_wrap]
        have s16 : Same M M6 := sm4.trans sm6
        have gx : ∀ kf, GCd { G with Z := fun _ => True } (ip ++ pv') ((C.g, gs') :: gv') (.forLoop tg (.ref a) body [] G.env) (.ret kf none (gd false) (lv []) c p [] :: fs) id := fun kf => ⟨gc.cells, gc.frm, gc.kd, trivial, gc.le, fun q hq => by
          rcases List.mem_cons.mp hq with z | z
          · exact gc.yng q (by rw [z]; exact List.mem_cons_self)
          · rcases List.mem_append.mp z with z | z
            · exact gc.yng q (List.mem_cons_of_mem _ z)
            · exact Nat.le_trans gc.le (Nat.le_trans (Nat.le_of_lt hX.locl) (pvk'.at_ q z).2.2.1), (gl kf).over, (gl kf).split, (gl kf).guard, rfl⟩
        have hk6 := hk.trans s16
        have h16 := h1.trans s16
        refine hb.run A (fun b => M6 b) y (ip ++ pv') ((C.g, gs') :: gv') _ _ _ _ id id s6 xs ρ6 cs6 { D with nx := Iv (i + 1), ct := Iv (i + 1), bk := D.nx } (gx _) hr hy (fun A' y' xs' s7 f hr' hy' hs7 => ?_) ⟨σ6, H6, M6, I6, Same.refl _, hM.trans s16, o6, r6, gvb6, hd5⟩ q6
        have pinB : ∀ {σ7 : L2.St} {H7 : Hp}, Inv (G.X A' (cutS G.L y'.s) y'.H) ((ip ++ pv') ++ y'.fp) σ7 H7 s7 → Inv (G.X A' (cutS G.L y'.s) y'.H) (ip ++ y'.fp) σ7 H7 s7 := fun {σ7 H7} I7 => I7.pins_of fun p hp => by
          rcases List.mem_append.mp hp with z | z
          · exact I7.pin p (List.mem_append_right _ (List.mem_append_left _ (List.mem_append_left _ z)))
          · exact I7.pin p (List.mem_append_right _ (List.mem_append_right _ z))
        have disB : Dis G (ip ++ pv') y' → Dis G ip y' := fun h p hp q hq => by
          refine h p ?_ q hq
          rcases List.mem_cons.mp hp with z | z
          · rw [z]; exact List.mem_cons_self
          · exact List.mem_cons_of_mem _ (List.mem_append_left _ z)
        have again : ∀ {ρ7 : DEnv} {cs7 : Cells}, RunG { G with Z := fun _ => True } A' (fun b => M6 b) y' (ip ++ pv') ((C.g, gs') :: gv') ρ7 cs7 s7 → Iv (i + 1) xs' y'.cs ρ7 cs7 →
            SegZ (model G.P G.w) A' (HZ G.C Gd fin xs' A' y') (.forLoop tg (.ref a) body [] G.env) ((model G.P G.w).den (.forLoop tg (.ref a) body [] G.env))
              (.ret (fun r => ((match r with | .ok f => (.pure f : Sem Flow) | .error e => .raise e).onRaise (cameBack G.env)).wrap K J gd lv) none (gd false) (lv []) c p [] :: fs) s7 := fun {ρ7 cs7} hR q7 => by
          obtain ⟨σ7, H7, M7, I7, k7, m7, o7, r7, v7, d7⟩ := hR
          have I7 : Inv (G.X A' (cutS G.L y'.s) y'.H) ((ip ++ pv') ++ y'.fp) σ7 H7 s7 := I7
          have hgC := (v7.at_ (C.g, gs') List.mem_cons_self).2.1
          refine ih (ds.length - (i + 1)) (by omega) (i + 1) A' y' xs' s7 ρ7 cs7 rfl hlt hr' hy' ⟨σ7, H7, M7, gs', pv', gv', pinB I7, hk6.trans k7, h16.trans k7, m7, o7, r7, v7.sz, disB d7, hgC, fun q hq => ?_, pvk'.self, pvk'.loc, ⟨(Array.getElem?_eq_some_iff.mp hgC).1, fun q hq => ?_⟩, fun q hq q2 hq2 => d7 q (List.mem_cons_of_mem _ (List.mem_append_right _ hq)) q2 hq2, hw'.mono (sm6.trans k7)⟩ q7
          · obtain ⟨z1, z2, _⟩ := I7.pin q (List.mem_append_right _ (List.mem_append_left _ (List.mem_append_right _ hq)))
            obtain ⟨_, _, q3, q4⟩ := pvk'.at_ q hq
            exact ⟨z1, z2, q3, q4⟩
          · exact ⟨(gvk'.at_ q hq).1, (v7.at_ q (List.mem_cons_of_mem _ hq)).2⟩
        cases f with
        | next =>
          obtain ⟨ρ7, cs7, hR7, q7⟩ := hs7
          exact sz_again rfl (again hR7 q7)
        | cont =>
          obtain ⟨ρ7, cs7, hR7, q7⟩ := hs7
          exact sz_again rfl (again hR7 q7)
        | brk =>
          obtain ⟨ρ7, cs7, ⟨σ7, H7, M7, I7, k7, m7, o7, r7, v7, d7⟩, q7⟩ := hs7
          exact sz_leaf (.ok .next) (k A' y' xs' s7 .next hr' hy' ⟨ρ7, cs7, ⟨σ7, H7, M7, pinB I7, hk6.trans k7, m7, o7, r7, ⟨v7.sz, fun q hq => by cases hq⟩, disB d7⟩, q7⟩)
        | ret v =>
          obtain ⟨v7, x7, σ7, H7, M7, cs7, I7, k7, m7, o7, rv7, rx7, q7⟩ := hs7
          exact sz_leaf (.ok (.ret v)) (k A' y' xs' s7 (.ret v) hr' hy' ⟨v7, x7, σ7, H7, M7, cs7, pinB I7, hk6.trans k7, m7, o7, rv7, rx7, q7⟩)
      · have ei : i = ds.length := by
          have := congrArg List.length hdsE
          rw [List.length_drop, List.length_nil] at this
          omega
        subst ei
        obtain ⟨_, hnx⟩ := fin' _ _ _ _ iv
        obtain ⟨I4, sm4, o4⟩ := hX.back I lf (allBare_setGen (g := C.g) (x := .finished) lf.bare rfl) h' hk'
        show SegZ _ _ _ _ (.pure (.again (.block [] G.env))) _ _
        refine sz_again rfl ?_
        show SegZ _ _ _ _ (.pure (.done .next)) _ _
        refine sz_leaf (.ok .next) (k A y xs _ .next hr hy ⟨ρ, cs, ⟨σ, H', M', I4, hk.trans sm4, hM.trans sm4, o4, r.mono sm4, ⟨hsz9, fun q hq => by cases hq⟩, hd⟩, hnx⟩)
  refine loop _ 0 A y xs s1 ρ cs1 rfl (Nat.zero_le _) hr hy ⟨σ, H1, M1, gs0, pv0, gv0, mk.inv, hk.trans sm1, Same.refl _, hM.trans sm1, mk.ok, r.mono sm1, hsz1, hd, mk.gsk, mk.pvk, mk.self, mk.loc, mk.gvk, fun q hq q2 hq2 => ?_, by rw [List.drop_zero]; exact mk.hands⟩ iv0
  exact Nat.ne_of_lt (Nat.lt_of_lt_of_le (hC0.pinl q2 (List.mem_append_right _ (List.mem_append_right _ hq2))) (mk.pvk q hq).2.2.1)
end GN
set_option maxRecDepth 100000
set_option maxHeartbeats 4000000
namespace DL
open PySem L2 GT
/-! ### instances -/
def putV (f : Str) (y : Vl) : List (Str × Vl) → List (Str × Vl)
  | [] => [(f, y)]
  | p :: r => if p.1 = f then (f, y) :: r else p :: putV f y r
abbrev FR (K : Frag) (M : Hp) : (Str × V) → (Str × Vl) → Prop := fun p q => p.1 = q.1 ∧ RV K M p.2 q.2
theorem fr_lookup {K : Frag} {M : Hp} {f : Str} : ∀ {fs : List (Str × V)} {gs : List (Str × Vl)}, Paired (FR K M) fs gs → (∀ x, gs.lookup f = some x → ∃ v, fs.lookup f = some v ∧ RV K M v x) ∧ (gs.lookup f = none → fs.lookup f = none)
  | _, _, .nil => ⟨fun x h => (by cases h), fun _ => rfl⟩
  | (n, v) :: fs, (n', x) :: gs, .cons ⟨e, r⟩ k => by
    have e : n = n' := e
    subst e
    obtain ⟨h1, h2⟩ := fr_lookup (f := f) k
    simp only [List.lookup_cons]
    cases hb : (f == n) with
    | true => exact ⟨fun y h => by cases h; exact ⟨v, rfl, r⟩, fun h => by cases h⟩
    | false => exact ⟨h1, h2⟩
theorem fr_put {K : Frag} {M : Hp} {f : Str} {v : V} {x : Vl} (r : RV K M v x) : ∀ {fs : List (Str × V)} {gs : List (Str × Vl)}, Paired (FR K M) fs gs → Paired (FR K M) (putF f v fs) (putV f x gs)
  | _, _, .nil => .cons ⟨rfl, r⟩ .nil
  | (n, u) :: fs, (n', y) :: gs, .cons ⟨e, r'⟩ k => by
    have e : n = n' := e
    subst e
    unfold putF putV
    by_cases h : n = f
    · simp only [h, if_true]
      exact .cons ⟨rfl, r⟩ k
    · simp only [h, if_false]
      exact .cons ⟨rfl, r'⟩ (fr_put r k)
theorem cell_ins {K : Frag} {M H : Hp} {cs : Cells} {a C : Addr} {gs : List (Str × Vl)} (o : Ok K M H cs) (h : cs a = some (.ins C gs)) : ∃ dx fs, H a = some (.ins C dx fs) ∧ Paired (FR K M) fs gs := by
  obtain ⟨m3, ob3, hob3, cr3⟩ := o.cell a _ h
  cases ob3 <;> try exact (show False from cr3).elim
  obtain ⟨e, p⟩ := cr3
  subst e
  exact ⟨_, _, hob3, p⟩
theorem Ok.newH {K : Frag} {M H : Hp} {cs : Cells} (o : Ok K M H cs) {p : Addr} (h : H p = none) (u : HO) : Ok K M (upd H p u) cs := by
  refine ⟨fun b ob e => ?_, fun a c e => ?_⟩
  · rw [upd_ne (ne_of_none (o.ex b ob e) h)]; exact o.ex b ob e
  · obtain ⟨m, ob, q, r⟩ := o.cell a c e
    exact ⟨m, ob, by rw [upd_ne (ne_of_none q h)]; exact q, r⟩
/-- o.f, o an instance of the class at C -/
def wFld (C : Addr) (f : Str) (wo : WE) : WE := fun ρ cs P => wo ρ cs fun x cs1 => ∃ a fs v, x = .cell a ∧ cs1 a = some (.ins C fs) ∧ fs.lookup f = some v ∧ P v cs1
def wSetF (C : Addr) (f : Str) (wo wv : WE) : WS := fun D ρ cs => wv ρ cs fun y cs1 => wo ρ cs1 fun x cs2 => ∃ a fs, x = .cell a ∧ cs2 a = some (.ins C fs) ∧ fs.length < 1000 ∧ D.nx ρ (cs2.put a (.ins C (putV f y fs)))
def wMeth (C : Addr) (m : Str) (dsp : DSp) (wo : WE) (wr : WA) : WE := fun ρ cs P => wo ρ cs fun x cs1 => ∃ a fs, x = .cell a ∧ cs1 a = some (.ins C fs) ∧ fs.lookup m = none ∧ wr ρ cs1 fun xs cs2 => dsp (x :: xs) cs2 P X0
def wMake (C : Addr) (dsp : DSp) (wr : WA) : WE := fun ρ cs P => wr ρ cs fun xs cs1 => ∀ a, cs1 a = none → dsp (.cell a :: xs) (cs1.put a (.ins C [])) (fun v cs2 => v = .dat .non ∧ P (.cell a) cs2) X0
/-- a method of the text -/
structure DMok (P : Program) (w : World) (K : Frag) (mg : Str → Option Value) (base : Heap) (C : Addr) (m : Str) (ps : List Str) (k : Nat) (dsp : DSp) : Prop where
  ex : ∃ f fd, FnOk P w K mg base CX0 k f fd ps (liftSp K dsp) ∧ Cls K C ∧ Meth K C m f ∧ Binds K fd ps []
section
variable {X : Cx} {a b c e o : Expr} {es : List Expr} {wa wb wc we wo wv : WE} {w u : WT} {wr : WA} {pos : Pos} {C : Addr} {f m : Str}
theorem de_fld (hc : Cls X.K C) (hn : NoAttr X.K C f) (ho : DE X o wo) (hb : attributeBase o f X.env (eval o X.env) = eval o X.env := by rfl) : DE X (.Attribute o f pos) (wFld C f wo) :=
  pe_imp (pe_fld ho hb) fun σ H Q ⟨M, ρ, cs, P, o, r0, p, k⟩ => ⟨M, ρ, cs, _, o, r0, p, fun v x M1 H1 cs1 s1 o1 r1 ⟨a, gs, y, ex, hc1, hl, p1⟩ => by
    subst ex
    obtain ⟨dx, fs, hH, pr⟩ := cell_ins o1 hc1
    obtain ⟨z, hz, rz⟩ := (fr_lookup pr).1 y hl
    exact ⟨a, C, dx, fs, z, r1, hH, hc, hn, hz, k _ _ M1 H1 cs1 s1 o1 rz p1⟩⟩
theorem ds_fld {pos' : Pos} (hc : Cls X.K C) (hn : NoAttr X.K C f) (ho : DE X o wo) (hv : DE X e wv) (hs : swapsWith e (some (.Attribute o f pos')) pos.line X.env = pure false := by rfl) : DS X (.Assign [.Attribute o f pos'] e pos) (wSetF C f wo wv) :=
  ps_imp (ps_fld ho hv hs) fun E σ H ⟨M, ρ, cs, D, o, r, h, eo⟩ => ⟨M, ρ, cs, _, o, r, h, fun v y M1 H1 cs1 s1 o1 r1 p1 => ⟨M1, ρ, cs1, _, o1, r.mono s1, p1, fun v2 x M2 H2 cs2 s2 o2 r2 ⟨a, gs, ex, hc2, hl, p2⟩ => by
    subst ex
    obtain ⟨dx, fs, hH, pr⟩ := cell_ins o2 hc2
    refine ⟨a, C, dx, fs, r2, hH, hc, hn, by rw [Paired.len pr]; exact hl, ?_⟩
    exact eo.nx σ ρ M2 _ _ (s1.trans s2) (o2.setC hc2 (c := .ins C (putV f y gs)) ⟨rfl, fr_put (r1.mono s2) pr⟩) (r.mono (s1.trans s2)) p2⟩⟩
theorem de_meth {pl : Sem Bool} {ps : List Str} {k : Nat} {dsp : DSp} {apos : Pos} (G : DMok X.prog X.w X.K X.mg X.base C m ps k dsp) (hr : Room k X.A) (ho : DE X o wo) (ha : DA X (e :: es) wr)
    (hst : starEach (e :: es) X.env = (false, eval e X.env) :: starEach es X.env := by rfl) (hpl : (backTo pos (starEach es X.env)).any (·.1) = false := by rfl)
    (ht : eval (.Call (.Attribute o m apos) (e :: es) [] pos) X.env = (eval o X.env >>= fun ov => standAt apos.atName >>= fun _ => holding [ov] (getMethod ov m pl) >>= fun q => callWith pos q.1 q.2 (backTo pos (starEach (e :: es) X.env)) (backToKw pos (keywordEach [] X.env))) := by rfl) : DE X (.Call (.Attribute o m apos) (e :: es) [] pos) (wMeth C m dsp wo wr) := by
  obtain ⟨f, fd, F, hc, hm, hb⟩ := G.ex
  refine pe_imp (pe_meth ho hc hm F hr hb .nil pass0 ha hst hpl ht) fun σ H Q ⟨M, ρ, cs, P, o, r0, p, kk⟩ => ?_
  refine ⟨M, ρ, cs, _, o, r0, p, fun v x M1 H1 cs1 s1 o1 r1 ⟨a, gs, ex, hc1, hl, p1⟩ => ?_⟩
  subst ex
  obtain ⟨dx, fs, hH, pr⟩ := cell_ins o1 hc1
  refine ⟨a, dx, fs, r1, hH, (fr_lookup pr).2 hl, M1, ρ, cs1, _, o1, r0.mono s1, p1, fun vs xs M2 H2 cs2 s2 o2 r2 p2 => ?_⟩
  show liftSp X.K dsp (v :: (vs ++ [])) H2 Q E0
  rw [List.append_nil]
  exact ⟨M2, _, cs2, P, X0, o2, .cons (r1.mono s2) r2, p2, kk.mono (s1.trans s2), fun _ _ _ _ _ _ _ _ _ z => z.elim⟩
theorem de_make {x : Str} {ps : List Str} {k : Nat} {dsp : DSp} {p : Pos} {fi : Addr} {fd : FuncData} (Mm : Mk X.K C fi) (F : FnOk X.prog X.w X.K X.mg X.base CX0 k fi fd ps (liftSp X.K dsp)) (hb : Binds X.K fd ps []) (hm : X.mg x = some (.ref C)) (hr : Room (k + 1) X.A) (ha : DA X (e :: es) wr) (hg : Gl X x := by rfl)
    (hdb : (x == ("__debug__" : Str)) = false := by decide) (he : starEach (e :: es) X.env = (false, eval e X.env) :: starEach es X.env := by rfl) (hpl : (backTo pos (starEach es X.env)).any (·.1) = false := by rfl) : DE X (.Call (.Name x p) (e :: es) [] pos) (wMake C dsp wr) := by
  refine pe_imp (pe_make Mm F hr hg hm hb .nil pass0 ha hdb he hpl) fun σ H Q ⟨M, ρ, cs, P, o, r0, p, kk⟩ => ?_
  refine ⟨M, ρ, cs, _, o, r0, p, fun vs xs M1 H1 cs1 s1 o1 r1 p1 a dx h1 h2 hne => ?_⟩
  rw [List.append_nil]
  have o2 := o1.newH h2 (.own a)
  have h3 : upd H1 dx (.own a) a = none := by rw [upd_ne hne.symm]; exact h1
  have o3 := o2.newC h3 (u := .ins C dx []) (c := .ins C []) ⟨rfl, .nil⟩
  refine ⟨M1, _, _, _, X0, o3, .cons rv_raw r1, p1 a (o1.freeC h1), fun v x M2 H2 cs2 s2 o2 r2 ⟨ex, p2⟩ => ?_, fun _ _ _ _ _ _ _ _ _ z => z.elim⟩
  subst ex
  exact ⟨inv_non r2, kk _ _ M2 H2 cs2 (s1.trans s2) o2 rv_raw p2⟩
end
/-! ### generators by call -/
structure DGok (P : Program) (w : World) (K : Frag) (mg : Str → Option Value) (base : Heap) (x : Str) (ps : List Str) (k : Nat) (sp : GSpec) : Prop where
  ex : ∃ f fd, GFnD P w K mg base k f fd ps sp ∧ mg x = some (.ref f) ∧ PySem.W.keepIn K (.ref f) = true ∧ Binds K fd ps []
structure DGMok (P : Program) (w : World) (K : Frag) (mg : Str → Option Value) (base : Heap) (C : Addr) (m : Str) (ps : List Str) (k : Nat) (sp : GSpec) : Prop where
  ex : ∃ f fd, GFnD P w K mg base k f fd ps sp ∧ Cls K C ∧ Meth K C m f ∧ Binds K fd ps []
def wGCall (sp : GSpec) (wr : WA) : WGe := fun ρ cs R => wr ρ cs fun xs cs1 => ∃ ds fin Gd, sp xs cs1 ds fin Gd ∧ R ds fin Gd cs1
def wGMeth (C : Addr) (m : Str) (sp : GSpec) (wo : WE) (wr : WA) : WGe := fun ρ cs R => wo ρ cs fun x cs1 => ∃ a fs, x = .cell a ∧ cs1 a = some (.ins C fs) ∧ fs.lookup m = none ∧ wr ρ cs1 fun xs cs2 => ∃ ds fin Gd, sp (x :: xs) cs2 ds fin Gd ∧ R ds fin Gd cs2
section
variable {X : Cx} {e o : Expr} {es : List Expr} {wo : WE} {wr : WA} {pos : Pos} {C : Addr} {m : Str} {k : Nat} {ps : List Str} {sp : GSpec}
theorem run_gd {pins : List (Addr × Obj)} {σ : L2.St} {H M : Hp} {cs : Cells} {s : Shared} {us : List Value} {vs : List V} {xs : List Vl} {ds : List Dat} {fin : Bool} {Gd : Cells → Prop} {f : Addr} {fd : FuncData} {R : List Dat → Bool → (Cells → Prop) → Cells → Prop} {M0 : Hp} (F : GFnD X.prog X.w X.K X.mg X.base k f fd ps sp) (hr : Room k X.A) (hb : Binds X.K fd ps [])
    (I : Inv X pins σ H s) (rv : Vals vs us) (o : Ok X.K M H cs) (rx : Paired (RV X.K M) vs xs) (hs : sp xs cs ds fin Gd) (sm : Same M0 M) (hR : R ds fin Gd cs) :
    wpAny (model X.prog X.w) X.A (call (.ref f) us) (fun u s' => ∃ a H1 M1 cs1 sc ds fin Gd G g go oL c, u = .ref a ∧ Inv X pins σ H1 sc ∧ Same M0 M1 ∧ Ok X.K M1 H1 cs1 ∧ MadeD X.prog X.w X.K X.mg X.base k X.stack M1 sc ds fin Gd a s' G g go oL c ∧ R ds fin Gd cs1) X.xe s := by
  have hl2 : us.length = ps.length := by rw [← rv.length, Paired.len rx]; exact F.len _ _ _ _ _ hs
  have hbb := hb s us I.kIn (by rw [List.append_nil]; exact hl2)
  rw [List.append_nil] at hbb
  refine PySem.wpAny_call (codeAny_mono (F.run X.A X.stack s H M cs ⟨us, []⟩ us vs xs ds fin Gd hr I.env0 hbb rv o rx hs) fun r s' hq => ?_)
  obtain ⟨a, G, g, go, oL, c, rfl, mk⟩ := hq
  exact ⟨a, H, M, cs, s, ds, fin, Gd, G, g, go, oL, c, rfl, I, sm, o, mk, hR⟩
theorem dge_call {x : Str} {p : Pos} (G : DGok X.prog X.w X.K X.mg X.base x ps k sp) (hr : Room k X.A) (ha : DA X (e :: es) wr) (hg : Gl X x := by rfl) (hdb : (x == ("__debug__" : Str)) = false := by decide)
    (he : starEach (e :: es) X.env = (false, eval e X.env) :: starEach es X.env := by rfl) (hpl : (backTo pos (starEach es X.env)).any (·.1) = false := by rfl) : DGe X k (.Call (.Name x p) (e :: es) [] pos) (wGCall sp wr) := by
  obtain ⟨f, fd, F, hm, hk, hb⟩ := G.ex
  refine ⟨fun pins s σ H M ρ cs R I o r h => ?_⟩
  refine wpAny_Call_Name_kw (ld_glob I hg hm ?_ hdb)
  refine PySem.W.callWith_K (h₀ := X.base) I.ok.mod.kin hk (thn (ha.run pos pins s σ H (fun vs H1 => ∃ M1 xs cs1, Same M M1 ∧ Ok X.K M1 H1 cs1 ∧ Paired (RV X.K M1) vs xs ∧ ∃ ds fin Gd, sp xs cs1 ds fin Gd ∧ R ds fin Gd cs1) I ⟨M, ρ, cs, _, o, r, h, fun vs xs M1 H1 cs1 s1 o1 r1 p1 => ⟨M1, xs, cs1, s1, o1, r1, p1⟩⟩) fun us s1 ⟨vs, H1, I1, rv, q⟩ => ⟨I1.kIn, ?_⟩) he hpl
  obtain ⟨M1, xs, cs1, sm, o1, r1, ds, fin, Gd, hs, hR⟩ := q
  exact run_gd F hr hb I1 rv o1 r1 hs sm hR
theorem dge_meth {pl : Sem Bool} {apos : Pos} (G : DGMok X.prog X.w X.K X.mg X.base C m ps k sp) (hr : Room k X.A) (ho : DE X o wo) (ha : DA X (e :: es) wr)
    (hst : starEach (e :: es) X.env = (false, eval e X.env) :: starEach es X.env := by rfl) (hpl : (backTo pos (starEach es X.env)).any (·.1) = false := by rfl)
    (ht : eval (.Call (.Attribute o m apos) (e :: es) [] pos) X.env = (eval o X.env >>= fun ov => standAt apos.atName >>= fun _ => holding [ov] (getMethod ov m pl) >>= fun q => callWith pos q.1 q.2 (backTo pos (starEach (e :: es) X.env)) (backToKw pos (keywordEach [] X.env))) := by rfl) : DGe X k (.Call (.Attribute o m apos) (e :: es) [] pos) (wGMeth C m sp wo wr) := by
  obtain ⟨f, fd, F, hc, hm, hb⟩ := G.ex
  refine ⟨fun pins s σ H M ρ cs R I o r h => ?_⟩
  refine PySem.W.methodCall_KW (pl := pl) (thn (ho.run pins s σ H (fun v H1 => ∃ M1 x cs1, Same M M1 ∧ Ok X.K M1 H1 cs1 ∧ RV X.K M1 v x ∧ ∃ a fs, x = .cell a ∧ cs1 a = some (.ins C fs) ∧ fs.lookup m = none ∧ wr ρ cs1 fun xs cs2 => ∃ ds fin Gd, sp (x :: xs) cs2 ds fin Gd ∧ R ds fin Gd cs2) I ⟨M, ρ, cs, _, o, r, h, fun v x M1 H1 cs1 s1 o1 r1 p1 => ⟨M1, x, cs1, s1, o1, r1, p1⟩⟩) fun u s1 ⟨v, H1, I1, ru, q⟩ => ?_) ht
  obtain ⟨M1, x, cs1, sm, o1, r1, a, gs, rfl, hc1, hl, q⟩ := q
  have e1 : v = .ref a := r1
  subst e1
  obtain rfl : u = Value.ref a := ru
  obtain ⟨dx, fs, hH, pr⟩ := cell_ins o1 hc1
  refine getmeth_ok I1 hH hc hm ((fr_lookup pr).2 hl) ?_
  refine PySem.W.callWith_K (first := [.ref a]) (h₀ := X.base) I.ok.mod.kin hm.kp (thn (ha.run pos pins s1 σ H1 (fun vs H2 => ∃ M2 xs cs2, Same M1 M2 ∧ Ok X.K M2 H2 cs2 ∧ Paired (RV X.K M2) vs xs ∧ ∃ ds fin Gd, sp (.cell a :: xs) cs2 ds fin Gd ∧ R ds fin Gd cs2) I1 ⟨M1, ρ, cs1, _, o1, r.mono sm, q, fun vs xs M2 H2 cs2 s2 o2 r2 p2 => ⟨M2, xs, cs2, s2, o2, r2, p2⟩⟩) fun us s2 ⟨vs, H2, I2, rv, q2⟩ => ⟨I2.kIn, ?_⟩) hst hpl
  obtain ⟨M2, xs, cs2, sm2, o2, r2, ds, fin, Gd, hs, hR⟩ := q2
  exact run_gd (us := .ref a :: us) (vs := .ref a :: vs) F hr hb I2 (.cons rfl rv) o2 (.cons rv_raw r2) hs (sm.trans sm2) hR
end
end DL
set_option maxRecDepth 100000
set_option maxHeartbeats 4000000
namespace DL
open PySem L2 PySem.Spec PyProof.Rows
/-! ### dicts: keys are ints and texts, or tuples of them -/
def keyD : Key → Dat
  | .inl i => .int i
  | .inr x => .str x
section
variable {κ : Type} [DecidableEq κ]
def valD (kvs : List (κ × Vl)) (k : κ) : Option Vl := (kvs.find? fun kv => decide (kv.1 = k)).map (·.2)
def putD (kvs : List (κ × Vl)) (k : κ) (v : Vl) : List (κ × Vl) := if (kvs.any fun kv => decide (kv.1 = k)) = true then kvs.map (fun kv => if kv.1 = k then (kv.1, v) else kv) else kvs ++ [(k, v)]
abbrev KR (K : Frag) (M : Hp) : (κ × V) → (κ × Vl) → Prop := fun p q => p.1 = q.1 ∧ RV K M p.2 q.2
theorem kr_val {K : Frag} {M : Hp} {k : κ} : ∀ {xs : List (κ × V)} {ys : List (κ × Vl)}, Paired (KR K M) xs ys → (∀ y, valD ys k = some y → ∃ v, valV xs k = some v ∧ RV K M v y) ∧ (valD ys k = none → valV xs k = none)
  | _, _, .nil => ⟨fun y h => (by cases h), fun _ => rfl⟩
  | (n, v) :: xs, (n', y) :: ys, .cons ⟨e, r⟩ t => by
    have e : n = n' := e
    subst e
    obtain ⟨h1, h2⟩ := kr_val (k := k) t
    unfold valD valV at *
    by_cases hk : n = k
    · simp only [List.find?_cons, hk, decide_true, Option.map_some]
      exact ⟨fun z hz => ⟨v, rfl, by cases hz; exact r⟩, fun z => by cases z⟩
    · simp only [List.find?_cons, hk, decide_false]
      exact ⟨h1, h2⟩
theorem kr_any {K : Frag} {M : Hp} {k : κ} : ∀ {xs : List (κ × V)} {ys : List (κ × Vl)}, Paired (KR K M) xs ys → (xs.any fun kv => decide (kv.1 = k)) = (ys.any fun kv => decide (kv.1 = k))
  | _, _, .nil => rfl
  | (n, v) :: xs, (n', y) :: ys, .cons ⟨e, r⟩ t => by
    have e : n = n' := e
    subst e
    rw [List.any_cons, List.any_cons, kr_any t]
theorem kr_map {K : Frag} {M : Hp} {k : κ} {v : V} {y : Vl} (r : RV K M v y) : ∀ {xs : List (κ × V)} {ys : List (κ × Vl)}, Paired (KR K M) xs ys → Paired (KR K M) (xs.map fun kv => if kv.1 = k then (kv.1, v) else kv) (ys.map fun kv => if kv.1 = k then (kv.1, y) else kv)
  | _, _, .nil => .nil
  | (n, u) :: xs, (n', z) :: ys, .cons ⟨e, r'⟩ t => by
    have e : n = n' := e
    subst e
    refine .cons ?_ (kr_map r t)
    by_cases h : n = k
    · simp only [h, if_true]; exact ⟨rfl, r⟩
    · simp only [h, if_false]; exact ⟨rfl, r'⟩
theorem kr_put {K : Frag} {M : Hp} {k : κ} {v : V} {y : Vl} (r : RV K M v y) {xs : List (κ × V)} {ys : List (κ × Vl)} (h : Paired (KR K M) xs ys) : Paired (KR K M) (putK xs k v) (putD ys k y) := by
  unfold putK putD
  rw [kr_any h]
  split
  · exact kr_map r h
  · exact Paired.app h (.cons ⟨rfl, r⟩ .nil)
end
theorem rv_key {K : Frag} {M : Hp} {v : V} {k : Key} (r : RV K M v (.dat (keyD k))) : v = kV k := by
  cases k with
  | inl i => exact inv_int r
  | inr x => exact inv_str r
theorem rv_keys {K : Frag} {M : Hp} : ∀ {vs : List V} {ks : List Key}, Paired (RV K M) vs (ks.map fun k => Vl.dat (keyD k)) → vs = ks.map kV
  | _, [], .nil => rfl
  | _, k :: ks, .cons r t => by rw [rv_key r, rv_keys t]; rfl
theorem rv_tupKey {K : Frag} {M H : Hp} {cs : Cells} {v : V} {ks : List Key} (o : Ok K M H cs) (r : RV K M v (.dat (.tup (ks.map keyD)))) : ∃ b, v = .ref b ∧ SqT K H b (ks.map kV) := by
  obtain ⟨b, vs, e, q, pr⟩ := seqD_tup o r (xs := (ks.map keyD).map .dat) rfl
  rw [List.map_map] at pr
  rw [rv_keys pr] at q
  exact ⟨b, e, q⟩
theorem cell_dk {K : Frag} {M H : Hp} {cs : Cells} {a : Addr} {ys : List (Key × Vl)} (o : Ok K M H cs) (h : cs a = some (.dk ys)) : ∃ xs, H a = some (.dK xs) ∧ Paired (KR K M) xs ys := by
  obtain ⟨m3, ob3, hob3, cr3⟩ := o.cell a _ h
  cases ob3 <;> try exact (show False from cr3).elim
  exact ⟨_, hob3, cr3⟩
theorem cell_dt {K : Frag} {M H : Hp} {cs : Cells} {a : Addr} {ys : List (List Key × Vl)} (o : Ok K M H cs) (h : cs a = some (.dt ys)) : ∃ xs, H a = some (.dT xs) ∧ Paired (KR K M) xs ys := by
  obtain ⟨m3, ob3, hob3, cr3⟩ := o.cell a _ h
  cases ob3 <;> try exact (show False from cr3).elim
  exact ⟨_, hob3, cr3⟩
theorem cell_lk {K : Frag} {M H : Hp} {cs : Cells} {a : Addr} {od : Obj} {u : HO} {ys : List (Key × Vl)} (o : Ok K M H cs) (h : cs a = some (.lk od u ys)) : ∃ xs, u = .dK xs ∧ H a = some (.frz od (.dK xs)) ∧ Paired (KR K M) xs ys := by
  obtain ⟨m3, ob3, hob3, cr3⟩ := o.cell a _ h
  cases ob3 <;> try exact (show False from cr3).elim
  obtain ⟨e1, e2, e3⟩ := cr3
  subst e1 e2
  rename_i u
  cases u <;> try exact (show False from e3).elim
  exact ⟨_, rfl, hob3, e3⟩
/-! ### d[y] and d.get(y, z): the key may be any tuple -/
def DGetS (K : Frag) (H : Hp) (a : Addr) (y : V) (r : Option V) : Prop :=
  (∃ kvs k, Rd H a (.dK kvs) ∧ y = kV k ∧ r = valV kvs k) ∨ ∃ kvs k b, Rd H a (.dT kvs) ∧ y = .ref b ∧ SqT K H b (k.map kV) ∧ r = valV kvs k
section
variable {X : Cx} {pins : List (Addr × Obj)} {σ : L2.St} {H : Hp} {s : Shared} {a : Addr} {y v d : V} {u r : Value} {o : Option V} {A : Around} {E : Value → Shared → Prop}
theorem key_ofS (I : Inv X pins σ H s) {ks : List Key} {b : Addr} (h : SqT X.K H b (ks.map kV)) : (tupleKind (mixKind X.prog X.w)).is s.heap ks b := by
  obtain ⟨its, rv, ⟨o, h1, h2, n, h3⟩, _⟩ := I.tuple h
  exact ⟨o, its.toArray, n, h1, h2, h3, by simpa using items_are rv⟩
theorem ds_typeIs (I : Inv X pins σ H s) (g : DGetS X.K H a y o) : s.TypeIs (.ref a) "dict" := by
  rcases g with ⟨kvs, k, e, _, _⟩ | ⟨kvs, k, b, e, _, _, _⟩
  · obtain ⟨_, _, vs, _, dd⟩ := dk_rd I.hok e
    exact dd.typeIs
  · obtain ⟨_, _, xs, _, dd⟩ := dt_rd I.hok e
    exact dd.typeIs
theorem dS_getItem {Q : Value → Shared → Prop} (hu : A.units + 1 < cLine) (I : Inv X pins σ H s) (g : DGetS X.K H a y (some v)) (ry : RelV y u) (h : ∀ w' s', Inv X pins σ H s' → RelV v w' → Q w' s') : wpAny (model X.prog X.w) A (getItem (.ref a) u) Q E s := by
  rcases g with ⟨kvs, k, e, ey, l⟩ | ⟨kvs, k, b, e, ey, eb, l⟩
  · exact d_getItem hu I (.inl ⟨kvs, k, e, ey, l⟩) ry h
  · subst ey
    cases (show u = Value.ref b from ry)
    obtain ⟨z, hd, xs, rel, dd⟩ := dt_rd I.hok e
    obtain ⟨w', hw, rw'⟩ := RelO.some_of (v := v) (o := (atKey xs k).map (·.2)) (by rw [l]; exact rel.val k)
    obtain ⟨p, hp, hp2⟩ := Option.map_eq_some_iff.mp hw
    refine wpAny_getItem_heap (tupleKind_room_in1 hu) (key_ofS I eb) dd hp ?_
    rw [hp2]
    exact h w' _ (I.tok _) rw'
theorem dS_get2 {Q : Value → Shared → Prop} (hu : A.units + 1 < cLine) (I : Inv X pins σ H s) (g : DGetS X.K H a y o) (ry : RelV y u) (rd : RelV d r) (h : ∀ w' s', Inv X pins σ H s' → RelV (o.getD d) w' → Q w' s') : wpAny (model X.prog X.w) A (call (.builtin "dict.get") [.ref a, u, r]) Q E s := by
  rcases g with ⟨kvs, k, e, ey, l⟩ | ⟨kvs, k, b, e, ey, eb, l⟩
  · exact d_get2 hu I (.inl ⟨kvs, k, e, ey, l⟩) ry rd h
  · subst ey
    cases (show u = Value.ref b from ry)
    obtain ⟨z, hd, xs, rel, dd⟩ := dt_rd I.hok e
    refine call_meetsIn PySem.F.slot_dict_get dd.typeIs PySem.F.entry_dict_get (PySem.F.args_dict_get_3 _ _ _) (meetsH_dict_get_default (tupleKind (mixKind X.prog X.w)) a b hd r) ⟨tupleKind_room_in1 hu, k, xs, key_ofS I eb, dd, h _ _ (I.tok _) ?_⟩
    rw [l]
    exact (rel.val k).getD rd
end
/-- what the dict x holds at y -/
def atD (cs : Cells) (x y : Vl) (r : Option Vl) : Prop := ∃ a, x = .cell a ∧ ((∃ kvs k, cs a = some (.dk kvs) ∧ y = .dat (keyD k) ∧ r = valD kvs k) ∨ ∃ kvs ks, cs a = some (.dt kvs) ∧ y = .dat (.tup (ks.map keyD)) ∧ r = valD kvs ks)
theorem atD_ok {K : Frag} {M H : Hp} {cs : Cells} {x y : Vl} {r : Option Vl} {vx vy : V} (o : Ok K M H cs) (rx : RV K M vx x) (ry : RV K M vy y) (h : atD cs x y r) : ∃ a r', vx = .ref a ∧ DGetS K H a vy r' ∧ (∀ z, r = some z → ∃ v, r' = some v ∧ RV K M v z) ∧ (r = none → r' = none) := by
  obtain ⟨a, ex, h⟩ := h
  subst ex
  have e1 : vx = .ref a := rx
  rcases h with ⟨kvs, k, hc, ey, er⟩ | ⟨kvs, ks, hc, ey, er⟩
  · subst ey er
    obtain ⟨xs, hH, pr⟩ := cell_dk o hc
    exact ⟨a, _, e1, .inl ⟨xs, k, .inl hH, rv_key ry, rfl⟩, (kr_val pr).1, (kr_val pr).2⟩
  · subst ey er
    obtain ⟨xs, hH, pr⟩ := cell_dt o hc
    obtain ⟨b, e2, hb⟩ := rv_tupKey o ry
    exact ⟨a, _, e1, .inr ⟨xs, ks, b, .inl hH, e2, hb, rfl⟩, (kr_val pr).1, (kr_val pr).2⟩
def wDGet : W2 := fun x y cs P => ∃ v, atD cs x y (some v) ∧ P v cs
def wDGet2 (wo wi wd : WE) : WE := fun ρ cs P => wo ρ cs fun x cs1 => (∃ a, x = .cell a ∧ ((∃ kvs, cs1 a = some (.dk kvs)) ∨ ∃ kvs, cs1 a = some (.dt kvs))) ∧ wi ρ cs1 fun y cs2 => wd ρ cs2 fun z cs3 => ∃ r, atD cs3 x y r ∧ P (r.getD z) cs3
def wDNewK : WE := fun _ cs P => ∀ p, cs p = none → P (.cell p) (cs.put p (.dk []))
def wDNewT : WE := fun _ cs P => ∀ p, cs p = none → P (.cell p) (cs.put p (.dt []))
/-- d[k] = v -/
def wDPut (wo wi wv : WE) : WS := fun D ρ cs => wv ρ cs fun v cs1 => wo ρ cs1 fun x cs2 => wi ρ cs2 fun y cs3 => ∃ a kvs k, x = .cell a ∧ y = .dat (keyD k) ∧ cs3 a = some (.dk kvs) ∧ kvs.length < 16777216 ∧ D.nx ρ (cs3.put a (.dk (putD kvs k v)))
/-- d[k, ..] = v -/
def wDPutT (wo : WE) (wa : WA) (wv : WE) : WS := fun D ρ cs => wv ρ cs fun v cs1 => wo ρ cs1 fun x cs2 => wa ρ cs2 fun ys cs3 => ∃ a kvs ks, x = .cell a ∧ ys = (ks.map fun k => Vl.dat (keyD k)) ∧ ks.length ≤ 1000 ∧ cs3 a = some (.dt kvs) ∧ kvs.length < 16777216 ∧ D.nx ρ (cs3.put a (.dt (putD kvs ks v)))
section
variable {X : Cx} {a b c e f o i : Expr} {es : List Expr} {wa wb wc we wo wi wv wd : WE} {wr : WA} {pos : Pos}
theorem de_dnewK : DE X (.Dict [] [] pos) wDNewK := pe_imp pe_dnewK fun σ H Q ⟨M, ρ, cs, P, o, r, p, k⟩ q hq => k _ _ M _ _ (Same.refl _) (o.newC hq (u := .dK []) (c := .dk []) .nil) rv_raw (p q (o.freeC hq))
theorem de_dnewT : DE X (.Dict [] [] pos) wDNewT := pe_imp pe_dnewT fun σ H Q ⟨M, ρ, cs, P, o, r, p, k⟩ q hq => k _ _ M _ _ (Same.refl _) (o.newC hq (u := .dT []) (c := .dt []) .nil) rv_raw (p q (o.freeC hq))
theorem de_dget (hu : X.A.units + 64 < cLine) (ho : DE X o wo) (hi : DE X i wi) (hs : NoSl i := by exact fun _ _ => rfl) : DE X (.Subscript o i pos) (wOp wDGet wo wi) := by
  refine ⟨fun pins s σ H Q I ⟨M, ρ, cs, P, ok, r, p, k⟩ => ?_⟩
  refine subD_of PySem.F.slot_dict_getitem.lookup hs (thn (ho.run pins s σ H (fun v H1 => ∃ x M1 cs1, Same M M1 ∧ Ok X.K M1 H1 cs1 ∧ RV X.K M1 v x ∧ wi ρ cs1 fun y cs2 => wDGet x y cs2 P) I ⟨M, ρ, cs, _, ok, r, p, fun v x M1 H1 cs1 s1 o1 r1 p1 => ⟨x, M1, cs1, s1, o1, r1, p1⟩⟩) fun u s1 ⟨vx, H1, I1, rx, x, M1, cs1, sm1, o1, r1, p1⟩ => ?_)
  refine thn (hi.run pins s1 σ H1 (fun v H2 => ∃ y M2 cs2, Same M1 M2 ∧ Ok X.K M2 H2 cs2 ∧ RV X.K M2 v y ∧ wDGet x y cs2 P) I1 ⟨M1, ρ, cs1, _, o1, r.mono sm1, p1, fun v x M1 H1 cs1 s1 o1 r1 p1 => ⟨x, M1, cs1, s1, o1, r1, p1⟩⟩) fun iv s2 ⟨vy, H2, I2, ry, y, M2, cs2, sm2, o2, r2, v, hat, p2⟩ => ?_
  obtain ⟨a, r', ea, g, hsome, _⟩ := atD_ok o2 (r1.mono sm2) r2 hat
  obtain ⟨z, er, rz⟩ := hsome v rfl
  subst ea er
  obtain rfl : u = Value.ref a := rx
  exact ⟨ds_typeIs I2 g, dS_getItem (by omega) I2 g ry fun w' s3 I3 rw' => ⟨z, H2, I3, rw', k _ _ M2 H2 cs2 (sm1.trans sm2) o2 rz p2⟩⟩
theorem ds_dput {pos' : Pos} (hu : X.A.units + 64 < cLine) (ho : DE X o wo) (hi : DE X i wi) (hv : DE X e wv) (hs : swapsWith e (some (.Subscript o i pos')) pos.line X.env = pure false := by rfl) : DS X (.Assign [.Subscript o i pos'] e pos) (wDPut wo wi wv) :=
  ps_imp (ps_dput (by omega) ho hi hv hs) fun E σ H ⟨M, ρ, cs, D, o, r, h, eo⟩ => ⟨M, ρ, cs, _, o, r, h, fun v1 v M1 H1 cs1 s1 o1 r1 p1 => ⟨M1, ρ, cs1, _, o1, r.mono s1, p1, fun v2 x M2 H2 cs2 s2 o2 r2 p2 => ⟨M2, ρ, cs2, _, o2, r.mono (s1.trans s2), p2, fun v3 y M3 H3 cs3 s3 o3 r3 ⟨a, kvs, k, ex, ey, hc, hl, p3⟩ => by
    subst ex ey
    obtain ⟨xs, hH, pr⟩ := cell_dk o3 hc
    refine ⟨a, _, r2, .inl ⟨xs, k, hH, rv_key r3, by rw [Paired.len pr]; exact size_lt hl, rfl⟩, ?_⟩
    exact eo.nx σ ρ M3 _ _ (s1.trans (s2.trans s3)) (o3.setC hc (c := .dk (putD kvs k v)) (kr_put (r1.mono (s2.trans s3)) pr)) (r.mono (s1.trans (s2.trans s3))) p3⟩⟩⟩
theorem ds_dputT {pos' ptt : Pos} {kk : Nat} (hu : X.A.units + 64 < cLine) (ho : DE X o wo) (hi : DA X es wr) (hv : DE X e wv) (hs : swapsWith e (some (.Subscript o (.Tuple es kk ptt) pos')) pos.line X.env = pure false := by rfl) : DS X (.Assign [.Subscript o (.Tuple es kk ptt) pos'] e pos) (wDPutT wo wr wv) :=
  ps_imp (ps_dput (by omega) ho (pe_tup hi) hv hs) fun E σ H ⟨M, ρ, cs, D, o, r, h, eo⟩ => ⟨M, ρ, cs, _, o, r, h, fun v1 v M1 H1 cs1 s1 o1 r1 p1 => ⟨M1, ρ, cs1, _, o1, r.mono s1, p1, fun v2 x M2 H2 cs2 s2 o2 r2 p2 => ⟨M2, ρ, cs2, _, o2, r.mono (s1.trans s2), p2, fun vs ys M3 H3 cs3 s3 o3 r3 ⟨a, kvs, ks, ex, ey, hk, hc, hl, p3⟩ => by
    subst ex ey
    have ev := rv_keys r3
    subst ev
    refine ⟨by rw [List.length_map]; exact size_line (by omega), fun q hq => ?_⟩
    obtain ⟨s4, o4⟩ := o3.newM hq (.tup (ks.map kV))
    have sAll := s1.trans (s2.trans (s3.trans s4))
    obtain ⟨xs, hH, pr⟩ := cell_dt o4 hc
    refine ⟨a, _, r2, .inr ⟨xs, ks, q, hH, rfl, upd_same, by rw [Paired.len pr]; exact size_lt hl, rfl⟩, ?_⟩
    exact eo.nx σ ρ _ _ _ sAll (o4.setC hc (c := .dt (putD kvs ks v)) (kr_put (r1.mono (s2.trans (s3.trans s4))) pr)) (r.mono sAll) p3⟩⟩⟩
end
end DL
set_option maxRecDepth 100000
set_option maxHeartbeats 4000000
namespace DL
open PySem L2 PySem.Spec PyProof.Rows
/-! ### d.get(y, z) -/
section
variable {X : Cx} {a b c e f o i : Expr} {es : List Expr} {wa wb wc we wo wi wv wd : WE} {wr : WA} {pos apos cpos : Pos}
theorem isD_cell {K : Frag} {M H : Hp} {cs : Cells} {v : V} {x : Vl} (ok : Ok K M H cs) (rx : RV K M v x) (h : ∃ a, x = .cell a ∧ ((∃ kvs, cs a = some (.dk kvs)) ∨ ∃ kvs, cs a = some (.dt kvs))) : ∃ a, v = .ref a ∧ IsD H a := by
  obtain ⟨a, rfl, ⟨kvs, h⟩ | ⟨kvs, h⟩⟩ := h
  · obtain ⟨xs, hH, _⟩ := cell_dk ok h
    exact ⟨a, rx, .inl ⟨xs, .inl hH⟩⟩
  · obtain ⟨xs, hH, _⟩ := cell_dt ok h
    exact ⟨a, rx, .inr ⟨xs, .inl hH⟩⟩
theorem de_dget2 (hu : X.A.units + 64 < cLine) (ho : DE X o wo) (he : DE X e wi) (hf : DE X f wd) (m : M2 X o "get" apos e f cpos := by exact ⟨rfl, rfl, rfl, rfl⟩) : DE X (.Call (.Attribute o "get" apos) [e, f] [] cpos) (wDGet2 wo wi wd) := by
  refine ⟨fun pins s σ H Q I ⟨M, ρ, cs, P, ok, r, p, k⟩ => ?_⟩
  refine wpAny_Call_method m.base m.few m.line PySem.F.plainAttrs_dict PySem.F.slot_dict_get PySem.F.type_dict_get (thn (ho.run pins s σ H (fun v H1 => ∃ x M1 cs1, Same M M1 ∧ Ok X.K M1 H1 cs1 ∧ RV X.K M1 v x ∧ (∃ a, x = .cell a ∧ ((∃ kvs, cs1 a = some (.dk kvs)) ∨ ∃ kvs, cs1 a = some (.dt kvs))) ∧ wi ρ cs1 fun y cs2 => wd ρ cs2 fun z cs3 => ∃ r, atD cs3 x y r ∧ P (r.getD z) cs3) I
    ⟨M, ρ, cs, _, ok, r, p, fun v x M1 H1 cs1 s1 o1 r1 p1 => ⟨x, M1, cs1, s1, o1, r1, p1.1, p1.2⟩⟩) fun u s1 ⟨vx, H1, I1, rx, x, M1, cs1, sm1, o1, r1, hd, p1⟩ => ?_)
  obtain ⟨a, ea, dd⟩ := isD_cell o1 r1 hd
  subst ea
  obtain rfl : u = Value.ref a := rx
  obtain ⟨t1, t2, _⟩ := isD_at I1 dd
  refine ⟨t1, t2, ?_⟩
  rw [m.trees]
  refine Calls.callWith_builtin rfl (Calls.evalArgs_plain (Calls.spliced_cons (thn (he.run pins s1 σ H1 (fun v H2 => ∃ y M2 cs2, Same M1 M2 ∧ Ok X.K M2 H2 cs2 ∧ RV X.K M2 v y ∧ wd ρ cs2 fun z cs3 => ∃ r, atD cs3 x y r ∧ P (r.getD z) cs3) I1 ⟨M1, ρ, cs1, _, o1, r.mono sm1, p1, fun v x M1 H1 cs1 s1 o1 r1 p1 => ⟨x, M1, cs1, s1, o1, r1, p1⟩⟩) fun iv s2 ⟨vy, H2, I2, ry, y, M2, cs2, sm2, o2, r2, p2⟩ => ?_)))
  refine Calls.spliced_cons (thn (hf.run pins s2 σ H2 (fun v H3 => ∃ z M3 cs3, Same M2 M3 ∧ Ok X.K M3 H3 cs3 ∧ RV X.K M3 v z ∧ ∃ r, atD cs3 x y r ∧ P (r.getD z) cs3) I2 ⟨M2, ρ, cs2, _, o2, r.mono (sm1.trans sm2), p2, fun v x M1 H1 cs1 s1 o1 r1 p1 => ⟨x, M1, cs1, s1, o1, r1, p1⟩⟩) fun fv s3 ⟨vz, H3, I3, rz, z, M3, cs3, sm3, o3, r3, rr, hat, p3⟩ => Calls.spliced_nil ?_)
  obtain ⟨a', r', ea, g, hsome, hnone⟩ := atD_ok o3 (r1.mono (sm2.trans sm3)) (r2.mono sm3) hat
  cases ea
  refine dS_get2 (by omega) I3 g ry rz fun w' s4 I4 rw' => ?_
  cases rr with
  | some v =>
    obtain ⟨q, eq, rq⟩ := hsome v rfl
    subst eq
    exact ⟨q, H3, I4, rw', k _ _ M3 H3 cs3 (sm1.trans (sm2.trans sm3)) o3 rq p3⟩
  | none =>
    have eq := hnone rfl
    subst eq
    exact ⟨vz, H3, I4, rw', k _ _ M3 H3 cs3 (sm1.trans (sm2.trans sm3)) o3 r3 p3⟩
/-! ### locked dicts, d.items() -/
def wLock (w : WE) : WE := fun ρ cs P => ∃ d kvs, cs d = some (.dk kvs) ∧ ∀ od u, w ρ (cs.put d (.lk od u kvs)) fun v cs' => cs' d = some (.lk od u kvs) ∧ P v (cs'.put d (.dk kvs))
theorem de_lock (h : DE X e we) : DE X e (wLock we) := pe_imp (pe_lock h) fun σ H Q ⟨M, ρ, cs, P, o, r, ⟨d, kvs, hd, hw⟩, k⟩ => by
  obtain ⟨xs, hH, pr⟩ := cell_dk o hd
  refine ⟨d, .dK xs, hH, trivial, fun od => ?_⟩
  refine ⟨M, ρ, _, _, o.setC hd (u := .frz od (.dK xs)) (c := .lk od (.dK xs) kvs) ⟨rfl, rfl, pr⟩, r, hw od (.dK xs), fun v x M' H' cs' s o' rv p => ?_⟩
  obtain ⟨h1, p⟩ := p
  obtain ⟨ys, eu, hH', pr'⟩ := cell_lk o' h1
  cases eu
  exact ⟨hH', k v x M' _ _ s (o'.setC h1 (u := .dK xs) (c := .dk kvs) pr') rv p⟩
def kvV (p : Key × Dat) : Key × Vl := (p.1, .dat p.2)
def wiItems (wo : WE) : WI := fun ρ cs P => wo ρ cs fun x cs1 => ∃ (d : Addr) (od : Obj) (u : HO) (kvd : List (Key × Dat)), x = .cell d ∧ cs1 d = some (.lk od u (kvd.map kvV)) ∧ P (kvd.map fun p => Vl.dat (.tup [keyD p.1, p.2])) (fun cs' => cs' d = some (.lk od u (kvd.map kvV))) cs1
theorem dr_key {K : Frag} {M : Hp} (k : Key) : Dr K M (kV k) (keyD k) := by cases k <;> constructor
theorem di_items {elts : List Expr} {kk : Nat} {tpos : Pos} (ho : DE X o wo) (hbase : attributeBase o "items" X.env (eval o X.env) = eval o X.env := by rfl) (hline : (apos.endLine == cpos.line) = true := by rfl) : DI X (.Tuple elts kk tpos) (.Call (.Attribute o "items" apos) [] [] cpos) (wiItems wo) :=
  pi_imp (pi_items ho hbase hline) fun σ H R ⟨M, ρ, cs, P, o, r, p, k⟩ => ⟨M, ρ, cs, _, o, r, p, fun v x M1 H1 cs1 s1 o1 r1 ⟨d, od, u, kvd, ex, hc, p1⟩ => by
    subst ex
    obtain ⟨xs, eu, hH, pr⟩ := cell_lk o1 hc
    subst eu
    have hlen : xs.length = kvd.length := by rw [Paired.len pr, List.length_map]
    refine ⟨d, od, xs, r1, hH, k _ _ _ M1 H1 cs1 s1 o1 ⟨fun i M H cs s o g hi => ?_, fun M H cs s o g => ?_, fun i M H cs v H' s o g y hi => ?_⟩ p1⟩
    · obtain ⟨ys, eu, hH', pr'⟩ := cell_lk o g
      cases eu
      exact ⟨hH', by rw [hlen]; simpa using hi⟩
    · obtain ⟨ys, eu, hH', pr'⟩ := cell_lk o g
      cases eu
      exact ⟨hH', by rw [hlen]; simp⟩
    · obtain ⟨T, kk, vv, hk, rfl, hT, rfl⟩ := y
      obtain ⟨ys, eu, hH', pr'⟩ := cell_lk o g
      cases eu
      obtain ⟨q, hq, hq1, hq2⟩ : ∃ q, (kvd.map kvV)[i]? = some q ∧ kk = q.1 ∧ RV X.K M vv q.2 := by
        have hi2 : i < (kvd.map kvV).length := by simpa using hi
        obtain ⟨w, hw, hw2⟩ := Paired.getR pr' (List.getElem?_eq_getElem hi2)
        rw [hk] at hw
        cases hw
        exact ⟨_, List.getElem?_eq_getElem hi2, hw2.1, hw2.2⟩
      rw [List.getElem?_map] at hq
      obtain ⟨⟨k0, d0⟩, hkd, rfl⟩ := Option.map_eq_some_iff.mp hq
      have hq1 : kk = k0 := hq1
      subst hq1
      obtain ⟨s2, o2⟩ := o.newM hT (.tup [kV kk, vv])
      refine ⟨_, _, by rw [List.getElem?_map, hkd]; rfl, s2, o2, rv_dat (.tup (.inl (.inl upd_same)) (.cons (dr_key kk) (.cons (Dr.mono s2 hq2) .nil)))⟩⟩
end
end DL
set_option maxRecDepth 100000
set_option maxHeartbeats 4000000
namespace DL
open PySem L2 PySem.Spec PyProof.Rows
/-! ### max(d.values()), sorted(xs) of ints -/
def tMaxVals (td : TE) : TE := fun σ H Q => td σ H fun x H1 => ∃ a kvs is, x = V.ref a ∧ H1 a = some (.dK kvs) ∧ kvs.map (·.2) = is.map V.int ∧ is ≠ [] ∧ ∀ m, m ∈ is → (∀ j ∈ is, j ≤ m) → Q (.int m) H1
section
variable {X : Cx} {o e : Expr} {p pos apos mpos : Pos} {td : TE} {wo : WE} {wr : WA}
theorem pe_maxVals (hc : X.calm = true) (hm : X.mg "max" = none) (hd : PE X o td) (hg : Gl X "max" := by rfl) (hbase : attributeBase o "values" X.env (eval o X.env) = eval o X.env := by rfl) (hline : (apos.endLine == mpos.line) = true := by rfl)
    (hse : starEach [Expr.Call (.Attribute o "values" apos) [] [] mpos] X.env = [(false, eval (Expr.Call (.Attribute o "values" apos) [] [] mpos) X.env)] := by rfl) : PE X (.Call (.Name "max" p) [.Call (.Attribute o "values" apos) [] [] mpos] [] pos) (tMaxVals td) := by
  refine ⟨fun pins s σ H Q I h => wpAny_Call_Name_kw (ld_blt I hg hm (u := .builtin "max") (by first | rfl | decide +kernel) ?_ (by first | decide +kernel | decide) (by first | decide +kernel | decide))⟩
  rw [hse]
  refine PySem.callWith_builtin1 (wpAny_Call_method0_late hbase hline (thn (hd.run pins s σ H _ I h) fun v s1 ⟨x, H1, I1, r1, a, kvs, is, ex, ha, hv, hne, q⟩ => ?_))
  subst ex
  obtain rfl : v = Value.ref a := r1
  obtain ⟨_, hsys, vs, rel, dof⟩ := dk_of I1.hok ha
  obtain ⟨ep, dat⟩ := dof.dictAt
  have dat' := dat
  obtain ⟨ob, es, ho, ex, hdat, hko, hpr, hnd⟩ := dat'
  refine ⟨"dict", "dict.values", F.plainAttrs_dict, F.slot_dict_values, F.type_dict_values, ⟨ob, ho, ex.1⟩, fun b e => (by cases e; exact ⟨ob, ho, ex.2.1⟩), Calls.callWith_builtin rfl (PySem.evalArgs_none (call_meetsIn F.slot_dict_values ⟨ob, ho, ex.1⟩ F.entry_dict_values (F.args_dict_values_1 _) (meets_dict_values (mixKind X.prog X.w) a hsys) ⟨⟨vs, dof⟩, ?_⟩))⟩
  generalize hvw : ({ cls := .type "dict_values", data := .fields #[.ref a] } : Obj) = vw
  have k1 : ∀ b u, s1.heap.get? b = some u → (s1.heap.push vw).get? b = some u := fun b u e => Heap.get?_push_of_some _ e
  have dat1 : (s1.heap.push vw).DictAt (mixKind X.prog X.w) a vs ep := dat.keep k1
  have hlv : vs.length = is.length := by rw [← KV.length rel, ← List.length_map (f := (·.2)), hv, List.length_map]
  have hlen : 0 < vs.length := hlv ▸ List.length_pos_iff.mpr hne
  have hval : ∀ (i : Nat) (v : Value), (∃ k, vs[i]? = some (k, v)) → ∃ t, v = Value.int (is.getD i 0) t := fun i v ⟨k, hk⟩ => by
    obtain ⟨x, h1, h2⟩ := KV.at' rel hk
    have e1 : (kvs.map (·.2))[i]? = some x := by rw [List.getElem?_map, h1]; rfl
    rw [hv, List.getElem?_map] at e1
    obtain ⟨j, hj, e2⟩ := Option.map_eq_some_iff.mp e1
    subst e2
    obtain ⟨t, e3⟩ := h2
    exact ⟨t, by rw [e3, List.getD_eq_getElem?_getD, hj]; rfl⟩
  have hlt : a < s1.heap.objs.size := Heap.lt_size ho
  have hsz : (s1.heap.push vw).objs.size = s1.heap.objs.size + 1 := Heap.size_push _ _
  refine call_max_walk (wpAny_pyIter_values (v := s1.heap.objs.size) (d := a) ⟨_, Heap.get?_push_size _ (by rw [← hvw]; rfl), by rw [← hvw], by rw [← hvw]⟩ dat1 ?_)
  refine ⟨_, _, _, _, _, _, _, rfl, Walks.dictValues (knd := mixKind X.prog X.w) (A := X.A.in1) (I.ok.hd hc) (s1.heap.push vw).objs.size a (by rw [hsz]; exact Nat.ne_of_lt (Nat.lt_succ_of_lt hlt)) vs ep, ⟨⟨_, Heap.get?_push_size _ rfl, rfl, rfl⟩, dat1.keep fun b u e => Heap.get?_push_of_some _ e⟩, fun b hb => ?_, hlen, CmpOf.ints_gt (fun i => is.getD i 0) hval, fun v h' tk hP hk => ?_⟩
  · show b < ((s1.heap.push _).push _).objs.size
    rw [Heap.size_push, Heap.size_push]
    rw [hsz] at hb
    rcases List.mem_cons.mp hb with e | hb
    · rw [e]; exact Nat.lt_succ_self _
    · rw [List.mem_singleton.mp hb]
      exact Nat.lt_succ_of_lt (Nat.lt_succ_of_lt hlt)
  · obtain ⟨t, rfl⟩ := hval _ v hP
    obtain ⟨b1, b2⟩ := argBest_gt (fun i => is.getD i 0) (vs.length - 1)
    refine ⟨.int _, H1, I1.kept (t' := tk) fun b u e => hk b u (fun hmem => ?_) (Heap.get?_push_of_some _ (k1 b u e)), ⟨t, rfl⟩, q _ ?_ fun j hj => ?_⟩
    · have e1 : b = (s1.heap.push vw).objs.size := List.mem_singleton.mp hmem
      have e2 := Heap.lt_size e
      rw [hsz] at e1
      rw [e1] at e2
      exact absurd e2 (Nat.not_lt.mpr (Nat.le_succ _))
    · have hb : argBest (fun i j => decide (is.getD i 0 > is.getD j 0)) (vs.length - 1) < is.length := by omega
      rw [List.getD_eq_getElem?_getD, List.getElem?_eq_getElem hb]; exact List.getElem_mem hb
    · obtain ⟨i, hi, e⟩ := List.mem_iff_getElem.mp hj
      rw [← (by rw [List.getD_eq_getElem?_getD, List.getElem?_eq_getElem hi, ← e]; rfl : is.getD i 0 = j)]
      exact b2 i (by omega)
def kvI (p : Key × Int) : Key × Vl := (p.1, .dat (.int p.2))
def wMaxVals (wo : WE) : WE := fun ρ cs P => wo ρ cs fun x cs1 => ∃ (a : Addr) (kvi : List (Key × Int)), x = .cell a ∧ cs1 a = some (.dk (kvi.map kvI)) ∧ kvi ≠ [] ∧ ∀ m, m ∈ kvi.map (·.2) → (∀ j ∈ kvi.map (·.2), j ≤ m) → P (.dat (.int m)) cs1
theorem kr_ints {K : Frag} {M : Hp} : ∀ {xs : List (Key × V)} {kvi : List (Key × Int)}, Paired (KR K M) xs (kvi.map kvI) → xs.map (·.2) = (kvi.map (·.2)).map V.int
  | _, [], .nil => rfl
  | _, q :: r, .cons ⟨_, h⟩ t => by rw [List.map_cons, kr_ints t, inv_int h]; rfl
theorem de_maxVals (hc : X.calm = true) (hm : X.mg "max" = none) (ho : DE X o wo) (hg : Gl X "max" := by rfl) (hbase : attributeBase o "values" X.env (eval o X.env) = eval o X.env := by rfl) (hline : (apos.endLine == mpos.line) = true := by rfl)
    (hse : starEach [Expr.Call (.Attribute o "values" apos) [] [] mpos] X.env = [(false, eval (Expr.Call (.Attribute o "values" apos) [] [] mpos) X.env)] := by rfl) : DE X (.Call (.Name "max" p) [.Call (.Attribute o "values" apos) [] [] mpos] [] pos) (wMaxVals wo) :=
  pe_imp (pe_maxVals hc hm ho hg hbase hline hse) fun σ H Q ⟨M, ρ, cs, P, o, r, p, k⟩ => ⟨M, ρ, cs, _, o, r, p, fun v x M1 H1 cs1 s1 o1 r1 ⟨a, kvi, ex, hc, hne, p1⟩ => by
    subst ex
    obtain ⟨xs, hH, pr⟩ := cell_dk o1 hc
    exact ⟨a, xs, kvi.map (·.2), r1, hH, kr_ints pr, by simpa using hne, fun m h1 h2 => k _ _ M1 H1 cs1 s1 o1 (rv_dat (.int _)) (p1 m h1 h2)⟩⟩
/-- sorted(xs), ints -/
def wSortI : WN := fun xs cs P => ∃ (x : Vl) (ns : List Int), xs = [x] ∧ seqD cs x = some (true, ns.map fun i => Vl.dat (.int i)) ∧ ∀ ns' : List Int, ns'.Perm ns → ns'.Pairwise (· ≤ ·) → newL (ns'.map fun i => Vl.dat (.int i)) cs P
theorem ints_paired {K : Frag} {M : Hp} : ∀ (ns : List Int), Paired (RV K M) (ns.map V.int) (ns.map fun i => Vl.dat (.int i))
  | [] => .nil
  | n :: ns => .cons (rv_dat (.int n)) (ints_paired ns)
theorem rn_sortI {K : Frag} : RNOk K (rSortedI K) wSortI := fun M H cs xs as P Q o r ⟨x, ns, e, h, p⟩ k => by
  subst e
  cases r with
  | cons r1 rr =>
    cases rr
    obtain ⟨ad, vs, ev, q, pr⟩ := seqD_list o r1 h
    rw [paired_ints pr] at q
    exact ⟨ad, ns, by rw [ev], q, fun ns' pp pm hs hp => newL_ok o (ints_paired ns') (p ns' pm hs) k pp hp⟩
theorem de_sortI (hm : X.mg "sorted" = none) (ha : DA X [e] wr) (hg : Gl X "sorted" := by rfl) (he : starEach [e] X.env = (false, eval e X.env) :: starEach [] X.env := by rfl) (hpl : (backTo pos (starEach [] X.env)).any (·.1) = false := by rfl) :
    DE X (.Call (.Name "sorted" p) [e] [] pos) (wFn wSortI wr) := de_callB cr_sortedI rn_sortI hm (by decide +kernel) ha hg (by decide) (by decide) he hpl
end
end DL
set_option maxRecDepth 100000
set_option maxHeartbeats 4000000
namespace DL
open PySem L2 PySem.Spec PyProof.Rows
/-! ### xs + ys: any two lists -/
theorem add_any (l : Addr) (items : Array Value) (n : Nat) (sl : Array (Option Value)) (b : Addr) (items2 : Array Value) (n2 : Nat) (sl2 : Array (Option Value)) (hc0 : items.size + items2.size ≤ sizeLine) :
    Meets (Builtin.«list.__add__» ⟨[.ref l, .ref b], []⟩) (fun _ R s => s.heap.get? l = some ⟨.type "list", none, .seq items n, sl⟩ ∧ s.heap.get? b = some ⟨.type "list", none, .seq items2 n2, sl2⟩ ∧ R (.ok (.ret (Value.ref s.heap.objs.size))) { s with heap := s.heap.push { cls := Value.type "list", data := Data.seq (items ++ items2) }, toks := s.toks }) :=
  .of_wp fun prog w A R s h => by
    obtain ⟨hp, g, d, tk, os⟩ := s
    obtain ⟨hl, hb, h⟩ := h
    have f3 := PySem.AutoSeq1.sub_list_list
    wp_walk using wpAny_loadPart' hl, wpAny_loadPart' hb
    exact ⟨_, rfl, h⟩
def rCatS (K : Frag) : R2 := fun x y H Q => ∃ l b xs zs, x = .ref l ∧ y = .ref b ∧ SqL K H l xs ∧ SqL K H b zs ∧ xs.length + zs.length ≤ sizeLine ∧ ∀ p, H p = none → Q (.ref p) (upd H p (.lst (xs ++ zs)))
section
variable {X : Cx} {a b e : Expr} {wa wb : WE} {wr : WA} {pos : Pos}
theorem op_catS : OpR X (binaryOp .Add) (rCatS X.K) := by
  intro pins s σ H x y v u Q I rx ry h
  obtain ⟨l, b, xs, zs, rfl, rfl, hH, hB, hz, q⟩ := h
  cases rx
  cases ry
  obtain ⟨its, rv, ⟨⟨cl, di, da, sl⟩, n, ho, hc, hd, hdt⟩, hl⟩ := I.list hH
  obtain ⟨its2, rv2, ⟨⟨cl2, di2, da2, sl2⟩, n2, ho2, hc2, hd2, hdt2⟩, hl2⟩ := I.list hB
  simp only at hc hd hdt hc2 hd2 hdt2
  subst hc hd hdt hc2 hd2 hdt2
  have hsz : its.toArray.size + its2.toArray.size ≤ sizeLine := by rw [List.size_toArray, List.size_toArray, ← rv.length, ← rv2.length]; exact hz
  refine concat_meets ⟨_, ho, rfl⟩ ⟨_, ho2, rfl⟩ noFill_list_add seq_list_add F.slot_list_add F.entry_list_add (F.args_list_add_2 _ _) (add_any l its.toArray n sl b its2.toArray n2 sl2 hsz) ⟨ho, ho2, ?_⟩
  have ea : its.toArray ++ its2.toArray = (its ++ its2).toArray := by simp
  rw [ea]
  exact ⟨.ref _, _, I.lnew (t' := s.toks) (rv.append rv2) (by rw [List.length_append]; omega), rfl, q _ I.fresh⟩
def wCatS : W2 := fun x y cs P => ∃ xs ys, seqD cs x = some (true, xs) ∧ seqD cs y = some (true, ys) ∧ xs.length + ys.length ≤ 16777216 ∧ newL (xs ++ ys) cs P
theorem de_catS (ha : DE X a wa) (hb : DE X b wb) : DE X (.BinOp a .Add b pos) (wOp wCatS wa wb) := de_op op_catS (fun M H cs x y a b P Q o rx ry ⟨xs, ys, h1, h2, hz, hn⟩ k => by
  obtain ⟨p, us, e1, q1, pu⟩ := seqD_list o rx h1
  obtain ⟨q, vs, e2, q2, pv⟩ := seqD_list o ry h2
  exact ⟨p, q, us, vs, e1, e2, q1, q2, by rw [Paired.len pu, Paired.len pv]; exact size_line hz, newL_ok o (Paired.app pu pv) hn k⟩) ha hb
/-! ### abs -/
def wAbs : WN := fun xs cs P => ∃ i, xs = [.dat (.int i)] ∧ P (.dat (.int (if i < 0 then -i else i))) cs
theorem rn_abs {K : Frag} : RNOk K (fun xs H Q => ∃ i, xs = [.int i] ∧ Q (.int (if i < 0 then -i else i)) H) wAbs := fun M H cs xs as P Q o r ⟨i, e, p⟩ k => by
  subst e
  cases r with
  | cons r1 rr =>
    cases rr
    exact ⟨i, by rw [inv_int r1], k _ _ M H cs (Same.refl _) o (rv_dat (.int _)) p⟩
theorem de_abs {p : Pos} (hm : X.mg "abs" = none) (ha : DA X [e] wr) (hg : Gl X "abs" := by rfl) (he : starEach [e] X.env = (false, eval e X.env) :: starEach [] X.env := by rfl) (hpl : (backTo pos (starEach [] X.env)).any (·.1) = false := by rfl) :
    DE X (.Call (.Name "abs" p) [e] [] pos) (wFn wAbs wr) := de_callB call_abs rn_abs hm (by decide +kernel) ha hg (by decide) (by decide) he hpl
end
/-! ### makers -/
structure DKok (P : Program) (w : World) (K : Frag) (mg : Str → Option Value) (base : Heap) (C : Addr) (x : Str) (ps : List Str) (k : Nat) (dsp : DSp) : Prop where
  ex : ∃ fi fd, Mk K C fi ∧ FnOk P w K mg base CX0 k fi fd ps (liftSp K dsp) ∧ Binds K fd ps [] ∧ mg x = some (.ref C)
theorem de_makeD {X : Cx} {C : Addr} {x : Str} {ps : List Str} {k : Nat} {dsp : DSp} {p pos : Pos} {e : Expr} {es : List Expr} {wr : WA} (G : DKok X.prog X.w X.K X.mg X.base C x ps k dsp) (hr : Room (k + 1) X.A) (ha : DA X (e :: es) wr) (hg : Gl X x := by rfl)
    (hdb : (x == ("__debug__" : Str)) = false := by decide) (he : starEach (e :: es) X.env = (false, eval e X.env) :: starEach es X.env := by rfl) (hpl : (backTo pos (starEach es X.env)).any (·.1) = false := by rfl) : DE X (.Call (.Name x p) (e :: es) [] pos) (wMake C dsp wr) := by
  obtain ⟨fi, fd, Mm, F, hb, hm⟩ := G.ex
  exact de_make Mm F hb hm hr ha hg hdb he hpl
end DL
set_option maxRecDepth 100000
set_option maxHeartbeats 4000000
namespace GN
open PySem L2 PySem.Spec PyProof.Rows GenW DL GT
/-! ### generators by call -/
structure DGok (P : Program) (w : World) (K : Frag) (mg : Str → Option Value) (base : Heap) (x : Str) (ps : List Str) (k : Nat) (sp : GSpec) : Prop where
  ex : ∃ f fd, GFnD P w K mg base k f fd ps sp ∧ mg x = some (.ref f) ∧ PySem.W.keepIn K (.ref f) = true ∧ Binds K fd ps []
def wGCall (sp : GSpec) (wr : WA) : WGe := fun ρ cs R => wr ρ cs fun xs cs1 => ∃ ds fin Gd, sp xs cs1 ds fin Gd ∧ R ds fin Gd cs1
section
variable {X : Cx} {e o : Expr} {es : List Expr} {wo : WE} {wr : WA} {pos : Pos} {k : Nat} {ps : List Str} {sp : GSpec}
theorem run_gd {pins : List (Addr × Obj)} {σ : L2.St} {H M : Hp} {cs : Cells} {s : Shared} {us : List Value} {vs : List V} {xs : List Vl} {ds : List Dat} {fin : GEnd} {Gd : Cells → Prop} {f : Addr} {fd : FuncData} {R : List Dat → GEnd → (Cells → Prop) → Cells → Prop} {M0 : Hp} {n : Nat} (F : GFnD X.prog X.w X.K X.mg X.base k f fd ps sp) (hr : Room k X.A) (hb : Binds X.K fd ps [])
    (I : Inv X pins σ H s) (hn : n ≤ s.gens.size) (rv : Vals vs us) (o : Ok X.K M H cs) (rx : Paired (RV X.K M) vs xs) (hs : sp xs cs ds fin Gd) (sm : Same M0 M) (hR : R ds fin Gd cs) :
    wpAny (model X.prog X.w) X.A (call (.ref f) us) (fun u s' => ∃ a H1 M1 cs1 ds fin Gd C gs pv gv, u = .ref a ∧ Same M0 M1 ∧ Made X pins σ k n M1 cs1 ds fin Gd a s' H1 C gs pv gv ∧ R ds fin Gd cs1) X.xe s := by
  have hl2 : us.length = ps.length := by rw [← rv.length, Paired.len rx]; exact F.len _ _ _ _ _ hs
  have hbb := hb s us I.kIn (by rw [List.append_nil]; exact hl2)
  rw [List.append_nil] at hbb
  refine PySem.wpAny_call (codeAny_mono (F.run X.A X.stack s H M cs ⟨us, []⟩ us vs xs ds fin Gd hr I.env0 hbb rv o rx hs) fun r s' hq => ?_)
  obtain ⟨a, C, g, go, oL, c, rfl, mk⟩ := hq
  exact ⟨a, H, M, cs, ds, fin, Gd, C, _, _, _, rfl, sm, made_of I o hn mk, hR⟩
theorem dge_call {x : Str} {p : Pos} (G : DGok X.prog X.w X.K X.mg X.base x ps k sp) (hr : Room k X.A) (ha : DA X (e :: es) wr) (hg : Gl X x := by rfl) (hdb : (x == ("__debug__" : Str)) = false := by decide)
    (he : starEach (e :: es) X.env = (false, eval e X.env) :: starEach es X.env := by rfl) (hpl : (backTo pos (starEach es X.env)).any (·.1) = false := by rfl) : DGe X k (.Call (.Name x p) (e :: es) [] pos) (wGCall sp wr) := by
  obtain ⟨f, fd, F, hm, hk, hb⟩ := G.ex
  refine ⟨fun pins s σ H M ρ cs R I o r h => ?_⟩
  refine wpAny_Call_Name_kw (ld_glob I hg hm ?_ hdb)
  refine PySem.W.callWith_K (h₀ := X.base) I.ok.mod.kin hk (wpAny_gsz (n := s.gens.size) (Nat.le_refl _) (wpAny_mono (ha.run pos pins s σ H (fun vs H1 => ∃ M1 xs cs1, Same M M1 ∧ Ok X.K M1 H1 cs1 ∧ Paired (RV X.K M1) vs xs ∧ ∃ ds fin Gd, sp xs cs1 ds fin Gd ∧ R ds fin Gd cs1) I ⟨M, ρ, cs, _, o, r, h, fun vs xs M1 H1 cs1 s1 o1 r1 p1 => ⟨M1, xs, cs1, s1, o1, r1, p1⟩⟩) (fun us s1 ⟨vs, H1, I1, rv, q⟩ hsz => ⟨I1.kIn, ?_⟩) fun _ _ x _ => x)) he hpl
  obtain ⟨M1, xs, cs1, sm, o1, r1, ds, fin, Gd, hs, hR⟩ := q
  exact run_gd F hr hb I1 hsz rv o1 r1 hs sm hR
end
/-! ### a private object of the consumer, kept while the generator runs -/
section
variable {X : Cx} {pins : List (Addr × Obj)} {σ : L2.St} {H : Hp} {s : Shared}
/-- a pinned object is changed -/
theorem inv_repin {S : Addr} {oS oS' : Obj} (I : Inv X (pins ++ [(S, oS)]) σ H s) (hy : X.s_0.heap.objs.size ≤ S) (hc : ∀ x c, X.env.cells.lookup x = some c → c ≠ S) (hp : ∀ p ∈ X.pn ++ pins, p.1 ≠ S) {h' : Heap} (hk : ∀ b o, b ≠ S → s.heap.get? b = some o → h'.get? b = some o) (hS : h'.get? S = some oS') (hd : ∀ v, oS'.data ≠ .cell v) :
    Inv X (pins ++ [(S, oS')]) σ H { s with heap := h' } := by
  obtain ⟨p1, p2, p3, p4, p5⟩ := I.pin (S, oS) (List.mem_append_right _ (List.mem_append_right _ List.mem_cons_self))
  have I0 : Inv X pins σ H s := I.pins_of fun p hp => I.pin p (List.mem_append_right _ (List.mem_append_left _ hp))
  have J : Inv X pins σ H { s with heap := h' } := by
    refine I0.call' (s' := { s with heap := h' }) (ch := [S]) rfl ⟨fun b o e n _ hx => hk b o (fun z => hx (by rw [z]; exact List.mem_cons_self)) e, fun b o e n _ hx => ⟨o.slots, hk b o (fun z => hx (by rw [z]; exact List.mem_cons_self)) e⟩, fun b o _ n _ => n, fun b o e hx => ⟨o, hk b o (fun z => hx (by rw [z]; exact List.mem_cons_self)) e⟩, fun _ _ q => q, fun _ _ _ q => q, fun b ps q => ⟨#[], by rw [q]; simp⟩⟩ ?_ I0.bare fun b hb => ?_
    · intro b u q
      refine (I0.hok b u q).stay (fun d v hd q2 => hk d v ?_ q2) (fun _ z => z) fun _ _ z => z
      rcases hd with z | z
      · rw [z]; intro z2; rw [z2, p2] at q; cases q
      · intro z2; rw [z2, p2] at z; cases z
    · rw [List.mem_singleton.mp hb]
      exact ⟨.inr hy, p3, hc, hp⟩
  exact J.pins_of fun p hp => by
    rcases List.mem_append.mp hp with z | z
    · exact J.pin p (List.mem_append_right _ z)
    · rw [List.mem_singleton.mp z]
      exact ⟨hS, p2, p3, p4, hd⟩
/-- a pinned list becomes a tracked one -/
theorem inv_adopt {S : Addr} {acc : Array Value} {c : Nat} {ys : List V} (I : Inv X (pins ++ [(S, lstObj acc c)]) σ H s) (hy : X.s_0.heap.objs.size ≤ S) (hc : ∀ x c, X.env.cells.lookup x = some c → c ≠ S) (hp : ∀ p ∈ X.pn ++ pins, p.1 ≠ S) (hv : Vals ys acc.toList) (hl : ys.length ≤ sizeLine) :
    Inv X pins σ (upd H S (.lst ys)) s := by
  obtain ⟨p1, p2, p3, p4, p5⟩ := I.pin (S, lstObj acc c) (List.mem_append_right _ (List.mem_append_right _ List.mem_cons_self))
  have I0 : Inv X pins σ H s := I.pins_of fun p hp => I.pin p (List.mem_append_right _ (List.mem_append_left _ hp))
  refine I0.call' (s' := s) (ch := [S]) rfl ⟨fun b o e n _ hx => e, fun b o e n _ hx => ⟨o.slots, e⟩, fun b o _ n hx => ?_, fun b o e hx => ⟨o, e⟩, fun b xs q => ?_, fun b o xs q => ?_, fun b ps q => ⟨#[], ?_⟩⟩ (fun b u q => ?_) I0.bare fun b hb => ?_
  · rw [upd_ne (fun z => hx (by rw [z]; exact List.mem_cons_self))]; exact n
  · rw [upd_ne (ne_of_none q p2)]; exact q
  · rw [upd_ne (ne_of_none q p2)]; exact q
  · rw [upd_ne (ne_of_none q p2), q]; simp
  · by_cases hb : b = S
    · subst hb
      rw [upd_same] at q
      cases q
      exact ⟨hl, acc.toList, c, hv, by rw [p1]⟩
    · rw [upd_ne hb] at q
      exact (I0.hok b u q).stay (fun _ _ _ z => z) (fun d z => by rw [upd_ne (ne_of_none z p2)]; exact z) fun d xs z => by rw [upd_ne (ne_of_none z p2)]; exact z
  · rw [List.mem_singleton.mp hb]
    exact ⟨.inr hy, p3, hc, hp⟩
end
theorem take_snoc' {α : Type} {os : List α} {i : Nat} {o : α} (h : os[i]? = some o) : os.take (i + 1) = os.take i ++ [o] := by rw [List.take_succ, h]; rfl
/-! ### list(g) -/
/-- what the consumer holds at turn i: its own object oS at S, and the generator -/
structure Cons (X : Cx) (pins : List (Addr × Obj)) (C : GC) (Gd : Cells → Prop) (fin : GEnd) (ds : List Dat) (cs : Cells) (σ : L2.St) (M1 : Hp) (S : Addr) (i : Nat) (s : Shared) (oS : Obj) (H M : Hp) (gs : GenState) (pv : List (Addr × Obj)) (gv : List (Nat × GenState)) : Prop where
  inv : Inv X (pins ++ [(S, oS)]) σ H s
  same : Same M1 M
  ok : Ok X.K M H cs
  gsk : s.gens[C.g]? = some gs
  pvk : ∀ p ∈ pv, s.heap.get? p.1 = some p.2 ∧ H p.1 = none ∧ C.L ≤ p.1 ∧ ∀ v, p.2.data ≠ .cell v
  self : C.self ∈ pv
  loc : ∃ o, (C.loc, o) ∈ pv
  gvk : GvOk C.g gv s
  dis : ∀ p ∈ pv, S ≠ p.1
  hands : Hands C Gd fin (ds.drop i) M pv gv gs
section
variable {X : Cx} {pins : List (Addr × Obj)} {C : GC} {Gd : Cells → Prop} {fin : GEnd} {ds : List Dat} {cs : Cells} {σ : L2.St} {M1 : Hp} {S : Addr} {i : Nat} {s : Shared} {oS : Obj} {H M : Hp} {gs : GenState} {pv : List (Addr × Obj)} {gv : List (Nat × GenState)}
/-- the consumer wakes it -/
theorem Cons.next (c : Cons X pins C Gd fin ds cs σ M1 S i s oS H M gs pv gv) (hC : Held X pins C) (hf : fin = .done) {A : Around} (hh : A.handled = none) (hA : A.frames = X.A.frames) (dp : A.depth < recursionLimit) (hr : Room C.k A.in1) (gd : Gd cs) (hi : i ≤ ds.length) {Q : Option Value → Shared → Prop} {E : Value → Shared → Prop}
    (hY : ∀ d v x s' H' M' gs' pv' gv', ds[i]? = some d → RelV x v → RV X.K M' x (.dat d) → Same M M' → Cons X pins C Gd fin ds cs σ M1 S (i + 1) s' oS H' M' gs' pv' gv' → Q (some v) s')
    (hD : ∀ s' H' M', i = ds.length → Inv X (pins ++ [(S, oS)]) σ H' s' → Same M M' → Ok X.K M' H' cs → Q none s') :
    wpAny (model X.prog X.w) A (pyNext (.ref C.self.1)) Q E s := by
  have ha : s.heap.get? C.self.1 = some C.self.2 := (c.pvk _ c.self).1
  obtain ⟨oL, hL⟩ := c.loc
  have hS := c.inv.pin (S, oS) (List.mem_append_right _ (List.mem_append_right _ List.mem_cons_self))
  have hW := hC.wake (A := A.in1) (fp := [(S, oS)]) c.inv hA hr c.ok (Same.refl M) gd (fun p hp => ⟨(c.pvk p hp).1, (c.pvk p hp).2.1⟩) c.gvk (fun p hp q hq => by rw [List.mem_singleton.mp hq]; exact c.dis p hp) (fun p hp => by
    rw [List.mem_singleton.mp hp]
    refine ⟨hS.1, hS.2.1, c.dis _ hL, fun z => ?_, hS.2.2.2.2⟩
    rw [hC.outer] at z
    rcases List.mem_cons.mp (c.inv.stkSub _ z) with z | z
    · exact hS.2.2.1 z
    · exact hS.2.2.2.1 z)
  have hn0 : ¬ (ds.drop i = [] ∧ fin = .cut) := fun z => by rw [hf] at z; cases z.2
  have key := fun (Q : Option Value → Shared → Prop) (E : Value → Shared → Prop) => next_hands (Q := Q) (E := E) (A := A) hh c.inv.nolimit dp (hC.gen _ ha) c.gsk c.hands hn0 hW
  rw [hC.P, hC.w] at key
  refine key _ _ (fun d rr v x s₁ gs' H' M' pv' gv' hds hsus hbare' lf rv dr pvk' gvk' hw' => ?_) (fun s₁ H' M' h' hds hfin lf hk => ?_)
  · have hlt : i < ds.length := by
      have := congrArg List.length hds
      rw [List.length_drop, List.length_cons] at this
      omega
    have hd : ds[i]? = some d ∧ ds.drop (i + 1) = rr := by
      have e1 := drop_cons (List.getElem?_eq_getElem hlt)
      rw [hds] at e1
      cases e1
      exact ⟨List.getElem?_eq_getElem hlt, rfl⟩
    rw [← hd.2] at hw'
    obtain ⟨I4, sm4, o4⟩ := hC.back c.inv lf (allBare_setGen (s := s₁) (g := C.g) (x := gs') lf.bare hbare') s₁.heap (fun _ _ e => e)
    refine hY d v x (s₁.setGen C.g gs') H' M' gs' pv' gv' hd.1 rv (by have : Dr C.K M' x d := dr; rw [hC.K] at this; exact this) sm4 ⟨I4, c.same.trans sm4, o4, setGen_at gvk'.sz, pvk'.at_, pvk'.self, pvk'.loc, gvOk_set gvk', fun p hp => pvk'.dis p hp (S, oS) List.mem_cons_self, hw'⟩
  · obtain ⟨I4, sm4, o4⟩ := hC.back c.inv lf (allBare_setGen (g := C.g) (x := .finished) lf.bare rfl) h' hk
    refine hD _ H' M' ?_ I4 sm4 o4
    have := congrArg List.length hds
    rw [List.length_drop, List.length_nil] at this
    omega
theorem Cons.repin (c : Cons X pins C Gd fin ds cs σ M1 S i s oS H M gs pv gv) (hC : Held X pins C) (hSy : C.L ≤ S) {h' : Heap} {oS' : Obj} (hk : ∀ b o, b ≠ S → s.heap.get? b = some o → h'.get? b = some o) (hS : h'.get? S = some oS') (hd : ∀ v, oS'.data ≠ .cell v) {tk : Nat} :
    Cons X pins C Gd fin ds cs σ M1 S i { s with heap := h', toks := tk } oS' H M gs pv gv := by
  have J := inv_repin c.inv (Nat.le_trans hC.szl hSy) (fun x cc hx => Nat.ne_of_lt (Nat.lt_of_lt_of_le (hC.celll x cc hx) hSy)) (fun p hp => Nat.ne_of_lt (Nat.lt_of_lt_of_le (hC.pinl p hp) hSy)) hk hS hd
  refine ⟨J.kept (t' := tk) fun _ _ e => e, c.same, c.ok, c.gsk, fun p hp => ?_, c.self, c.loc, ⟨c.gvk.sz, c.gvk.at_⟩, c.dis, c.hands⟩
  obtain ⟨q1, q2, q3, q4⟩ := c.pvk p hp
  exact ⟨hk _ _ (Ne.symm (c.dis p hp)) q1, q2, q3, q4⟩
theorem drain_list (hC : Held X pins C) (hSy : C.L ≤ S) (hf : fin = .done) {A : Around} {R : Result → Shared → Prop} {res : Value} (hh : A.handled = none) (hA : A.frames = X.A.frames) (dp : A.depth < recursionLimit) (hr : Room C.k A.in1.in1) (gd : Gd cs) (hz : ds.length ≤ 16777216)
    (hend : ∀ s' H' M' acc c ys, Inv X (pins ++ [(S, lstObj acc c)]) σ H' s' → Same M1 M' → Ok X.K M' H' cs → Vals ys acc.toList → Paired (RV X.K M') ys (ds.map .dat) → R (.ok (.ret res)) s') :
    ∀ (m i : Nat) (s : Shared) (H M : Hp) (gs : GenState) (pv : List (Addr × Obj)) (gv : List (Nat × GenState)) (acc : Array Value) (c : Nat) (ys : List V), m = ds.length - i → i ≤ ds.length → Cons X pins C Gd fin ds cs σ M1 S i s (lstObj acc c) H M gs pv gv → Vals ys acc.toList → Paired (RV X.K M) ys ((ds.take i).map .dat) →
      codeAny (model X.prog X.w) A (.builtin "list.extend.loop" ⟨[.ref S, .ref C.self.1, res], []⟩) R s := by
  intro m
  induction m using Nat.strongRecOn with
  | ind m ih =>
    intro i s H M gs pv gv acc c ys hm hi co hv hp
    refine codeAny_builtin F.entry_extend_loop ?_
    rw [Around.under_plainId F.plain_extend_loop _]
    show wpAny _ A.in1 (pyNext (.ref C.self.1) >>= _) _ _ s
    refine wpAny_bind (co.next (A := A.in1) hC hf hh hA dp hr gd hi (fun d v x s' H' M' gs' pv' gv' hd rv rx sm co' => ?_) (fun s' H' M' hi' I' sm o' => ?_))
    · have hlt := (List.getElem?_eq_some_iff.mp hd).1
      have hS := (co'.inv.pin (S, lstObj acc c) (List.mem_append_right _ (List.mem_append_right _ List.mem_cons_self))).1
      have hlen : acc.size = i := by
        have h1 := hv.length
        have h2 := Paired.len hp
        rw [List.length_map, List.length_take] at h2
        have h3 : acc.toList.length = acc.size := Array.length_toList
        have h4 : ys.length = min i ds.length := h2
        have h5 : ys.length = acc.toList.length := h1
        omega
      have hasz : acc.size < sizeLine := by rw [sizeLine_eq, hlen]; omega
      show wpAny _ A.in1 (updateSeq S (·.push v) >>= _) _ _ _
      refine wpAny_bind ?_
      refine wpAny_updateSeq hS rfl (wpAny_pure ⟨plainId_quiet F.plain_extend_loop _, ?_⟩) (Nat.le_of_lt hasz) (by show (acc.push v).size ≤ sizeLine + 1; rw [Array.size_push]; omega)
      have hS2 := Heap.get?_update_self (Obj.mapSeq (·.push v)) hS rfl
      obtain ⟨c', hS3⟩ : ∃ c', (s'.heap.update S (Obj.mapSeq (·.push v))).get? S = some (lstObj (acc.push v) c') := ⟨_, hS2⟩
      have co2 := co'.repin (tk := s'.toks) hC hSy (h' := s'.heap.update S (Obj.mapSeq (·.push v))) (fun b o hb e => (Heap.get?_update_other _ _ (Ne.symm hb)).trans e) hS3 (fun v z => by cases z)
      refine ih (ds.length - (i + 1)) (by omega) (i + 1) _ H' M' gs' pv' gv' (acc.push v) c' (ys ++ [x]) rfl hlt co2 ?_ ?_
      · rw [Array.toList_push]; exact hv.append (.cons rv .nil)
      · rw [take_snoc' hd, List.map_append]
        exact Paired.app (paired_mono (fun _ _ q => q.mono sm) hp) (.cons rx .nil)
    · subst hi'
      rw [List.take_of_length_le (Nat.le_refl _)] at hp
      exact wpAny_pure (hend s' H' M' acc c ys I' (co.same.trans sm) o' hv (paired_mono (fun _ _ q => q.mono sm) hp))
end
section
variable {X : Cx} {e : Expr} {pos p : Pos} {k : Nat}
def wListG (wg : WGe) : WE := fun ρ cs P => wg ρ cs fun ds fin Gd cs1 => fin = .done ∧ Gd cs1 ∧ ds.length ≤ 16777216 ∧ newL (ds.map .dat) cs1 P
theorem de_listG {wg : WGe} (hc : X.calm = true) (hi : DGe X k e wg) (hr : Room (k + 3) X.A) (hm : X.mg "list" = none) (hg : Gl X "list" := by rfl) (he : starEach [e] X.env = (false, eval e X.env) :: starEach [] X.env := by rfl) : DE X (.Call (.Name "list" p) [e] [] pos) (wListG wg) := by
  refine ⟨fun pins s σ H Q I ⟨M, ρ, cs, P, o, r, h, kk⟩ => ?_⟩
  have hh : X.A.handled = none := I.ok.hd hc
  refine wpAny_Call_Name_kw (ld_blt I hg hm (show bootBuiltins "list" = some (.type "list") by decide +kernel) ?_ (by decide) (by decide))
  refine PyProof.Rows.callWith_type1 ?_ he rfl
  rw [he]
  show wpAny _ _ (spliced ((false, eval e X.env) :: backTo pos (starEach [] X.env))) _ _ s
  refine Calls.spliced_cons (thn (hi.run pins s σ H M ρ cs _ I o r h) fun u s1 h1 => ?_)
  obtain ⟨a, H1, M1, cs1, ds, fin, Gd, C, gs0, pv0, gv0, rfl, sm1, mk, hfin, gd, hz, hnew⟩ := h1
  refine Calls.spliced_nil ?_
  have hC := mk.held
  have ea : C.self.1 = a := mk.ea
  have ek : C.k = k := mk.ek
  have I2 : Inv X pins σ H1 s1 := mk.inv
  have hself := mk.pvk _ mk.self
  have hSa : s1.heap.objs.size ≠ a := by rw [← ea]; exact Nat.ne_of_gt (Heap.lt_size hself.1)
  have hSy : C.L ≤ s1.heap.objs.size := Nat.le_trans hself.2.2.1 (Nat.le_of_lt (Heap.lt_size hself.1))
  have hgA : s1.heap.IsGen a C.g := by have := hC.gen _ hself.1; rw [ea] at this; exact this
  have nS : H1 s1.heap.objs.size = none := I2.hok.fresh (Nat.le_refl _)
  refine callType_codes (Q₁ := fun obj s₁ => obj = .ref s1.heap.objs.size ∧ s₁ = { s1 with heap := s1.heap.push { cls := .type "list", data := .seq #[] } }) F.called_list (F.typeCall_list_1 _) F.entry_list_init
    (code_list_new _ ⟨rfl, rfl⟩) fun obj s₁ h₁ => ?_
  obtain ⟨rfl, rfl⟩ := h₁
  have hS : (s1.heap.push { cls := .type "list", data := .seq #[] }).get? s1.heap.objs.size = some { cls := .type "list", data := .seq #[] } := Heap.get?_push_size _ rfl
  refine ⟨⟨_, hS, rfl⟩, F.args_list_init_2 _ _, ?_⟩
  show wpAny _ X.A.in1.in1 (do let old ← Builtin.List.listItems (.ref s1.heap.objs.size); Builtin.List.listUpdate (.ref s1.heap.objs.size) (fun _ => #[]); letGo old.toList.reverse; Builtin.List.listExtendWith (.ref s1.heap.objs.size) (.ref a) .none) _ _ _
  refine wpAny_bind ?_
  unfold Builtin.List.listItems
  refine wpAny_bind (wpAny_seqItems hS rfl (wpAny_pure ?_))
  show wpAny _ X.A.in1.in1 (updateSeq s1.heap.objs.size (fun _ => #[]) >>= fun _ => letGo (#[] : Array Value).toList.reverse >>= fun _ => Builtin.List.listExtendWith (.ref s1.heap.objs.size) (.ref a) .none) _ _ _
  refine wpAny_bind (wpAny_updateSeq hS rfl ?_)
  have hS2 := Heap.get?_update_self (Obj.mapSeq (fun _ => (#[] : Array Value))) hS rfl
  refine wpAny_bind (wpAny_letGo ?_)
  unfold Builtin.List.listExtendWith
  have up : ∀ (h : Heap) (f : Obj → Obj), (∀ b o, s1.heap.get? b = some o → h.get? b = some o) → ∀ b o, s1.heap.get? b = some o → (h.update s1.heap.objs.size f).get? b = some o := fun h f q b o e =>
    (Heap.get?_update_other _ _ (Ne.symm (Nat.ne_of_lt (Heap.lt_size e)))).trans (q b o e)
  have k1 : ∀ b o, s1.heap.get? b = some o → (s1.heap.push { cls := .type "list", data := .seq #[] }).get? b = some o := fun b o e => Heap.get?_push_of_some _ e
  have k2 := up _ (Obj.mapSeq (fun _ => (#[] : Array Value))) k1
  have gty : ∀ {h : Heap}, (∀ b o, s1.heap.get? b = some o → h.get? b = some o) → h.IsGen a C.g := fun {h} q => hgA.keeps q
  refine wpAny_bind (wpAny_typeOf (Heap.IsGen.typeIs (s := { s1 with heap := _ }) (gty k2)) ?_)
  have h1 : Builtin.List.listSameRef (.ref s1.heap.objs.size) (.ref a) = false := by simp [Builtin.List.listSameRef, hSa]
  have h2 : (Value.type "generator" == Value.type "list") = false := by decide
  have h3 : (Value.type "generator" == Value.type "tuple") = false := by decide
  simp only [h1, h2, h3, Bool.or_false, Bool.false_eq_true, if_false]
  refine wpAny_bind (wpAny_pyIter_gen (s := { s1 with heap := _ }) (gty k2) ?_)
  refine wpAny_bind (wpAny_holding ?_)
  unfold Builtin.List.listLengthHint
  refine wpAny_bind (wpAny_specialOf (Heap.IsGen.typeIs (s := { s1 with heap := _ }) (gty k2)) F.gen_no_len ?_)
  show wpAny _ X.A.in1.in1 (specialOf (Value.ref a) (Str.ofString "__length_hint__") >>= _) _ _ _
  refine wpAny_bind (wpAny_specialOf (Heap.IsGen.typeIs (s := { s1 with heap := _ }) (gty k2)) F.gen_no_hint ?_)
  refine wpAny_pure ?_
  show wpAny _ X.A.in1.in1 (rule "list.extend.makes-room" >>= fun _ => Builtin.List.listTouch (.ref s1.heap.objs.size) >>= fun _ =>
    again (.builtin "list.extend.loop" ⟨[.ref s1.heap.objs.size, .ref a, .none], []⟩)) _ _ _
  refine wpAny_bind (wpAny_rule ?_)
  refine wpAny_bind ?_
  show wpAny _ X.A.in1.in1 (updateSeq s1.heap.objs.size (·.push .none) >>= fun _ => updateSeq s1.heap.objs.size (·.pop)) _ _ _
  refine wpAny_bind (wpAny_updateSeq hS2 rfl ?_)
  have hS3 := Heap.get?_update_self (Obj.mapSeq (·.push Value.none)) hS2 rfl
  refine wpAny_updateSeq (hz := by seq_fits) hS3 rfl ?_
  have hS4 := Heap.get?_update_self (Obj.mapSeq (·.pop)) hS3 rfl
  have k4 := up _ (Obj.mapSeq (·.pop)) (up _ (Obj.mapSeq (·.push Value.none)) k2)
  refine wpAny_pure ⟨plainId_quiet F.plain_extend_loop _, ?_⟩
  show codeAny _ _ _ _ { s1 with heap := (((s1.heap.push { cls := .type "list", data := .seq #[] }).update s1.heap.objs.size (Obj.mapSeq (fun _ => (#[] : Array Value)))).update s1.heap.objs.size (Obj.mapSeq (·.push Value.none))).update s1.heap.objs.size (Obj.mapSeq (·.pop)) }
  generalize hh4 : ((((s1.heap.push { cls := .type "list", data := .seq #[] }).update s1.heap.objs.size (Obj.mapSeq (fun _ => (#[] : Array Value)))).update s1.heap.objs.size (Obj.mapSeq (·.push Value.none))).update s1.heap.objs.size (Obj.mapSeq (·.pop))) = h4 at hS4 k4 ⊢
  obtain ⟨c4, hS5⟩ : ∃ c4, h4.get? s1.heap.objs.size = some (lstObj #[] c4) := ⟨_, hS4⟩
  have I4 : Inv X pins σ H1 { s1 with heap := h4 } := I2.kept (t' := s1.toks) k4
  have pS : ∀ q ∈ X.pn ++ pins, q.1 ≠ s1.heap.objs.size := fun q hq => Nat.ne_of_lt (Nat.lt_of_lt_of_le (hC.pinl q hq) hSy)
  have I5 : Inv X (pins ++ [(s1.heap.objs.size, lstObj #[] c4)]) σ H1 { s1 with heap := h4 } := I4.pins_of fun q hq => by
    rcases List.mem_append.mp hq with z | z
    · exact I4.pin q (List.mem_append_right _ z)
    · rw [List.mem_singleton.mp z]
      exact ⟨hS5, nS, Nat.ne_of_gt (Nat.lt_of_lt_of_le hC.locl hSy), fun z => Nat.lt_irrefl _ (Nat.lt_of_lt_of_le (hC.fsl _ z) hSy), fun v z => by cases z⟩
  have e1 : (C.self.1 : Addr) = a := ea
  have key := fun (R : Result → Shared → Prop) => drain_list (R := R) (σ := σ) (M1 := M1) (S := s1.heap.objs.size) (cs := cs1) (Gd := Gd) (ds := ds) (res := .none) (A := X.A.in1) hC hSy hfin hh rfl (by have := hr.dp; show X.A.depth < _; omega) (by rw [ek]; exact ⟨hr.hd, by have := hr.dp; show X.A.depth + 3 * k + 5 < _; omega, by have := hr.un; show X.A.units + 1 + 1 + 1 + 16 * k + 200 < _; omega⟩) gd hz
  rw [e1] at key
  refine key _ (fun s' H' M' acc c ys I' sm o' hv hp => ?_) _ 0 { s1 with heap := h4 } H1 M1 gs0 pv0 gv0 #[] c4 [] rfl (Nat.zero_le _) ⟨I5, Same.refl _, mk.ok, mk.gsk, fun q hq => ?_, mk.self, mk.loc, ⟨mk.gvk.sz, mk.gvk.at_⟩, fun q hq => ?_, by rw [List.drop_zero]; exact mk.hands⟩ .nil .nil
  · have hl : ys.length ≤ sizeLine := by
      have := Paired.len hp
      rw [List.length_map] at this
      rw [this, sizeLine_eq]
      exact hz
    have J := inv_adopt I' (Nat.le_trans hC.szl hSy) (fun x cc hx => Nat.ne_of_lt (Nat.lt_of_lt_of_le (hC.celll x cc hx) hSy)) pS hv hl
    have hn := (I'.pin (s1.heap.objs.size, lstObj acc c) (List.mem_append_right _ (List.mem_append_right _ List.mem_cons_self))).2.1
    exact ⟨rfl, .ref s1.heap.objs.size, _, J, rfl, newL_ok o' hp hnew (kk.mono (sm1.trans sm)) _ hn⟩
  · obtain ⟨q1, q2, q3, q4⟩ := mk.pvk q hq
    exact ⟨k4 _ _ q1, q2, q3, q4⟩
  · exact Nat.ne_of_gt (Heap.lt_size (mk.pvk q hq).1)
end
end GN
set_option maxRecDepth 100000
set_option maxHeartbeats 4000000
namespace GN
open PySem L2 PySem.Spec PyProof.Rows GenW DL GT
/-! ### a generator expression is made -/
/-- what stands when it has been made -/
structure GxAt (X : Cx) (pins : List (Addr × Obj)) (σ : L2.St) (P : Addr) (ge : Expr) (scope : Scope) (cl : List (Str × Addr)) (it : Value) (s2 : Shared) (H2 : Hp) (ps : Array Value) (code : Value) (Lf a : Addr) (oL go : Obj) (more : Array Value) (s5 : Shared) : Prop where
  gens : s5.gens = s2.gens.push (.fresh (.compStart ge 0 it .none (genEnv scope cl Lf code builtinsNs X.env)))
  os : s5.os = s2.os
  lf : s2.heap.objs.size ≤ Lf
  la : Lf < a
  ns : s5.heap.Ns Lf (fun y => if y = ".0" then some it else none)
  hoL : s5.heap.get? Lf = some oL
  hgo : s5.heap.get? a = some go
  gen : ∀ h : Heap, h.get? a = some go → h.IsGen a s2.gens.size
  cls : go.cls = .type "generator" ∧ ∃ vs, go.data = .fields vs
  keep : ∀ b o, b ≠ P → s2.heap.get? b = some o → s5.heap.get? b = some o
  tri : TriplesOk (ps ++ more).toList
  inv : Inv X pins σ (upd H2 P (.tbl (ps ++ more))) s5
  lim : s5.heap.NoLimit
section
variable {X : Cx} {pins : List (Addr × Obj)} {σ : L2.St} {s : Shared} {c P : Addr} {elt tg iter : Expr} {scope : Scope} {gpos : Pos} {cl : List (Str × Addr)} {Q' : Value → Shared → Prop}
theorem gx_make (hroom : X.A.depth < recursionLimit) (TB : GxR.TabB X.base X.mg c P) (hcode : X.env.code = .ref c) (hco : scope.isCoroutine = false) (hclos : closureFor scope X.env = pure cl) (hcell : ∀ y ∈ scope.names, y.2 ≠ .cell) (h0 : scope.names.lookup (".0" : Str) = some NameKind.local) (hkind : scope.kind = .function) (hs : ∀ v, genFold iter X.env v = pure v)
    (h : wpAny (model X.prog X.w) X.A (eval iter X.env) (fun xv s1 => wpAny (model X.prog X.w) X.A (pyIter xv) (fun it s2 => ∃ H2 ps, Inv X pins σ H2 s2 ∧ H2 P = some (.tbl ps) ∧ TriplesOk ps.toList ∧
      ∀ code Lf a oL go more s5, GxAt X pins σ P (.GeneratorExp elt [⟨tg, iter, [], 0⟩] scope gpos) scope cl it s2 H2 ps code Lf a oL go more s5 → Q' (.ref a) s5) X.xe s1) X.xe s) :
    wpAny (model X.prog X.w) X.A (eval (.GeneratorExp elt [⟨tg, iter, [], 0⟩] scope gpos) X.env) Q' X.xe s := by
  refine wpAny_GeneratorExp_make hco hclos hcell h0 hkind hroom (wpAny_mono h (fun xv s1 h1 => wpAny_mono h1 (fun it s2 h2 => ?_) fun _ _ e => e) fun _ _ e => e) hs
  obtain ⟨H2, ps, I2, hP, ht, hQ⟩ := h2
  have hPs : s2.heap.get? P = some { cls := .none, data := .fields ps } := I2.hok P _ hP
  have cd : PySem.W.CodeHd s2.heap c P := TB.code.keeps fun b u e => I2.bk b u e
  refine ⟨I2.nolimit, ?_⟩
  have cont : ∀ (code : Value) (h3 : Heap) (tk : Nat) (ps' : Array Value), Heap.ExtBut P s2.heap h3 → s2.heap.objs.size ≤ h3.objs.size → h3.get? P = some { cls := .none, data := .fields ps' } → (∃ more, ps' = ps ++ more) → TriplesOk ps'.toList →
      wpAny (model X.prog X.w) X.A (builtinsFor X.env.globals X.env.builtins) (fun bi s₄ =>
        ∀ h', h'.Ns s₄.heap.objs.size (fun y => if y = ".0" then some it else none) → Heap.SameBut s₄.heap.objs.size (s₄.heap.push { cls := .type "frame", data := .dict #[] }) h' →
          Q' (.ref h'.objs.size) { s₄ with
            gens := s₄.gens.push (.fresh (.compStart (.GeneratorExp elt [⟨tg, iter, [], 0⟩] scope gpos) 0 it .none (genEnv scope cl s₄.heap.objs.size code bi X.env))),
            toks := s₄.toks + 1 + 1 + 1,
            heap := h'.push { cls := .type "generator", data := .fields #[.int s₄.gens.size 0, .str "<genexpr>" (s₄.toks + 1), .str (X.env.qual ++ "<genexpr>") (s₄.toks + 1 + 1)] } }) X.xe { s2 with heap := h3, toks := tk } := by
    intro code h3 tk ps' hx hsz hP3 hmore ht3
    obtain ⟨bm, ob, e1, e2, e3, e4, e5, e6, e7, e8⟩ := TB.bm
    have hcP : cStatics ≠ P := fun e => by
      obtain ⟨_, hns, _⟩ := I2.nolimit
      obtain ⟨o', es, ep, ho, hd, _⟩ := hns
      rw [e, hPs] at ho
      cases ho
      cases hd
    refine wpAny_builtinsFor (m := X.mg) (by rw [I2.ok.glob]; exact (I2.mod.glob.keeps I2.bk).extBut hx TB.gP) e1 e2 (hx _ _ e4 (I2.bk _ _ e5)) e6 e7 e8 ?_
    intro h' hn hsb
    obtain ⟨more, em⟩ := hmore
    have szh : h'.objs.size = h3.objs.size + 1 := by rw [hsb.1, Heap.size_push]
    have keep' : ∀ b o, h3.get? b = some o → h'.get? b = some o := fun b o e => hsb.extBut b o (Nat.ne_of_lt (Heap.lt_size e)) (Heap.get?_push_of_some _ e)
    generalize hgo : ({ cls := .type "generator", data := .fields #[.int s2.gens.size 0, .str "<genexpr>" (tk + 1), .str (X.env.qual ++ "<genexpr>") (tk + 1 + 1)] } : Obj) = go
    have hgo' : go.cls = .type "generator" ∧ go.data = .fields #[.int s2.gens.size 0, .str "<genexpr>" (tk + 1), .str (X.env.qual ++ "<genexpr>") (tk + 1 + 1)] := by rw [← hgo]; exact ⟨rfl, rfl⟩
    have hgs : h'.objs.size < (h'.push go).objs.size := by rw [Heap.size_push]; exact Nat.lt_succ_self _
    have hpg : (h'.push go).get? h'.objs.size = some go := Heap.get?_push_size _ (by rw [← hgo]; rfl)
    obtain ⟨oL, es, ep, hoL, hdL, hrL⟩ := id hn
    have kp : ∀ b o, b ≠ P → s2.heap.get? b = some o → (h'.push go).get? b = some o := fun b o hb e => Heap.get?_push_of_some _ (keep' b o (hx b o hb e))
    show Q' (.ref h'.objs.size) { s2 with heap := h'.push go, gens := s2.gens.push _, toks := tk + 1 + 1 + 1 }
    refine hQ code h3.objs.size h'.objs.size oL go more _ ⟨rfl, rfl, hsz, by rw [szh]; exact Nat.lt_succ_self _, hn.push _, Heap.get?_push_of_some _ hoL, hpg, fun h e => ?_, ⟨hgo'.1, _, hgo'.2⟩, kp, by rw [← em]; exact ht3, ?_, ?_⟩
    · exact ⟨_, _, _, e, hgo'.1, hgo'.2, by rw [← hgo]⟩
    · exact GxR.inv_tab (more := more) I2 hP kp (by rw [← em]; exact Heap.get?_push_of_some _ (keep' _ _ hP3)) (I2.bare.push rfl)
    · exact (I2.nolimit.extBut hx hcP).keeps fun b o e => Heap.get?_push_of_some _ (keep' b o e)
  cases hf : codeAmong gpos ps.toList with
  | none =>
    refine wpAny_genexprCodeX hcode (cd.code hPs ht) (cd.tab hPs) hf fun c' h' tk hx hge hlt hco' _ htab' _ => ?_
    obtain ⟨o1, vs, f1, tf, fl, tg, inF, tx, tt, op, _, _, _, _, _, _, _, _, _, htr, _⟩ := hco'
    exact cont _ h' tk _ hx (Nat.le_trans hge (Nat.le_of_lt hlt)) htab'.2 ⟨_, rfl⟩ htr
  | some cv =>
    refine wpAny_genexprCode_hit hcode (cd.code hPs ht) hf ?_
    exact cont cv s2.heap s2.toks ps (Heap.ExtBut.refl _ _) (Nat.le_refl _) hPs ⟨#[], by simp⟩ ht
end
end GN
set_option maxRecDepth 100000
set_option maxHeartbeats 4000000
namespace GN
open PySem L2 PySem.Spec PyProof.Rows GenW DL GT
/-! ### a generator expression runs: over a list -/
theorem over_comp {A : Around} {elt : Expr} {cls : List Comprehension} {scope : Scope} {pos : Pos} {it acc : Value} {env : Env} : A.over (.compLoop (.GeneratorExp elt cls scope pos) 0 it acc env) [] = A.deeper env := by
  first
    | rfl
    | (obtain ⟨hd, d, fr, gs, u⟩ := A; simp [Around.over, Around.deeper, marksOver, frameCount, unitsOf, envsOf, guardsOf, pushEnvs, pushGuards, Code.envs, Code.env?, Code.isFrame, Code.guards, Code.isGuard, Code.weight, Code.frames, Code.isCreation, Code.isCaller, Code.cUnits])
/-- its invariant when it is woken first -/
theorem inv_gx {G : GP} {A : Around} {s : Shared} {H : Hp} {ip : List (Addr × Obj)} (hle : G.L ≤ G.env.locals) (hcl : G.env.cells = []) (hk : G.env.scope.kind = .function) (hgl : G.env.globals = mainGlobals) (hbl : G.env.builtins = builtinsNs) (hfrm : G.env.frame = some G.env.locals) (hnf : ∀ x, G.env.kindOf x ≠ some .cell ∧ G.env.kindOf x ≠ some .free)
    (hbz : G.base.objs.size ≤ G.L) (hfr : ∀ b ∈ frs G.outer, b < G.L) (hd : A.handled = none) (e0 : Env0 G.P G.w G.K G.mg G.base A G.outer s H) {m : Str → Option Value} (hns : s.heap.Ns G.env.locals m) (hLH : H G.env.locals = none)
    (hp : ∀ p ∈ G.self :: ip, s.heap.get? p.1 = some p.2 ∧ H p.1 = none ∧ p.1 ≠ G.env.locals ∧ p.1 ∉ frs G.outer ∧ ∀ v, p.2.data ≠ .cell v) :
    Inv (G.X A (cutS G.L s) H) ip (List.replicate G.N.length none) H s := by
  have hLlt : G.L < s.heap.objs.size := Nat.lt_of_le_of_lt hle hns.lt
  have hsz : (cutS G.L s).heap.objs.size = G.L := cut_size (Nat.le_of_lt hLlt)
  have nocell : ∀ x c, ¬ G.env.cells.lookup x = some c := fun x c h => by rw [hcl] at h; cases h
  refine ⟨⟨e0.mod, hk, hgl, hbl, ?_, fun x y c h => (nocell x c h).elim, fun x h => ?_, fun x c _ h => (nocell x c h).elim, fun _ => hd, ?_, .inr ⟨rfl, hfrm⟩, fun b hb => absurd hb (by simp [GP.X]), fun b o e => ?_, ?_, fun b o e h => absurd h (by simp [GP.X]), fun b hb => absurd hb (by simp [GP.X]), funs_cut e0.funs hfr, e0.frf⟩, rfl, e0.bare, ?_, ⟨m, hns, fun i x v h1 h2 h3 => ?_⟩, fun x c h => (nocell x c h).elim, hLH, fun x c h => (nocell x c h).elim, hp, e0.hok, List.length_replicate⟩
  · show (cutS G.L s).heap.objs.size ≤ G.env.locals
    rw [hsz]; exact hle
  · rcases h with h | h
    · exact ((hnf x).1 h).elim
    · exact ((hnf x).2 h).elim
  · show A.frames.map (G.env :: ·) = _
    rw [e0.frames]; rfl
  · have hb : b < G.L := Nat.lt_of_lt_of_le (Heap.lt_size e) hbz
    exact ⟨by show (cut G.L s.heap).get? b = _; rw [cut_lt hb]; exact (e0.bs b o e).1, (e0.bs b o e).2⟩
  · show G.base.objs.size ≤ (cutS G.L s).heap.objs.size
    rw [hsz]; exact hbz
  · refine ⟨fun b o e _ _ _ => (cut_some e).2, fun b o e _ _ _ => ⟨o.slots, (cut_some e).2⟩, fun b o _ n _ => n, fun b o e _ => ⟨o, (cut_some e).2⟩, fun _ _ q => q, fun _ _ _ q => q, fun b ps q => ⟨#[], by rw [show H b = some (HO.tbl ps) from q]; simp⟩⟩
  · rw [List.getElem?_replicate] at h2
    split at h2 <;> simp at h2
section
variable {G : GP} {Gd : Cells → Prop} {elt tg iter : Expr} {scope : Scope} {gpos : Pos} {js : List Nat} {g : WG} {we : WE} {I0 : Addr} {J : It} {tn : Nat → Heap → Prop} {M1 : Hp} {xs : List Vl} {items : List Dat}
theorem gx_loop (hcl : G.env.cells = []) (hfrm : G.env.frame = some G.env.locals) (hle : G.L ≤ G.env.locals) (hI : G.L ≤ I0) (hIl : I0 ≠ G.env.locals) (hIf : I0 ∉ frs G.outer) (hIs : G.self.1 ≠ I0) (hsl : G.L ≤ G.self.1) (hco : G.env.scope.isCoroutine = false)
    (T : Turn G.P G.w G.K tg J [I0] I0 tn) {Gi : Cells → Prop} (iok : ItOk G.K M1 J xs Gi) (hGi : ∀ c, Gd c → Gi c) (hlen : items.length = xs.length)
    (hg : ∀ A s H, Room G.k A → DG (G.X A s H) js tg g) (he : ∀ A s H, Room G.k A → DE (G.X A s H) elt we)
    (body : ∀ (i : Nat) (x : Vl), xs[i]? = some x → ∀ c1, Gd c1 → ∀ ρ : DEnv, ρ.length = G.N.length → g x ρ c1 fun ρ2 c2 => we ρ2 c2 fun y c3 => SubC c1 c3 ∧ ∃ d, items[i]? = some d ∧ y = .dat d) :
    ∀ (m i : Nat) (A : Around) (y : Gh) (s : Shared) (σ : L2.St) (H M : Hp) (ρ : DEnv), m = xs.length - i → i ≤ xs.length → Rm G A → Lg G y → Inv (G.X A (cutS G.L y.s) y.H) y.fp σ H s → Same M1 M → Same y.M M → Ok G.K M H y.cs → Rho G.K M σ ρ → G.g < s.gens.size → (∀ q ∈ y.fp, q.1 ≠ G.self.1) → (∀ q ∈ y.fp, q.1 ≠ I0) → H I0 = none → tn i s.heap → Gd y.cs →
      SegZ (model G.P G.w) A (HZ G.C Gd .done (items.drop i) A y) (.compLoop (.GeneratorExp elt [⟨tg, iter, [], 0⟩] scope gpos) 0 (.ref I0) .none G.env) ((model G.P G.w).den (.compLoop (.GeneratorExp elt [⟨tg, iter, [], 0⟩] scope gpos) 0 (.ref I0) .none G.env)) [] s := by
  have hLb : ∀ b ∈ [I0], G.L ≤ b := fun b hb => by rw [List.mem_singleton.mp hb]; exact hI
  have stat : ∀ {A' : Around} {y' : Gh} {H' : Hp}, Lg G y' → (∀ q ∈ y'.fp, q.1 ≠ I0) → H' I0 = none → ∀ b ∈ [I0], FpOk (G.X A' (cutS G.L y'.s) y'.H) y'.fp H' b := fun {A' y' H'} hy' hds hn b hb => by
    rw [List.mem_singleton.mp hb]
    refine ⟨hn, hIl, hIf, .inr (Nat.le_trans (Nat.le_of_eq (cut_size hy')) hI), fun x c h => (by have h : G.env.cells.lookup x = some c := h; rw [hcl] at h; cases h), fun p hp => ?_⟩
    rcases List.mem_append.mp hp with z | z
    · rw [List.mem_singleton.mp (show p ∈ [_] from z)]; exact hIs
    · exact hds p z
  intro m
  induction m with
  | zero =>
    intro i A y s σ H M ρ hm hi hr hy I h1 hM o r hgz hd1 hd2 hIn ht gd
    have ei : i = xs.length := by omega
    subst ei
    show SegZ _ A _ _ ((compTurn (.GeneratorExp elt [⟨tg, iter, [], 0⟩] scope gpos) 0 (.ref I0) .none G.env).onRaise (leaving G.env)) [] s
    rw [compTurn_gen, Sem.onRaise_eq_wrap]
    refine sz_bindw (wpAny_standAt ?_)
    refine sz_bindw ?_
    rw [over_comp]
    refine wpAny_mono (wpAny_sl (T.done (G.X A (cutS G.L y.s) y.H) rfl rfl rfl rfl xs.length y.fp (deafen s) σ H (fun _ _ => False) (inv_deaf I) (stat hy hd2 hIn) ht (iok.stop M H y.cs h1 o (hGi _ gd)))) (fun rr s3 ⟨s30, sl3, h3⟩ => ?_) fun _ _ ⟨_, _, z⟩ => z.elim
    obtain ⟨rfl, I3⟩ := h3
    have I' := inv_back sl3 I.bare I3
    rw [show items.drop xs.length = [] by rw [← hlen]; exact List.drop_length ..]
    exact sz_end (.ok .next) ⟨.inr rfl, H, M, ⟨I'.os, I'.bare, un_woken I', I'.hok, hM, o, fun q hq => ⟨(I'.pin q (List.mem_append_right _ hq)).1, (I'.pin q (List.mem_append_right _ hq)).2.1⟩⟩⟩
  | succ m ih =>
    intro i A y s σ H M ρ hm hi hr hy I h1 hM o r hgz hd1 hd2 hIn ht gd
    have hlt : i < xs.length := by omega
    have gi := hGi _ gd
    show SegZ _ A _ _ ((compTurn (.GeneratorExp elt [⟨tg, iter, [], 0⟩] scope gpos) 0 (.ref I0) .none G.env).onRaise (leaving G.env)) [] s
    rw [compTurn_gen, Sem.onRaise_eq_wrap]
    refine sz_bindw (wpAny_standAt ?_)
    refine sz_bindw ?_
    rw [over_comp]
    have hv : GvOk G.g [] s := ⟨hgz, fun p hp => by cases hp⟩
    refine wpAny_mono (wpAny_sl (T.item (G.X A (cutS G.L y.s) y.H) rfl rfl rfl rfl i y.fp (deafen s) σ H (fun _ _ => False) (inv_deaf I) (stat hy hd2 hIn) ht (iok.go i M H y.cs h1 o gi hlt))) (fun rr s3 ⟨s30, sl3, h3⟩ => ?_) fun _ _ ⟨_, _, z⟩ => z.elim
    obtain ⟨u, rfl, h3⟩ := h3
    refine sz_bindw ?_
    rw [over_comp]
    refine wpAny_mono (wpAny_sl2 sl3 h3) (fun _ s4 ⟨s40, sl4, h4⟩ => ?_) fun _ _ ⟨_, _, z⟩ => z.elim
    obtain ⟨x, H4, I40, rx, yl, t40, fr4⟩ := h4
    have I4 := inv_back sl4 I.bare I40
    have t4 : tn (i + 1) s4.heap := by rw [sl4.slept.eq]; exact t40
    have hv4 := gv_slept hv sl4
    obtain ⟨M4, xv, ex, s4', o4, rv⟩ := iok.yld i M H y.cs x H4 h1 o gi yl hlt
    have hI4 : H4 I0 = none := fr4 I0 List.mem_cons_self
    have I4a := I4.pinned (stat hy hd2 hI4 (A' := A)) (T.obj _ _ t4)
    refine sz_bindw ?_
    rw [over_comp]
    have hrl : ρ.length = G.N.length := by rw [← r.len]; exact I.len
    refine wpAny_mono (wpAny_sl ((hg A _ _ hr).run (y.fp ++ pinsAt [I0] s4.heap) (deafen s4) σ H4 x u (fun σ' H' => ∃ M' ρ' cs', Same M4 M' ∧ Ok G.K M' H' cs' ∧ Rho G.K M' σ' ρ' ∧ we ρ' cs' fun yv c3 => SubC y.cs c3 ∧ ∃ d, items[i]? = some d ∧ yv = .dat d) (inv_deaf I4a) rx
      ⟨M4, ρ, y.cs, xv, _, o4, r.mono s4', rv, body i xv ex y.cs gd ρ hrl, fun σ' ρ' M' H' cs' sm o' r' _ _ p => ⟨M', ρ', cs', sm, o', r', p⟩⟩)) (fun _ s5 ⟨s50, sl5, h5⟩ => ?_) fun _ _ ⟨_, _, z⟩ => z.elim
    obtain ⟨σ5, H5, I50, M5, ρ5, cs5, sm5, o5, r5, q5⟩ := h5
    have I5 := inv_back sl5 I4a.bare I50
    have hv5 := gv_slept hv4 sl5
    simp only [List.forIn_nil]
    refine sz_bindw (wpAny_pure ?_)
    simp only [if_true]
    have hyo : ∀ v, yieldOut G.env v = yieldValue v := fun v => by
      unfold yieldOut
      rw [if_neg (by rw [hco]; decide)]
    simp only [hyo]
    rw [Sem.bind_eq_wrap', Sem.bind_eq_wrap', Sem.wrap_wrap, Sem.wrap_wrap]
    refine sz_wrap ?_
    rw [over_comp]
    refine wpAny_mono (wpAny_sl ((he A _ _ hr).run (y.fp ++ pinsAt [I0] s4.heap) (deafen s5) σ5 H5 (fun v H' => ∃ x M' cs', Same M5 M' ∧ Ok G.K M' H' cs' ∧ RV G.K M' v x ∧ SubC y.cs cs' ∧ ∃ d, items[i]? = some d ∧ x = .dat d) (inv_deaf I5) ⟨M5, ρ5, cs5, _, o5, r5, q5, fun v x M' H' cs' s o' rv p => ⟨x, M', cs', s, o', rv, p.1, p.2⟩⟩)) (fun v s' ⟨s₁, sl, hs⟩ => ?_) fun x s' ⟨_, _, hx⟩ => hx.elim
    obtain ⟨yx, H', I1, ry, xd, M', cs', sm, o', rv', hsub, d, hd, rfl⟩ := hs
    have I' := inv_back sl I5.bare I1
    have hv' := gv_slept hv5 sl
    refine sz_at (sz_yield rfl fun p => ?_)
    have ed : items.drop i = d :: items.drop (i + 1) := drop_cons hd
    rw [ed]
    obtain ⟨mm, hns, hloc⟩ := I'.loc
    obtain ⟨oL, es, ep, hoL, hdat, hrest⟩ := id hns
    have hoL : s'.heap.get? G.env.locals = some oL := hoL
    obtain ⟨oI, heI, hoc⟩ := T.obj _ _ t4 I0 List.mem_cons_self
    have mI : (I0, oI) ∈ pinsAt [I0] s4.heap := mem_pinsAt List.mem_cons_self heI
    have hIp := I'.pin (I0, oI) (List.mem_append_right _ (List.mem_append_right _ mI))
    have hSp := I'.pin G.self (List.mem_append_left _ List.mem_cons_self)
    refine ⟨v, _, _, _, _, p, [], rfl, rfl, H', M', [(G.env.locals, oL), G.self, (I0, oI)], [], yx, ⟨I'.os, I'.bare, un_woken I', I'.hok, hM.trans (s4'.trans (sm5.trans sm)), o'.sub hsub, fun q hq => ?_⟩, ry, rv', ⟨fun q hq => ?_, List.mem_cons_of_mem _ List.mem_cons_self, ⟨oL, List.mem_cons_self⟩, fun p hp q hq => ?_⟩, hv', ?_⟩
    · have := I'.pin q (List.mem_append_right _ (List.mem_append_left _ hq))
      exact ⟨this.1, this.2.1⟩
    · rcases List.mem_cons.mp hq with z | z
      · rw [z]
        exact ⟨hoL, I'.free, hle, fun v z => by rw [hdat] at z; cases z⟩
      · rcases List.mem_cons.mp z with z | z
        · rw [z]; exact ⟨hSp.1, hSp.2.1, hsl, hSp.2.2.2.2⟩
        · rw [List.mem_singleton.mp z]; exact ⟨hIp.1, hIp.2.1, hI, hIp.2.2.2.2⟩
    · rcases List.mem_cons.mp hp with z | z
      · rw [z]
        exact (I'.pin q (List.mem_append_right _ (List.mem_append_left _ hq))).2.2.1
      · rcases List.mem_cons.mp z with z | z
        · rw [z]; exact hd1 q hq
        · rw [List.mem_singleton.mp z]; exact hd2 q hq
    · refine .inr fun A2 y2 W => ?_
      have hL := (W.pv (G.env.locals, oL) List.mem_cons_self)
      have hW := W.pv
      have hS2 := W.pv G.self (List.mem_cons_of_mem _ List.mem_cons_self)
      have hI2 := W.pv (I0, oI) (List.mem_cons_of_mem _ (List.mem_cons_of_mem _ List.mem_cons_self))
      have I2 : Inv (G.X A2 (cutS G.L y2.s) y2.H) y2.fp σ5 y2.H y2.s := by
        refine rebase (cut_size hy) hle hcl I' hfrm W.room.hd (show (A2.deeper G.env).handled = none from W.room.hd) W.env (fun o e => by rw [hoL] at e; cases e; exact hL.1) hL.2 (fun q hq => ?_) ?_
        · rcases List.mem_cons.mp hq with z | z
          · rw [z]
            exact ⟨hS2.1, hS2.2, hSp.2.2.1, hSp.2.2.2.1, hSp.2.2.2.2⟩
          · exact W.fp q z
        · show A2.frames.map (G.env :: ·) = _
          rw [W.env.frames]; rfl
      have hy' : Lg G y2 := Nat.le_of_lt (Nat.lt_of_le_of_lt hle (Heap.lt_size hL.1))
      have t2 : tn (i + 1) y2.s.heap := T.keep _ _ _ t4 fun b hb o e => by
        rw [List.mem_singleton.mp hb] at e ⊢
        rw [heI] at e
        cases e
        exact hI2.1
      refine sz_again rfl ?_
      exact ih (i + 1) A2 y2 y2.s σ5 y2.H y2.M ρ5 (by omega) hlt W.room hy' I2 (h1.trans (s4'.trans (sm5.trans (sm.trans W.same)))) (Same.refl _) W.ok ((r5.mono sm).mono W.same) W.gz (fun q hq => W.dis G.self (List.mem_cons_of_mem _ List.mem_cons_self) q hq) (fun q hq => W.dis (I0, oI) (List.mem_cons_of_mem _ (List.mem_cons_of_mem _ List.mem_cons_self)) q hq) hI2.2 t2 W.gd
end
end GN
set_option maxRecDepth 100000
set_option maxHeartbeats 4000000
namespace GN
open PySem L2 PySem.Spec PyProof.Rows GenW DL GT
/-- a generator expression over a list; P: the table of its code objects; n: its slots -/
def wGx (P : Addr) (n : Nat) (wl : WE) (g : WG) (we : WE) : WGe := fun ρ cs R => wl ρ cs fun x cs1 => cs1 P = some .tg ∧ ∃ xs items Gd, seqD cs1 x = some (true, xs) ∧ (∀ c, Gd c → seqD c x = some (true, xs)) ∧ items.length = xs.length ∧
  (∀ (i : Nat) (x' : Vl), xs[i]? = some x' → ∀ c1, Gd c1 → ∀ ρ' : DEnv, ρ'.length = n → g x' ρ' c1 fun ρ2 c2 => we ρ2 c2 fun y c3 => SubC c1 c3 ∧ ∃ d, items[i]? = some d ∧ y = .dat d) ∧ R items .done Gd cs1
theorem Ok.tbl {K : Frag} {M H : Hp} {cs : Cells} {P : Addr} {ps : Array Value} (o : Ok K M H cs) (h : cs P = some .tg) (ht : TriplesOk ps.toList) : Ok K M (upd H P (.tbl ps)) cs := by
  have := o.setC h (u := .tbl ps) (c := .tg) ht
  rw [Cells.put_self h] at this
  exact this
theorem ok_tg {K : Frag} {M H : Hp} {cs : Cells} {P : Addr} (o : Ok K M H cs) (h : cs P = some .tg) : ∃ ps, H P = some (.tbl ps) ∧ TriplesOk ps.toList := by
  obtain ⟨_, u, e, r⟩ := o.cell P _ h
  cases u <;> first | exact (show False from r).elim | exact ⟨_, e, r⟩
abbrev gxG (X : Cx) (N : List Str) (scope : Scope) (Lf : Addr) (code : Value) (k : Nat) (self : Addr × Obj) (gn : Nat) (L : Addr) : GP := ⟨X.prog, X.w, X.K, X.mg, X.base, N, genEnv scope [] Lf code builtinsNs X.env, X.stack, k, self, gn, L, fun _ => True⟩
theorem dge_gx {X : Cx} {c P : Addr} {N : List Str} {elt tg iter : Expr} {scope : Scope} {gpos : Pos} {js : List Nat} {wl : WE} {g : WG} {we : WE} {k : Nat} (hroom : X.A.depth < recursionLimit) (TB : GxR.TabB X.base X.mg c P) (hcode : X.env.code = .ref c) (hl : DE X iter wl)
    (hg : ∀ Lf code self gn L A s H, Room k A → DG ((gxG X N scope Lf code k self gn L).X A s H) js tg g) (he : ∀ Lf code self gn L A s H, Room k A → DE ((gxG X N scope Lf code k self gn L).X A s H) elt we)
    (hco : scope.isCoroutine = false := by rfl) (hcell : ∀ y ∈ scope.names, y.2 ≠ .cell ∧ y.2 ≠ .free := by decide) (h0 : scope.names.lookup (".0" : Str) = some NameKind.local := by rfl) (hkind : scope.kind = .function := by rfl) (hclos : closureFor scope X.env = pure [] := by rfl) (hs : ∀ v, genFold iter X.env v = pure v := by intro _; rfl) :
    DGe X k (.GeneratorExp elt [⟨tg, iter, [], 0⟩] scope gpos) (wGx P N.length wl g we) := by
  refine ⟨fun pins s σ H M ρ cs R I o r h => ?_⟩
  refine gx_make (pins := pins) (σ := σ) hroom TB hcode hco hclos (fun y hy => (hcell y hy).1) h0 hkind hs ?_
  refine wpAny_gsz (n := s.gens.size) (Nat.le_refl _) (wpAny_mono (hl.run pins s σ H (fun v H1 => ∃ x M1 cs1, Same M M1 ∧ Ok X.K M1 H1 cs1 ∧ RV X.K M1 v x ∧ cs1 P = some .tg ∧ ∃ xs items Gd, seqD cs1 x = some (true, xs) ∧ (∀ c, Gd c → seqD c x = some (true, xs)) ∧ items.length = xs.length ∧
    (∀ (i : Nat) (x' : Vl), xs[i]? = some x' → ∀ c1, Gd c1 → ∀ ρ' : DEnv, ρ'.length = N.length → g x' ρ' c1 fun ρ2 c2 => we ρ2 c2 fun y c3 => SubC c1 c3 ∧ ∃ d, items[i]? = some d ∧ y = .dat d) ∧ R items .done Gd cs1) I ⟨M, ρ, cs, _, o, r, h, fun v x M' H' cs' sm o' rv p => ⟨x, M', cs', sm, o', rv, p⟩⟩) (fun xv s1 ⟨v, H1, I1, rv1, q1⟩ hsz => ?_) fun _ _ x _ => x)
  obtain ⟨x, M1, cs1, sm1, o1, rx, hP, xs, items, Gd, hsq, hGd, hlen, body, hR⟩ := q1
  obtain ⟨yl, vs, ev, hyl, _⟩ := seqD_list o1 rx hsq
  subst ev
  obtain rfl : xv = Value.ref yl := rv1
  obtain ⟨its, rvs, hl', hz⟩ := I1.list hyl
  have hIL := hl'.isList
  refine wpAny_pyIter_list hIL ?_
  generalize ho : ({ cls := .type "list_iterator", data := .fields #[.ref yl, .int 0 0] } : Obj) = oI
  have hIt : (s1.heap.push oI).IsListIter s1.heap.objs.size yl 0 := by
    subst ho
    exact ⟨_, Heap.get?_push_size _ rfl, rfl, rfl⟩
  have hIo : (s1.heap.push oI).get? s1.heap.objs.size = some oI := Heap.get?_push_size _ (by rw [← ho]; rfl)
  have hoI : ∀ v, oI.data ≠ .cell v := fun v z => by rw [← ho] at z; cases z
  have I2 : Inv X pins σ H1 { s1 with heap := s1.heap.push oI } := I1.kept (t' := s1.toks) fun b u e => Heap.get?_push_of_some _ e
  obtain ⟨ps, hPs, htr⟩ := ok_tg o1 hP
  refine ⟨H1, ps, I2, hPs, htr, fun code Lf a oL go more s5 at5 => ?_⟩
  have hI0 : H1 s1.heap.objs.size = none := I1.hok.fresh (Nat.le_refl _)
  have sz2 : (s1.heap.push oI).objs.size = s1.heap.objs.size + 1 := Heap.size_push ..
  have hLf : s1.heap.objs.size + 1 ≤ Lf := by rw [← sz2]; exact at5.lf
  have hla : Lf < a := at5.la
  have hIL2 : s1.heap.objs.size < Lf := hLf
  have hIa : s1.heap.objs.size < a := Nat.lt_trans hIL2 hla
  have hn : ∀ b, s1.heap.objs.size ≤ b → upd H1 P (.tbl (ps ++ more)) b = none := fun b hb => by
    have : b ≠ P := fun z => by
      have := I1.hok.fresh hb
      rw [z, hPs] at this
      cases this
    rw [upd_ne this]
    exact I1.hok.fresh hb
  have hIP : s1.heap.objs.size ≠ P := fun z => by rw [← z, hI0] at hPs; cases hPs
  have o5 : Ok X.K M1 (upd H1 P (.tbl (ps ++ more))) cs1 := Ok.tbl o1 hP at5.tri
  let G : GP := gxG X N scope Lf code k (a, go) s1.gens.size s1.heap.objs.size
  have hloL : ∀ v, oL.data ≠ .cell v := fun v z => by
    obtain ⟨oL', es, ep, e1, e2, _⟩ := at5.ns
    rw [at5.hoL] at e1
    cases e1
    rw [e2] at z
    cases z
  have hgo : ∀ v, go.data ≠ .cell v := fun v z => by
    obtain ⟨vs, e⟩ := at5.cls.2
    rw [e] at z
    cases z
  have nfs : ∀ b ∈ frs X.stack, b < s1.heap.objs.size := fun b hb => by
    rcases List.mem_cons.mp (I1.stkSub b hb) with z | z
    · rw [z]; exact I1.lt
    · apply Nat.lt_of_not_le
      intro z2
      exact I1.nofs z2 z
  refine ⟨a, _, M1, cs1, items, .done, Gd, G.C, .fresh (.compStart (.GeneratorExp elt [⟨tg, iter, [], 0⟩] scope gpos) 0 (.ref s1.heap.objs.size) .none G.env), [(Lf, oL), (a, go), (s1.heap.objs.size, oI)], [], rfl, sm1, ⟨⟨rfl, rfl, rfl, rfl, rfl, rfl, fun p hp => Heap.lt_size (I1.pin p hp).1, I1.lt, fun x c hx => ?_, I1.sz, fun b hb => ?_, nfs, at5.cls, at5.gen⟩, rfl, rfl, at5.inv, o5, ?_, hsz, fun p hp => ?_, List.mem_cons_of_mem _ List.mem_cons_self, ⟨oL, List.mem_cons_self⟩, ⟨?_, fun p hp => by cases hp⟩, ?_⟩, hR⟩
  · obtain ⟨v, q⟩ := I1.cell x c hx
    exact q.lt
  · apply Nat.lt_of_not_le
    intro z
    exact I1.nofs z hb
  · show s5.gens[s1.gens.size]? = some _
    rw [at5.gens]
    exact Array.getElem?_push_size ..
  · rcases List.mem_cons.mp hp with z | z
    · rw [z]
      exact ⟨at5.hoL, hn _ (Nat.le_of_lt hIL2), Nat.le_of_lt hIL2, hloL⟩
    · rcases List.mem_cons.mp z with z | z
      · rw [z]
        exact ⟨at5.hgo, hn _ (Nat.le_of_lt hIa), Nat.le_of_lt hIa, hgo⟩
      · rw [List.mem_singleton.mp z]
        exact ⟨at5.keep _ _ hIP hIo, hn _ (Nat.le_refl _), Nat.le_refl _, hoI⟩
  · show s1.gens.size < s5.gens.size
    rw [at5.gens, Array.size_push]
    exact Nat.lt_succ_self _
  · refine .inr fun A y W => ?_
    have pL := W.pv (Lf, oL) List.mem_cons_self
    have pS := W.pv (a, go) (List.mem_cons_of_mem _ List.mem_cons_self)
    have pI := W.pv (s1.heap.objs.size, oI) (List.mem_cons_of_mem _ (List.mem_cons_of_mem _ List.mem_cons_self))
    have hns : y.s.heap.Ns Lf (fun y => if y = ".0" then some (.ref s1.heap.objs.size) else none) := at5.ns.at' fun o e => by rw [at5.hoL] at e; cases e; exact pL.1
    have hnf : ∀ x, G.env.kindOf x ≠ some .cell ∧ G.env.kindOf x ≠ some .free := fun x => by
      have key : ∀ kd, scope.names.lookup x = some kd → kd ≠ .cell ∧ kd ≠ .free := fun kd e => hcell (x, kd) (PySem.mem_of_lookup e)
      exact ⟨fun e => (key _ e).1 rfl, fun e => (key _ e).2 rfl⟩
    have Iy : Inv (G.X A (cutS G.L y.s) y.H) y.fp (List.replicate N.length none) y.H y.s := by
      refine inv_gx (G := G) (Nat.le_of_lt hIL2) rfl hkind I1.ok.glob rfl rfl hnf (Nat.le_trans I1.ok.bsz I1.sz) nfs W.room.hd W.env hns pL.2 (fun p hp => ?_)
      rcases List.mem_cons.mp hp with z | z
      · rw [z]
        refine ⟨pS.1, pS.2, Nat.ne_of_gt hla, fun z => ?_, hgo⟩
        exact Nat.lt_irrefl _ (Nat.lt_trans hIa (nfs _ z))
      · exact W.fp p z
    have hy : Lg G y := Nat.le_of_lt (Heap.lt_size pI.1)
    have tI : y.s.heap.IsListIter s1.heap.objs.size yl 0 := by
      obtain ⟨o', e1, e2⟩ := hIt
      rw [hIo] at e1
      cases e1
      exact ⟨_, pI.1, e2⟩
    have rho : Rho X.K y.M (List.replicate N.length none) (List.replicate N.length none) := ⟨by rw [List.length_replicate, List.length_replicate], fun i x e => by
      rw [List.getElem?_replicate] at e
      split at e <;> simp at e⟩
    have loop := gx_loop (G := G) (Gd := Gd) (elt := elt) (tg := tg) (iter := iter) (scope := scope) (gpos := gpos) (js := js) (g := g) (we := we) (I0 := s1.heap.objs.size) (xs := xs) (items := items) (M1 := M1) rfl rfl (Nat.le_of_lt hIL2) (Nat.le_refl _) (Nat.ne_of_lt hIL2) (fun z => Nat.lt_irrefl _ (nfs _ z)) (Nat.ne_of_gt hIa) (Nat.le_of_lt hIa) hco
      (turn_list yl s1.heap.objs.size) (it_list rx) hGd hlen (fun A s H => hg Lf code (a, go) s1.gens.size s1.heap.objs.size A s H) (fun A s H => he Lf code (a, go) s1.gens.size s1.heap.objs.size A s H) body
      (xs.length - 0) 0 A y y.s _ y.H y.M _ rfl (Nat.zero_le _) W.room hy Iy W.same (Same.refl _) W.ok rho W.gz (fun q hq => W.dis (a, go) (List.mem_cons_of_mem _ List.mem_cons_self) q hq) (fun q hq => W.dis (s1.heap.objs.size, oI) (List.mem_cons_of_mem _ (List.mem_cons_of_mem _ List.mem_cons_self)) q hq) pI.2 tI W.gd
    rw [List.drop_zero] at loop
    show SegZ _ A _ _ ((compStart (.GeneratorExp elt [⟨tg, iter, [], 0⟩] scope gpos) 0 (.ref s1.heap.objs.size) .none G.env).onRaise (leaving G.env)) [] y.s
    unfold compStart
    rw [Sem.onRaise_eq_wrap]
    show SegZ _ A _ _ ((ask >>= _).wrap _ _ _ _) [] y.s
    refine sz_bindw (wpAny_askSetting ?_)
    split
    · exact sz_again rfl loop
    · refine sz_bindw (wpAny_rule ?_)
      show SegZ _ A _ _ ((standAt iter.pos >>= _).wrap _ _ _ _) [] y.s
      exact sz_bindw (wpAny_standAt (sz_bindw ((turn_list (P := X.prog) (w := X.w) (K := X.K) (tg := tg) yl s1.heap.objs.size).self _ 0 _ _ _ tI (sz_again rfl loop))))
end GN
set_option maxRecDepth 100000
set_option maxHeartbeats 4000000
namespace GN
open PySem L2 PySem.Spec PyProof.Rows GenW DL GT
/-! ### sum(g) -/
abbrev sumObj (i : Int) (t : Tok) (c : Nat) : Obj := { cls := .type "list", dict := none, data := .seq #[.int i t] c, slots := #[] }
theorem sum_take {is : List Int} {i : Nat} {x : Int} (h : is[i]? = some x) : (is.take (i + 1)).sum = (is.take i).sum + x := by
  rw [take_snoc' h, List.sum_append]; simp
section
variable {X : Cx} {pins : List (Addr × Obj)} {C : GC} {Gd : Cells → Prop} {fin : GEnd} {is : List Int} {cs : Cells} {σ : L2.St} {M1 : Hp} {S : Addr}
theorem drain_sum (hC : Held X pins C) (hSy : C.L ≤ S) (hf : fin = .done) {A : Around} {R : Result → Shared → Prop} (hh : A.handled = none) (hA : A.frames = X.A.frames) (dp : A.depth < recursionLimit) (hr : Room C.k A.in1.in1) (gd : Gd cs)
    (hend : ∀ s' H' M' t c, Inv X (pins ++ [(S, sumObj is.sum t c)]) σ H' s' → Same M1 M' → Ok X.K M' H' cs → R (.ok (.ret (.int is.sum t))) s') :
    ∀ (m i : Nat) (s : Shared) (H M : Hp) (gs : GenState) (pv : List (Addr × Obj)) (gv : List (Nat × GenState)) (t : Tok) (c : Nat) (stage : Int), (stage = 0 ∨ stage = 2) → m = is.length - i → i ≤ is.length → Cons X pins C Gd fin (is.map .int) cs σ M1 S i s (sumObj (is.take i).sum t c) H M gs pv gv →
      codeAny (model X.prog X.w) A (.builtin "sum.loop" ⟨[.ref C.self.1, .ref S, rawInt stage, rawInt 0], []⟩) R s := by
  intro m
  induction m using Nat.strongRecOn with
  | ind m ih =>
    intro i s H M gs pv gv t c stage hstage hm hi co
    have hS0 := (co.inv.pin (S, _) (List.mem_append_right _ (List.mem_append_right _ List.mem_cons_self))).1
    refine codeAny_builtin F.entry_sum_loop ?_
    rw [Around.under_plainId F.plain_sum_loop _]
    show wpAny _ A.in1 (seqItems? (.ref S) >>= _) _ _ s
    refine wpAny_bind (wpAny_seqItems hS0 rfl ?_)
    show wpAny _ A.in1 (tryCatch (pyNext (.ref C.self.1)) _ >>= _) _ _ s
    refine wpAny_bind (wpAny_tryCatch (co.next (A := A.in1) hC hf hh hA dp hr gd (by rw [List.length_map]; exact hi) (fun d v x s' H' M' gs' pv' gv' hd rv rx sm co' => ?_) (fun s' H' M' hi' I' sm o' => ?_)))
    · rw [List.getElem?_map] at hd
      obtain ⟨z, hz, ed⟩ := Option.map_eq_some_iff.mp hd
      subst ed
      have hlt := (List.getElem?_eq_some_iff.mp hz).1
      have ex : x = .int z := by cases rx; rfl
      subst ex
      obtain ⟨tz, rfl⟩ : ∃ tz, v = .int z tz := rv
      have hS := (co'.inv.pin (S, _) (List.mem_append_right _ (List.mem_append_right _ List.mem_cons_self))).1
      have fin1 : ∀ (h' : Heap) (tk : Nat) (t' : Tok) (c' : Nat) (stage' : Int), (stage' = 0 ∨ stage' = 2) → (∀ b o, b ≠ S → s'.heap.get? b = some o → h'.get? b = some o) → h'.get? S = some (sumObj ((is.take i).sum + z) t' c') → codeAny (model X.prog X.w) A (.builtin "sum.loop" ⟨[.ref C.self.1, .ref S, rawInt stage', rawInt 0], []⟩) R { s' with heap := h', toks := tk } := fun h' tk t' c' stage' hst' hk hS' => by
        have co2 := co'.repin (tk := tk) hC hSy hk hS' (fun v z => by cases z)
        rw [← sum_take hz] at co2
        exact ih (is.length - (i + 1)) (by omega) (i + 1) _ H' M' gs' pv' gv' t' c' stage' hst' rfl hlt co2
      have upd1 : ∀ (h : Heap) (f : Obj → Obj) b o, b ≠ S → h.get? b = some o → (h.update S f).get? b = some o := fun h f b o hb e => (Heap.get?_update_other _ _ (Ne.symm hb)).trans e
      rcases hstage with rfl | rfl
      · show wpAny _ A.in1 (if (_ : Bool) = true then (mkInt ((is.take i).sum + z) >>= _) else _) _ _ _
        split
        · refine wpAny_bind (wpAny_mkInt ?_)
          show wpAny _ A.in1 (updateSeq S (fun _ => #[.int ((is.take i).sum + z) s'.toks]) >>= _) _ _ _
          refine wpAny_bind ?_
          refine wpAny_updateSeq hS rfl (wpAny_pure ⟨plainId_quiet F.plain_sum_loop _, fin1 _ _ s'.toks _ 0 (.inl rfl) (fun b o hb e => upd1 _ _ b o hb e) (Heap.get?_update_self _ hS rfl)⟩)
        · refine wpAny_bind (wpAny_rule ?_)
          refine wpAny_bind (wpAny_attempt (wpAny_holding (PySem.P.add_int ?_)))
          show wpAny _ A.in1 (updateSeq S (fun _ => #[.int ((is.take i).sum + z) s'.toks]) >>= _) _ _ _
          refine wpAny_bind ?_
          refine wpAny_updateSeq hS rfl ?_
          have hS2 := Heap.get?_update_self (Obj.mapSeq fun _ => #[Value.int ((is.take i).sum + z) s'.toks]) hS rfl
          refine wpAny_bind (wpAny_letGo ?_)
          refine wpAny_bind ?_
          refine wpAny_updateSeq hS2 rfl (wpAny_pure ⟨plainId_quiet F.plain_sum_loop _, fin1 _ _ s'.toks _ 2 (.inr rfl) (fun b o hb e => upd1 _ _ b o hb (upd1 _ _ b o hb e)) (Heap.get?_update_self _ hS2 rfl)⟩)
      · show wpAny _ A.in1 ((holding [Value.int z tz] (binaryOp .Add (.int (is.take i).sum t) (.int z tz))).attempt >>= _) _ _ _
        refine wpAny_bind (wpAny_attempt (wpAny_holding (PySem.P.add_int ?_)))
        show wpAny _ A.in1 (updateSeq S (fun _ => #[.int ((is.take i).sum + z) s'.toks]) >>= _) _ _ _
        refine wpAny_bind ?_
        refine wpAny_updateSeq hS rfl ?_
        have hS2 := Heap.get?_update_self (Obj.mapSeq fun _ => #[Value.int ((is.take i).sum + z) s'.toks]) hS rfl
        refine wpAny_bind (wpAny_letGo ?_)
        refine wpAny_bind ?_
        refine wpAny_updateSeq hS2 rfl (wpAny_pure ⟨plainId_quiet F.plain_sum_loop _, fin1 _ _ s'.toks _ 2 (.inr rfl) (fun b o hb e => upd1 _ _ b o hb (upd1 _ _ b o hb e)) (Heap.get?_update_self _ hS2 rfl)⟩)
    · rw [List.length_map] at hi'
      subst hi'
      rw [List.take_of_length_le (Nat.le_refl _)] at I'
      have := hend s' H' M' t c I' (co.same.trans sm) o'
      rw [List.take_of_length_le (Nat.le_refl _)]
      exact wpAny_pure this
end
def wSumG (wg : WGe) : WE := fun ρ cs P => wg ρ cs fun ds fin Gd cs1 => fin = .done ∧ Gd cs1 ∧ ∃ is : List Int, ds = is.map .int ∧ P (.int is.sum) cs1
section
variable {X : Cx} {e : Expr} {pos p : Pos} {k : Nat}
theorem de_sumG {wg : WGe} (hc : X.calm = true) (hi : DGe X k e wg) (hr : Room (k + 3) X.A) (hm : X.mg "sum" = none) (hg : Gl X "sum" := by rfl) (he : starEach [e] X.env = (false, eval e X.env) :: starEach [] X.env := by rfl) : DE X (.Call (.Name "sum" p) [e] [] pos) (wSumG wg) := by
  refine ⟨fun pins s σ H Q I ⟨M, ρ, cs, P, o, r, h, kk⟩ => ?_⟩
  have hh : X.A.handled = none := I.ok.hd hc
  refine wpAny_Call_Name_kw (ld_blt I hg hm (show bootBuiltins "sum" = some (.builtin "sum") by decide +kernel) ?_ (by decide) (by decide))
  rw [he]
  refine Calls.callWith_builtin (by rfl) (Calls.evalArgs_plain ?_)
  show wpAny _ _ (spliced ((false, eval e X.env) :: backTo pos (starEach [] X.env))) _ _ s
  refine Calls.spliced_cons (thn (hi.run pins s σ H M ρ cs _ I o r h) fun u s1 h1 => ?_)
  obtain ⟨a, H1, M1, cs1, ds, fin, Gd, C, gs0, pv0, gv0, rfl, sm1, mk, hfin, gd, is, rfl, hnew⟩ := h1
  refine Calls.spliced_nil ?_
  have hC := mk.held
  have ea : C.self.1 = a := mk.ea
  have ek : C.k = k := mk.ek
  have I2 : Inv X pins σ H1 s1 := mk.inv
  have hself := mk.pvk _ mk.self
  have hSy : C.L ≤ s1.heap.objs.size := Nat.le_trans hself.2.2.1 (Nat.le_of_lt (Heap.lt_size hself.1))
  have hgA : s1.heap.IsGen a C.g := by have := hC.gen _ hself.1; rw [ea] at this; exact this
  have nS : H1 s1.heap.objs.size = none := I2.hok.fresh (Nat.le_refl _)
  refine call_function_tree F.kind_sum F.plain_sum F.entry_sum (F.args_sum1 _) ?_
  unfold Builtin.«sum»
  show wpAny _ _ (if ([Value.ref a].length + 0 > 2) then _ else _) _ _ _
  rw [if_neg (by show ¬ (1 + 0 > 2); decide)]
  refine wpAny_bind (wpAny_of_eq (show Builtin.Builtins.bindParams "sum" ["start"] 0 { } = pure [none] from rfl) ?_)
  refine wpAny_bind (wpAny_pyIter_gen hgA ?_)
  refine wpAny_bind (wpAny_mkInt ?_)
  refine wpAny_bind (wpAny_pure ?_)
  simp only [List.forIn_cons, List.forIn_nil]
  refine wpAny_bind (wpAny_bind (wpAny_bind (wpAny_isInstance (T := "int") (b := false) (typeIs_int _ _ _) PySem.sub_int_str ?_)))
  simp only [Bool.false_eq_true, if_false]
  refine wpAny_pure (wpAny_bind (wpAny_bind (wpAny_isInstance (T := "int") (b := false) (typeIs_int _ _ _) PySem.sub_int_bytes ?_)))
  simp only [Bool.false_eq_true, if_false]
  refine wpAny_pure (wpAny_bind (wpAny_bind (wpAny_isInstance (T := "int") (b := false) (typeIs_int _ _ _) PySem.sub_int_bytearray ?_)))
  simp only [Bool.false_eq_true, if_false]
  refine wpAny_pure (wpAny_pure ?_)
  refine wpAny_bind (wpAny_newObj_type ?_)
  refine wpAny_pure ⟨plainId_quiet F.plain_sum_loop _, ?_⟩
  have k4 : ∀ b o, s1.heap.get? b = some o → (s1.heap.push { cls := .type "list", data := .seq #[.int 0 s1.toks] }).get? b = some o := fun b o e => Heap.get?_push_of_some _ e
  have hS5 : (s1.heap.push { cls := .type "list", data := .seq #[.int 0 s1.toks] }).get? s1.heap.objs.size = some (sumObj 0 s1.toks 0) := Heap.get?_push_size _ rfl
  have I4 : Inv X pins σ H1 { s1 with heap := s1.heap.push { cls := .type "list", data := .seq #[.int 0 s1.toks] }, toks := s1.toks + 1 } := I2.kept (t' := s1.toks + 1) k4
  have I5 : Inv X (pins ++ [(s1.heap.objs.size, sumObj 0 s1.toks 0)]) σ H1 { s1 with heap := s1.heap.push { cls := .type "list", data := .seq #[.int 0 s1.toks] }, toks := s1.toks + 1 } := I4.pins_of fun q hq => by
    rcases List.mem_append.mp hq with z | z
    · exact I4.pin q (List.mem_append_right _ z)
    · rw [List.mem_singleton.mp z]
      exact ⟨hS5, nS, Nat.ne_of_gt (Nat.lt_of_lt_of_le hC.locl hSy), fun z => Nat.lt_irrefl _ (Nat.lt_of_lt_of_le (hC.fsl _ z) hSy), fun v z => by cases z⟩
  have e1 : (C.self.1 : Addr) = a := ea
  have key := fun (R : Result → Shared → Prop) => drain_sum (R := R) (σ := σ) (M1 := M1) (S := s1.heap.objs.size) (cs := cs1) (Gd := Gd) (is := is) (A := X.A) hC hSy hfin hh rfl (by have := hr.dp; show X.A.depth < _; omega) (by rw [ek]; exact ⟨hr.hd, by have := hr.dp; show X.A.depth + 3 * k + 5 < _; omega, by have := hr.un; show X.A.units + 1 + 1 + 16 * k + 200 < _; omega⟩) gd
  rw [e1] at key
  refine key _ (fun s' H' M' t c I' sm o' => ?_) _ 0 _ H1 M1 gs0 pv0 gv0 s1.toks 0 0 (.inl rfl) rfl (Nat.zero_le _) ⟨I5, Same.refl _, mk.ok, mk.gsk, fun q hq => ?_, mk.self, mk.loc, ⟨mk.gvk.sz, mk.gvk.at_⟩, fun q hq => ?_, by rw [List.drop_zero]; exact mk.hands⟩
  · have J : Inv X pins σ H' s' := I'.pins_of fun p hp => I'.pin p (List.mem_append_right _ (List.mem_append_left _ hp))
    exact ⟨.int is.sum, H', J, ⟨t, rfl⟩, kk _ _ M' H' cs1 (sm1.trans sm) o' (rv_dat (.int _)) hnew⟩
  · obtain ⟨q1, q2, q3, q4⟩ := mk.pvk q hq
    exact ⟨k4 _ _ q1, q2, q3, q4⟩
  · exact Nat.ne_of_gt (Heap.lt_size (mk.pvk q hq).1)
end
end GN
namespace DL
open PySem L2
/-- the program's classes, by their addresses -/
structure CE where
  Tree : Addr := 0
  Stretch : Addr := 0
  Account : Addr := 0
  LimitedAccount : Addr := 0
  SavingsAccount : Addr := 0
  Books : Addr := 0
  Ledger : Addr := 0
  OrderError : Addr := 0
  InvalidCalendar : Addr := 0
  InvalidOrder : Addr := 0
  InvalidPlan : Addr := 0
  DifferentCalendars : Addr := 0
  InvalidRange : Addr := 0
  InvalidCount : Addr := 0
  Endless : Addr := 0
  InvalidName : Addr := 0
  UnknownKind : Addr := 0
  InvalidAmount : Addr := 0
  Overdrawn : Addr := 0
  DuplicateName : Addr := 0
  UnknownAccount : Addr := 0
  TooManyAccounts : Addr := 0
  NotEmpty : Addr := 0
  WrongDay : Addr := 0
  SameAccount : Addr := 0
  UnknownOrder : Addr := 0
  TooManyOrders : Addr := 0
  InvalidOperation : Addr := 0
  InvalidText : Addr := 0
  T_balance_at : Addr := 0
  T_count_below : Addr := 0
  T_least_balance : Addr := 0
  T_law : Addr := 0
theorem never_fn {P : Program} {w : World} {K : Frag} {mg : Str → Option Value} {base : Heap} {f : Addr} {fd : FuncData} {ps : List Str} {k : Nat} {sp : DSp} (h : ∀ xs cs Q XP, ¬ sp xs cs Q XP) : FnOk P w K mg base CX0 k f fd ps (liftSp K sp) :=
  ⟨fun _ _ _ _ ⟨_, _, _, _, _, _, _, z, _⟩ => (h _ _ _ _ z).elim, fun _ _ _ _ _ _ _ _ _ _ _ _ _ ⟨_, _, _, _, _, _, _, z, _⟩ => (h _ _ _ _ z).elim⟩
end DL
set_option maxRecDepth 100000
set_option maxHeartbeats 4000000
/-! the end of a law whose defs hold generator expressions or lambdas: tables of code objects -/
namespace DL
open PySem L2 PySem.Spec PyProof.Rows
theorem fn_dataC {P : Program} {w : World} {K : Frag} {mg : Str → Option Value} {base : Heap} {x qual : Str} {st : Stmt} {f : Addr} {fd : FuncData} {N ps : List Str} {k : Nat} {dsp : DSp} {ws : WS} {cdv : Value} (F : Fun K x qual st f fd) (hcd : fd.code = cdv) (S : FnScope N ps (defScope st))
    (len : ∀ xs cs Q XP, dsp xs cs Q XP → xs.length = ps.length)
    (body : ∀ (A : Around) (outer : List Env) (s : Shared) (H : Hp) (E : XK), Room k (A.deeper (PyProof.Rows.envOfC qual (defScope st) s.heap.objs.size f cdv)) → DSs (cxOf CX0 P w K mg base N qual (defScope st) f cdv A outer s H E).nox (defBody st) ws)
    (pure : ∀ xs cs Q XP, dsp xs cs Q XP → ws (retE K Q) (startD N.length xs) cs) : FnOk P w K mg base CX0 (k + 1) f fd ps (liftSp K dsp) := by
  obtain ⟨oc, od, kV, doc, pm, an, cdv', ct, osl, rfl, lk, hcd'⟩ := F.ex
  have e : cdv' = cdv := hcd
  subst e
  refine fn_of lk hcd' S (fun vs H Q E ⟨M, xs, cs, P', XP, o, r, d, _⟩ => (Paired.len r).trans (len xs cs P' XP d)) fun A outer s H vs Q E hr ⟨M, xs, cs, P', XP, o, r, d, kk, _⟩ => ⟨_, (body A outer s H E hr).nox, ?_⟩
  exact ⟨M, startD N.length xs, cs, retE K P', o, start_rho r, pure xs cs P' XP d, ⟨fun σ' ρ' M' H' cs' s o' _ p => kk.gh _ _ M' H' cs' s o' (rv_dat .non) p, kk.gh, fun _ _ _ _ _ _ _ _ p => p.elim, fun _ _ _ _ _ _ _ _ p => p.elim⟩⟩
/-- the law's promise, with tables -/
def spLawT (K : Frag) (ts : List Addr) : Sp := fun vs H Q _ => ∃ (a : Addr) (ns : List Int), vs = [.ref a] ∧ SqL K H a (ns.map V.int) ∧ ns.length ≤ 63 ∧ (∀ P ∈ ts, H P = some (.tbl #[])) ∧ ∀ H', Q (.bl true) H'
theorem law_impT {K : Frag} {ts : List Addr} {cs0 : Cells} {dsp : DSp} (hcs : ∀ b c, cs0 b = some c → b ∈ ts ∧ (c = .tg ∨ ∃ q, c = .tl q)) (h : ∀ (ns : List Int) Q XP, ns.length ≤ 63 → (∀ cs', Q (.dat (.bl true)) cs') → dsp [.dat (.lst (ns.map .int))] cs0 Q XP) : ∀ vs H Q E, spLawT K ts vs H Q E → liftSp K dsp vs H Q E := by
  rintro vs H Q E ⟨a, ns, rfl, hS, hl, hT, k⟩
  let M : Hp := fun b => if b ∈ ts then none else H b
  have sm : Same M H := fun b u e => by
    have e : (if b ∈ ts then none else H b) = some u := e
    split at e
    · cases e
    · exact e
  have hS' : SqL K M a (ns.map V.int) := by
    have hn : ∀ {u : HO}, H a = some u → (∀ q, u ≠ .tbl q) → M a = some u := fun {u} e hu => by
      show (if a ∈ ts then none else H a) = some u
      rw [if_neg (fun z => by rw [hT a z] at e; cases e; exact hu _ rfl)]
      exact e
    rcases hS with (h | ⟨o, h⟩) | h
    · exact .inl (.inl (hn h fun q z => by cases z))
    · exact .inl (.inr ⟨o, hn h fun q z => by cases z⟩)
    · exact .inr h
  have hd : DrAll K M (ns.map V.int) (ns.map Dat.int) := by
    clear hS hS' hl
    induction ns with
    | nil => exact .nil
    | cons n r ih => exact .cons (.int n) ih
  refine ⟨M, [.dat (.lst (ns.map .int))], cs0, fun v _ => v = .dat (.bl true), X0, ⟨sm, fun b c e => ?_⟩, .cons (.lst hS' hd) .nil, h ns _ _ hl (fun _ => rfl), ?_, fun _ _ _ _ _ _ _ _ _ z => z.elim⟩
  · obtain ⟨hb, hc⟩ := hcs b c e
    refine ⟨if_pos hb, _, hT b hb, ?_⟩
    rcases hc with rfl | ⟨q, rfl⟩
    · exact (by unfold CRep; exact trivial)
    · exact (by unfold CRep; exact ⟨trivial, fun pos cv z => by cases z⟩)
  · intro v x M' H' cs' _ _ r p
    subst p
    rw [inv_bl r]
    exact k H'
def tabsC (l : List (Addr × CO)) : Cells := fun b => (l.find? fun p => p.1 == b).map (·.2)
theorem tabs_ok (l : List (Addr × CO)) (h : ∀ p ∈ l, p.2 = .tg ∨ ∃ q, p.2 = .tl q) : ∀ b c, tabsC l b = some c → b ∈ l.map (·.1) ∧ (c = .tg ∨ ∃ q, c = .tl q) := fun b c e => by
  obtain ⟨p, hp, rfl⟩ := Option.map_eq_some_iff.mp e
  have hm := List.mem_of_find?_eq_some hp
  have hb : p.1 = b := beq_iff_eq.mp (List.find?_some (p := fun p : Addr × CO => p.1 == b) hp)
  exact ⟨List.mem_map.mpr ⟨p, hm, hb⟩, h p hm⟩
/-- the tables of the defs by name -/
def TabsOf (K : Frag) (q : Program) (mg : Str → Option Value) (h : Heap) : Prop := ∀ (x : Str) (fb : Addr), ((recsOf q).any fun e => e.name == x) = true → mg x = some (.ref fb) → LamX.OwnTab K fb h
theorem walk_tabs {l : PySem.W.OpenLaw} {n k : Nat} {q : Program} {loose : List Str} {XP : (Str → Option Value) → Heap → Prop} {YP : World → Heap → Prop} {d : DefRec} {K : Params → PySem.W.Frag} {CX : World → CXT} {x : Str}
    (hn : l.most = some n) (hn2 : n ≤ sizeLine) (hdf : d.params.defaults = []) (hr : Room k callerA) (hY : ∀ (w : World) (h : Heap), YP w h → (K w.params).In h)
    (F : ∀ (w : World) (mg : Str → Option Value) (fa : Addr) (h : Heap), YP w h → (K w.params).In h → h.Ns mainGlobals mg → mg d.name = some (.ref fa) → TabsOf (K w.params) q mg h → LamX.LawAtS l w (K w.params) (CX w) k n x mg fa h)
    (hCX : ∀ (w : World) (H : Hp) (s : Shared) (e : Value) (s' : Shared), CX w [] H s (fun _ _ _ => False) e s' → False) :
    PySem.W.WalkO q loose XP YP l.row.toRowW d [] (fun f vs => PySem.call f vs) := by
  refine Att.attach_callB hn hdf fun w s₀ s₁ mg mb fa o pm cd doc a vs ns G Y ho hd hcd hmg hobj hints hlen hbits hg => ?_
  have KX := hY w _ Y
  have own : TabsOf (K w.params) q mg s₁.heap := fun x fb hrec hmx c P o1 fd1 e dd vs1 sl k1 k2 k3 k4 k5 => by
    obtain ⟨dL, hm, hn1⟩ := List.any_eq_true.mp hrec
    have hn2 : dL.name = x := beq_iff_eq.mp hn1
    obtain ⟨a', o', fd', c', P', h1, h2, h3, h4, h5, h6⟩ := G.T.tab dL hm
    rw [hn2, hmx] at h1
    cases h1
    have g1 := KX _ _ k1
    rw [g1] at h2
    cases h2
    rw [k2] at h3
    cases h3
    rw [k3] at h4
    cases h4
    obtain ⟨⟨oc, vc, e1, _, e3, e4⟩, hP⟩ := h6
    have g2 := KX _ _ k4
    rw [g2] at e1
    cases e1
    cases e3
    rw [k5] at e4
    cases e4
    exact hP
  obtain ⟨fd, cs, sp, hT, nT, C, hb, hsp, hF⟩ := F w mg fa _ Y KX G.T.g hmg own
  exact LamX.law_callTs KX G.T.g G.T.b G.T.builtins G.T.nolimit hg hT nT C G.T.bmain hobj hints (Nat.le_trans hlen hn2) hr hF hb (fun H hH hS => hsp H a ns hlen hbits hH hS) fun H e s' => hCX w H s₁ e s'
/-- the head of a code object -/
def hdB (c P : Addr) (vs : Array Value) : Bool := (match (vs[11]? : Option Value) with | some (.ref P') => P' == P | _ => false) &&
      (match vs.getD 18 .none with | .str _ _ => true | _ => false) && (match vs.getD 7 .none with | .int _ _ => true | _ => false) &&
      (match vs.getD 9 .none with | .bool _ => true | _ => false) && (match vs.getD 10 .none with | .int _ _ => true | _ => false) && c != P
/-- a def's table, from what the fragment knows -/
theorem tab_at {K : Frag} {q : Program} {mg : Str → Option Value} {h : Heap} {x qual : Str} {st : Stmt} {f c P : Addr} {fd : FuncData} {dd : Option Addr} {vs : Array Value} {sl : Array (Option Value)} (T : TabsOf K q mg h) (KX : K.In h) (hrec : ((recsOf q).any fun e => e.name == x) = true) (hm : mg x = some (.ref f)) (F : Fun K x qual st f fd) (hc : fd.code = .ref c) (hk : K.lookup c = some ⟨.type "code", dd, .fields vs, sl⟩) (hh : hdB c P vs = true) :
    h.get? P = some { cls := .none, data := .fields #[] } ∧ PySem.W.CodeHd h c P := by
  have h1 : PySem.W.codeHdIn K c P = true := by
    unfold PySem.W.codeHdIn
    rw [hk]
    exact hh
  refine ⟨?_, PySem.W.codeHd_of_K KX h1⟩
  obtain ⟨oc, od, kV, doc, pm, an, cdv', ct, osl, rfl, lk, hcd'⟩ := F.ex
  unfold hdB at hh
  simp only [Bool.and_eq_true] at hh
  obtain ⟨⟨⟨⟨⟨e1, _⟩, _⟩, _⟩, _⟩, _⟩ := hh
  split at e1
  · rename_i P' h11
    have hP : P' = P := beq_iff_eq.mp e1
    subst hP
    exact T x f hrec hm c P' _ _ _ _ vs _ lk rfl hc hk h11
  · cases e1
end DL
set_option maxRecDepth 100000
set_option maxHeartbeats 4000000
/-! exceptions at the level of data: judgements relative to M0, what is frozen where the exception may be caught -/
namespace DL
open PySem L2 PySem.Spec PyProof.Rows
abbrev DWX := Value → List (Str × Vl) → DEnv → Cells → Prop
def liftW (K : Frag) (M0 : Hp) (W : DWX) : WX := fun cls d σ H => ∃ M ρ cs fs, Same M0 M ∧ Ok K M H cs ∧ Rho K M σ ρ ∧ XRep K M d fs ∧ W cls fs ρ cs
def lift0 (K : Frag) (M0 : Hp) (w : WE) : TE := fun σ H Q => ∃ M ρ cs P, Same M0 M ∧ Ok K M H cs ∧ Rho K M σ ρ ∧ w ρ cs P ∧ Kont K M P Q
def liftT0 (K : Frag) (M0 : Hp) (w : WT) : TT := fun σ H Q => ∃ M ρ cs P, Same M0 M ∧ Ok K M H cs ∧ Rho K M σ ρ ∧ w ρ cs P ∧ KontT K M P Q
def liftA0 (K : Frag) (M0 : Hp) (w : WA) : TA := fun σ H Q => ∃ M ρ cs P, Same M0 M ∧ Ok K M H cs ∧ Rho K M σ ρ ∧ w ρ cs P ∧ KontA K M P Q
def liftS0 (K : Frag) (M0 : Hp) (w : WS) : TS := fun E σ H => ∃ M ρ cs D, Same M0 M ∧ Ok K M H cs ∧ Rho K M σ ρ ∧ w D ρ cs ∧ EndsOk K M D E
def DE0 (X : Cx) (M0 : Hp) (e : Expr) (w : WE) : Prop := PE X e (lift0 X.K M0 w)
def DT0 (X : Cx) (M0 : Hp) (e : Expr) (w : WT) : Prop := PT X e (liftT0 X.K M0 w)
def DA0 (X : Cx) (M0 : Hp) (es : List Expr) (w : WA) : Prop := PA X es (liftA0 X.K M0 w)
def DS0 (X : Cx) (M0 : Hp) (st : Stmt) (w : WS) : Prop := PS X st (liftS0 X.K M0 w)
def DSs0 (X : Cx) (M0 : Hp) (st : List Stmt) (w : WS) : Prop := PSs X st (liftS0 X.K M0 w)
section
variable {X : Cx} {M0 : Hp} {e a b : Expr} {es : List Expr} {st : Stmt} {sts : List Stmt} {we wa wb : WE} {wt : WT} {wr : WA} {ws u v : WS} {pos : Pos}
theorem DE.d0 (h : DE X e we) : DE0 X M0 e we := pe_imp h fun _ _ _ ⟨M, ρ, cs, P, _, o, r, w, k⟩ => ⟨M, ρ, cs, P, o, r, w, k⟩
theorem DT.d0 (h : DT X e wt) : DT0 X M0 e wt := pt_imp h fun _ _ _ ⟨M, ρ, cs, P, _, o, r, w, k⟩ => ⟨M, ρ, cs, P, o, r, w, k⟩
theorem DA.d0 (h : DA X es wr) : DA0 X M0 es wr := pa_imp h fun _ _ _ ⟨M, ρ, cs, P, _, o, r, w, k⟩ => ⟨M, ρ, cs, P, o, r, w, k⟩
theorem DS.d0 (h : DS X st ws) : DS0 X M0 st ws := ps_imp h fun _ _ _ ⟨M, ρ, cs, P, _, o, r, w, k⟩ => ⟨M, ρ, cs, P, o, r, w, k⟩
theorem DSs.d0 (h : DSs X sts ws) : DSs0 X M0 sts ws := pss_imp h fun _ _ _ ⟨M, ρ, cs, P, _, o, r, w, k⟩ => ⟨M, ρ, cs, P, o, r, w, k⟩
end
structure DOkX (P : Program) (w : World) (K : Frag) (mg : Str → Option Value) (base : Heap) (x : Str) (ps : List Str) (k : Nat) (dsp : DSp) : Prop where
  ex : ∃ f fd, FnOk P w K mg base (L2.CX P w) k f fd ps (liftSp K dsp) ∧ mg x = some (.ref f) ∧ PySem.W.keepIn K (.ref f) = true ∧ Binds K fd ps []
/-- where an exception leaves a def, what stands may be seen otherwise -/
def GhC (K : Frag) (cs cs' : Cells) : Prop := ∀ M H, Ok K M H cs → ∃ M', Same M M' ∧ Ok K M' H cs'
theorem GhC.sub {K : Frag} {cs cs' : Cells} (h : SubC cs' cs) : GhC K cs cs' := fun M _ o => ⟨M, Same.refl _, o.sub h⟩
def GhX (K : Frag) (XP : DXP) : DXP := fun cls fs cs => ∃ cs', GhC K cs cs' ∧ XP cls fs cs'
theorem GhX.now {K : Frag} {XP : DXP} {cls : Value} {fs : List (Str × Vl)} {cs : Cells} (h : XP cls fs cs) : GhX K XP cls fs cs := ⟨cs, .sub fun _ _ e => e, h⟩
theorem GhX.drop {K : Frag} {XP : DXP} {cls : Value} {fs : List (Str × Vl)} {cs cs' : Cells} (hs : SubC cs' cs) (h : XP cls fs cs') : GhX K XP cls fs cs := ⟨cs', .sub hs, h⟩
theorem XRep.mono {K : Frag} {M M' : Hp} (s : Same M M') : ∀ {d : Option Addr} {fs : List (Str × Vl)}, XRep K M d fs → XRep K M' d fs
  | none, _, h => h
  | some _, _, ⟨gs, h, p⟩ => ⟨gs, s _ _ h, paired_mono (fun _ _ q => ⟨q.1, q.2.mono s⟩) p⟩
theorem fn_dataX {P : Program} {w : World} {K : Frag} {mg : Str → Option Value} {base : Heap} {x qual : Str} {st : Stmt} {f : Addr} {fd : FuncData} {N ps : List Str} {k : Nat} {dsp : DSp} {ws : DXP → WS} (F : Fun K x qual st f fd) (S : FnScope N ps (defScope st))
    (len : ∀ xs cs Q XP, dsp xs cs Q XP → xs.length = ps.length)
    (body : ∀ (cdv : Value) (A : Around) (outer : List Env) (s : Shared) (H : Hp) (E : XK), Room k (A.deeper (PyProof.Rows.envOfC qual (defScope st) s.heap.objs.size f cdv)) → ∀ (M0 : Hp) (W : DXP), Takes (cxOf (L2.CX P w) P w K mg base N qual (defScope st) f cdv A outer s H E) (liftW K M0 fun cls fs _ cs => W cls fs cs) → DSs0 (cxOf (L2.CX P w) P w K mg base N qual (defScope st) f cdv A outer s H E) M0 (defBody st) (ws W))
    (pure : ∀ xs cs Q XP, dsp xs cs Q XP → ws (GhX K XP) (retE K Q) (startD N.length xs) cs) : FnOk P w K mg base (L2.CX P w) (k + 1) f fd ps (liftSp K dsp) := by
  refine F.okX S (fun vs H Q E ⟨M, xs, cs, P', XP, o, r, d, _⟩ => (Paired.len r).trans (len xs cs P' XP d)) (fun cdv A outer s H vs Q E hr ⟨M, xs, cs, P', XP, o, r, d, kk, kx⟩ => ⟨_, body cdv A outer s H E hr M (GhX K XP) ?_, ?_⟩)
  · refine (takes_of (E := E) rfl rfl rfl rfl).imp fun cls d σ H ⟨M', ρ, cs, fs, sm, o, _, xr, cs2, gh, w⟩ => by
      obtain ⟨M2, s2, o2⟩ := gh M' H o
      exact kx cls d fs M2 H cs2 (sm.trans s2) o2 (xr.mono s2) w
  · exact ⟨M, startD N.length xs, cs, retE K P', Same.refl _, o, start_rho r, pure xs cs P' XP d, ⟨fun σ' ρ' M' H' cs' s o' _ p => kk.gh _ _ M' H' cs' s o' (rv_dat .non) p, kk.gh, fun _ _ _ _ _ _ _ _ p => p.elim, fun _ _ _ _ _ _ _ _ p => p.elim⟩⟩
/-- a call that may raise -/
def wCallX (dsp : DSp) (W : DWX) (wr : WA) : WE := fun ρ cs P => wr ρ cs fun xs cs1 => dsp xs cs1 P fun cls fs cs' => W cls fs ρ cs'
theorem de_callX {X : Cx} {M0 : Hp} {x : Str} {ps : List Str} {k : Nat} {dsp : DSp} {W : DWX} {p pos : Pos} {e : Expr} {es : List Expr} {wr : WA} (G : DOkX X.prog X.w X.K X.mg X.base x ps k dsp) (tk : Takes X (liftW X.K M0 W)) (hr : Room k X.A) (ha : DA0 X M0 (e :: es) wr) (hg : Gl X x := by rfl)
    (hdb : (x == ("__debug__" : Str)) = false := by decide) (he : starEach (e :: es) X.env = (false, eval e X.env) :: starEach es X.env := by rfl) (hpl : (backTo pos (starEach es X.env)).any (·.1) = false := by rfl) :
    DE0 X M0 (.Call (.Name x p) (e :: es) [] pos) (wCallX dsp W wr) := by
  obtain ⟨f, fd, F, hm, hk, hb⟩ := G.ex
  refine pe_imp (pe_callS (E := L2.WE (liftW X.K M0 W)) F hr hg hm hk hb (fun σ => passAt tk σ) ha hdb he hpl) fun σ H Q ⟨M, ρ, cs, P, sm, o, r0, p, kk⟩ => ?_
  refine ⟨M, ρ, cs, _, sm, o, r0, p, fun vs xs M1 H1 cs1 s1 o1 r1 p1 => ?_⟩
  exact ⟨M1, xs, cs1, P, _, o1, r1, p1, kk.mono s1, fun cls od fs M' H' cs' s2 o' xr w => ⟨M', ρ, cs', fs, sm.trans (s1.trans s2), o', r0.mono (s1.trans s2), xr, w⟩⟩
/-- raise C("..."), an own class without __init__ -/
def wRaise (cls : Value) (W : DWX) : WS := fun _ ρ cs => W cls [] ρ cs
theorem ds_raise {X : Cx} {M0 : Hp} {C : Addr} {bmB : List Value} {B newId initId : String} {W : DWX} {x m : Str} {j : Nat} {p p2 pos pos' : Pos} (F : ExcBaseFacts B newId initId bmB) (q : PySem.W.excIn X.K C bmB newId = true) (gC : X.mg x = some (.ref C)) (kC : PySem.W.keepIn X.K (.ref C) = true) (r : Raises X (.ref C)) (tk : Takes X (liftW X.K M0 W)) (hc : X.calm = true := by rfl) (hg : Gl X x := by rfl)
    (hdb : (x == ("__debug__" : Str)) = false := by decide) : DS0 X M0 (.Raise (some (.Call (.Name x p) [.Constant (.str m) j p2] [] pos)) none pos') (wRaise (.ref C) W) :=
  ps_imp (ps_raise hc tk (pmk_own F q gC kC r hg hdb)) fun E σ H ⟨M, ρ, cs, D, sm, o, r0, h, _⟩ => ⟨M, ρ, cs, [], sm, o, r0, rfl, h⟩
end DL
set_option maxRecDepth 100000
set_option maxHeartbeats 4000000
namespace DL
open PySem L2 PySem.Spec PyProof.Rows
section
variable {X : Cx} {M0 : Hp} {c e a b : Expr} {es : List Expr} {st : Stmt} {sts : List Stmt} {we wa wb : WE} {w : WT} {wr : WA} {ws wt : WS} {pos : Pos}
theorem da_cons0 (ha : DE0 X M0 e we) (hr : DA0 X M0 es wr) (hs : starEach (e :: es) X.env = (false, eval e X.env) :: starEach es X.env := by rfl) : DA0 X M0 (e :: es) (wCons we wr) :=
  pa_imp (pa_cons ha hr hs) fun σ H Q ⟨M, ρ, cs, P, sm, o, r0, p, k⟩ => ⟨M, ρ, cs, _, sm, o, r0, p, fun v x M1 H1 cs1 s1 o1 r1 p1 =>
    ⟨M1, ρ, cs1, _, sm.trans s1, o1, r0.mono s1, p1, fun vs xs M2 H2 cs2 s2 o2 r2 p2 => k _ _ M2 H2 cs2 (s1.trans s2) o2 (.cons (r1.mono s2) r2) p2⟩⟩
theorem dt_val0 (h : DE0 X M0 e we) (he : ∀ whole, isTrue e X.env whole = (do let v ← whole; standAt e.pos; holding [v] (truthy v)) := by intro _; rfl) : DT0 X M0 e (wTest we) :=
  pt_imp (pt_val h he) fun σ H Q ⟨M, ρ, cs, P, sm, o, r0, p, k⟩ => ⟨M, ρ, cs, _, sm, o, r0, p, fun v x M1 H1 cs1 s1 o1 r1 ⟨q, ex, p1⟩ => by
    subst ex
    exact ⟨q, inv_bl r1, k q M1 H1 cs1 s1 o1 p1⟩⟩
theorem dt_not0 (h : DT0 X M0 a w) : DT0 X M0 (.UnaryOp .Not a pos) (wNot w) :=
  pt_imp (pt_not h) fun σ H Q ⟨M, ρ, cs, P, sm, o, r0, p, k⟩ => ⟨M, ρ, cs, _, sm, o, r0, p, fun b M1 H1 cs1 s1 o1 p1 => k (!b) M1 H1 cs1 s1 o1 p1⟩
theorem dss_cons0 (h1 : DS0 X M0 st ws) (h2 : DSs0 X M0 sts wt) : DSs0 X M0 (st :: sts) (wSeq ws wt) :=
  pss_imp (pss_cons h1 h2) fun E σ H ⟨M, ρ, cs, D, sm, o, r, h, e⟩ => ⟨M, ρ, cs, _, sm, o, r, h, ⟨fun σ' ρ' M' H' cs' s o' r' p => ⟨M', ρ', cs', D, sm.trans s, o', r', p, e.mono s⟩, e.rt, e.bk, e.ct⟩⟩
theorem dss_one0 (h1 : DS0 X M0 st ws) : DSs0 X M0 [st] ws := pss_one h1
theorem ds_ret0 (h : DE0 X M0 e we) : DS0 X M0 (.Return (some e) pos) (wRet we) := ps_imp (ps_ret h) fun E σ H ⟨M, ρ, cs, D, sm, o, r, h, e⟩ => ⟨M, ρ, cs, _, sm, o, r, h, e.rt⟩
theorem ds_expr0 (h : DE0 X M0 e we) (hs : swapsWith e none pos.line X.env = pure false := by rfl) : DS0 X M0 (.Expr e pos) (wDrop we) :=
  ps_imp (ps_expr h hs) fun E σ H ⟨M, ρ, cs, D, sm, o, r, h, e⟩ => ⟨M, ρ, cs, _, sm, o, r, h, fun v x M' H' cs' s o' _ p => e.nx σ ρ M' H' cs' s o' (r.mono s) p⟩
theorem ds_if0 {sa sb : List Stmt} (hc : DT0 X M0 c w) (ha : DSs0 X M0 sa ws) (hb : DSs0 X M0 sb wt) : DS0 X M0 (.If c sa sb pos) (wIfS w ws wt) :=
  ps_imp (ps_if hc ha hb) fun E σ H ⟨M, ρ, cs, D, sm, o, r, h, e⟩ => ⟨M, ρ, cs, _, sm, o, r, h, fun b M' H' cs' s o' p => by
    cases b with
    | true => exact iteT ⟨M', ρ, cs', D, sm.trans s, o', r.mono s, by simpa using p, e.mono s⟩
    | false => exact iteF ⟨M', ρ, cs', D, sm.trans s, o', r.mono s, by simpa using p, e.mono s⟩⟩
theorem ds_set0 {i : Nat} {x : Str} {pos' : Pos} (hN : X.N.Nodup) (he : DE0 X M0 e we) (hi : X.N[i]? = some x := by rfl) (hx : Loc X.env.scope x := by first | exact Or.inl rfl | exact Or.inr rfl) (hs : swapsWith e (some (.Name x pos')) pos.line X.env = pure false := by rfl) (hf : X.fn x = true ∨ X.env.scope.names.lookup x = some .local := by first | exact .inl rfl | exact .inr rfl | assumption) :
    DS0 X M0 (.Assign [.Name x pos'] e pos) (wAsg we (gN i)) :=
  ps_imp (ps_set hN hi hx he hs hf) fun E σ H ⟨M, ρ, cs, D, sm, o, r, h, e⟩ => ⟨M, ρ, cs, _, sm, o, r, h, fun v x M' H' cs' s o' rv p => e.nx _ _ M' H' cs' s o' ((r.mono s).set rv) p⟩
end
/-! ### try -/
/-- what the clauses wish of an exception -/
def wClauses (K : Frag) (Wout : DWX) (D : DEnds) : List (Value × WS) → DWX
  | [] => Wout
  | (c, ts) :: r => fun cls fs ρ cs => ∃ b, PySem.W.exmOne K cls c = some b ∧ (b = true → ts D ρ cs) ∧ (b = false → wClauses K Wout D r cls fs ρ cs)
def wTry (K : Frag) (Wout : DWX) (tb : DWX → WS) (l : List (Value × WS)) : WS := fun D ρ cs => tb (wClauses K Wout D l) D ρ cs
inductive DHds (X : Cx) (M0 : Hp) : List ExceptHandler → List (Value × WS) → Prop
  | nil : DHds X M0 [] []
  | cons {x : Str} {c : Value} {ts : WS} {b₀ : Stmt} {suite : List Stmt} {np pos' : Pos} {hds : List ExceptHandler} {l : List (Value × WS)} (hc : Names X x c)
      (hsu : ∀ (a : Addr) (oe : Obj) (pn : List (Addr × Obj)), DSs0 (X.suite a ((a, oe) :: pn)) M0 (b₀ :: suite) ts) (r : DHds X M0 hds l) :
      DHds X M0 (.ExceptHandler (some (.Name x np)) none (b₀ :: suite) pos' :: hds) ((c, ts) :: l)
theorem DHds.ok {X : Cx} {M0 : Hp} {hds : List ExceptHandler} {l : List (Value × WS)} (h : DHds X M0 hds l) : HdsOk X hds (l.map fun p => (p.1, fun _ _ _ => liftS0 X.K M0 p.2)) := by
  induction h with
  | nil => exact .nil
  | cons hc hsu r ih => exact .cons hc (fun a oe cls d pn _ _ => hsu a oe pn) ih
theorem clauses_ok {K : Frag} {M0 M1 : Hp} {Wout : DWX} {D : DEnds} {E : Ends} (sm : Same M0 M1) (eo : EndsOk K M1 D E) : ∀ {l : List (Value × WS)} {cls : Value} {d : Option Addr} {σ : L2.St} {H : Hp}, liftW K M1 (wClauses K Wout D l) cls d σ H → wMany K (liftW K M0 Wout) E (l.map fun p => (p.1, fun _ _ _ => liftS0 K M0 p.2)) cls d σ H
  | [], cls, d, σ, H, ⟨M, ρ, cs, fs, s1, o, r, xr, w⟩ => ⟨M, ρ, cs, fs, sm.trans s1, o, r, xr, w⟩
  | (c, ts) :: l, cls, d, σ, H, ⟨M, ρ, cs, fs, s1, o, r, xr, b, hb, w1, w2⟩ =>
    ⟨b, hb, fun h a _ => ⟨M, ρ, cs, D, sm.trans s1, o, r, w1 h, eo.mono s1⟩, fun h => clauses_ok sm eo ⟨M, ρ, cs, fs, s1, o, r, xr, w2 h⟩⟩
theorem ds_try {X : Cx} {M0 : Hp} {body : List Stmt} {h₀ : ExceptHandler} {hds : List ExceptHandler} {l : List (Value × WS)} {pos : Pos} {tb : DWX → WS} {Wout : DWX} (tk : Takes X (liftW X.K M0 Wout))
    (hb : ∀ (M1 : Hp) (W : DWX) (pn : List (Addr × Obj)) (xe : Value → Shared → Prop), Same M0 M1 → Takes (X.tr pn xe) (liftW X.K M1 W) → PassesOwn (model X.prog X.w) X.A X.env xe → DSs0 (X.tr pn xe) M1 body (tb W))
    (hh : DHds X M0 (h₀ :: hds) l) (hs : X.stack = X.env :: X.outer := by rfl) (hf : X.env.frame = some X.env.locals := by rfl) : DS0 X M0 (.Try body (h₀ :: hds) [] [] pos) (wTry X.K Wout tb l) := by
  refine ps_imp (ps_try_many (tb := fun W D σ H => ∃ (M1 : Hp) (W' : DWX), Same M0 M1 ∧ (∀ cls d σ H, liftW X.K M1 W' cls d σ H → W cls d σ H) ∧ liftS0 X.K M1 (tb W') D σ H) hs hf tk (fun W pn xe tk' po => ⟨fun pins s σ H D I ⟨M1, W', sm1, himp, h⟩ => (hb M1 W' pn xe sm1 (tk'.imp himp) po).run pins s σ H D I h⟩) hh.ok) fun E σ H ⟨M, ρ, cs, D, sm, o, r, h, e⟩ => ?_
  exact ⟨M, wClauses X.K Wout D l, sm, fun cls d σ H hw => clauses_ok sm e hw, M, ρ, cs, D, Same.refl _, o, r, h, e⟩
end DL
set_option maxRecDepth 100000
set_option maxHeartbeats 4000000
namespace DL
open PySem L2 PySem.Spec PyProof.Rows
/-- for, its body may raise -/
theorem ds_for0 {X : Cx} {M0 : Hp} {tg iter : Expr} {body : List Stmt} {pos : Pos} {js : List Nat} {wi : WI} {g : WG} {wb : WS} (hp : PassesOwn (model X.prog X.w) X.A X.env X.xe) (hi : DI X tg iter wi) (hg : DG X js tg g) (hb : DSs0 X M0 body wb) (hc : X.calm = true := by rfl)
    (hs : ∀ x, foldedSetIterable iter X.env x = pure x := by intro _; rfl) : DS0 X M0 (.For tg iter body [] pos) (wFor wi g wb) :=
  ps_imp (ps_for hp hc hi hg hb hs) fun E σ H ⟨M, ρ, cs, D, sm, o, r, h, e⟩ => by
    refine ⟨M, ρ, cs, _, o, r, h, fun J items G M1 H1 cs1 s1 o1 it ⟨Iv, i0, iG, turn, fin⟩ => ?_⟩
    refine ⟨fun i m σ' H' => m = items.length - i ∧ i ≤ items.length ∧ ∃ M' ρ' cs', Same M1 M' ∧ Ok X.K M' H' cs' ∧ Rho X.K M' σ' ρ' ∧ Iv i ρ' cs', ⟨items.length, by simp, Nat.zero_le _, M1, ρ, cs1, Same.refl _, o1, r.mono s1, i0⟩, ?_⟩
    rintro i m σ' H' ⟨rfl, hi, M', ρ', cs', s', o', r', inv⟩
    have g' := iG i ρ' cs' hi inv
    by_cases hlt : i < items.length
    · refine .inr ⟨it.go i M' H' cs' s' o' g' hlt, fun σ2 H2 => i + 1 ≤ items.length ∧ ∃ M2 ρ2 cs2, Same M1 M2 ∧ Ok X.K M2 H2 cs2 ∧ Rho X.K M2 σ2 ρ2 ∧ Iv (i + 1) ρ2 cs2, fun σ2 H2 q => ⟨_, by omega, rfl, q.1, q.2⟩, fun v H2 y => ?_⟩
      obtain ⟨M2, x, ex, s2, o2, rv⟩ := it.yld i M' H' cs' v H2 s' o' g' y hlt
      refine ⟨M2, ρ', cs', x, _, o2, r'.mono s2, rv, turn i x ρ' cs' ex inv, fun σ3 ρ3 M3 H3 cs3 s3 o3 r3 _ _ p3 => ?_⟩
      refine ⟨M3, ρ3, cs3, _, sm.trans (s1.trans (s'.trans (s2.trans s3))), o3, r3, p3, ⟨fun σ4 ρ4 M4 H4 cs4 s4 o4 r4 p4 => ?_, e.rt.mono (s1.trans (s'.trans (s2.trans s3))), ?_, fun σ4 ρ4 M4 H4 cs4 s4 o4 r4 p4 => ?_⟩⟩
      · exact ⟨hlt, M4, ρ4, cs4, s'.trans (s2.trans (s3.trans s4)), o4, r4, p4⟩
      · exact e.nx.mono (s1.trans (s'.trans (s2.trans s3)))
      · exact ⟨hlt, M4, ρ4, cs4, s'.trans (s2.trans (s3.trans s4)), o4, r4, p4⟩
    · have ei : i = items.length := by omega
      subst ei
      exact .inl ⟨it.stop M' H' cs' s' o' g', e.nx σ' ρ' M' H' cs' (s1.trans s') o' r' (fin ρ' cs' inv)⟩
/-- a tuple, a value assigned to a target: what is read may raise -/
theorem ds_asg0 {X : Cx} {M0 : Hp} {e : Expr} {we : WE} {pos : Pos} {js : List Nat} {tg : Expr} {g : WG} (he : DE0 X M0 e we) (hg : DG X js tg g) (hs : swapsWithSole [tg] e pos.line X.env = pure false := by rfl) (hw : swappedStores [tg] e X.env = pure none := by rfl)
    (h1 : (assignEach [tg] X.env).map (·.2) = [assign tg X.env] := by rfl) : DS0 X M0 (.Assign [tg] e pos) (wAsg we g) :=
  ps_imp (ps_asg he hg hs hw h1) fun E σ H ⟨M, ρ, cs, D, sm, o, r, h, e⟩ => ⟨M, ρ, cs, _, sm, o, r, h, fun v x M' H' cs' s o' rv p =>
    ⟨M', ρ, cs', x, _, o', r.mono s, rv, p, fun σ2 ρ2 M2 H2 cs2 s2 o2 r2 _ _ p2 => e.nx σ2 ρ2 M2 H2 cs2 (s.trans s2) o2 r2 p2⟩⟩
end DL
set_option maxRecDepth 100000
set_option maxHeartbeats 4000000
/-! instances in a cell or frozen; what is frozen later; attributes, properties, methods -/
namespace DL
open PySem L2 PySem.Spec PyProof.Rows
section
variable {X : Cx} {e : Expr} {es : List Expr} {st : Stmt} {sts : List Stmt} {we : WE} {wt : WT} {wr : WA} {ws : WS}
theorem DE.of0 (h : ∀ M0, DE0 X M0 e we) : DE X e we := ⟨fun pins s σ H Q I ⟨M, ρ, cs, P, o, r, p, k⟩ => (h M).run pins s σ H Q I ⟨M, ρ, cs, P, Same.refl _, o, r, p, k⟩⟩
theorem DT.of0 (h : ∀ M0, DT0 X M0 e wt) : DT X e wt := ⟨fun pins s σ H Q I ⟨M, ρ, cs, P, o, r, p, k⟩ => (h M).run pins s σ H Q I ⟨M, ρ, cs, P, Same.refl _, o, r, p, k⟩⟩
theorem DA.of0 (h : ∀ M0, DA0 X M0 es wr) : DA X es wr := ⟨fun pos pins s σ H Q I ⟨M, ρ, cs, P, o, r, p, k⟩ => (h M).run pos pins s σ H Q I ⟨M, ρ, cs, P, Same.refl _, o, r, p, k⟩⟩
theorem DS.of0 (h : ∀ M0, DS0 X M0 st ws) : DS X st ws := ⟨fun pins s σ H D I ⟨M, ρ, cs, P, o, r, p, k⟩ => (h M).run pins s σ H D I ⟨M, ρ, cs, P, Same.refl _, o, r, p, k⟩⟩
theorem DSs.of0 (h : ∀ M0, DSs0 X M0 sts ws) : DSs X sts ws := ⟨fun pins s σ H D I ⟨M, ρ, cs, P, o, r, p, k⟩ => (h M).run pins s σ H D I ⟨M, ρ, cs, P, Same.refl _, o, r, p, k⟩⟩
end
/-! ### ways that may be chosen -/
def wAlt (w u : WE) : WE := fun ρ cs P => w ρ cs P ∨ u ρ cs P
def wAltS (w u : WS) : WS := fun D ρ cs => w D ρ cs ∨ u D ρ cs
section
variable {X : Cx} {M0 : Hp} {e : Expr} {st : Stmt} {w u : WE} {ws us : WS}
theorem de_alt (h : DE X e w) (h' : DE X e u) : DE X e (wAlt w u) := ⟨fun pins s σ H Q I ⟨M, ρ, cs, P, o, r, p, k⟩ => p.elim (fun p => h.run pins s σ H Q I ⟨M, ρ, cs, P, o, r, p, k⟩) (fun p => h'.run pins s σ H Q I ⟨M, ρ, cs, P, o, r, p, k⟩)⟩
theorem de_alt0 (h : DE0 X M0 e w) (h' : DE0 X M0 e u) : DE0 X M0 e (wAlt w u) := ⟨fun pins s σ H Q I ⟨M, ρ, cs, P, sm, o, r, p, k⟩ => p.elim (fun p => h.run pins s σ H Q I ⟨M, ρ, cs, P, sm, o, r, p, k⟩) (fun p => h'.run pins s σ H Q I ⟨M, ρ, cs, P, sm, o, r, p, k⟩)⟩
theorem ds_alt (h : DS X st ws) (h' : DS X st us) : DS X st (wAltS ws us) := ⟨fun pins s σ H D I ⟨M, ρ, cs, P, o, r, p, k⟩ => p.elim (fun p => h.run pins s σ H D I ⟨M, ρ, cs, P, o, r, p, k⟩) (fun p => h'.run pins s σ H D I ⟨M, ρ, cs, P, o, r, p, k⟩)⟩
theorem ds_alt0 (h : DS0 X M0 st ws) (h' : DS0 X M0 st us) : DS0 X M0 st (wAltS ws us) := ⟨fun pins s σ H D I ⟨M, ρ, cs, P, sm, o, r, p, k⟩ => p.elim (fun p => h.run pins s σ H D I ⟨M, ρ, cs, P, sm, o, r, p, k⟩) (fun p => h'.run pins s σ H D I ⟨M, ρ, cs, P, sm, o, r, p, k⟩)⟩
end
/-! ### instances -/
def datF (fs : List (Str × Dat)) : List (Str × Vl) := fs.map fun p => (p.1, .dat p.2)
def coIns : Option CO → Option (Addr × List (Str × Vl))
  | some (.ins C fs) => some (C, fs)
  | _ => none
def insD (cs : Cells) : Vl → Option (Addr × List (Str × Vl))
  | .dat (.obj C fs) => some (C, datF fs)
  | .raw (.ref a) => coIns (cs a)
  | _ => none
theorem insD_obj {cs : Cells} {C : Addr} {fs : List (Str × Dat)} : insD cs (.dat (.obj C fs)) = some (C, datF fs) := rfl
theorem insD_cell {cs : Cells} {a : Addr} : insD cs (.raw (.ref a)) = coIns (cs a) := rfl
theorem coIns_ins {C : Addr} {fs : List (Str × Vl)} : coIns (some (.ins C fs)) = some (C, fs) := rfl
theorem drF_paired {K : Frag} {M : Hp} : ∀ {fs : List (Str × V)} {ds : List (Str × Dat)}, DrF K M fs ds → Paired (FR K M) fs (datF ds)
  | _, _, .nil => .nil
  | _, _, .cons h k => .cons ⟨rfl, h⟩ (drF_paired k)
theorem insD_ok {K : Frag} {M H : Hp} {cs : Cells} {v : V} {x : Vl} {C : Addr} {gs : List (Str × Vl)} (o : Ok K M H cs) (r : RV K M v x) (h : insD cs x = some (C, gs)) : ∃ a dx fs, v = .ref a ∧ H a = some (.ins C dx fs) ∧ Paired (FR K M) fs gs := by
  match x, r, h with
  | .dat (.obj C' ds), r, h =>
    cases h
    cases (show Dr K M v (.obj C ds) from r) with
    | obj q k => exact ⟨_, _, _, rfl, o.ex _ _ q, drF_paired k⟩
  | .raw (.ref a), r, h =>
    cases (show v = .ref a from r)
    have h : coIns (cs a) = some (C, gs) := h
    cases q : cs a with
    | none => rw [q] at h; cases h
    | some c =>
      rw [q] at h
      cases c with
      | ins C' fs' =>
        cases h
        obtain ⟨dx, fs, hH, pr⟩ := cell_ins o q
        exact ⟨a, dx, fs, rfl, hH, pr⟩
      | _ => cases h
/-- o.f, a field -/
def wFldI (C : Addr) (f : Str) (wo : WE) : WE := fun ρ cs P => wo ρ cs fun x cs1 => ∃ gs v, insD cs1 x = some (C, gs) ∧ gs.lookup f = some v ∧ P v cs1
/-- o.f, a constant of the class -/
def wConI (C : Addr) (f : Str) (d : Dat) (wo : WE) : WE := fun ρ cs P => wo ρ cs fun x cs1 => ∃ gs, insD cs1 x = some (C, gs) ∧ gs.lookup f = none ∧ P (.dat d) cs1
/-- o.f, a property -/
def wPropI (C : Addr) (dsp : DSp) (wo : WE) : WE := fun ρ cs P => wo ρ cs fun x cs1 => ∃ gs, insD cs1 x = some (C, gs) ∧ dsp [x] cs1 P X0
/-- o.m(..) -/
def wMethI (C : Addr) (m : Str) (dsp : DSp) (wo : WE) (wr : WA) : WE := fun ρ cs P => wo ρ cs fun x cs1 => ∃ gs, insD cs1 x = some (C, gs) ∧ gs.lookup m = none ∧ wr ρ cs1 fun xs cs2 => dsp (x :: xs) cs2 P X0
def wMethX (C : Addr) (m : Str) (dsp : DSp) (W : DWX) (wo : WE) (wr : WA) : WE := fun ρ cs P => wo ρ cs fun x cs1 => ∃ gs, insD cs1 x = some (C, gs) ∧ gs.lookup m = none ∧ wr ρ cs1 fun xs cs2 => dsp (x :: xs) cs2 P fun cls fs cs' => W cls fs ρ cs'
structure DPok (P : Program) (w : World) (K : Frag) (mg : Str → Option Value) (base : Heap) (C : Addr) (f : Str) (k : Nat) (dsp : DSp) : Prop where
  ex : ∃ g fd p ps, FnOk P w K mg base CX0 k g fd ps (liftSp K dsp) ∧ Cls K C ∧ PropOf K C f p g ∧ Binds K fd ps []
structure DMokX (P : Program) (w : World) (K : Frag) (mg : Str → Option Value) (base : Heap) (C : Addr) (m : Str) (ps : List Str) (k : Nat) (dsp : DSp) : Prop where
  ex : ∃ f fd, FnOk P w K mg base (L2.CX P w) k f fd ps (liftSp K dsp) ∧ Cls K C ∧ Meth K C m f ∧ Binds K fd ps []
section
variable {X : Cx} {M0 : Hp} {a b c e o : Expr} {es : List Expr} {wa wb wc we wo wv : WE} {w u : WT} {wr : WA} {pos : Pos} {C : Addr} {f m : Str}
theorem de_fldI0 (hc : Cls X.K C) (hn : NoAttr X.K C f) (ho : DE0 X M0 o wo) (hb : attributeBase o f X.env (eval o X.env) = eval o X.env := by rfl) : DE0 X M0 (.Attribute o f pos) (wFldI C f wo) :=
  pe_imp (pe_fld ho hb) fun σ H Q ⟨M, ρ, cs, P, sm, o, r0, p, k⟩ => ⟨M, ρ, cs, _, sm, o, r0, p, fun v x M1 H1 cs1 s1 o1 r1 ⟨gs, y, hi, hl, p1⟩ => by
    obtain ⟨a, dx, fs, ev, hH, pr⟩ := insD_ok o1 r1 hi
    obtain ⟨z, hz, rz⟩ := (fr_lookup pr).1 y hl
    exact ⟨a, C, dx, fs, z, ev, hH, hc, hn, hz, k _ _ M1 H1 cs1 s1 o1 rz p1⟩⟩
theorem de_fldI (hc : Cls X.K C) (hn : NoAttr X.K C f) (ho : DE X o wo) (hb : attributeBase o f X.env (eval o X.env) = eval o X.env := by rfl) : DE X (.Attribute o f pos) (wFldI C f wo) := .of0 fun _ => de_fldI0 hc hn ho.d0 hb
theorem de_conI0 {v : V} {uv : Value} {d : Dat} (hc : Cls X.K C) (hn : Con X.K C f v uv) (hd : ∀ M, Dr X.K M v d) (ho : DE0 X M0 o wo) (hb : attributeBase o f X.env (eval o X.env) = eval o X.env := by rfl) : DE0 X M0 (.Attribute o f pos) (wConI C f d wo) :=
  pe_imp (pe_con ho hb) fun σ H Q ⟨M, ρ, cs, P, sm, o, r0, p, k⟩ => ⟨M, ρ, cs, _, sm, o, r0, p, fun v' x M1 H1 cs1 s1 o1 r1 ⟨gs, hi, hl, p1⟩ => by
    obtain ⟨a, dx, fs, ev, hH, pr⟩ := insD_ok o1 r1 hi
    exact ⟨a, C, dx, fs, v, uv, ev, hH, hc, hn, (fr_lookup pr).2 hl, k _ _ M1 H1 cs1 s1 o1 (rv_dat (hd M1)) p1⟩⟩
theorem de_conI {v : V} {uv : Value} {d : Dat} (hc : Cls X.K C) (hn : Con X.K C f v uv) (hd : ∀ M, Dr X.K M v d) (ho : DE X o wo) (hb : attributeBase o f X.env (eval o X.env) = eval o X.env := by rfl) : DE X (.Attribute o f pos) (wConI C f d wo) := .of0 fun _ => de_conI0 hc hn hd ho.d0 hb
theorem de_propI0 {k : Nat} {dsp : DSp} (G : DPok X.prog X.w X.K X.mg X.base C f k dsp) (hr : Room (k + 1) X.A) (ho : DE0 X M0 o wo) (hb : attributeBase o f X.env (eval o X.env) = eval o X.env := by rfl) : DE0 X M0 (.Attribute o f pos) (wPropI C dsp wo) := by
  obtain ⟨g, fd, p, ps, F, hc, hp, hbd⟩ := G.ex
  refine pe_imp (pe_prop ho hc hp F hr hbd .nil pass0 hb) fun σ H Q ⟨M, ρ, cs, P, sm, o, r0, p, kk⟩ => ⟨M, ρ, cs, _, sm, o, r0, p, fun v x M1 H1 cs1 s1 o1 r1 ⟨gs, hi, p1⟩ => ?_⟩
  obtain ⟨a, dx, fs, ev, hH, pr⟩ := insD_ok o1 r1 hi
  refine ⟨a, dx, fs, ev, hH, ?_⟩
  subst ev
  exact ⟨M1, [x], cs1, P, X0, o1, .cons r1 .nil, p1, kk.mono s1, fun _ _ _ _ _ _ _ _ _ z => z.elim⟩
theorem de_propI {k : Nat} {dsp : DSp} (G : DPok X.prog X.w X.K X.mg X.base C f k dsp) (hr : Room (k + 1) X.A) (ho : DE X o wo) (hb : attributeBase o f X.env (eval o X.env) = eval o X.env := by rfl) : DE X (.Attribute o f pos) (wPropI C dsp wo) := .of0 fun _ => de_propI0 G hr ho.d0 hb
theorem de_methI0 {pl : Sem Bool} {ps : List Str} {k : Nat} {dsp : DSp} {apos : Pos} (G : DMok X.prog X.w X.K X.mg X.base C m ps k dsp) (hr : Room k X.A) (ho : DE0 X M0 o wo) (ha : DA0 X M0 (e :: es) wr)
    (hst : starEach (e :: es) X.env = (false, eval e X.env) :: starEach es X.env := by rfl) (hpl : (backTo pos (starEach es X.env)).any (·.1) = false := by rfl)
    (ht : eval (.Call (.Attribute o m apos) (e :: es) [] pos) X.env = (eval o X.env >>= fun ov => standAt apos.atName >>= fun _ => holding [ov] (getMethod ov m pl) >>= fun q => callWith pos q.1 q.2 (backTo pos (starEach (e :: es) X.env)) (backToKw pos (keywordEach [] X.env))) := by rfl) : DE0 X M0 (.Call (.Attribute o m apos) (e :: es) [] pos) (wMethI C m dsp wo wr) := by
  obtain ⟨f, fd, F, hc, hm, hb⟩ := G.ex
  refine pe_imp (pe_meth ho hc hm F hr hb .nil pass0 ha hst hpl ht) fun σ H Q ⟨M, ρ, cs, P, sm, o, r0, p, kk⟩ => ?_
  refine ⟨M, ρ, cs, _, sm, o, r0, p, fun v x M1 H1 cs1 s1 o1 r1 ⟨gs, hi, hl, p1⟩ => ?_⟩
  obtain ⟨a, dx, fs, ev, hH, pr⟩ := insD_ok o1 r1 hi
  refine ⟨a, dx, fs, ev, hH, (fr_lookup pr).2 hl, M1, ρ, cs1, _, sm.trans s1, o1, r0.mono s1, p1, fun vs xs M2 H2 cs2 s2 o2 r2 p2 => ?_⟩
  show liftSp X.K dsp (v :: (vs ++ [])) H2 Q E0
  rw [List.append_nil]
  exact ⟨M2, _, cs2, P, X0, o2, .cons (r1.mono s2) r2, p2, kk.mono (s1.trans s2), fun _ _ _ _ _ _ _ _ _ z => z.elim⟩
theorem de_methI {pl : Sem Bool} {ps : List Str} {k : Nat} {dsp : DSp} {apos : Pos} (G : DMok X.prog X.w X.K X.mg X.base C m ps k dsp) (hr : Room k X.A) (ho : DE X o wo) (ha : DA X (e :: es) wr)
    (hst : starEach (e :: es) X.env = (false, eval e X.env) :: starEach es X.env := by rfl) (hpl : (backTo pos (starEach es X.env)).any (·.1) = false := by rfl)
    (ht : eval (.Call (.Attribute o m apos) (e :: es) [] pos) X.env = (eval o X.env >>= fun ov => standAt apos.atName >>= fun _ => holding [ov] (getMethod ov m pl) >>= fun q => callWith pos q.1 q.2 (backTo pos (starEach (e :: es) X.env)) (backToKw pos (keywordEach [] X.env))) := by rfl) : DE X (.Call (.Attribute o m apos) (e :: es) [] pos) (wMethI C m dsp wo wr) := .of0 fun _ => de_methI0 (pl := pl) G hr ho.d0 ha.d0 hst hpl ht
theorem de_methI00 {pl : Sem Bool} {ps : List Str} {k : Nat} {dsp : DSp} {apos : Pos} (G : DMok X.prog X.w X.K X.mg X.base C m ps k dsp) (hr : Room k X.A) (ho : DE0 X M0 o wo)
    (ht : eval (.Call (.Attribute o m apos) [] [] pos) X.env = (eval o X.env >>= fun ov => standAt apos.atName >>= fun _ => holding [ov] (getMethod ov m pl) >>= fun q => callWith pos q.1 q.2 (backTo pos (starEach [] X.env)) (backToKw pos (keywordEach [] X.env))) := by rfl) : DE0 X M0 (.Call (.Attribute o m apos) [] [] pos) (wMethI C m dsp wo wNil) := by
  obtain ⟨f, fd, F, hc, hm, hb⟩ := G.ex
  refine pe_imp (pe_meth0 ho hc hm F hr hb .nil pass0 ht) fun σ H Q ⟨M, ρ, cs, P, sm, o, r0, p, kk⟩ => ?_
  refine ⟨M, ρ, cs, _, sm, o, r0, p, fun v x M1 H1 cs1 s1 o1 r1 ⟨gs, hi, hl, p1⟩ => ?_⟩
  obtain ⟨a, dx, fs, ev, hH, pr⟩ := insD_ok o1 r1 hi
  refine ⟨a, dx, fs, ev, hH, (fr_lookup pr).2 hl, ?_⟩
  show liftSp X.K dsp (v :: ([] ++ [])) H1 Q E0
  exact ⟨M1, _, cs1, P, X0, o1, .cons r1 .nil, p1, kk.mono s1, fun _ _ _ _ _ _ _ _ _ z => z.elim⟩
theorem de_methIn {pl : Sem Bool} {ps : List Str} {k : Nat} {dsp : DSp} {apos : Pos} (G : DMok X.prog X.w X.K X.mg X.base C m ps k dsp) (hr : Room k X.A) (ho : DE X o wo)
    (ht : eval (.Call (.Attribute o m apos) [] [] pos) X.env = (eval o X.env >>= fun ov => standAt apos.atName >>= fun _ => holding [ov] (getMethod ov m pl) >>= fun q => callWith pos q.1 q.2 (backTo pos (starEach [] X.env)) (backToKw pos (keywordEach [] X.env))) := by rfl) : DE X (.Call (.Attribute o m apos) [] [] pos) (wMethI C m dsp wo wNil) := .of0 fun _ => de_methI00 (pl := pl) G hr ho.d0 ht
end
end DL
set_option maxRecDepth 100000
set_option maxHeartbeats 4000000
/-! an own exception made by keywords: C(k = e, ..) -/
namespace XKw
open PySem PySem.W PySem.Calls PyProof.Rows PySem.HandSPX
section
variable {M : Model} {A : Around} {E : Value → Shared → Prop} {h : Heap} {g : Array GenState} {d : Drawn} {t : Nat} {os : OsState} {kw : List (Str × Value)}
variable {nm q : Str} {C N : Addr} {bs bm bmB : List Value} {hdct : Bool} {sn : List Str} {sub : List Value} {ab : Bool} {col : Option Bool} {dd : Option Addr} {k0 k1 k2 k3 k5 : Option Value} {B newId initId : String}
theorem ck_new (F : ExcBaseFacts B newId initId bmB) (hT : ∀ X : String, bm.contains (.type X) = bmB.contains (.type X)) {Q : Unit → Shared → Prop}
    (hC : h.get? C = some (excClassObj nm q C N bs bm hdct sn sub ab col dd k0 k1 k2 k3 k5 newId))
    (hq : Q () ⟨h, g, d, t, os⟩) : wpAny M A (checkBuiltinCall newId ⟨[.ref C], kw⟩) Q E ⟨h, g, d, t, os⟩ := by
  have hcont : (Value.ref C :: bm).contains (.type B) = true := by
    rw [List.contains_cons, hT, F.hasB, Bool.or_true]
  have hstar := F.noStar
  simp only [checkBuiltinCall, F.newKind, F.newSplit, F.newRow]
  repeat (first
    | refine wpAny_loadPart_at hC ?_
    | (refine wpAny_isSubtype_exc hC ?_
       rw [hcont])
    | refine wpAny_staticBase_exc hC ?_
    | refine wpAny_madeBy_exc hC ?_
    | simp only [bne_self_eq_false, Bool.false_eq_true, if_false]
    | wp_step)
  exact hq
end
section
variable {prog : Program} {w : World} {A : Around} {E : Value → Shared → Prop} {R : Result → Shared → Prop} {h : Heap} {g : Array GenState} {d : Drawn} {t : Nat} {os : OsState} {kw : List (Str × Value)}
variable {nm q : Str} {C N : Addr} {bs bm bmB : List Value} {hdct : Bool} {sn : List Str} {sub : List Value} {ab : Bool} {col : Option Bool} {dd : Option Addr} {k0 k1 k2 k3 k5 : Option Value} {B newId initId : String}
theorem nw (F : ExcBaseFacts B newId initId bmB) (hT : ∀ X : String, bm.contains (.type X) = bmB.contains (.type X))
    (hC : h.get? C = some (excClassObj nm q C N bs bm hdct sn sub ab col dd k0 k1 k2 k3 k5 newId))
    (hq : R (.ok (.ret (.ref (h.objs.size + 1)))) ⟨(h.push (W.kdv_tup [])).push (excO C h.objs.size), g, d, t, os⟩) :
    codeAny (model prog w) A (.builtin newId ⟨[.ref C], kw⟩) R ⟨h, g, d, t, os⟩ := by
  have hends := F.ends
  have hcB : (Value.ref C :: bm).contains (.type B) = true := by
    rw [List.contains_cons, hT, F.hasB, Bool.or_true]
  have hcA : (Value.ref C :: bm).contains (.type "AttributeError") = false := by
    rw [List.contains_cons, hT, F.noAttr]
    rfl
  have hcN : (Value.ref C :: bm).contains (.type "NameError") = false := by
    rw [List.contains_cons, hT, F.noName]
    rfl
  refine codeAny_builtinAt F.entry ?_
  unfold Builtin.«BaseException.__new__»
  refine PySem.wpAt_bind ?_
  show PySem.wpAt _ _ _ (stack >>= _) _ _ _
  refine PySem.wpAt_bind (PySem.wpAt_stack fun p below => PySem.wpAt_of_wpAny ?_)
  wp_walk
  refine PySem.wpAt_of_wpAny ?_
  rw [F.owner]
  repeat (first
    | with_reducible refine wpAny_madeHere_exc F.canon hC ?_
    | with_reducible refine wpAny_loadPart_at hC ?_
    | (with_reducible refine wpAny_isSubtype_exc hC ?_
       first | rw [hcB] | rw [hcA] | rw [hcN])
    | wp_step)
  show R _ _
  rw [Heap.size_push]
  exact hq
theorem tcall (F : ExcBaseFacts B newId initId bmB) (hT : ∀ X : String, bm.contains (.type X) = bmB.contains (.type X)) {fI : Addr} {Q : Fin → Shared → Prop}
    (hC : h.get? C = some (excClassObj nm q C N bs bm hdct sn sub ab col dd k0 k1 k2 k3 k5 newId))
    (hi : W.Looks (model prog w) h (typeLookup (.ref C) "__init__") (some (.ref fI))) (hb : ∀ self, W.Looks (model prog w) h (bindSpecial (.ref fI) self) (.ref fI, [self]))
    (hq : codeAny (model prog w) A (.call (.ref fI) ⟨[.ref (h.objs.size + 1)], kw⟩)
      (fun r s' => match r with
        | .ok (.ret v) => v = .none ∧ Q (.done (.ret (.ref (h.objs.size + 1)))) s'
        | .ok _ => False
        | .error e => E e s')
      ⟨(h.push (W.kdv_tup [])).push (excO C h.objs.size), g, d, t, os⟩) :
    wpAny (model prog w) A (Builtin.«type.__call__» ⟨[.ref C], kw⟩) Q E ⟨h, g, d, t, os⟩ := by
  repeat (first
    | with_reducible refine wpAny_loadPart_at hC ?_
    | with_reducible refine wpAny_madeBy_exc hC ?_
    | wp_step)
  refine codeAny_call_builtin_code (Code.quiet_builtin _ F.quiet) (ck_new F hT hC ?_)
  refine nw F hT hC ?_
  show wpAny _ _ _ _ _ _
  have k : ∀ b o, h.get? b = some o → ((h.push (W.kdv_tup [])).push (excO C h.objs.size)).get? b = some o := fun b o e =>
    Heap.get?_push_of_some _ (Heap.get?_push_of_some _ e)
  have hC₁ := k _ _ hC
  have hget : ((h.push (W.kdv_tup [])).push (excO C h.objs.size)).get? (h.objs.size + 1) = some (excO C h.objs.size) := by heap_get
  have hcC : (Value.ref C :: bm).contains (.ref C) = true := by simp
  have i1 := hi.keeps k
  have b1 := (hb (.ref (h.objs.size + 1))).keeps k
  unfold isInstance
  repeat (first
    | with_reducible refine wpAny_loadPart_at hget ?_
    | (with_reducible refine wpAny_isSubtype_exc hC₁ ?_
       rw [hcC])
    | wp_step)
  show wpAny _ _ (typeLookup (.ref C) _) _ _ _
  refine i1.at ?_
  refine wpAny_holding (wpAny_bind (b1.at ?_))
  refine wpAny_bind (wpAny_call (codeAny_mono hq fun r s' z => ?_))
  rcases r with e | (v | _ | _ | _)
  all_goals first | exact z | exact (show False from z).elim | skip
  obtain ⟨rfl, z⟩ := z
  first
    | exact wpAny_pure (wpAny_pure z)
    | (wp_walk; exact z)
theorem call (F : ExcBaseFacts B newId initId bmB) (hT : ∀ X : String, bm.contains (.type X) = bmB.contains (.type X)) {fI : Addr}
    (hC : h.get? C = some (excClassObj nm q C N bs bm hdct sn sub ab col dd k0 k1 k2 k3 k5 newId))
    (hi : W.Looks (model prog w) h (typeLookup (.ref C) "__init__") (some (.ref fI))) (hb : ∀ self, W.Looks (model prog w) h (bindSpecial (.ref fI) self) (.ref fI, [self]))
    (hq : codeAny (model prog w) (A.under (.builtin "type.__call__" ⟨[.ref C], kw⟩)) (.call (.ref fI) ⟨[.ref (h.objs.size + 1)], kw⟩) (W.InitBack (h.objs.size + 1) R)
      ⟨(h.push (W.kdv_tup [])).push (excO C h.objs.size), g, d, t, os⟩) :
    codeAny (model prog w) A (.call (.ref C) ⟨[], kw⟩) R ⟨h, g, d, t, os⟩ := by
  have f1 := tc_lookup
  have f2 := tc_bind (.ref C)
  have hTy : (⟨h, g, d, t, os⟩ : Shared).TypeIs (.ref C) "type" := ⟨_, hC, rfl⟩
  refine codeAny_of_tree ?_
  show wpAny _ _ (callAny (.ref C) _) _ _ _
  repeat (any_goals (first
    | assumption
    | with_reducible refine wpAny_loadPart_at hC ?_
    | wp_step))
  refine ⟨rfl, ?_⟩
  refine codeAny_call_builtin_at (Code.quiet_builtin _ (by decide +kernel)) entry_typeCall (wpAny_check_type_call_sub hC (tcall F hT hC hi hb ?_))
  refine codeAny_mono hq fun r s' z => ?_
  rcases r with e | (v | _ | _ | _) <;> exact z
end
end XKw
set_option maxRecDepth 100000
set_option maxHeartbeats 4000000
namespace XKw
open PySem PySem.Spec PyProof.Rows L2 DL
/-- Base.__init__(self, ..), Base an own class over ValueError without __init__ -/
theorem pe_oeinit {X : Cx} {B : Str} {CB : Addr} {mc : Value} {e : Expr} {es : List Expr} {ta : TA} {p1 p2 pos : Pos} {pl : Sem Bool} (hm : X.mg B = some (.ref CB)) (r : ClX.CRead X.K CB mc) (vV : PySem.W.findCls X.K (.ref CB) mc "__init__" = some (.val (.builtin "ValueError.__init__"))) (ha : PA X (e :: es) ta) (hg : Gl X B)
    (hdb : (B == ("__debug__" : Str)) = false := by decide)
    (hc : eval (.Call (.Attribute (.Name B p1) "__init__" p2) (e :: es) [] pos) X.env = (eval (.Name B p1) X.env >>= fun ov => standAt p2.atName >>= fun _ => holding [ov] (getMethod ov "__init__" pl) >>= fun q => callWith pos q.1 q.2 (backTo pos (starEach (e :: es) X.env)) (backToKw pos (keywordEach [] X.env))) := by rfl)
    (he : starEach (e :: es) X.env = (false, eval e X.env) :: starEach es X.env := by rfl) (hpl : (backTo pos (starEach es X.env)).any (·.1) = false := by rfl) :
    PE X (.Call (.Attribute (.Name B p1) "__init__" p2) (e :: es) [] pos) (tVeI X.K ta) := by
  refine ⟨fun pins s σ H Q I h => ?_⟩
  refine PySem.W.methodCall_KW (pl := pl) (ld_glob I hg hm ?_ hdb) hc
  refine PySem.W.method_cls I.kIn r.ga (PySem.W.cls_value I.kIn r.rd vV (by decide +kernel) ?_)
  show wpAny _ _ (callWith pos (Value.builtin "ValueError.__init__") [] (backTo pos (starEach (e :: es) X.env)) []) _ _ _
  refine PyProof.Rows.callWith_method1 (thn (ha.run pos pins _ σ H _ (I.tok _) h) fun us s1 ⟨vs, H1, I1, r1, a, C, ws, ev, hl, T, ea, q⟩ => ?_) he hpl
  subst ev
  cases r1 with
  | @cons _ u0 _ ur ra rw' =>
    have e0 : u0 = Value.ref a := ra
    subst e0
    have hlen : ur.length ≤ sizeLine := by
      rw [← Paired.length rw', sizeLine_eq]
      omega
    exact oinit_ok T I1 ea hlen fun s' J => ⟨.non, H1, J, rfl, q⟩
/-- what an __init__(self, *, f) and an __init__(self, *, f, g) promise -/
def sp1 (K : Frag) (f : Str) : Sp := fun vs H Q _ => ∃ (a C : Addr) (y : V), vs = [.ref a, y] ∧ OexC K C ∧ PySem.W.findIn K (.ref C) f = some none ∧ H a = some (exo a C none) ∧
  ∀ dx, H dx = none → dx ≠ a → Q .non (upd (upd H dx (exd dx [(f, y)])) a (exo a C (some dx)))
def sp2 (K : Frag) (f g : Str) : Sp := fun vs H Q _ => ∃ (a C : Addr) (y z : V), vs = [.ref a, y, z] ∧ OexC K C ∧ PySem.W.findIn K (.ref C) f = some none ∧ PySem.W.findIn K (.ref C) g = some none ∧ H a = some (exo a C none) ∧
  ∀ dx, H dx = none → dx ≠ a → Q .non (upd (upd (upd H dx (exd dx [(f, y)])) a (exo a C (some dx))) dx (exd dx [(g, z), (f, y)]))
/-- C(k = e, ..) -/
def tMkK (C : Addr) (n : Nat) (sp : Sp) (gV : List V → List V → List V) (tk : TA) : L2.St → Hp → XK → Prop := fun σ H Q => tk σ H fun zs H1 => zs.length = n ∧ ∀ a, H1 a = none → sp (gV [.ref a] zs) (upd H1 a (exo a C none))
  (fun v H2 => v = .non ∧ ∃ (d : Addr) (fs : List (Str × V)), H2 a = some (exo a C (some d)) ∧ H2 d = some (exd d fs) ∧ H1 d = none ∧ Q (.ref C) (some d) (upd (del H2 a) d (.xd fs))) (fun _ _ _ => False)
theorem pmk_kw {X : Cx} {CX : CXT} {x : Str} {C fI : Addr} {k : Nat} {fd : FuncData} {ps ks : List Str} {sp : Sp} {g : List Value → List Value → List Value} {gV : List V → List V → List V} {kws : List Keyword} {tk : TA} {p pos : Pos} (T : OexC X.K C) (iC : PySem.W.findIn X.K (.ref C) "__init__" = some (some (.ref fI))) (tI : PySem.W.typeIn X.K (.ref fI) = some (.type "function"))
    (F1 : FnOk X.prog X.w X.K X.mg X.base CX k fI fd ps sp) (hr : Room (k + 1) X.A) (hb : KBn X.K fd ps 1 ks g gV) (hx : Passes CX X (fun _ _ _ => False)) (hg : Gl X x) (hm : X.mg x = some (.ref C)) (hkw : PK X kws tk)
    (hall : (backToKw pos (keywordEach kws X.env)).all (·.1.isSome) = true := by rfl) (hks : (backToKw pos (keywordEach kws X.env)).filterMap (·.1) = ks := by rfl) (hdb : (x == ("__debug__" : Str)) = false := by decide)
    (hpl : ((backTo pos (starEach [] X.env)).any (·.1) || (backToKw pos (keywordEach kws X.env)).any (·.1.isNone)) = false := by rfl) :
    PMk X (.Call (.Name x p) [] kws pos) (tMkK C ks.length sp gV tk) := by
  intro pins s σ H Q I h
  obtain ⟨nm, q, N, bs, bm, sn, sub, ab, col, dd, k0, k1, k2, k3, k5, hC, hbm⟩ := T.cls
  refine wpAny_Call_Name_kw (ld_glob I hg hm ?_ hdb)
  refine PySem.W.callWith_KW0 (h₀ := X.base) I.ok.mod.kin T.kC hall ?_ hpl
  refine thn (hkw.run pos pins s σ H _ I h) fun ws s1 ⟨zs, H1, I1, rz, l2, q1⟩ => ⟨I1.kIn, ?_⟩
  rw [hks]
  show wpAny _ _ (PySem.call (.ref C) [] (ks.zip ws)) _ _ _
  obtain ⟨hp, gg, dr, tt, os⟩ := s1
  have hsz : hp.objs.size ≤ hp.objs.size + 1 := Nat.le_succ _
  have hn : H1 (hp.objs.size + 1) = none := I1.hok.fresh hsz
  have hq := q1 (hp.objs.size + 1) hn
  have kk : ∀ b o, hp.get? b = some o → ((hp.push (PySem.W.kdv_tup [])).push (PySem.HandSPX.excO C hp.objs.size)).get? b = some o := fun b o e =>
    Heap.get?_push_of_some _ (Heap.get?_push_of_some _ e)
  have hget : ((hp.push (PySem.W.kdv_tup [])).push (PySem.HandSPX.excO C hp.objs.size)).get? (hp.objs.size + 1) = some (PySem.HandSPX.excO C hp.objs.size) := by heap_get
  have I2 : Inv X pins σ (upd H1 (hp.objs.size + 1) (exo (hp.objs.size + 1) C none)) ⟨(hp.push (PySem.W.kdv_tup [])).push (PySem.HandSPX.excO C hp.objs.size), gg, dr, tt, os⟩ :=
    I1.laid (t' := tt) (a := hp.objs.size + 1) (o := exo (hp.objs.size + 1) C none) kk hsz (exo_ok hget)
  have r1 : Vals [V.ref (hp.objs.size + 1)] [Value.ref (hp.objs.size + 1)] := .cons rfl .nil
  have r2 := hb.rel r1 rz
  refine wpAny_call (XKw.call F.excBase_ValueError (fun Y => PySem.HandSPX.refsVE_contains Y bm hbm) (I1.kIn _ _ hC) (PySem.W.looks_findIn I1.kIn iC) (fun self => PySem.W.bind_fn I1.kIn self tI)
    (codeAny_mono (F1.run _ X.stack _ _ ⟨[Value.ref (hp.objs.size + 1)], ks.zip ws⟩ (g [Value.ref (hp.objs.size + 1)] ws) _ _ (fun _ _ _ => False) (hr.make C [] (ks.zip ws)) (I2.env0.make C [] (ks.zip ws)) (hb.to _ [Value.ref (hp.objs.size + 1)] ws I2.kIn rfl (rz.length.symm.trans l2)) r2 hq) fun r s' hq' => ?_))
  cases r with
  | error er => exact hx pins σ _ _ er s' I2 hq'
  | ok fl =>
    cases fl with
    | ret u =>
      obtain ⟨v, H2, os2, bare2, un2, hok2, rv, ev, d, fs, ea, ed, hd1, q2⟩ := hq'
      subst ev
      obtain ⟨h2, g2, d2, t2, os'⟩ := s'
      exact ⟨rv, mk_end (raises_own T.exC T.tyC) I1 hsz kk un2 hok2 os2 bare2 ea ed hd1 q2⟩
    | next => exact False.elim hq'
    | brk => exact False.elim hq'
    | cont => exact False.elim hq'
theorem xd_ok {K : Frag} {M H1 H3 : Hp} {cs : Cells} {a d : Addr} {fs : List (Str × V)} (o : Ok K M H1 cs) (ha : H1 a = none) (hd : H1 d = none) (h3 : ∀ b, b ≠ a → b ≠ d → H3 b = H1 b) : Same M (upd M d (.xd fs)) ∧ Ok K (upd M d (.xd fs)) (upd (del H3 a) d (.xd fs)) cs := by
  have hs : Same M (upd M d (.xd fs)) := same_upd (o.free hd)
  refine ⟨hs, ⟨fun b ob e => ?_, fun b c e => ?_⟩⟩
  · by_cases hb : b = d
    · subst hb
      rw [upd_same] at e ⊢
      exact e
    · rw [upd_ne hb] at e ⊢
      have e1 := o.ex b ob e
      have hba : b ≠ a := ne_of_none e1 ha
      rw [del_ne hba, h3 b hba hb]
      exact e1
  · obtain ⟨m, ob, q, r⟩ := o.cell b c e
    have hba : b ≠ a := ne_of_none q ha
    have hbd : b ≠ d := ne_of_none q hd
    exact ⟨by rw [upd_ne hbd]; exact m, ob, by rw [upd_ne hbd, del_ne hba, h3 b hba hbd]; exact q, r.mono hs⟩
end XKw
namespace DL
open PySem PySem.Spec PyProof.Rows L2 XKw
/-- what stands of an exception class with one field, with two -/
structure Xc1 (P : Program) (w : World) (K : Frag) (mg : Str → Option Value) (base : Heap) (x : Str) (C : Addr) (f : Str) : Prop where
  T : OexC K C
  hm : mg x = some (.ref C)
  hf : PySem.W.findIn K (.ref C) f = some none
  ex : ∃ fI fd, PySem.W.findIn K (.ref C) "__init__" = some (some (.ref fI)) ∧ PySem.W.typeIn K (.ref fI) = some (.type "function") ∧ FnOk P w K mg base CX0 1 fI fd ["self", f] (sp1 K f) ∧ KBn K fd ["self", f] 1 [f] (fun us ws => us ++ ws) (fun us ws => us ++ ws)
structure Xc2 (P : Program) (w : World) (K : Frag) (mg : Str → Option Value) (base : Heap) (x : Str) (C : Addr) (f g : Str) : Prop where
  T : OexC K C
  hm : mg x = some (.ref C)
  hf : PySem.W.findIn K (.ref C) f = some none
  hg : PySem.W.findIn K (.ref C) g = some none
  ex : ∃ fI fd, PySem.W.findIn K (.ref C) "__init__" = some (some (.ref fI)) ∧ PySem.W.typeIn K (.ref fI) = some (.type "function") ∧ FnOk P w K mg base CX0 1 fI fd ["self", f, g] (sp2 K f g) ∧ KBn K fd ["self", f, g] 1 [f, g] (fun us ws => us ++ ws) (fun us ws => us ++ ws)
def wRaise1 (C : Addr) (f : Str) (we : WE) (W : DWX) : WS := fun _ ρ cs => we ρ cs fun x cs1 => W (.ref C) [(f, x)] ρ cs1
def wRaise2 (C : Addr) (f g : Str) (we wd : WE) (W : DWX) : WS := fun _ ρ cs => we ρ cs fun x cs1 => wd ρ cs1 fun y cs2 => W (.ref C) [(g, y), (f, x)] ρ cs2
section
variable {X : Cx} {M0 : Hp} {W : DWX} {x f g : Str} {C : Addr} {e e2 : Expr} {we wd : WE} {p pos pos' kp kp2 : Pos}
theorem ds_raise1 (G : Xc1 X.prog X.w X.K X.mg X.base x C f) (tk : Takes X (liftW X.K M0 W)) (hr : Room 2 X.A) (he : DE0 X M0 e we) (hc : X.calm = true := by rfl) (hg : Gl X x := by rfl) (hdb : (x == ("__debug__" : Str)) = false := by decide)
    (hall : (backToKw pos (keywordEach [⟨some f, e, kp⟩] X.env)).all (·.1.isSome) = true := by rfl) (hks : (backToKw pos (keywordEach [⟨some f, e, kp⟩] X.env)).filterMap (·.1) = [f] := by rfl)
    (hpl : ((backTo pos (starEach [] X.env)).any (·.1) || (backToKw pos (keywordEach [⟨some f, e, kp⟩] X.env)).any (·.1.isNone)) = false := by rfl) :
    DS0 X M0 (.Raise (some (.Call (.Name x p) [] [⟨some f, e, kp⟩] pos)) none pos') (wRaise1 C f we W) := by
  obtain ⟨fI, fd, iC, tI, F1, hb⟩ := G.ex
  refine ps_imp (ps_raise hc tk (pmk_kw (ks := [f]) G.T iC tI F1 hr hb pass0 hg G.hm (pk_cons he pk_nil) hall hks hdb hpl)) fun E σ H ⟨M, ρ, cs, D, sm, o, r0, h, _⟩ => ?_
  refine ⟨M, ρ, cs, _, sm, o, r0, h, fun v x1 M1 H1 cs1 s1 o1 r1 p1 => ⟨rfl, fun a ha => ?_⟩⟩
  refine ⟨a, C, v, rfl, G.T, G.hf, upd_same, fun dx h1 h2 => ⟨rfl, dx, [(f, v)], upd_same, ?_, ?_, ?_⟩⟩
  · rw [upd_ne h2]; exact upd_same
  · rw [upd_ne h2] at h1; exact h1
  · have hd : H1 dx = none := by rw [upd_ne h2] at h1; exact h1
    obtain ⟨q1, q2⟩ := xd_ok (fs := [(f, v)]) (H3 := upd (upd (upd H1 a (exo a C none)) dx (exd dx [(f, v)])) a (exo a C (some dx))) o1 ha hd (fun b hb hb2 => by rw [upd_ne hb, upd_ne hb2, upd_ne hb])
    exact ⟨_, ρ, cs1, [(f, x1)], sm.trans (s1.trans q1), q2, r0.mono (s1.trans q1), ⟨_, upd_same, .cons ⟨rfl, r1.mono q1⟩ .nil⟩, p1⟩
theorem ds_raise2 (G : Xc2 X.prog X.w X.K X.mg X.base x C f g) (tk : Takes X (liftW X.K M0 W)) (hr : Room 2 X.A) (he : DE0 X M0 e we) (he2 : DE0 X M0 e2 wd) (hc : X.calm = true := by rfl) (hgl : Gl X x := by rfl) (hdb : (x == ("__debug__" : Str)) = false := by decide)
    (hall : (backToKw pos (keywordEach [⟨some f, e, kp⟩, ⟨some g, e2, kp2⟩] X.env)).all (·.1.isSome) = true := by rfl) (hks : (backToKw pos (keywordEach [⟨some f, e, kp⟩, ⟨some g, e2, kp2⟩] X.env)).filterMap (·.1) = [f, g] := by rfl)
    (hpl : ((backTo pos (starEach [] X.env)).any (·.1) || (backToKw pos (keywordEach [⟨some f, e, kp⟩, ⟨some g, e2, kp2⟩] X.env)).any (·.1.isNone)) = false := by rfl) :
    DS0 X M0 (.Raise (some (.Call (.Name x p) [] [⟨some f, e, kp⟩, ⟨some g, e2, kp2⟩] pos)) none pos') (wRaise2 C f g we wd W) := by
  obtain ⟨fI, fd, iC, tI, F1, hb⟩ := G.ex
  refine ps_imp (ps_raise hc tk (pmk_kw (ks := [f, g]) G.T iC tI F1 hr hb pass0 hgl G.hm (pk_cons he (pk_cons he2 pk_nil)) hall hks hdb hpl)) fun E σ H ⟨M, ρ, cs, D, sm, o, r0, h, _⟩ => ?_
  refine ⟨M, ρ, cs, _, sm, o, r0, h, fun v x1 M1 H1 cs1 s1 o1 r1 p1 => ⟨M1, ρ, cs1, _, sm.trans s1, o1, r0.mono s1, p1, fun v2 x2 M2 H2 cs2 s2 o2 r2 p2 => ⟨rfl, fun a ha => ?_⟩⟩⟩
  refine ⟨a, C, v, v2, rfl, G.T, G.hf, G.hg, upd_same, fun dx h1 h2 => ⟨rfl, dx, [(g, v2), (f, v)], ?_, upd_same, ?_, ?_⟩⟩
  · rw [upd_ne (Ne.symm h2)]; exact upd_same
  · rw [upd_ne h2] at h1; exact h1
  · have hd : H2 dx = none := by rw [upd_ne h2] at h1; exact h1
    obtain ⟨q1, q2⟩ := xd_ok (fs := [(g, v2), (f, v)]) (H3 := upd (upd (upd (upd H2 a (exo a C none)) dx (exd dx [(f, v)])) a (exo a C (some dx))) dx (exd dx [(g, v2), (f, v)])) o2 ha hd (fun b hb hb2 => by rw [upd_ne hb2, upd_ne hb, upd_ne hb2, upd_ne hb])
    exact ⟨_, ρ, cs2, [(g, x2), (f, x1)], sm.trans (s1.trans (s2.trans q1)), q2, r0.mono (s1.trans (s2.trans q1)), ⟨_, upd_same, .cons ⟨rfl, r2.mono q1⟩ (.cons ⟨rfl, r1.mono (s2.trans q1)⟩ .nil)⟩, p2⟩
end
end DL
set_option maxRecDepth 100000
set_option maxHeartbeats 4000000
/-! try: .. except C as e: ..; e.f and isinstance(e, C) there -/
namespace DL
open PySem L2 PySem.Spec PyProof.Rows
def unE (i : Nat) (D : DEnds) : DEnds := { nx := fun ρ cs => D.nx (ρ.set i none) cs, rt := D.rt, bk := fun ρ cs => D.bk (ρ.set i none) cs, ct := fun ρ cs => D.ct (ρ.set i none) cs }
theorem Rho.unset {K : Frag} {M : Hp} {σ : L2.St} {ρ : DEnv} (h : Rho K M σ ρ) (i : Nat) : Rho K M (σ.set i none) (ρ.set i none) := by
  refine ⟨by rw [List.length_set, List.length_set, h.len], fun j y e => ?_⟩
  by_cases hj : i = j
  · subst hj
    by_cases hl : i < ρ.length
    · rw [List.getElem?_set_self hl] at e; cases e
    · rw [List.getElem?_eq_none (by rw [List.length_set]; omega)] at e; cases e
  · rw [List.getElem?_set_ne hj] at e
    obtain ⟨u, q, s⟩ := h.at_ j y e
    exact ⟨u, by rw [List.getElem?_set_ne hj]; exact q, s⟩
/-- except c as e (slot i): the suite is told of the exception's address, class and fields -/
def wAsD (K : Frag) (c : Value) (i : Nat) (wsu : Addr → Value → List (Str × Vl) → WS) (Wout : DWX) (D : DEnds) : DWX := fun cls fs ρ cs => ∃ b, PySem.W.exmOne K cls c = some b ∧
  (b = true → ∀ a, wsu a cls fs (unE i D) (ρ.set i (some (.raw (.ref a)))) cs) ∧ (b = false → Wout cls fs ρ cs)
def wTryAs (K : Frag) (c : Value) (i : Nat) (Wout : DWX) (tb : DWX → WS) (wsu : Addr → Value → List (Str × Vl) → WS) : WS := fun D ρ cs => tb (wAsD K c i wsu Wout D) D ρ cs
theorem ds_tryAs {X : Cx} {M0 : Hp} {x n : Str} {c : Value} {i : Nat} {body suite : List Stmt} {b₀ : Stmt} {np pos pos' : Pos} {tb : DWX → WS} {Wout : DWX} {wsu : Addr → Value → List (Str × Vl) → WS} (hN : X.N.Nodup) (hc : Names X x c) (tk : Takes X (liftW X.K M0 Wout))
    (hb : ∀ (M1 : Hp) (W : DWX) (pn : List (Addr × Obj)) (xe : Value → Shared → Prop), Same M0 M1 → Takes (X.tr pn xe) (liftW X.K M1 W) → PassesOwn (model X.prog X.w) X.A X.env xe → DSs0 (X.tr pn xe) M1 body (tb W))
    (hsu : ∀ (a : Addr) (oe : Obj) (cls : Value) (d : Option Addr) (pn : List (Addr × Obj)) (M1 : Hp) (fs : List (Str × Vl)), Same M0 M1 → Zc cls d oe → (∃ vs, oe.data = .fields vs) → XRep X.K M1 d fs → DSs0 (X.suite a ((a, oe) :: pn)) M1 (b₀ :: suite) (wsu a cls fs))
    (hi : X.N[i]? = some n := by rfl) (hln : X.env.kindOf n = some .local := by rfl) (hs : X.stack = X.env :: X.outer := by rfl) (hf : X.env.frame = some X.env.locals := by rfl) :
    DS0 X M0 (.Try body [.ExceptHandler (some (.Name x np)) (some n) (b₀ :: suite) pos'] [] [] pos) (wTryAs X.K c i Wout tb wsu) := by
  refine ps_imp (ps_try_as (tb := fun W D σ H => ∃ (M1 : Hp) (W' : DWX), Same M0 M1 ∧ (∀ cls d σ H, liftW X.K M1 W' cls d σ H → W cls d σ H) ∧ liftS0 X.K M1 (tb W') D σ H)
    (ts := fun a cls d D σ H => ∃ (M1 : Hp) (fs : List (Str × Vl)), Same M0 M1 ∧ XRep X.K M1 d fs ∧ liftS0 X.K M1 (wsu a cls fs) D σ H) hs hf hN hi hln hc tk (fun W pn xe tk' po => ⟨fun pins s σ H D I ⟨M1, W', sm1, himp, h⟩ => (hb M1 W' pn xe sm1 (tk'.imp himp) po).run pins s σ H D I h⟩)
    (fun a oe cls d pn hz hfl => ⟨fun pins s σ H D I ⟨M1, fs, sm1, xr, h⟩ => (hsu a oe cls d pn M1 fs sm1 hz hfl xr).run pins s σ H D I h⟩)) fun E σ H ⟨M, ρ, cs, D, sm, o, r, h, e⟩ => ?_
  refine ⟨M, wAsD X.K c i wsu Wout D, sm, fun cls d σ1 H1 ⟨M1, ρ1, cs1, fs, s1, o1, r1, xr, b, hb1, w1, w2⟩ => ⟨b, hb1, fun hb a ha => ?_, fun hb => ?_⟩, M, ρ, cs, D, Same.refl _, o, r, h, e⟩
  · have e1 := e.mono s1
    exact ⟨M1, fs, sm.trans s1, xr, M1, _, cs1, unE i D, Same.refl _, o1, r1.set rv_raw, w1 hb a, ⟨fun σ' ρ' M' H' cs' s o' r' p => e1.nx _ _ M' H' cs' s o' (r'.unset i) p, e1.rt, fun σ' ρ' M' H' cs' s o' r' p => e1.bk _ _ M' H' cs' s o' (r'.unset i) p, fun σ' ρ' M' H' cs' s o' r' p => e1.ct _ _ M' H' cs' s o' (r'.unset i) p⟩⟩
  · exact ⟨M1, ρ1, cs1, fs, sm.trans s1, o1, r1, xr, w2 hb⟩
/-! ### in the suite -/
def wXf (K : Frag) (a : Addr) (cls : Value) (fs : List (Str × Vl)) (n : Str) (we : WE) : WE := fun ρ cs P => we ρ cs fun x cs1 => x = .raw (.ref a) ∧ ∃ C, cls = .ref C ∧ XfC K C ∧ PySem.W.findIn K (.ref C) n = some none ∧ ∃ dn v, fs ≠ [] ∧ fs.lookup n = some v ∧ dn = n ∧ P v cs1
theorem de_xf {X : Cx} {M1 : Hp} {a : Addr} {oe : Obj} {cls : Value} {d : Option Addr} {pn : List (Addr × Obj)} {fs : List (Str × Vl)} {e : Expr} {we : WE} {pos : Pos} {n : Str} (hz : Zc cls d oe) (hf : ∃ vs, oe.data = .fields vs) (xr : XRep X.K M1 d fs) (he : DE0 (X.suite a ((a, oe) :: pn)) M1 e we)
    (hb : attributeBase e n X.env (eval e X.env) = eval e X.env := by rfl) : DE0 (X.suite a ((a, oe) :: pn)) M1 (.Attribute e n pos) (wXf X.K a cls fs n we) := by
  refine ⟨fun pins s σ H Q I ⟨M, ρ, cs, P, sm, o, r, p, k⟩ => ?_⟩
  refine attr_of hb (thn (he.run pins s σ H (fun x H1 => ∃ M2 cs2 C v, Same M M2 ∧ Ok X.K M2 H1 cs2 ∧ x = .ref a ∧ cls = .ref C ∧ XfC X.K C ∧ PySem.W.findIn X.K (.ref C) n = some none ∧ fs ≠ [] ∧ fs.lookup n = some v ∧ P v cs2) I ⟨M, ρ, cs, _, sm, o, r, p, fun v x M2 H2 cs2 s2 o2 r2 ⟨ex, C, ec, T, hno, dn, y, hne, hl, _, p2⟩ => by
    subst ex
    exact ⟨M2, cs2, C, y, s2, o2, r2, ec, T, hno, hne, hl, p2⟩⟩) fun u s1 hh => ?_)
  obtain ⟨x, H1, I1, rx, M2, cs2, C, y, s2, o2, ex, ec, T, hno, hne, hl, p2⟩ := hh
  subst ex
  have eu : u = Value.ref a := rx
  subst eu
  subst ec
  cases d with
  | none => exact absurd xr hne
  | some dd =>
    obtain ⟨gs, hM, pr⟩ := xr
    have hH : H1 dd = some (.xd gs) := o2.ex _ _ (s2 _ _ (sm _ _ hM))
    obtain ⟨v, hv, rv⟩ := (fr_lookup pr).1 y hl
    obtain ⟨ha, _⟩ := I1.pin (a, oe) (List.mem_append_left _ List.mem_cons_self)
    obtain ⟨vs, hd⟩ := hf
    have hx : ObjOk X.prog X.w H1 s1.heap dd (.xd gs) := I1.hok dd _ hH
    obtain ⟨mA, hns, hr⟩ := hx
    obtain ⟨od, ho, hlk⟩ := lookIn_ns hns
    obtain ⟨uu, hu, ru⟩ := RelO.some_of (v := v) (o := mA n) (by rw [← hv]; exact hr n)
    have J : PySem.W.InstAt s1.heap a oe C (some od) := ⟨ha, hz.1, by unfold PySem.W.notCls; rw [hd] <;> rfl, by rw [hz.2]; exact ho⟩
    exact HandSPX.exc_get I1.kIn J T.ga T.gg T.exC (PySem.W.findObj_own T.hdC hno rfl (by rw [hlk, hu])) (handed_of ru) ⟨v, H1, I1.tok _, ru, k v y M2 H1 cs2 s2 o2 (rv.mono (sm.trans s2)) p2⟩
/-- isinstance(e, c) -/
def wIsE (K : Frag) (a : Addr) (cls cv : Value) (we : WE) : WE := fun ρ cs P => we ρ cs fun x cs1 => x = .raw (.ref a) ∧ ∃ D b, cls = .ref D ∧ ExcC K D ∧ PySem.W.kitOne K (.ref D) cv = some b ∧ P (.dat (.bl b)) cs1
def rIsX (K : Frag) (M : Hp) (a : Addr) (cls cv : Value) : List V → Hp → VK → Prop := fun xs H Q => ∃ (c : V) (D : Addr) (b : Bool), xs = [.ref a, c] ∧ (∀ u, RelV c u → u = cv) ∧ cls = .ref D ∧ ExcC K D ∧ Same M H ∧ PySem.W.kitOne K (.ref D) cv = some b ∧ Q (.bl b) H
theorem call_isX {X : Cx} {M1 : Hp} {a : Addr} {oe : Obj} {cls cv : Value} {d : Option Addr} {pn : List (Addr × Obj)} {fs : List (Str × Vl)} (hz : Zc cls d oe) (hf : ∃ vs, oe.data = .fields vs) (xr : XRep X.K M1 d fs) : CallR (X.suite a ((a, oe) :: pn)) (.builtin "isinstance") (rIsX X.K M1 a cls cv) := by
  intro pins s σ H xs us Q I r h
  obtain ⟨c, D, b, rfl, hcv, ec, C, sm, e, q⟩ := h
  subst ec
  cases r with
  | cons rx rr =>
    cases rr with
    | cons rt rr =>
      cases rr
      cases rx
      have ec := hcv _ rt
      subst ec
      obtain ⟨hget, _⟩ := I.pin (a, oe) (List.mem_append.mpr (.inl List.mem_cons_self))
      obtain ⟨vs, hv⟩ := hf
      have J : ∃ od, PySem.W.InstAt s.heap a oe D od := by
        obtain ⟨oc, od, oda, osl⟩ := oe
        obtain ⟨h1, h2⟩ := hz
        dsimp only at h1 h2 hv
        subst h1 h2 hv
        cases od with
        | none => exact ⟨none, hget, rfl, rfl, trivial⟩
        | some dd =>
          obtain ⟨gs, hM, _⟩ := xr
          have hx : ObjOk X.prog X.w H s.heap dd (.xd gs) := I.hok dd _ (sm _ _ hM)
          obtain ⟨mA, hns, _⟩ := hx
          obtain ⟨o1, ho, _⟩ := lookIn_ns hns
          exact ⟨some o1, hget, rfl, rfl, ho⟩
      obtain ⟨od, J⟩ := J
      have hcl : (PySem.W.clsIn X.K D).isSome = true := by
        obtain ⟨cd, hc, _⟩ := PySem.W.any_some C.hd
        rw [hc]; rfl
      exact PySem.W.kia_one (PySem.W.kitx_exc hcl C.hg C.hk C.hs C.ha C.hn C.ht C.hm) I.kIn J e (fun z => nomatch z) fun tk => ⟨.bl b, H, I.kept (t' := tk) fun _ _ z => z, rfl, q⟩
theorem de_isE {X : Cx} {M1 : Hp} {a : Addr} {oe : Obj} {cls : Value} {d : Option Addr} {pn : List (Addr × Obj)} {fs : List (Str × Vl)} {e : Expr} {we : WE} {y : Str} {C : Addr} {p1 p2 pos : Pos} (hz : Zc cls d oe) (hf : ∃ vs, oe.data = .fields vs) (xr : XRep X.K M1 d fs) (hi : X.mg "isinstance" = none) (hy : X.mg y = some (.ref C)) (he : DE0 (X.suite a ((a, oe) :: pn)) M1 e we)
    (hg : Gl X "isinstance" := by rfl) (hgy : Gl X y := by rfl) (hdy : (y == ("__debug__" : Str)) = false := by decide) (hst : starEach [e, .Name y p2] X.env = (false, eval e X.env) :: starEach [.Name y p2] X.env := by rfl) (hst2 : starEach [.Name y p2] X.env = (false, eval (.Name y p2) X.env) :: starEach [] X.env := by rfl) (hpl : (backTo pos (starEach [.Name y p2] X.env)).any (·.1) = false := by rfl) :
    DE0 (X.suite a ((a, oe) :: pn)) M1 (.Call (.Name "isinstance" p1) [e, .Name y p2] [] pos) (wIsE X.K a cls (.ref C) we) := by
  refine pe_imp (pe_callB (call_isX (cv := .ref C) hz hf xr) hg hi (by decide +kernel) (pa_cons he (pa_cons (pe_glob (v := .ref C) (u := .ref C) hgy hy rfl hdy) pa_nil hst2) hst) (by decide) (by decide) hst hpl) fun σ H Q ⟨M, ρ, cs, P, sm, o, r, p, k⟩ => ?_
  refine ⟨M, ρ, cs, _, sm, o, r, p, fun v x M2 H2 cs2 s2 o2 r2 ⟨ex, D, b, ec, T, hk, p2⟩ => ?_⟩
  subst ex
  have ev : v = .ref a := r2
  subst ev
  exact ⟨.ref C, D, b, rfl, fun u hu => hu, ec, T, (sm.trans s2).trans o2.ex, hk, k _ _ M2 H2 cs2 s2 o2 (rv_dat (.bl b)) p2⟩
end DL
set_option maxRecDepth 100000
set_option maxHeartbeats 4000000
/-! lambdas as values; a def that calls the lambda it got -/
namespace LamD
open PySem PySem.Spec PyProof.Rows L2 DL
def LamO (q : Str) (params : Arguments) (body : Expr) (scope : Scope) (clo : List (Str × Addr)) (pm ctv : Value) (c' : Addr) (a : Addr) : HO := .ext fun h => h.get? a = some (PySem.W.kla_obj "<lambda>" q params body scope clo pm c' ctv)
theorem lamO_ok {P : Program} {w : World} {H : Hp} {h : Heap} {q : Str} {params : Arguments} {body : Expr} {scope : Scope} {clo : List (Str × Addr)} {pm ctv : Value} {c' a : Addr} (e : h.get? a = some (PySem.W.kla_obj "<lambda>" q params body scope clo pm c' ctv)) : ObjOk P w H h a (LamO q params body scope clo pm ctv c' a) :=
  ⟨e, ⟨_, e⟩, fun _ _ z k => k _ z⟩
/-- the i-th lambda of a def -/
def Lm (q : Str) (cells : List (Str × Addr)) (ls : List (Arguments × Expr × Scope)) (i : Nat) (φ : Addr → HO) (ex : List (Addr × HO)) : Prop :=
  ∃ l pm ctv c', ls[i]? = some l ∧ φ = LamO q l.1 l.2.1 l.2.2 (cloFrom cells l.2.2.names []) pm ctv c' ∧ ex = [(c', LamX.CodeO c' q)]
abbrev RL := Nat → (Addr → HO) → List (Addr × HO) → Prop
def wLamMk (R : RL) (P : Addr) (q : Str) (i : Nat) : WE := fun _ cs P' => cs P = some (.tl q) ∧ ∀ φ ex, R i φ ex → P' (.dat (.ho φ ex)) cs
section
variable {X : Cx} {pins : List (Addr × Obj)} {σ : L2.St} {H : Hp} {s : Shared}
/-- a lambda is made -/
theorem lam_mk {c P : Addr} {ps : Array Value} {params : Arguments} {body : Expr} {scope : Scope} {pos : Pos} {E : Value → Shared → Prop} {Q : Value → Shared → Prop} (I : Inv X pins σ H s) (TB : LamX.TabB X.base X.mg c P) (hcode : X.env.code = .ref c)
    (hP : H P = some (.tbl ps)) (ht : TriplesOk ps.toList) (ha : ∀ (p : Pos) (cv : Value), codeAmong p ps.toList = some cv → ∃ c, cv = .ref c ∧ H c = some (LamX.CodeO c (X.env.qual ++ "<lambda>"))) (hdef : defaultsOf params X.env = ([], [])) (hfree : ∀ y ∈ scope.names, y.2 = .free → ∃ c, X.env.cells.lookup y.1 = some c)
    (h : ∀ (f c' : Addr) (pm ctv : Value) (H1 : Hp) (ps1 : Array Value) (s' : Shared), ((H1 = H ∧ ps1 = ps) ∨ (H1 = upd (upd H P (.tbl ps1)) c' (LamX.CodeO c' (X.env.qual ++ "<lambda>")) ∧ H c' = none ∧ c' ≠ P ∧ TriplesOk ps1.toList ∧ ∀ p' cv, codeAmong p' ps1.toList = some cv → codeAmong p' ps.toList = some cv ∨ cv = .ref c')) → H1 c' = some (LamX.CodeO c' (X.env.qual ++ "<lambda>")) → H1 f = none →
      Inv X pins σ (upd H1 f (LamO (X.env.qual ++ "<lambda>") params body scope (cloFrom X.env.cells scope.names []) pm ctv c' f)) s' → Q (.ref f) s') :
    wpAny (model X.prog X.w) X.A (eval (.Lambda params body scope pos) X.env) Q E s := by
  refine PySem.W.kla_eval hdef ?_
  have bP : s.heap.BuiltinsAt X.mg P := TB.bm.keeps I.bk
  have hP' : s.heap.get? P = some { cls := .none, data := .fields ps } := I.hok P _ hP
  cases hc : codeAmong pos ps.toList with
  | none =>
    refine PySem.W.kla_makeFunction (mg := X.mg) (c := c) (P := P) (ps := ps) (closure_ok hfree) I.ok.glob (I.mod.glob.keeps I.bk) hcode (TB.code.keeps I.bk) hP' ht hc TB.gP bP fun c' ctv h' tk hx hge hlt hrec htb => ?_
    obtain ⟨c2, oc, vs, t, e2, hoc, hd, hv⟩ := hrec
    cases e2
    have hsz : s.heap.objs.size ≤ h'.objs.size := Nat.le_trans hge (Nat.le_of_lt hlt)
    have nC : H c' = none := I.hok.fresh hge
    have I1 := LamX.inv_table (t' := tk) (more := #[rawInt pos.line, rawInt pos.col, .ref c']) (h' := h') I hP (fun b o hb e => hx b o hb e) htb hge ⟨oc, vs, t, hoc, hd, hv⟩
    have nPc : P ≠ c' := ne_of_none hP nC
    have eL : (ps ++ #[rawInt pos.line, rawInt pos.col, .ref c']).toList = ps.toList ++ [rawInt pos.line, rawInt pos.col, .ref c'] := by simp
    have nf : upd (upd H P (.tbl (ps ++ #[rawInt pos.line, rawInt pos.col, .ref c']))) c' (LamX.CodeO c' (X.env.qual ++ "<lambda>")) h'.objs.size = none := by
      rw [upd_ne (Nat.ne_of_gt hlt), upd_ne (Nat.ne_of_gt (Nat.lt_of_lt_of_le (Heap.lt_size hP') hsz))]
      exact I.hok.fresh hsz
    refine h h'.objs.size c' _ ctv _ (ps ++ #[rawInt pos.line, rawInt pos.col, .ref c']) _ (.inr ⟨rfl, nC, Ne.symm nPc, ?_, fun p' cv hcv => ?_⟩) upd_same nf (I1.laid (t' := tk) (fun b o e => Heap.get?_push_of_some _ e) (Nat.le_refl _) (lamO_ok (Heap.get?_push_size _ rfl)))
    · rw [eL]; exact PySem.TriplesOk_snoc _ _ _ _ ht
    · rw [eL] at hcv
      exact LamX.among_app _ ht hcv
  | some cv =>
    obtain ⟨c', e, hco⟩ := ha pos cv hc
    subst e
    refine PySem.W.kla_makeFunctionHit (mg := X.mg) (c := c) (P := P) (ps := ps) (closure_ok hfree) I.ok.glob (I.mod.glob.keeps I.bk) hcode (TB.code.keeps I.bk) hP' ht hc bP fun ctv h' tk hx hsz => ?_
    have I1 : Inv X pins σ H { s with heap := h', toks := tk } := I.kept hx
    exact h h'.objs.size c' _ ctv H ps _ (.inl ⟨rfl, rfl⟩) hco (I.hok.fresh hsz) (I1.laid (t' := tk) (fun b o e => Heap.get?_push_of_some _ e) (Nat.le_refl _) (lamO_ok (Heap.get?_push_size _ rfl)))
end
/-- as data -/
theorem de_lam {X : Cx} {c P : Addr} {params : Arguments} {body : Expr} {scope : Scope} {pos : Pos} {ls : List (Arguments × Expr × Scope)} {i : Nat} (TB : LamX.TabB X.base X.mg c P) (hcode : X.env.code = .ref c) (hi : ls[i]? = some (params, body, scope)) (L : LamX.LamS X.env.scope scope) (hdef : defaultsOf params X.env = ([], []) := by rfl) :
    DE X (.Lambda params body scope pos) (wLamMk (Lm (X.env.qual ++ "<lambda>") X.env.cells ls) P (X.env.qual ++ "<lambda>") i) := by
  refine ⟨fun pins s σ H Q I ⟨M, ρ, cs, P', o, r, ⟨hP, p⟩, k⟩ => ?_⟩
  obtain ⟨hMP, u, hu, cr⟩ := o.cell P _ hP
  cases u with
  | tbl ps =>
    obtain ⟨ht, ha⟩ := cr
    refine lam_mk I TB hcode hu ht (fun pp cv hcv => by obtain ⟨c1, e1, e2⟩ := ha pp cv hcv; exact ⟨c1, e1, o.ex _ _ e2⟩) hdef (L.has I.ok) fun f c' pm ctv H1 ps1 s' hH hc' hf I' => ?_
    -- what is frozen from now on
    have key : ∃ M1, Same M M1 ∧ Ok X.K M1 H1 cs ∧ M1 c' = some (LamX.CodeO c' (X.env.qual ++ "<lambda>")) := by
      rcases hH with ⟨rfl, rfl⟩ | ⟨rfl, nC, nP, ht1, hcv1⟩
      · by_cases hm : M c' = some (LamX.CodeO c' (X.env.qual ++ "<lambda>"))
        · exact ⟨M, Same.refl _, o, hm⟩
        · have hn : M c' = none := by
            cases q : M c' with
            | none => rfl
            | some z =>
              have := o.ex _ _ q
              rw [hc'] at this
              rw [q, ← this] at hm
              exact absurd rfl hm
          refine ⟨upd M c' (LamX.CodeO c' (X.env.qual ++ "<lambda>")), same_upd hn, ⟨fun b ob e => ?_, fun b cc e => ?_⟩, upd_same⟩
          · by_cases hb : b = c'
            · subst hb; rw [upd_same] at e; rw [← e]; exact hc'
            · rw [upd_ne hb] at e; exact o.ex b ob e
          · obtain ⟨m, ob, q, cr⟩ := o.cell b cc e
            have hb : b ≠ c' := fun z => by
              subst z
              rw [hc'] at q
              cases q
              exact (by cases cc <;> exact cr)
            exact ⟨by rw [upd_ne hb]; exact m, ob, q, cr.mono (same_upd hn)⟩
      · have hMc : M c' = none := o.free nC
        have sm : Same M (upd M c' (LamX.CodeO c' (X.env.qual ++ "<lambda>"))) := same_upd hMc
        refine ⟨upd M c' (LamX.CodeO c' (X.env.qual ++ "<lambda>")), sm, ⟨fun b ob e => ?_, fun b cc e => ?_⟩, upd_same⟩
        · by_cases hb : b = c'
          · subst hb; rw [upd_same] at e ⊢; exact e
          · rw [upd_ne hb] at e
            have hbP : b ≠ P := fun z => by rw [z, hMP] at e; cases e
            rw [upd_ne hb, upd_ne hbP]; exact o.ex b ob e
        · obtain ⟨m, ob, q, cr⟩ := o.cell b cc e
          have hb : b ≠ c' := ne_of_none q nC
          refine ⟨by rw [upd_ne hb]; exact m, ?_⟩
          by_cases hbP : b = P
          · subst hbP
            rw [hP] at e
            cases e
            refine ⟨.tbl ps1, by rw [upd_ne hb]; exact upd_same, ht1, fun pp cv hcv => ?_⟩
            rcases hcv1 pp cv hcv with z | z
            · obtain ⟨c1, e1, e2⟩ := ha pp cv z
              exact ⟨c1, e1, sm _ _ e2⟩
            · exact ⟨c', z, upd_same⟩
          · exact ⟨ob, by rw [upd_ne hb, upd_ne hbP]; exact q, cr.mono sm⟩
    obtain ⟨M1, sm1, o1, hM1⟩ := key
    obtain ⟨sm2, o2⟩ := o1.newM hf (LamO (X.env.qual ++ "<lambda>") params body scope (cloFrom X.env.cells scope.names []) pm ctv c' f)
    refine ⟨.ref f, _, I', rfl, k _ _ _ _ _ (sm1.trans sm2) o2 (rv_dat (.ho upd_same ?_)) (p _ _ ⟨_, pm, ctv, c', hi, rfl, rfl⟩)⟩
    intro pp hp
    rw [List.mem_singleton.mp hp]
    exact sm2 _ _ hM1
  | _ => exact (show False from cr).elim
/-! ### a lambda is called: Z the context of the def that got it -/
def wAct (φ : Addr → HO) (ex : List (Addr × HO)) (j : Nat) (tl : DXP → Cells → (Vl → Cells → Prop) → Prop) (W : DWX) : WE := fun ρ cs P => ρ[j]? = some (some (.dat (.ho φ ex))) ∧ tl (fun cls fs cs' => W cls fs ρ cs') cs P
theorem de_act {X : Cx} {pins : List (Addr × Obj)} {σ : L2.St} {ρX : DEnv} {H MX M1 : Hp} {s : Shared} {CXg : CXT} {Eg : XK} {Ng : List Str} {qg : Str} {sg : Scope} {g c' : Addr} {cdg pm ctv : Value} {params : Arguments} {body : Expr} {scope : Scope} {k i : Nat} {a : Str} {pn : List (Addr × Obj)} {xe : Value → Shared → Prop} {W : DWX} {wl : DXP → WE} {p1 p2 : Pos}
    (I : Inv X pins σ H s) (rX : Rho X.K MX σ ρX) (smX : Same MX M1) (L : LamX.LamS X.env.scope scope)
    (hbind : ∀ (q : Str) (cl : List (Str × Addr)) (pm cv ctv : Value), bindArgs (PySem.W.kla_fn "<lambda>" q params body scope cl pm cv ctv) ⟨[], []⟩ = pure [])
    (tk : Takes ((cxOf CXg X.prog X.w X.K X.mg X.base Ng qg sg g cdg X.A X.stack s H Eg).tr pn xe) (liftW X.K M1 W)) (hr : Room (k + 1) (X.A.deeper (envOfC qg sg s.heap.objs.size g cdg)))
    (hbody : ∀ (A : Around) (outer : List Env) (s : Shared) (H : Hp) (E : XK) (f c' : Addr), Room k (A.deeper (LamX.lamEnv X scope s.heap.objs.size f c')) → ∀ (M0 : Hp) (W : DXP), Takes (LamX.lamCx X A outer s H E scope f c') (liftW X.K M0 fun cls fs _ cs => W cls fs cs) → DE0 (LamX.lamCx X A outer s H E scope f c') M0 body (wl W))
    (hN : Ng[i]? = some a) (hv : Vis sg a) (hd : (a == ("__debug__" : Str)) = false := by decide) (hcd : (a == ("__classdict__" : Str)) = false := by decide) :
    DE0 ((cxOf CXg X.prog X.w X.K X.mg X.base Ng qg sg g cdg X.A X.stack s H Eg).tr pn xe) M1 (.Call (.Name a p1) [] [] p2)
      (wAct (LamO (X.env.qual ++ "<lambda>") params body scope (cloFrom X.env.cells scope.names []) pm ctv c') [(c', LamX.CodeO c' (X.env.qual ++ "<lambda>"))] i (fun W cs P => wl W ρX cs P) W) := by
  refine ⟨fun pinsZ sZ σZ HZ Q IZ ⟨M, ρ, cs, P, sm, o, r, ⟨hs, ht⟩, kk⟩ => ?_⟩
  obtain ⟨v, hσ, rv⟩ := r.at_ _ _ hs
  cases (show Dr X.K M v _ from rv) with
  | @ho f _ _ hMf hMex =>
  have hc : HZ c' = some (LamX.CodeO c' (X.env.qual ++ "<lambda>")) := o.ex _ _ (hMex _ (List.mem_singleton.mpr rfl))
  have hF : HZ f = some (LamO (X.env.qual ++ "<lambda>") params body scope (cloFrom X.env.cells scope.names []) pm ctv c' f) := o.ex _ _ hMf
  refine wpAny_Call_Name_kw (thn ((pe_var (pos := p1) (i := i) hN hv hd hcd).run pinsZ sZ σZ HZ (fun v H1 => v = .ref f ∧ H1 = HZ) IZ ⟨.ref f, hσ, rfl, rfl⟩) fun u s1 ⟨v, H1, I1, r1, q1⟩ => ?_)
  obtain ⟨ev, eH⟩ := q1
  subst ev
  rw [eH] at I1
  have eu : u = Value.ref f := r1
  subst eu
  have of1 : s1.heap.get? f = some (PySem.W.kla_obj "<lambda>" (X.env.qual ++ "<lambda>") params body scope (cloFrom X.env.cells scope.names []) pm c' ctv) := (I1.hok f _ hF).1
  refine PySem.W.callWith_F0 ⟨_, _, _, _, of1⟩ ?_
  have un : Un (frs X.stack) [] H HZ s.heap s1.heap := I1.base
  obtain ⟨⟨oc, vs, t, hoc, hdc, hvc⟩, _, _⟩ := I1.hok c' _ hc
  let E : XK := fun cls d H' => liftW X.K M1 W cls d σZ H'
  have rc : codeAny (model X.prog X.w) (X.A.deeper (envOfC qg sg s.heap.objs.size g cdg)) (.call (.ref f) ⟨[], []⟩) (CR (L2.CX X.prog X.w) (envOfC qg sg s.heap.objs.size g cdg :: X.stack) X.prog X.w HZ s1 Q E) s1 := by
    refine PySem.W.kla_callFunE hr.depth of1 rfl L.co L.gen rfl ⟨c', oc, vs, t, rfl, hoc, hdc, hvc⟩ ?_
    rw [hbind]
    refine wpAny_pure (wpAny_newFunctionEnv (fun y hy => (L.own y hy).2) (fun y hy => absurd hy (by simp)) (fun h₁ hns hsb => ⟨I1.nolimit.fresh _ hsb, ?_⟩) L.kind)
    show codeAny _ _ (.expr body (LamX.lamEnv X scope s1.heap.objs.size f c')) _ _
    have kp : ∀ b o, s1.heap.get? b = some o → h₁.get? b = some o := fun b o e => hsb.extBut b o (Nat.ne_of_lt (Heap.lt_size e)) (Heap.get?_push_of_some _ e)
    have J : Inv (LamX.lamCx X (X.A.deeper (envOfC qg sg s.heap.objs.size g cdg)) (envOfC qg sg s.heap.objs.size g cdg :: X.stack) s1 HZ E scope f c') [] σ HZ { s1 with heap := h₁, toks := s1.toks + ([] : List (Str × Value)).length } :=
      LamX.lam_start2 I L I1.env0 hr.hd un hns kp
    have tkL : Takes (LamX.lamCx X (X.A.deeper (envOfC qg sg s.heap.objs.size g cdg)) (envOfC qg sg s.heap.objs.size g cdg :: X.stack) s1 HZ E scope f c') (liftW X.K M fun cls fs _ cs => W cls fs ρ cs) := by
      refine (takes_of (E := E) rfl rfl rfl rfl).imp fun cls d σ' H' ⟨M', ρ', cs', fs, sm', o', _, xr, w⟩ => ?_
      exact ⟨M', ρ, cs', fs, sm.trans sm', o', r.mono sm', xr, w⟩
    refine PySem.W.kla_codeExpr (wpAny_mono ((hbody _ _ s1 HZ E f c' (hr.deeper _) M _ tkL).run [] _ _ HZ Q J ⟨M, ρX, cs, P, Same.refl _, o, rX.mono (smX.trans sm), ht, kk⟩) (fun v s' hq => ?_) fun e s' hq => hq)
    obtain ⟨w', H', J', rv', q⟩ := hq
    exact ⟨w', H', J'.os, J'.bare, J'.base, J'.hok, rv', q⟩
  refine PySem.wpAny_call (codeAny_mono rc fun rr s' hq => ?_)
  cases rr with
  | error e => exact tk e s' (XE.of_call I1 (fun cls d H' h => h) hq)
  | ok fl =>
    cases fl with
    | ret u => exact I1.after hq
    | next => exact False.elim hq
    | brk => exact False.elim hq
    | cont => exact False.elim hq
end LamD
set_option maxRecDepth 100000
set_option maxHeartbeats 4000000
/-! x(l), l a lambda of the caller's own, x a def that calls what it gets -/
namespace LamD
open PySem PySem.Spec PyProof.Rows L2 DL
abbrev TL := DXP → Cells → (Vl → Cells → Prop) → Prop
/-- what x promises of a lambda's reading -/
abbrev TTd := TL → Cells → (Vl → Cells → Prop) → Prop
def wOut (R : RL) (T : TTd) (wls : List (DXP → WE)) (we : WE) : WE := fun ρ cs P => we ρ cs fun x cs1 => ∃ i φ ex wl, x = .dat (.ho φ ex) ∧ R i φ ex ∧ wls[i]? = some wl ∧ T (fun W cs' P' => wl W ρ cs' P') cs1 P
/-- a lambda's body, by its reading -/
structure LamB (X : Cx) (k : Nat) (l : Arguments × Expr × Scope) (wl : DXP → WE) : Prop where
  sc : LamX.LamS X.env.scope l.2.2
  bind : ∀ (q : Str) (cl : List (Str × Addr)) (pm cv ctv : Value), bindArgs (PySem.W.kla_fn "<lambda>" q l.1 l.2.1 l.2.2 cl pm cv ctv) ⟨[], []⟩ = pure []
  body : ∀ (A : Around) (outer : List Env) (s : Shared) (H : Hp) (E : XK) (f c' : Addr), Room k (A.deeper (LamX.lamEnv X l.2.2 s.heap.objs.size f c')) → ∀ (M0 : Hp) (W : DXP), Takes (LamX.lamCx X A outer s H E l.2.2 f c') (liftW X.K M0 fun cls fs _ cs => W cls fs cs) → DE0 (LamX.lamCx X A outer s H E l.2.2 f c') M0 l.2.1 (wl W)
inductive LamsB (X : Cx) (k : Nat) : List (Arguments × Expr × Scope) → List (DXP → WE) → Prop
  | nil : LamsB X k [] []
  | cons {l : Arguments × Expr × Scope} {wl : DXP → WE} {ls : List (Arguments × Expr × Scope)} {wls : List (DXP → WE)} : LamB X k l wl → LamsB X k ls wls → LamsB X k (l :: ls) (wl :: wls)
theorem LamsB.at {X : Cx} {k : Nat} : ∀ {ls : List (Arguments × Expr × Scope)} {wls : List (DXP → WE)}, LamsB X k ls wls → ∀ {i : Nat} {l : Arguments × Expr × Scope} {wl : DXP → WE}, ls[i]? = some l → wls[i]? = some wl → LamB X k l wl
  | _, _, .cons h _, 0, _, _, e1, e2 => by cases e1; cases e2; exact h
  | _, _, .cons _ t, i + 1, _, _, e1, e2 => LamsB.at t (i := i) e1 e2
  | _, _, .nil, _, _, _, e1, _ => by cases e1
/-- the def x(a): its body wherever it is called from the lambda's maker -/
structure OutF (P : Program) (w : World) (K : Frag) (mg : Str → Option Value) (base : Heap) (x a : Str) (T : TTd) : Prop where
  ex : ∃ (st : Stmt) (g : Addr) (fd : FuncData) (Ng : List Str) (wbg : (Addr → HO) → List (Addr × HO) → TL → WS), Fun K x x st g fd ∧ FnScope Ng [a] (defScope st) ∧ mg x = some (.ref g) ∧ Binds K fd [a] [] ∧ Ng[0]? = some a ∧ Vis (defScope st) a ∧
    (∀ (cdv : Value) (A : Around) (outer : List Env) (s : Shared) (H : Hp) (M0 : Hp) (φ : Addr → HO) (ex : List (Addr × HO)) (tl : TL), Room 0 (A.deeper (envOfC x (defScope st) s.heap.objs.size g cdv)) →
      (∀ (M1 : Hp) (W : DWX) (pn : List (Addr × Obj)) (xe : Value → Shared → Prop) (p1 p2 : Pos), Same M0 M1 → Takes ((cxOf CX0 P w K mg base Ng x (defScope st) g cdv A outer s H E0).tr pn xe) (liftW K M1 W) →
        DE0 ((cxOf CX0 P w K mg base Ng x (defScope st) g cdv A outer s H E0).tr pn xe) M1 (.Call (.Name a p1) [] [] p2) (wAct φ ex 0 tl W)) →
      DSs0 (cxOf CX0 P w K mg base Ng x (defScope st) g cdv A outer s H E0).nox M0 (defBody st) (wbg φ ex tl)) ∧
    ∀ φ ex tl cs P, T tl cs P → wbg φ ex tl (retE K P) (startD Ng.length [.dat (.ho φ ex)]) cs
theorem de_out {X : Cx} {x a : Str} {T : TTd} {k : Nat} {e : Expr} {we : WE} {ls : List (Arguments × Expr × Scope)} {wls : List (DXP → WE)} {p pos : Pos} (G : OutF X.prog X.w X.K X.mg X.base x a T) (hr : Room (k + 2) X.A) (he : DE X e we) (hl : LamsB X k ls wls) (hg : Gl X x := by rfl)
    (hdb : (x == ("__debug__" : Str)) = false := by decide) (hd : (a == ("__debug__" : Str)) = false := by decide) (hcd : (a == ("__classdict__" : Str)) = false := by decide) (hst : starEach [e] X.env = (false, eval e X.env) :: starEach [] X.env := by rfl) (hpl : (backTo pos (starEach [] X.env)).any (·.1) = false := by rfl) :
    DE X (.Call (.Name x p) [e] [] pos) (wOut (Lm (X.env.qual ++ "<lambda>") X.env.cells ls) T wls we) := by
  obtain ⟨st, g, fd, Ng, wbg, F, Sg, hm, hb, hN, hv, hbody, hpure⟩ := G.ex
  have hk := F.kp
  obtain ⟨oc, od, kV, doc, pm, an, cdv, ct, osl, rfl, lk, hcg⟩ := F.ex
  refine ⟨fun pins s σ H Q I ⟨M, ρ, cs, P, o, r, h, kk⟩ => ?_⟩
  refine wpAny_Call_Name_kw (ld_glob I hg hm ?_ hdb)
  refine PySem.W.callWith_K (h₀ := X.base) I.ok.mod.kin hk ?_ hst hpl
  rw [hst]
  show wpAny _ _ (spliced ((false, eval e X.env) :: backTo pos (starEach [] X.env))) _ _ s
  refine Calls.spliced_cons (thn (he.run pins s σ H (fun v H1 => ∃ M1 x cs1, Same M M1 ∧ Ok X.K M1 H1 cs1 ∧ RV X.K M1 v x ∧ ∃ i φ ex wl, x = .dat (.ho φ ex) ∧ Lm (X.env.qual ++ "<lambda>") X.env.cells ls i φ ex ∧ wls[i]? = some wl ∧ T (fun W cs' P' => wl W ρ cs' P') cs1 P) I
    ⟨M, ρ, cs, _, o, r, h, fun v x M1 H1 cs1 s1 o1 r1 p1 => ⟨M1, x, cs1, s1, o1, r1, p1⟩⟩) fun u s1 ⟨v, H1, I1, ru, M1, x1, cs1, sm1, o1, r1, i, φ, ex, wl, ex1, ⟨l, pm', ctv, c', hli, eφ, eex⟩, hwl, hT⟩ => ?_)
  refine Calls.spliced_nil ⟨I1.kIn, ?_⟩
  subst ex1
  have B := hl.at hli hwl
  cases (show Dr X.K M1 v _ from r1) with
  | @ho f _ _ hMf hMex =>
  have eu : u = Value.ref f := ru
  subst eu
  have rc : codeAny (model X.prog X.w) X.A (.call (.ref g) ⟨[.ref f], []⟩) (CR CX0 X.stack X.prog X.w H1 s1 Q E0) s1 := by
    refine LamX.run_ofS (N := Ng) (ps := [a]) (us := [.ref f]) (vs := [.ref f]) lk hcg Sg hr I1.env0 (hb s1 [.ref f] I1.kIn rfl) (.cons rfl .nil) rfl fun hr' => ?_
    refine ⟨_, (hbody cdv X.A X.stack s1 H1 M1 φ ex (fun W cs' P' => wl W ρ cs' P') (hr'.mono (Nat.zero_le _)) (fun M2 W pn xe p1 p2 sm2 tk => ?_)).nox, ?_⟩
    · subst eφ eex
      exact de_act (X := X) (MX := M1) (i := 0) I1 (r.mono sm1) sm2 B.sc B.bind tk hr' B.body hN hv hd hcd
    · exact ⟨M1, startD Ng.length [.dat (.ho φ ex)], cs1, retE X.K P, Same.refl _, o1, start_rho (.cons (rv_dat (.ho hMf hMex)) .nil), hpure φ ex _ cs1 P hT, ⟨fun σ' ρ' M' H' cs' s o' _ p => (kk.mono sm1).gh _ _ M' H' cs' s o' (rv_dat .non) p, (kk.mono sm1).gh, fun _ _ _ _ _ _ _ _ p => p.elim, fun _ _ _ _ _ _ _ _ p => p.elim⟩⟩
  refine PySem.wpAny_call (codeAny_mono rc fun rr s2 hq => ?_)
  cases rr with
  | error e => exact (show False from hq).elim
  | ok fl =>
    cases fl with
    | ret u => exact I1.after hq
    | next => exact False.elim hq
    | brk => exact False.elim hq
    | cont => exact False.elim hq
end LamD
set_option maxRecDepth 100000
set_option maxHeartbeats 4000000
/-! calls that may raise: methods, classmethods with keywords; staticmethods -/
namespace DL
open PySem PySem.Spec PyProof.Rows L2
abbrev xw (W : DXP) : DWX := fun cls fs _ cs => W cls fs cs
/-- keywords, by PK -/
def DK0 (X : Cx) (M0 : Hp) (kws : List Keyword) (w : WA) : Prop := PK X kws (liftA0 X.K M0 w)
section
variable {X : Cx} {M0 : Hp} {e : Expr} {kws : List Keyword} {we : WE} {wk : WA} {nm : Option Str} {kpos : Pos}
theorem dk_nil : DK0 X M0 [] wNil := ⟨fun pos pins s σ H Q I ⟨M, ρ, cs, P, sm, o, r, p, k⟩ => pk_nil.run pos pins s σ H Q I (k [] [] M H cs (Same.refl _) o .nil p)⟩
theorem dk_cons (he : DE0 X M0 e we) (hk : DK0 X M0 kws wk) : DK0 X M0 (⟨nm, e, kpos⟩ :: kws) (wCons we wk) := ⟨fun pos pins s σ H Q I ⟨M, ρ, cs, P, sm, o, r0, p, k⟩ => (pk_cons he hk).run pos pins s σ H Q I ⟨M, ρ, cs, _, sm, o, r0, p, fun v x M1 H1 cs1 s1 o1 r1 p1 =>
  ⟨M1, ρ, cs1, _, sm.trans s1, o1, r0.mono s1, p1, fun vs xs M2 H2 cs2 s2 o2 r2 p2 => k _ _ M2 H2 cs2 (s1.trans s2) o2 (.cons (r1.mono s2) r2) p2⟩⟩⟩
end
/-! ### the callee runs, what it raises is wished for at the caller's slots -/
theorem run_at {X : Cx} {CX : CXT} {k : Nat} {f : Addr} {fd : FuncData} {ps : List Str} {sp : Sp} {E : XK} {pins : List (Addr × Obj)} {σ : L2.St} {H : Hp} {s : Shared} {Q : VK} {args : Args} {us : List Value} {vs : List V} (F : FnOk X.prog X.w X.K X.mg X.base CX k f fd ps sp) (hr : Room k X.A) (hb : BindsTo s fd args (ps.zip us)) (hx : PassesAt CX X σ E)
    (I : Inv X pins σ H s) (r : Vals vs us) (h : sp vs H Q E) : codeAny (model X.prog X.w) X.A (.call (.ref f) args) (fun rr s' => match rr with | .ok (.ret u) => EP X pins σ Q u s' | .ok _ => False | .error e => X.xe e s') s := by
  refine codeAny_mono (F.run X.A X.stack s H args us vs Q E hr I.env0 hb r h) fun rr s' hq => ?_
  cases rr with
  | error e => exact hx pins H s e s' I hq
  | ok fl =>
    cases fl with
    | ret u => exact I.after hq
    | next => exact False.elim hq
    | brk => exact False.elim hq
    | cont => exact False.elim hq
theorem wp_at {X : Cx} {CX : CXT} {k : Nat} {f : Addr} {fd : FuncData} {ps : List Str} {sp : Sp} {E : XK} {pins : List (Addr × Obj)} {σ : L2.St} {H : Hp} {s : Shared} {Q : VK} {us0 : List Value} {kw : List (Str × Value)} {us : List Value} {vs : List V} (F : FnOk X.prog X.w X.K X.mg X.base CX k f fd ps sp) (hr : Room k X.A) (hb : BindsTo s fd ⟨us0, kw⟩ (ps.zip us)) (hx : PassesAt CX X σ E)
    (I : Inv X pins σ H s) (r : Vals vs us) (h : sp vs H Q E) : wpAny (model X.prog X.w) X.A (call (.ref f) us0 kw) (EP X pins σ Q) X.xe s :=
  PySem.wpAny_call (codeAny_mono (run_at F hr hb hx I r h) fun rr s' hq => by
    cases rr with
    | error e => exact hq
    | ok fl => cases fl <;> first | exact hq | exact False.elim hq)
theorem pass_w {X : Cx} {M0 : Hp} {W : DWX} (tk : Takes X (liftW X.K M0 W)) (σ : L2.St) : PassesAt (L2.CX X.prog X.w) X σ (fun cls d H => liftW X.K M0 W cls d σ H) := fun _ _ _ e s' I c => tk e s' (XE.of_call I (fun _ _ _ h => h) c)
/-- o.m(e, ..), may raise -/
theorem de_methX {X : Cx} {M0 : Hp} {W : DWX} {C : Addr} {m : Str} {o e : Expr} {es : List Expr} {wo : WE} {wr : WA} {pos apos : Pos} {pl : Sem Bool} {ps : List Str} {k : Nat} {dsp : DSp} (G : DMokX X.prog X.w X.K X.mg X.base C m ps k dsp) (tk : Takes X (liftW X.K M0 W)) (hr : Room k X.A) (ho : DE0 X M0 o wo) (ha : DA0 X M0 (e :: es) wr)
    (hst : starEach (e :: es) X.env = (false, eval e X.env) :: starEach es X.env := by rfl) (hpl : (backTo pos (starEach es X.env)).any (·.1) = false := by rfl)
    (ht : eval (.Call (.Attribute o m apos) (e :: es) [] pos) X.env = (eval o X.env >>= fun ov => standAt apos.atName >>= fun _ => holding [ov] (getMethod ov m pl) >>= fun q => callWith pos q.1 q.2 (backTo pos (starEach (e :: es) X.env)) (backToKw pos (keywordEach [] X.env))) := by rfl) :
    DE0 X M0 (.Call (.Attribute o m apos) (e :: es) [] pos) (wMethX C m dsp W wo wr) := by
  obtain ⟨f, fd, F, hc, hm, hb⟩ := G.ex
  refine ⟨fun pins s σ H Q I ⟨M, ρ, cs, P, sm, ok, r0, p, kk⟩ => ?_⟩
  refine PySem.W.methodCall_KW (pl := pl) (thn (ho.run pins s σ H (fun v H1 => ∃ M1 x cs1 gs, Same M M1 ∧ Ok X.K M1 H1 cs1 ∧ RV X.K M1 v x ∧ insD cs1 x = some (C, gs) ∧ gs.lookup m = none ∧ wr ρ cs1 fun xs cs2 => dsp (x :: xs) cs2 P fun cls fs cs' => W cls fs ρ cs') I ⟨M, ρ, cs, _, sm, ok, r0, p, fun v x M1 H1 cs1 s1 o1 r1 ⟨gs, h1, h2, h3⟩ => ⟨M1, x, cs1, gs, s1, o1, r1, h1, h2, h3⟩⟩) fun u s1 ⟨v, H1, I1, ru, M1, x, cs1, gs, sm1, o1, r1, hi, hl, q⟩ => ?_) ht
  obtain ⟨a, dx, fs, ev, hH, pr⟩ := insD_ok o1 r1 hi
  subst ev
  have eu : u = Value.ref a := ru
  subst eu
  refine getmeth_ok I1 hH hc hm ((fr_lookup pr).2 hl) ?_
  refine PySem.W.callWith_K (first := [.ref a]) (h₀ := X.base) I.ok.mod.kin hm.kp (thn (ha.run pos pins s1 σ H1 (fun vs H2 => ∃ M2 xs cs2, Same M1 M2 ∧ Ok X.K M2 H2 cs2 ∧ Paired (RV X.K M2) vs xs ∧ dsp (x :: xs) cs2 P fun cls fs cs' => W cls fs ρ cs') I1 ⟨M1, ρ, cs1, _, sm.trans sm1, o1, r0.mono sm1, q, fun vs xs M2 H2 cs2 s2 o2 r2 p2 => ⟨M2, xs, cs2, s2, o2, r2, p2⟩⟩) fun us s2 ⟨vs, H2, I2, rv, M2, xs, cs2, sm2, o2, r2, q2⟩ => ⟨I2.kIn, ?_⟩) hst hpl
  have hsp : liftSp X.K dsp (.ref a :: vs) H2 Q (fun cls d H => liftW X.K M0 W cls d σ H) := ⟨M2, _, cs2, P, _, o2, .cons (r1.mono sm2) r2, q2, kk.mono (sm1.trans sm2), fun cls od fs' M' H' cs' s3 o' xr w => ⟨M', ρ, cs', fs', sm.trans (sm1.trans (sm2.trans s3)), o', r0.mono (sm1.trans (sm2.trans s3)), xr, w⟩⟩
  have hl2 : (.ref a :: us : List Value).length = ps.length := by
    have := F.len _ _ _ _ hsp
    rw [← this]
    show us.length + 1 = vs.length + 1
    rw [rv.length]
  have hbb := hb s2 (.ref a :: us) I2.kIn (by rw [List.append_nil]; exact hl2)
  rw [List.append_nil] at hbb
  exact wp_at (us0 := .ref a :: us) (kw := []) F hr hbb (pass_w tk σ) I2 (.cons (show RelV (.ref a) (.ref a) from rfl) rv) hsp
/-! ### classmethods with keywords -/
structure DCok (CX : CXT) (P : Program) (w : World) (K : Frag) (mg : Str → Option Value) (base : Heap) (x : Str) (C : Addr) (m : Str) (n : Nat) (ks : List Str) (gD : List Vl → List Vl → List Vl) (k : Nat) (dsp : DSp) : Prop where
  ex : ∃ p g fd mc ps gF gV, FnOk P w K mg base CX k g fd ps (liftSp K dsp) ∧ mg x = some (.ref C) ∧ ClX.CRead K C mc ∧ ClX.CMet K C mc m p g ∧ KBn K fd ps (n + 1) ks gF gV ∧
    ∀ M vs xs zs ys, Paired (RV K M) vs xs → Paired (RV K M) zs ys → vs.length = n + 1 → zs.length = ks.length → Paired (RV K M) (gV vs zs) (gD xs ys)
def wCm (C : Addr) (n m : Nat) (gD : List Vl → List Vl → List Vl) (dsp : DSp) (W : DWX) (wr wk : WA) : WE := fun ρ cs P => wr ρ cs fun xs cs1 => wk ρ cs1 fun ys cs2 => xs.length = n ∧ ys.length = m ∧ dsp (gD (.raw (.ref C) :: xs) ys) cs2 P fun cls fs cs' => W cls fs ρ cs'
theorem cw_cmk {X : Cx} {s : Shared} {q g C : Addr} {pos : Pos} {e : Expr} {es : List Expr} {kws : List Keyword} {Q : Value → Shared → Prop} {E : Value → Shared → Prop} {A : Around} (hf : PySem.W.fnIn X.K g = true) (hall : (backToKw pos (keywordEach kws X.env)).all (·.1.isSome) = true)
    (h : wpAny (model X.prog X.w) A (spliced (backTo pos (starEach (e :: es) X.env))) (fun vs s₁ => wpAny (model X.prog X.w) A (evalAll ((backToKw pos (keywordEach kws X.env)).map (·.2))) (fun ks s₂ => PySem.W.MethP X.K q g (.ref C) s₂.heap ∧ wpAny (model X.prog X.w) A (call (.ref q) vs (((backToKw pos (keywordEach kws X.env)).filterMap (·.1)).zip ks)) Q E s₂) E s₁) E s)
    (he : starEach (e :: es) X.env = (false, eval e X.env) :: starEach es X.env) (hpl : ((backTo pos (starEach (e :: es) X.env)).any (·.1) || (backToKw pos (keywordEach kws X.env)).any (·.1.isNone)) = false) :
    wpAny (model X.prog X.w) A (callWith pos (.ref q) [] (backTo pos (starEach (e :: es) X.env)) (backToKw pos (keywordEach kws X.env))) Q E s :=
  PySem.W.callWith_of hpl (PySem.W.keeps_M hf) (PyProof.Rows.evalArgs_kw2 hall h he)
theorem de_cm {X : Cx} {CX : CXT} {M0 : Hp} {W : DWX} {C : Addr} {x m : Str} {e : Expr} {es : List Expr} {kws : List Keyword} {wr wk : WA} {p pos apos : Pos} {pl : Sem Bool} {n k : Nat} {ks : List Str} {gD : List Vl → List Vl → List Vl} {dsp : DSp} (G : DCok CX X.prog X.w X.K X.mg X.base x C m n ks gD k dsp) (px : ∀ σ, PassesAt CX X σ (fun cls d H => liftW X.K M0 W cls d σ H)) (hr : Room k X.A) (ha : DA0 X M0 (e :: es) wr) (hk : DK0 X M0 kws wk) (hg : Gl X x := by rfl)
    (hall : (backToKw pos (keywordEach kws X.env)).all (·.1.isSome) = true := by rfl) (hks : (backToKw pos (keywordEach kws X.env)).filterMap (·.1) = ks := by rfl) (hdb : (x == ("__debug__" : Str)) = false := by decide)
    (hst : starEach (e :: es) X.env = (false, eval e X.env) :: starEach es X.env := by rfl) (hpl : ((backTo pos (starEach (e :: es) X.env)).any (·.1) || (backToKw pos (keywordEach kws X.env)).any (·.1.isNone)) = false := by rfl)
    (ht : eval (.Call (.Attribute (.Name x p) m apos) (e :: es) kws pos) X.env = (eval (.Name x p) X.env >>= fun ov => standAt apos.atName >>= fun _ => holding [ov] (getMethod ov m pl) >>= fun q => callWith pos q.1 q.2 (backTo pos (starEach (e :: es) X.env)) (backToKw pos (keywordEach kws X.env))) := by rfl) :
    DE0 X M0 (.Call (.Attribute (.Name x p) m apos) (e :: es) kws pos) (wCm C n ks.length gD dsp W wr wk) := by
  obtain ⟨pp, g, fd, mc, ps, gF, gV, F, hm, rd, cm, kb, hgd⟩ := G.ex
  refine ⟨fun pins s σ H Q I ⟨M, ρ, cs, P, sm, o, r0, p, kk⟩ => ?_⟩
  refine PySem.W.methodCall_KW (pl := pl) (ld_glob I hg hm ?_ hdb) ht
  refine ClX.getmethcm_ok I rd cm fun s1 I1 => ?_
  refine cw_cmk (q := s.heap.objs.size) (C := C) cm.fi hall (thn (ha.run pos _ s1 σ H (fun vs H1 => ∃ M1 xs cs1, Same M M1 ∧ Ok X.K M1 H1 cs1 ∧ Paired (RV X.K M1) vs xs ∧ wk ρ cs1 fun ys cs2 => xs.length = n ∧ ys.length = ks.length ∧ dsp (gD (.raw (.ref C) :: xs) ys) cs2 P fun cls fs cs' => W cls fs ρ cs') I1 ⟨M, ρ, cs, _, sm, o, r0, p, fun vs xs M1 H1 cs1 s1 o1 r1 p1 => ⟨M1, xs, cs1, s1, o1, r1, p1⟩⟩) fun us s2 ⟨vs, H2, I2, rv, M1, xs, cs1, sm1, o1, r1, q1⟩ => ?_) hst hpl
  refine thn (hk.run pos _ s2 σ H2 (fun zs H3 => ∃ M2 ys cs2, Same M1 M2 ∧ Ok X.K M2 H3 cs2 ∧ Paired (RV X.K M2) zs ys ∧ xs.length = n ∧ ys.length = ks.length ∧ dsp (gD (.raw (.ref C) :: xs) ys) cs2 P fun cls fs cs' => W cls fs ρ cs') I2 ⟨M1, ρ, cs1, _, sm.trans sm1, o1, r0.mono sm1, q1, fun zs ys M2 H3 cs2 s2 o2 r2 p2 => ⟨M2, ys, cs2, s2, o2, r2, p2⟩⟩) fun ws s3 ⟨zs, H3, I3, rz, M2, ys, cs2, sm2, o2, r2, hxl, hyl, q2⟩ => ⟨⟨ClX.pin_at I3, I3.kIn⟩, ?_⟩
  rw [hks]
  have l1 : vs.length = n := (Paired.len r1).trans hxl
  have l2 : zs.length = ks.length := (Paired.len r2).trans hyl
  have rvs : Vals (V.ref C :: vs) (Value.ref C :: us) := .cons rfl rv
  have hsp : liftSp X.K dsp (gV (.ref C :: vs) zs) H3 Q (fun cls d H => liftW X.K M0 W cls d σ H) := ⟨M2, _, cs2, P, _, o2, hgd M2 _ _ _ _ (.cons rv_raw (paired_mono (fun _ _ q => q.mono sm2) r1)) r2 (by show vs.length + 1 = n + 1; rw [l1]) l2, q2, kk.mono (sm1.trans sm2), fun cls od fs' M' H' cs' s3 o' xr w => ⟨M', ρ, cs', fs', sm.trans (sm1.trans (sm2.trans s3)), o', r0.mono (sm1.trans (sm2.trans s3)), xr, w⟩⟩
  have key : wpAny (model X.prog X.w) X.A (call (.ref s.heap.objs.size) us (ks.zip ws)) (EP X ((s.heap.objs.size, PySem.W.methodObj (.ref g) (.ref C)) :: pins) σ Q) X.xe s3 := by
    refine PySem.wpAny_call (PySem.W.method_call (ClX.pin_at I3) (codeAny_mono (run_at F hr (kb.to s3 (.ref C :: us) ws I3.kIn (by show us.length + 1 = n + 1; rw [← rv.length, l1]) (by rw [← rz.length, l2])) (px σ) I3 (kb.rel rvs rz) hsp) fun rr s' hq => ?_))
    cases rr with
    | error e => exact hq
    | ok fl => cases fl <;> first | exact hq | exact False.elim hq
  exact thn key fun _ _ y => ClX.unpinE y
/-! ### staticmethods -/
structure DStok (P : Program) (w : World) (K : Frag) (mg : Str → Option Value) (base : Heap) (x : Str) (C : Addr) (m : Str) (ps : List Str) (k : Nat) (dsp : DSp) : Prop where
  ex : ∃ p g fd mc, FnOk P w K mg base CX0 k g fd ps (liftSp K dsp) ∧ mg x = some (.ref C) ∧ ClX.CRead K C mc ∧ PySem.W.findCls K (.ref C) mc m = some (.get (.builtin "staticmethod.__get__") (.ref p) .none (.ref C)) ∧ (∃ rest, PySem.W.recIn K p "staticmethod" = some (.ref g :: rest)) ∧ PySem.W.keepIn K (.ref g) = true ∧ Binds K fd ps []
theorem de_static {X : Cx} {C : Addr} {x m : Str} {e : Expr} {es : List Expr} {wr : WA} {p pos apos : Pos} {pl : Sem Bool} {k : Nat} {ps : List Str} {dsp : DSp} (G : DStok X.prog X.w X.K X.mg X.base x C m ps k dsp) (hr : Room k X.A) (ha : DA X (e :: es) wr) (hg : Gl X x := by rfl) (hdb : (x == ("__debug__" : Str)) = false := by decide)
    (hst : starEach (e :: es) X.env = (false, eval e X.env) :: starEach es X.env := by rfl) (hpl : (backTo pos (starEach es X.env)).any (·.1) = false := by rfl)
    (ht : eval (.Call (.Attribute (.Name x p) m apos) (e :: es) [] pos) X.env = (eval (.Name x p) X.env >>= fun ov => standAt apos.atName >>= fun _ => holding [ov] (getMethod ov m pl) >>= fun q => callWith pos q.1 q.2 (backTo pos (starEach (e :: es) X.env)) (backToKw pos (keywordEach [] X.env))) := by rfl) :
    DE X (.Call (.Attribute (.Name x p) m apos) (e :: es) [] pos) (wCall dsp wr) := by
  obtain ⟨pp, g, fd, mc, F, hm, rd, at_, ⟨rest, hrec⟩, hkp, hb⟩ := G.ex
  refine ⟨fun pins s σ H Q I ⟨M, ρ, cs, P, o, r0, p, kk⟩ => ?_⟩
  refine PySem.W.methodCall_KW (pl := pl) (ld_glob I hg hm ?_ hdb) ht
  refine PySem.W.method_cls I.kIn rd.ga (PySem.W.cls_bind I.kIn rd.rd at_ (PySem.wpAny_call (PySem.W.sm_get (s := { s with toks := s.toks + 1 }) I.kIn hrec (PySem.W.handed_on rfl ?_))))
  have I1 := I.tok (s.toks + 1)
  refine PySem.W.callWith_K (h₀ := X.base) I.ok.mod.kin hkp (thn (ha.run pos pins _ σ H (fun vs H2 => ∃ M2 xs cs2, Same M M2 ∧ Ok X.K M2 H2 cs2 ∧ Paired (RV X.K M2) vs xs ∧ dsp xs cs2 P X0) I1 ⟨M, ρ, cs, _, o, r0, p, fun vs xs M2 H2 cs2 s2 o2 r2 p2 => ⟨M2, xs, cs2, s2, o2, r2, p2⟩⟩) fun us s2 ⟨vs, H2, I2, rv, M2, xs, cs2, sm2, o2, r2, q2⟩ => ⟨I2.kIn, ?_⟩) hst hpl
  have hsp : liftSp X.K dsp (vs ++ []) H2 Q E0 := by rw [List.append_nil]; exact ⟨M2, _, cs2, P, X0, o2, r2, q2, kk.mono sm2, fun _ _ _ _ _ _ _ _ _ z => z.elim⟩
  exact run_fn (us := us) F hr hb .nil pass0 I2 rv hsp
end DL
set_option maxRecDepth 100000
set_option maxHeartbeats 4000000
namespace DL
open PySem PySem.Spec PyProof.Rows L2
section
variable {X : Cx} {M0 : Hp} {a b c e o : Expr} {es : List Expr} {wa wb wc we wo wv : WE} {w u : WT} {wr : WA} {pos : Pos}
/-! ### class constants -/
theorem de_cval {x f : Str} {C : Addr} {mc uv : Value} {v : V} {d : Dat} {p : Pos} (hm : X.mg x = some (.ref C)) (r : ClX.CRead X.K C mc) (k : ClX.CVal X.K C mc f v uv) (hd : ∀ M, Dr X.K M v d) (hg : Gl X x := by rfl) (hdb : (x == ("__debug__" : Str)) = false := by decide) (hb : attributeBase (.Name x p) f X.env (eval (.Name x p) X.env) = eval (.Name x p) X.env := by rfl) :
    DE X (.Attribute (.Name x p) f pos) (wC d) :=
  pe_imp (ClX.pe_cval (pe_glob (v := .ref C) hg hm rfl hdb) hb) fun σ H Q ⟨M, ρ, cs, P, o, r0, p, kk⟩ => ⟨C, mc, v, uv, rfl, r, k, kk _ _ M H cs (Same.refl _) o (rv_dat (hd M)) p⟩
/-! ### texts -/
def wSt (C : Str → Str → Prop) (g : Str → Str → Dat) : W2 := fun x y cs P => ∃ i j, x = .dat (.str i) ∧ y = .dat (.str j) ∧ C i j ∧ P (.dat (g i j)) cs
abbrev wStLe : W2 := wSt (fun _ _ => True) fun i j => .bl (!decide (j.cps.toList < i.cps.toList))
abbrev wStLt : W2 := wSt (fun _ _ => True) fun i j => .bl (decide (i.cps.toList < j.cps.toList))
abbrev wStAdd : W2 := wSt (fun i j => i.length + j.length ≤ 16777216) fun i j => .str (i ++ j)
abbrev wStIn : W2 := wSt (fun _ _ => True) fun i j => .bl (!(Builtin.Str.occurrences j i 0 j.length 1).isEmpty)
theorem r2_st {K : Frag} {C C' : Str → Str → Prop} {f : Str → Str → V} {g : Str → Str → Dat} (hC : ∀ i j, C i j → C' i j) (h : ∀ M i j, Dr K M (f i j) (g i j)) : R2Ok K (fun x y H Q => ∃ i j, x = .str i ∧ y = .str j ∧ C' i j ∧ Q (f i j) H) (wSt C g) := fun M H cs x y a b P Q o rx ry ⟨i, j, ea, eb, hc, p⟩ k => by
  subst ea eb
  exact ⟨i, j, inv_str rx, inv_str ry, hC _ _ hc, k _ _ M H cs (Same.refl _) o (rv_dat (h M i j)) p⟩
theorem r2_st0 {K : Frag} {f : Str → Str → V} {g : Str → Str → Dat} (h : ∀ M i j, Dr K M (f i j) (g i j)) : R2Ok K (fun x y H Q => ∃ i j, x = .str i ∧ y = .str j ∧ Q (f i j) H) (wSt (fun _ _ => True) g) := fun M H cs x y a b P Q o rx ry ⟨i, j, ea, eb, hc, p⟩ k => by
  subst ea eb
  exact ⟨i, j, inv_str rx, inv_str ry, k _ _ M H cs (Same.refl _) o (rv_dat (h M i j)) p⟩
theorem c_leS : CmpD X .LtE wStLe := ⟨⟨_, op_le_str, r2_st0 fun _ _ _ => .bl _⟩, by decide⟩
theorem c_ltS : CmpD X .Lt wStLt := ⟨⟨_, op_lt_str, r2_st0 fun _ _ _ => .bl _⟩, by decide⟩
theorem de_addS (ha : DE X a wa) (hb : DE X b wb) : DE X (.BinOp a .Add b pos) (wOp wStAdd wa wb) := de_op op_add_str (r2_st (fun _ _ h => size_line h) fun _ _ _ => .str _) ha hb
theorem de_inS (ha : DE X a wa) (hb : DE X b wb) (hm : behindInMarks .In b = false := by rfl) : DE X (.Compare a [.In] [b] pos) (wOp wStIn wa wb) := de_cmp op_in_str (r2_st0 fun _ _ _ => .bl _) ha hb hm
def wLenS : WN := fun xs cs P => ∃ z : Str, xs = [.dat (.str z)] ∧ z.length ≤ 16777216 ∧ P (.dat (.int (z.length : Int))) cs
theorem rn_lenS {K : Frag} : RNOk K (fun xs H Q => ∃ z, xs = [.str z] ∧ z.length ≤ sizeLine ∧ Q (.int z.length) H) wLenS := fun M H cs xs as P Q o r ⟨z, e, hz, p⟩ k => by
  subst e
  cases r with
  | cons r1 rr =>
    cases rr
    rw [inv_str r1]
    exact ⟨z, rfl, size_line hz, k _ _ M H cs (Same.refl _) o (rv_dat (.int _)) p⟩
theorem de_lenS {p : Pos} (hm : X.mg "len" = none) (ha : DA X [e] wr) (hg : Gl X "len" := by rfl) (he : starEach [e] X.env = (false, eval e X.env) :: starEach [] X.env := by rfl) (hpl : (backTo pos (starEach [] X.env)).any (·.1) = false := by rfl) :
    DE X (.Call (.Name "len" p) [e] [] pos) (wFn wLenS wr) := de_callB call_len_str rn_lenS hm (by decide +kernel) ha hg (by decide) (by decide) he hpl
def charsD (z : Str) : List Vl := z.cps.toList.map fun c => .dat (.str ⟨#[c]⟩)
def wiStr (we : WE) : WI := fun ρ cs P => we ρ cs fun x cs1 => ∃ z : Str, x = .dat (.str z) ∧ P (charsD z) (fun _ => True) cs1
theorem it_str {K : Frag} {M0 : Hp} {z : Str} : ItOk K M0 (Its z) (charsD z) (fun _ => True) := by
  have hl : (charsD z).length = z.cps.size := by simp [charsD]
  refine ⟨fun i M' H' cs' _ _ _ h => ?_, fun M' H' cs' _ _ _ => ?_, fun i M' H' cs' v H2 _ o _ hy h => ?_⟩
  · show i < z.cps.size
    rw [← hl]; exact h
  · show z.cps.size ≤ (charsD z).length
    rw [hl]; exact Nat.le_refl _
  · obtain ⟨rfl, c, hc, rfl⟩ := hy
    refine ⟨M', .dat (.str ⟨#[c]⟩), ?_, Same.refl _, o, rv_dat (.str _)⟩
    simp only [charsD, List.getElem?_map, Array.getElem?_toList, hc, Option.map_some]
theorem di_str {tg : Expr} (h : DE X e we) : DI X tg e (wiStr we) := pi_imp (pi_str h) fun σ H R ⟨M, ρ, cs, P, o, r0, p, k⟩ => ⟨M, ρ, cs, _, o, r0, p, fun v x M1 H1 cs1 s1 o1 r1 ⟨z, ex, p1⟩ => by
  subst ex
  exact ⟨z, inv_str r1, k _ _ _ M1 H1 cs1 s1 o1 it_str p1⟩⟩
/-! ### all([..]) -/
def wAll : WN := fun xs cs P => ∃ (x : Vl) (bs : List Bool), xs = [x] ∧ seqD cs x = some (true, bs.map fun b => Vl.dat (.bl b)) ∧ P (.dat (.bl (bs.all id))) cs
theorem paired_bls {K : Frag} {M : Hp} : ∀ {ns : List Bool} {vs : List V}, Paired (RV K M) vs (ns.map fun i => Vl.dat (.bl i)) → vs = ns.map V.bl
  | [], _, .nil => rfl
  | _ :: _, _, .cons h k => by rw [inv_bl h, paired_bls k]; rfl
theorem rn_all {K : Frag} : RNOk K (rAll K) wAll := fun M H cs xs as P Q o r ⟨x, bs, e, h, p⟩ k => by
  subst e
  cases r with
  | cons r1 rr =>
    cases rr
    obtain ⟨a, vs, ev, hs, pr⟩ := seqD_list o r1 h
    subst ev
    rw [paired_bls pr] at hs
    exact ⟨a, bs, rfl, hs, k _ _ M H cs (Same.refl _) o (rv_dat (.bl _)) p⟩
theorem de_all {p : Pos} (hc : X.calm = true) (hm : X.mg "all" = none) (ha : DA X [e] wr) (hg : Gl X "all" := by rfl) (he : starEach [e] X.env = (false, eval e X.env) :: starEach [] X.env := by rfl) (hpl : (backTo pos (starEach [] X.env)).any (·.1) = false := by rfl) :
    DE X (.Call (.Name "all" p) [e] [] pos) (wFn wAll wr) := de_callB (cr_all hc) rn_all hm (by decide +kernel) ha hg (by decide) (by decide) he hpl
/-! ### list.count, list.index of flat items -/
def rCntF (K : Frag) : V → List V → Hp → VK → Prop := fun x xs H Q => ∃ (a : Addr) (ys : List V) (y : V), x = .ref a ∧ xs = [y] ∧ SqL K H a ys ∧ flatV y = true ∧ ys.all flatV = true ∧ Q (.int (ys.countP (fun z => eqV z y) : Nat)) H
theorem cnt_eq {y : V} : ∀ {ys : List V} {us : List Value}, Vals ys us → ys.all flatV = true → us.countP (eqU y) = ys.countP (fun z => eqV z y)
  | _, _, .nil, _ => rfl
  | z :: ys, u :: us, .cons r t, f => by
    rw [List.all_cons, Bool.and_eq_true] at f
    rw [List.countP_cons, List.countP_cons, cnt_eq t f.2, eqU_of r f.1]
theorem mt_cntF : MtR X "list.count" (rCntF X.K) := by
  intro pins s σ H x xs v us Q I rx rxs h
  obtain ⟨a, ys, y, rfl, rfl, hs, fy, fys, q⟩ := h
  cases rx
  cases rxs with
  | cons ry rt =>
    rename_i uy ut
    cases rt
    obtain ⟨its, rv, ⟨⟨cls, dd, data, sl⟩, n, ho, hc, hdn, hd⟩, hlen⟩ := I.list hs
    simp only at hc hd
    subst hc hd
    refine call_meets PySem.F.slot_list_count ⟨_, ho, rfl⟩ PySem.F.entry_list_count (PySem.F.args_list_count_2 _ _)
      (SeqAt.list_countAt a its.toArray n dd sl uy (eqU y)) ⟨ho, fun u' hu' => mem_eqAt ry fy rv fys u' (by simpa using hu'), ?_⟩
    refine ⟨.int (ys.countP (fun z => eqV z y) : Nat), H, I.tok _, ⟨s.toks, ?_⟩, q⟩
    show Value.int ((its.toArray.toList.countP (eqU y) : Nat) : Int) s.toks = Value.int ((ys.countP (fun z => eqV z y) : Nat) : Int) s.toks
    rw [show its.toArray.toList = its from rfl, cnt_eq rv fys]
def wCntF (wo we : WE) : WE := fun ρ cs P => wo ρ cs fun x cs1 => (∃ zs, seqD cs1 x = some (true, zs)) ∧ we ρ cs1 fun y cs2 => ∃ zs us u, seqD cs2 x = some (true, zs) ∧ flatD y = some u ∧ flatsD zs = some us ∧ P (.dat (.int (us.countP (fun z => eqV z u) : Nat))) cs2
def wIdxF (wo we : WE) : WE := fun ρ cs P => wo ρ cs fun x cs1 => (∃ zs, seqD cs1 x = some (true, zs)) ∧ we ρ cs1 fun y cs2 => ∃ zs us u j z, seqD cs2 x = some (true, zs) ∧ flatD y = some u ∧ flatsD zs = some us ∧ us[j]? = some z ∧ eqV z u = true ∧ (∀ (m : Nat) (z' : V), m < j → us[m]? = some z' → eqV z' u = false) ∧ P (.dat (.int (j : Nat))) cs2
theorem de_cntF {apos cpos : Pos} (ho : DE X o wo) (he : DE X e we) (hbase : attributeBase o "count" X.env (eval o X.env) = eval o X.env := by rfl)
    (hfew : ((backTo cpos (starEach [e] X.env)).all (fun x => !x.1) && (backToKw cpos (keywordEach [] X.env)).all (fun x => x.1.isSome)
      && decide ([e].length + ([] : List Keyword).length + (if ([] : List Keyword).isEmpty then 0 else 1) < 30)) = true := by rfl)
    (hline : (apos.endLine == cpos.line) = true := by rfl) (hs : starEach [e] X.env = (false, eval e X.env) :: starEach [] X.env := by rfl) (hplain : (backTo cpos (starEach [] X.env)).any (·.1) = false := by rfl) :
    DE X (.Call (.Attribute o "count" apos) [e] [] cpos) (wCntF wo we) :=
  pe_imp (pe_bm PySem.F.plainAttrs_list PySem.F.slot_list_count PySem.F.type_list_count mt_cntF ho (pa_cons he pa_nil hs) hbase hfew hline hs hplain) fun σ H Q ⟨M, ρ, cs, P, o, r0, p, k⟩ => by
    refine ⟨M, ρ, cs, _, o, r0, p, fun v x M1 H1 cs1 s1 o1 r1 ⟨⟨zs, h0⟩, p1⟩ => ?_⟩
    obtain ⟨a, vs, ev, hsq, _⟩ := seqD_list o1 r1 h0
    subst ev
    refine ⟨.inl ⟨rfl, _, hsq⟩, M1, ρ, cs1, _, o1, r0.mono s1, p1, fun v2 y M2 H2 cs2 s2 o2 r2 ⟨zs2, us, u, h1, h2, h3, p2⟩ => ?_⟩
    obtain ⟨a2, vs2, ev, hsq2, pr⟩ := seqD_list o2 (r1.mono s2) h1
    cases ev
    obtain ⟨rfl, f1⟩ := flatD_ok r2 h2
    obtain ⟨rfl, f2⟩ := flatsD_ok pr h3
    exact ⟨a, vs2, v2, rfl, rfl, hsq2, f1, f2, k _ _ M2 H2 cs2 (s1.trans s2) o2 (rv_dat (.int _)) p2⟩
theorem de_idxF {apos cpos : Pos} (ho : DE X o wo) (he : DE X e we) (hbase : attributeBase o "index" X.env (eval o X.env) = eval o X.env := by rfl)
    (hfew : ((backTo cpos (starEach [e] X.env)).all (fun x => !x.1) && (backToKw cpos (keywordEach [] X.env)).all (fun x => x.1.isSome)
      && decide ([e].length + ([] : List Keyword).length + (if ([] : List Keyword).isEmpty then 0 else 1) < 30)) = true := by rfl)
    (hline : (apos.endLine == cpos.line) = true := by rfl) (hs : starEach [e] X.env = (false, eval e X.env) :: starEach [] X.env := by rfl) (hplain : (backTo cpos (starEach [] X.env)).any (·.1) = false := by rfl) :
    DE X (.Call (.Attribute o "index" apos) [e] [] cpos) (wIdxF wo we) :=
  pe_imp (pe_bm PySem.F.plainAttrs_list PySem.F.slot_list_index PySem.F.type_list_index mt_index ho (pa_cons he pa_nil hs) hbase hfew hline hs hplain) fun σ H Q ⟨M, ρ, cs, P, o, r0, p, k⟩ => by
    refine ⟨M, ρ, cs, _, o, r0, p, fun v x M1 H1 cs1 s1 o1 r1 ⟨⟨zs, h0⟩, p1⟩ => ?_⟩
    obtain ⟨a, vs, ev, hsq, _⟩ := seqD_list o1 r1 h0
    subst ev
    refine ⟨.inl ⟨rfl, _, hsq⟩, M1, ρ, cs1, _, o1, r0.mono s1, p1, fun v2 y M2 H2 cs2 s2 o2 r2 ⟨zs2, us, u, j, z, h1, h2, h3, h4, h5, h6, p2⟩ => ?_⟩
    obtain ⟨a2, vs2, ev, hsq2, pr⟩ := seqD_list o2 (r1.mono s2) h1
    cases ev
    obtain ⟨rfl, f1⟩ := flatD_ok r2 h2
    obtain ⟨rfl, f2⟩ := flatsD_ok pr h3
    exact ⟨a, vs2, v2, j, z, rfl, rfl, hsq2, f1, f2, h4, h5, h6, k _ _ M2 H2 cs2 (s1.trans s2) o2 (rv_dat (.int _)) p2⟩
/-! ### text.split(sep) -/
def wSplit (wo we : WE) : WE := fun ρ cs P => wo ρ cs fun x cs1 => ∃ z, x = .dat (.str z) ∧ we ρ cs1 fun y cs2 => ∃ t : Str, y = .dat (.str t) ∧ (t.length == 0) = false ∧ z.length + 2 ≤ 16777216 ∧ newL ((Txt.split z t).map fun q => Vl.dat (.str q)) cs2 P
theorem paired_strs {K : Frag} {M : Hp} : ∀ (ns : List Str), Paired (RV K M) (ns.map V.str) (ns.map fun i => Vl.dat (.str i))
  | [] => .nil
  | _ :: r => .cons (rv_dat (.str _)) (paired_strs r)
theorem de_split {apos : Pos} (ho : DE X o wo) (he : DE X e we) (hh : PE X (.Call (.Attribute o "split" apos) [e] [] pos) (tM1 (fun x xs H Q => ∃ a b, x = .str a ∧ xs = [.str b] ∧ (b.length == 0) = false ∧ a.length + 2 ≤ sizeLine ∧ rNewStrs (Txt.split a b) H Q) (lift X.K wo) (lift X.K we))) : DE X (.Call (.Attribute o "split" apos) [e] [] pos) (wSplit wo we) :=
  pe_imp hh fun σ H Q ⟨M, ρ, cs, P, o, r0, p, k⟩ => ⟨M, ρ, cs, _, o, r0, p, fun v x M1 H1 cs1 s1 o1 r1 ⟨z, ex, p1⟩ => by
    subst ex
    have ev := inv_str r1
    refine ⟨⟨z, ev⟩, M1, ρ, cs1, _, o1, r0.mono s1, p1, fun v2 y M2 H2 cs2 s2 o2 r2 ⟨t, ey, h1, h2, p2⟩ => ?_⟩
    subst ey
    refine ⟨z, t, ev, by rw [inv_str r2], h1, size_line h2, ?_⟩
    exact newL_ok o2 (paired_strs _) p2 (k.mono (s1.trans s2))⟩
/-! ### isinstance(o, C), C an own class -/
def wIsiC (K : Frag) (cv : Value) (we : WE) : WE := fun ρ cs P => we ρ cs fun x cs1 => ∃ D gs b, insD cs1 x = some (D, gs) ∧ PySem.W.kitOne K (.ref D) cv = some b ∧ P (.dat (.bl b)) cs1
end
/-! ### an instance is frozen -/
theorem drF_of {K : Frag} {M : Hp} : ∀ {fs : List (Str × V)} {ds : List (Str × Dat)}, Paired (FR K M) fs (datF ds) → DrF K M fs ds
  | [], [], .nil => .nil
  | (n, v) :: fs, (n', d) :: ds, .cons ⟨e, r⟩ k => by
    have e : n = n' := e
    subst e
    exact .cons r (drF_of k)
theorem Gh.frzI {K : Frag} {a C : Addr} {cs : Cells} {ds : List (Str × Dat)} (h : cs a = some (.ins C (datF ds))) : Gh K (.cell a) cs (.dat (.obj C ds)) (cs.del a) := fun M H x o r => by
  cases (show x = .ref a from r)
  obtain ⟨hM, u, hu, cr⟩ := o.cell a _ h
  cases u with
  | ins C' dx fs =>
    obtain ⟨rfl, pr⟩ := cr
    have sm : Same M (upd M a (.ins C' dx fs)) := same_upd hM
    refine ⟨upd M a (.ins C' dx fs), sm, ⟨fun b ob e => ?_, fun b c e => ?_⟩, .obj upd_same (DrF.mono sm (drF_of pr))⟩
    · by_cases hb : b = a
      · subst hb; rw [upd_same] at e; rw [← e]; exact hu
      · rw [upd_ne hb] at e; exact o.ex b ob e
    · have hb : b ≠ a := fun z => by subst z; simp [Cells.del] at e
      have e' : cs b = some c := by simpa [Cells.del, hb] using e
      obtain ⟨m, ob, q, cr⟩ := o.cell b c e'
      exact ⟨by rw [upd_ne hb]; exact m, ob, q, cr.mono sm⟩
  | _ => exact (show False from cr).elim
end DL
set_option maxRecDepth 100000
set_option maxHeartbeats 4000000
namespace DL
open PySem PySem.Spec PyProof.Rows L2
/-- an exception class without __init__ -/
structure Xc0 (K : Frag) (mg : Str → Option Value) (x : Str) (C : Addr) : Prop where
  hm : mg x = some (.ref C)
  ei : ∃ bm, ExcBaseFacts "ValueError" "ValueError.__new__" "ValueError.__init__" bm ∧ PySem.W.excIn K C bm "ValueError.__new__" = true
  kp : PySem.W.keepIn K (.ref C) = true
  sb : PySem.W.subIn K (.ref C) (.type "BaseException") = some true
  ty : PySem.W.typeIn K (.ref C) = some (.type "type")
theorem ds_raise0 {X : Cx} {M0 : Hp} {C : Addr} {W : DWX} {x m : Str} {j : Nat} {p p2 pos pos' : Pos} (G : Xc0 X.K X.mg x C) (tk : Takes X (liftW X.K M0 W)) (hc : X.calm = true := by rfl) (hg : Gl X x := by rfl)
    (hdb : (x == ("__debug__" : Str)) = false := by decide) : DS0 X M0 (.Raise (some (.Call (.Name x p) [.Constant (.str m) j p2] [] pos)) none pos') (wRaise (.ref C) W) := by
  obtain ⟨bm, F, q⟩ := G.ei
  exact ds_raise F q G.hm G.kp (raises_own G.sb G.ty) tk hc hg hdb
/-- never raising: the promise where nothing is raised -/
def noX (dsp : DSp) : DSp := fun xs cs Q _ => dsp xs cs Q X0
theorem FnOk.ok0 {P : Program} {w : World} {K : Frag} {mg : Str → Option Value} {base : Heap} {k : Nat} {f : Addr} {fd : FuncData} {ps : List Str} {dsp : DSp} (F : FnOk P w K mg base (L2.CX P w) k f fd ps (liftSp K dsp)) : FnOk P w K mg base CX0 k f fd ps (liftSp K (noX dsp)) := by
  have imp : ∀ vs H Q E, liftSp K (noX dsp) vs H Q E → liftSp K dsp vs H Q (fun _ _ _ => False) := fun vs H Q E ⟨M, xs, cs, P', XP, o, r, d, kk, _⟩ => ⟨M, xs, cs, P', X0, o, r, d, kk, fun _ _ _ _ _ _ _ _ _ z => z.elim⟩
  refine ⟨fun vs H Q E h => F.len vs H Q _ (imp _ _ _ _ h), fun A outer s H args us vs Q E hr he hb hv h => codeAny_mono (F.run A outer s H args us vs Q _ hr he hb hv (imp _ _ _ _ h)) fun rr s' hq => ?_⟩
  cases rr with
  | error e =>
    obtain ⟨_, _, _, _, _, _, _, _, _, _, _, _, z⟩ := hq
    exact z.elim
  | ok fl => cases fl <;> exact hq
theorem DOkX.ok0 {P : Program} {w : World} {K : Frag} {mg : Str → Option Value} {base : Heap} {x : Str} {ps : List Str} {k : Nat} {dsp : DSp} (G : DOkX P w K mg base x ps k dsp) : DOk P w K mg base CX0 x ps k (noX dsp) := by
  obtain ⟨f, fd, F, h1, h2, h3⟩ := G.ex
  exact ⟨f, fd, FnOk.ok0 F, h1, h2, h3⟩
theorem DMokX.ok0 {P : Program} {w : World} {K : Frag} {mg : Str → Option Value} {base : Heap} {C : Addr} {m : Str} {ps : List Str} {k : Nat} {dsp : DSp} (G : DMokX P w K mg base C m ps k dsp) : DMok P w K mg base C m ps k (noX dsp) := by
  obtain ⟨f, fd, F, h1, h2, h3⟩ := G.ex
  exact ⟨f, fd, FnOk.ok0 F, h1, h2, h3⟩
theorem DCok.ok0 {P : Program} {w : World} {K : Frag} {mg : Str → Option Value} {base : Heap} {x : Str} {C : Addr} {m : Str} {n : Nat} {ks : List Str} {gD : List Vl → List Vl → List Vl} {k : Nat} {dsp : DSp} (G : DCok (L2.CX P w) P w K mg base x C m n ks gD k dsp) : DCok CX0 P w K mg base x C m n ks gD k (noX dsp) := by
  obtain ⟨p, g, fd, mc, ps, gF, gV, F, r⟩ := G.ex
  exact ⟨p, g, fd, mc, ps, gF, gV, FnOk.ok0 F, r⟩
/-- C.m(..) of a classmethod, nothing is raised -/
def wCm0 (C : Addr) (n m : Nat) (gD : List Vl → List Vl → List Vl) (dsp : DSp) (wr wk : WA) : WE := fun ρ cs P => wr ρ cs fun xs cs1 => wk ρ cs1 fun ys cs2 => xs.length = n ∧ ys.length = m ∧ dsp (gD (.raw (.ref C) :: xs) ys) cs2 P X0
theorem pass_0 {X : Cx} {M0 : Hp} (σ : L2.St) : PassesAt CX0 X σ (fun cls d H => liftW X.K M0 (xw X0) cls d σ H) := fun _ _ _ _ _ _ c => c.elim
section
variable {X : Cx} {e : Expr} {kws : List Keyword} {we : WE} {wk : WA} {nm : Option Str} {kpos : Pos}
def DK (X : Cx) (kws : List Keyword) (w : WA) : Prop := ∀ M0, DK0 X M0 kws w
theorem dkn : DK X [] wNil := fun _ => dk_nil
theorem dkc (he : DE X e we) (hk : DK X kws wk) : DK X (⟨nm, e, kpos⟩ :: kws) (wCons we wk) := fun M0 => dk_cons he.d0 (hk M0)
end
theorem de_cm0 {X : Cx} {C : Addr} {x m : Str} {e : Expr} {es : List Expr} {kws : List Keyword} {wr wk : WA} {p pos apos : Pos} {pl : Sem Bool} {n k : Nat} {ks : List Str} {gD : List Vl → List Vl → List Vl} {dsp : DSp} (G : DCok CX0 X.prog X.w X.K X.mg X.base x C m n ks gD k dsp) (hr : Room k X.A) (ha : DA X (e :: es) wr) (hk : DK X kws wk) (hg : Gl X x := by rfl)
    (hall : (backToKw pos (keywordEach kws X.env)).all (·.1.isSome) = true := by rfl) (hks : (backToKw pos (keywordEach kws X.env)).filterMap (·.1) = ks := by rfl) (hdb : (x == ("__debug__" : Str)) = false := by decide)
    (hst : starEach (e :: es) X.env = (false, eval e X.env) :: starEach es X.env := by rfl) (hpl : ((backTo pos (starEach (e :: es) X.env)).any (·.1) || (backToKw pos (keywordEach kws X.env)).any (·.1.isNone)) = false := by rfl)
    (ht : eval (.Call (.Attribute (.Name x p) m apos) (e :: es) kws pos) X.env = (eval (.Name x p) X.env >>= fun ov => standAt apos.atName >>= fun _ => holding [ov] (getMethod ov m pl) >>= fun q => callWith pos q.1 q.2 (backTo pos (starEach (e :: es) X.env)) (backToKw pos (keywordEach kws X.env))) := by rfl) :
    DE X (.Call (.Attribute (.Name x p) m apos) (e :: es) kws pos) (wCm0 C n ks.length gD dsp wr wk) := .of0 fun M0 => de_cm (W := xw X0) (pl := pl) G pass_0 hr ha.d0 (hk M0) hg hall hks hdb hst hpl ht
theorem de_cmX {X : Cx} {M0 : Hp} {W : DWX} {C : Addr} {x m : Str} {e : Expr} {es : List Expr} {kws : List Keyword} {wr wk : WA} {p pos apos : Pos} {pl : Sem Bool} {n k : Nat} {ks : List Str} {gD : List Vl → List Vl → List Vl} {dsp : DSp} (G : DCok (L2.CX X.prog X.w) X.prog X.w X.K X.mg X.base x C m n ks gD k dsp) (tk : Takes X (liftW X.K M0 W)) (hr : Room k X.A) (ha : DA0 X M0 (e :: es) wr) (hk : DK0 X M0 kws wk) (hg : Gl X x := by rfl)
    (hall : (backToKw pos (keywordEach kws X.env)).all (·.1.isSome) = true := by rfl) (hks : (backToKw pos (keywordEach kws X.env)).filterMap (·.1) = ks := by rfl) (hdb : (x == ("__debug__" : Str)) = false := by decide)
    (hst : starEach (e :: es) X.env = (false, eval e X.env) :: starEach es X.env := by rfl) (hpl : ((backTo pos (starEach (e :: es) X.env)).any (·.1) || (backToKw pos (keywordEach kws X.env)).any (·.1.isNone)) = false := by rfl)
    (ht : eval (.Call (.Attribute (.Name x p) m apos) (e :: es) kws pos) X.env = (eval (.Name x p) X.env >>= fun ov => standAt apos.atName >>= fun _ => holding [ov] (getMethod ov m pl) >>= fun q => callWith pos q.1 q.2 (backTo pos (starEach (e :: es) X.env)) (backToKw pos (keywordEach kws X.env))) := by rfl) :
    DE0 X M0 (.Call (.Attribute (.Name x p) m apos) (e :: es) kws pos) (wCm C n ks.length gD dsp W wr wk) := de_cm (pl := pl) G (fun σ => pass_w tk σ) hr ha hk hg hall hks hdb hst hpl ht
/-! ### isinstance(e, ValueError) in an except suite; isinstance(o, C) -/
theorem de_isEb {X : Cx} {M1 : Hp} {a : Addr} {oe : Obj} {cls : Value} {d : Option Addr} {pn : List (Addr × Obj)} {fs : List (Str × Vl)} {e : Expr} {we : WE} {y : Str} {T : String} {p1 p2 pos : Pos} (hz : Zc cls d oe) (hf : ∃ vs, oe.data = .fields vs) (xr : XRep X.K M1 d fs) (hi : X.mg "isinstance" = none) (hy : X.mg y = none) (hv : bootBuiltins y = some (.type T)) (he : DE0 (X.suite a ((a, oe) :: pn)) M1 e we)
    (hg : Gl X "isinstance" := by rfl) (hgy : Gl X y := by rfl) (hn : y ≠ "__name__" := by decide) (hdy : (y == ("__debug__" : Str)) = false := by decide) (hst : starEach [e, .Name y p2] X.env = (false, eval e X.env) :: starEach [.Name y p2] X.env := by rfl) (hst2 : starEach [.Name y p2] X.env = (false, eval (.Name y p2) X.env) :: starEach [] X.env := by rfl) (hpl : (backTo pos (starEach [.Name y p2] X.env)).any (·.1) = false := by rfl) :
    DE0 (X.suite a ((a, oe) :: pn)) M1 (.Call (.Name "isinstance" p1) [e, .Name y p2] [] pos) (wIsE X.K a cls (.type T) we) := by
  refine pe_imp (pe_callB (call_isX (cv := .type T) hz hf xr) hg hi (by decide +kernel) (pa_cons he (pa_cons (pe_bltn (v := .ty T) hgy hy hv rfl hn hdy) pa_nil hst2) hst) (by decide) (by decide) hst hpl) fun σ H Q ⟨M, ρ, cs, P, sm, o, r, p, k⟩ => ?_
  refine ⟨M, ρ, cs, _, sm, o, r, p, fun v x M2 H2 cs2 s2 o2 r2 ⟨ex, D, b, ec, T', hk, p2⟩ => ?_⟩
  subst ex
  have ev : v = .ref a := r2
  subst ev
  exact ⟨.ty T, D, b, rfl, fun u hu => hu, ec, T', (sm.trans s2).trans o2.ex, hk, k _ _ M2 H2 cs2 s2 o2 (rv_dat (.bl b)) p2⟩
/-- what isinstance asks of a class -/
structure ClsI (K : Frag) (C : Addr) : Prop where
  cl : Cls K C
  ha : PySem.W.findIn K (.ref C) "__class__" = some (some (.builtin "object.__class__"))
  hn : PySem.W.specialIn K (.builtin "object.__class__") "__get__" = some (some (.builtin "getset_descriptor.__get__"))
  ht : PySem.W.takesIn K (.builtin "object.__class__") = some true
  hm : PySem.W.mroIn K C (.type "object") = some true
def wIsiO (K : Frag) (C : Addr) (we : WE) : WE := fun ρ cs P => we ρ cs fun x cs1 => ∃ D gs b, insD cs1 x = some (D, gs) ∧ ClsI K D ∧ PySem.W.kitOne K (.ref D) (.ref C) = some b ∧ P (.dat (.bl b)) cs1
theorem de_isiO {X : Cx} {C : Addr} {e : Expr} {we : WE} {y : Str} {p1 p2 pos : Pos} (hi : X.mg "isinstance" = none) (hy : X.mg y = some (.ref C)) (he : DE X e we)
    (hg : Gl X "isinstance" := by rfl) (hgy : Gl X y := by rfl) (hdy : (y == ("__debug__" : Str)) = false := by decide) (hst : starEach [e, .Name y p2] X.env = (false, eval e X.env) :: starEach [.Name y p2] X.env := by rfl) (hst2 : starEach [.Name y p2] X.env = (false, eval (.Name y p2) X.env) :: starEach [] X.env := by rfl) (hpl : (backTo pos (starEach [.Name y p2] X.env)).any (·.1) = false := by rfl) :
    DE X (.Call (.Name "isinstance" p1) [e, .Name y p2] [] pos) (wIsiO X.K C we) :=
  pe_imp (pe_callB call_isi hg hi (by decide +kernel) (pa_cons he (pa_cons (pe_glob (v := .ref C) (u := .ref C) hgy hy rfl hdy) pa_nil hst2) hst) (by decide) (by decide) hst hpl) fun σ H Q ⟨M, ρ, cs, P, o, r0, p, k⟩ => ⟨M, ρ, cs, _, o, r0, p, fun v x M1 H1 cs1 s1 o1 r1 ⟨D, gs, b, hD, T, hk, p1⟩ => by
    obtain ⟨a, dx, fs, ev, hH, _⟩ := insD_ok o1 r1 hD
    subst ev
    exact ⟨.ref a, .ref C, .ref D, .ref C, b, rfl, .own _, .base (.ins hH T.cl T.ha T.hn T.ht T.hm), hk, k _ _ M1 H1 cs1 s1 o1 (rv_dat (.bl b)) p1⟩⟩
end DL
set_option maxRecDepth 100000
set_option maxHeartbeats 4000000
/-! composite rules whose parts may raise -/
namespace DL
open PySem PySem.Spec PyProof.Rows L2
theorem tk0 {X : Cx} {M0 : Hp} : Takes X (liftW X.K M0 (xw X0)) := takes0.imp fun _ _ _ _ ⟨_, _, _, _, _, _, _, _, z⟩ => z
section
variable {X : Cx} {M0 : Hp} {a b c e o : Expr} {es : List Expr} {wa wb wc we wo wv : WE} {w u : WT} {wr : WA} {pos : Pos}
theorem DW.d0' (h : DW X e w) : PW X e (liftT0 X.K M0 w) := pw_imp h fun _ _ _ ⟨M, ρ, cs, P, _, o, r, w, k⟩ => ⟨M, ρ, cs, P, o, r, w, k⟩
def DW0 (X : Cx) (M0 : Hp) (e : Expr) (w : WT) : Prop := PW X e (liftT0 X.K M0 w)
theorem DW.d0 (h : DW X e w) : DW0 X M0 e w := DW.d0' h
theorem DW0.dt (h : DW0 X M0 e w) : DT0 X M0 e w := PW.pt h
theorem da_nil0 : DA0 X M0 [] wNil := da_nil.d0
theorem lift2_0 {K : Frag} {r : R2} {w2 : W2} (hr : R2Ok K r w2) {σ : L2.St} {H : Hp} {Q : VK} (h : lift0 K M0 (wOp w2 wa wb) σ H Q) : tOp r (lift0 K M0 wa) (lift0 K M0 wb) σ H Q := by
  obtain ⟨M, ρ, cs, P, sm, o, r0, p, k⟩ := h
  exact ⟨M, ρ, cs, _, sm, o, r0, p, fun v x M1 H1 cs1 s1 o1 r1 p1 => ⟨M1, ρ, cs1, _, sm.trans s1, o1, r0.mono s1, p1, fun v2 x2 M2 H2 cs2 s2 o2 r2 p2 => hr M2 H2 cs2 v v2 x x2 P Q o2 (r1.mono s2) r2 p2 (k.mono (s1.trans s2))⟩⟩
theorem de_op0 {op : Operator} {r : R2} {w2 : W2} (ho : OpR X (binaryOp op) r) (hr : R2Ok X.K r w2) (ha : DE0 X M0 a wa) (hb : DE0 X M0 b wb) : DE0 X M0 (.BinOp a op b pos) (wOp w2 wa wb) := pe_imp (pe_op ho ha hb) fun _ _ _ h => lift2_0 hr h
theorem de_sub0 (ha : DE0 X M0 a wa) (hb : DE0 X M0 b wb) : DE0 X M0 (.BinOp a .Sub b pos) (wOp wSub wa wb) := de_op0 op_sub (r2_I0 fun _ _ _ => .int _) ha hb
theorem de_add0 (ha : DE0 X M0 a wa) (hb : DE0 X M0 b wb) : DE0 X M0 (.BinOp a .Add b pos) (wOp wAdd wa wb) := de_op0 op_add (r2_I0 fun _ _ _ => .int _) ha hb
theorem de_ix0 (ha : DE0 X M0 a wa) (hb : DE0 X M0 b wb) (hs : PlainIx b := by exact fun _ _ => rfl) : DE0 X M0 (.Subscript a b pos) (wOp wIx wa wb) := pe_imp (pe_ix ix_seq ha hb hs) fun _ _ _ h => lift2_0 r2_ix h
theorem de_cmpD0 {op : CmpOp} {w2 : W2} (h : CmpD X op w2) (ha : DE0 X M0 a wa) (hb : DE0 X M0 b wb) : DE0 X M0 (.Compare a [op] [b] pos) (wOp w2 wa wb) := by
  obtain ⟨⟨r, ho, hr⟩, hm⟩ := h
  exact pe_imp (pe_cmpR ho ha hb (nomark b hm.1 hm.2)) fun _ _ _ h => lift2_0 hr h
theorem dt_cmpD0 {op : CmpOp} {w2 : W2} (h : CmpD X op w2) (ha : DE0 X M0 a wa) (hb : DE0 X M0 b wb) : DT0 X M0 (.Compare a [op] [b] pos) (wTest (wOp w2 wa wb)) := by
  obtain ⟨⟨r, ho, hr⟩, hm⟩ := h
  refine pt_imp (pt_cmpR ho ha hb (nomark b hm.1 hm.2)) fun σ H Q ⟨M, ρ, cs, P, sm, o, r0, p, k⟩ => ?_
  exact ⟨M, ρ, cs, _, sm, o, r0, p, fun v x M1 H1 cs1 s1 o1 r1 p1 => ⟨M1, ρ, cs1, _, sm.trans s1, o1, r0.mono s1, p1, fun v2 x2 M2 H2 cs2 s2 o2 r2 p2 => hr M2 H2 cs2 v v2 x x2 _ _ o2 (r1.mono s2) r2 p2 fun v3 x3 M3 H3 cs3 s3 o3 r3 ⟨q, ex, p3⟩ => by
    subst ex
    exact ⟨q, inv_bl r3, k q M3 H3 cs3 (s1.trans (s2.trans s3)) o3 p3⟩⟩⟩
theorem dw_and1_0 (h : DT0 X M0 a w) : DW0 X M0 (.BoolOp .And [a] pos) w := pw_and1 h
theorem dw_or1_0 (h : DT0 X M0 a w) : DW0 X M0 (.BoolOp .Or [a] pos) w := pw_or1 h
theorem dw_and0 {rest : List Expr} (ha : DT0 X M0 a w) (hb : DW0 X M0 (.BoolOp .And (b :: rest) pos) u) : DW0 X M0 (.BoolOp .And (a :: b :: rest) pos) (wAnd w u) :=
  pw_imp (pw_and ha hb) fun σ H Q ⟨M, ρ, cs, P, sm, o, r0, p, k⟩ => ⟨M, ρ, cs, _, sm, o, r0, p, fun q M1 H1 cs1 s1 o1 p1 => by
    cases q with
    | true => exact iteT ⟨M1, ρ, cs1, P, sm.trans s1, o1, r0.mono s1, by simpa using p1, k.mono s1⟩
    | false => exact iteF (k false M1 H1 cs1 s1 o1 (by simpa using p1))⟩
theorem dw_or0 {rest : List Expr} (ha : DT0 X M0 a w) (hb : DW0 X M0 (.BoolOp .Or (b :: rest) pos) u) : DW0 X M0 (.BoolOp .Or (a :: b :: rest) pos) (wOr w u) :=
  pw_imp (pw_or ha hb) fun σ H Q ⟨M, ρ, cs, P, sm, o, r0, p, k⟩ => ⟨M, ρ, cs, _, sm, o, r0, p, fun q M1 H1 cs1 s1 o1 p1 => by
    cases q with
    | true => exact iteT (k true M1 H1 cs1 s1 o1 (by simpa using p1))
    | false => exact iteF ⟨M1, ρ, cs1, P, sm.trans s1, o1, r0.mono s1, by simpa using p1, k.mono s1⟩⟩
theorem de_if0 (hc : DT0 X M0 c w) (ha : DE0 X M0 a wa) (hb : DE0 X M0 b wb) : DE0 X M0 (.IfExp c a b pos) (wIf w wa wb) :=
  pe_imp (pe_ifExp hc ha hb) fun σ H Q ⟨M, ρ, cs, P, sm, o, r0, p, k⟩ => ⟨M, ρ, cs, _, sm, o, r0, p, fun q M1 H1 cs1 s1 o1 p1 => by
    cases q with
    | true => exact iteT ⟨M1, ρ, cs1, P, sm.trans s1, o1, r0.mono s1, by simpa using p1, k.mono s1⟩
    | false => exact iteF ⟨M1, ρ, cs1, P, sm.trans s1, o1, r0.mono s1, by simpa using p1, k.mono s1⟩⟩
theorem de_tup0 {x1 : Nat} (h : DA0 X M0 es wr) : DE0 X M0 (.Tuple es x1 pos) (wTup wr) :=
  pe_imp (pe_tup h) fun σ H Q ⟨M, ρ, cs, P, sm, o, r0, p, k⟩ => ⟨M, ρ, cs, _, sm, o, r0, p, fun vs xs M1 H1 cs1 s1 o1 r1 ⟨ds, hd, hz, p1⟩ => by
    rw [allDat_eq hd] at r1
    refine ⟨?_, newT_ok o1 r1 p1 (k.mono s1)⟩
    have := Paired.len r1
    rw [List.length_map] at this
    rw [this]
    exact size_line hz⟩
theorem de_lst0 (h : DA0 X M0 es wr) : DE0 X M0 (.List es pos) (wLst wr) :=
  pe_imp (pe_lst h) fun σ H Q ⟨M, ρ, cs, P, sm, o, r0, p, k⟩ => ⟨M, ρ, cs, _, sm, o, r0, p, fun vs xs M1 H1 cs1 s1 o1 r1 ⟨hz, p1⟩ => ⟨by rw [Paired.len r1]; exact size_line hz, newL_ok o1 r1 p1 (k.mono s1)⟩⟩
theorem de_extend0 {apos cpos : Pos} (ho : DE0 X M0 o wo) (he : DE0 X M0 e we) (hbase : attributeBase o "extend" X.env (eval o X.env) = eval o X.env := by rfl)
    (hfew : ((backTo cpos (starEach [e] X.env)).all (fun x => !x.1) && (backToKw cpos (keywordEach [] X.env)).all (fun x => x.1.isSome)
      && decide ([e].length + ([] : List Keyword).length + (if ([] : List Keyword).isEmpty then 0 else 1) < 30)) = true := by rfl)
    (hline : (apos.endLine == cpos.line) = true := by rfl) (hs : starEach [e] X.env = (false, eval e X.env) :: starEach [] X.env := by rfl) (hplain : (backTo cpos (starEach [] X.env)).any (·.1) = false := by rfl) :
    DE0 X M0 (.Call (.Attribute o "extend" apos) [e] [] cpos) (wExt wo we) :=
  pe_imp (pe_bm PySem.F.plainAttrs_list PySem.F.slot_list_extend PySem.F.type_list_extend mt_extend ho (pa_cons he pa_nil hs) hbase hfew hline hs hplain) fun σ H Q ⟨M, ρ, cs, P, sm, o, r0, p, k⟩ => by
    refine ⟨M, ρ, cs, _, sm, o, r0, p, fun v x M1 H1 cs1 s1 o1 r1 ⟨a, xs0, ea, hc, p1⟩ => ?_⟩
    subst ea
    have e1 : v = .ref a := r1
    subst e1
    obtain ⟨ys, hy, py⟩ := cell_lst o1 hc
    refine ⟨.inl ⟨rfl, _, .inl (.inl hy)⟩, M1, ρ, cs1, _, sm.trans s1, o1, r0.mono s1, p1, fun v2 x2 M2 H2 cs2 s2 o2 r2 ⟨b, xs, zs, eb, hc2, hc3, hz, p2⟩ => ?_⟩
    subst eb
    have e2 : v2 = .ref b := r2
    subst e2
    obtain ⟨ys2, hy2, py2⟩ := cell_lst o2 hc2
    obtain ⟨ys3, hy3, py3⟩ := cell_lst o2 hc3
    refine ⟨a, b, ys2, ys3, rfl, rfl, hy2, hy3, by rw [Paired.len py2, Paired.len py3]; exact size_line hz, ?_⟩
    exact k _ _ M2 _ _ (s1.trans s2) (o2.setC hc2 (c := .lst (xs ++ zs)) (Paired.app py2 py3)) (rv_dat .non) p2
theorem de_append0 {apos cpos : Pos} (ho : DE0 X M0 o wo) (he : DE0 X M0 e we) (hbase : attributeBase o "append" X.env (eval o X.env) = eval o X.env := by rfl)
    (hfew : ((backTo cpos (starEach [e] X.env)).all (fun x => !x.1) && (backToKw cpos (keywordEach [] X.env)).all (fun x => x.1.isSome)
      && decide ([e].length + ([] : List Keyword).length + (if ([] : List Keyword).isEmpty then 0 else 1) < 30)) = true := by rfl)
    (hline : (apos.endLine == cpos.line) = true := by rfl) (hs : starEach [e] X.env = (false, eval e X.env) :: starEach [] X.env := by rfl) (hplain : (backTo cpos (starEach [] X.env)).any (·.1) = false := by rfl) :
    DE0 X M0 (.Call (.Attribute o "append" apos) [e] [] cpos) (wApp wo we) :=
  pe_imp (pe_bm PySem.F.plainAttrs_list PySem.F.slot_list_append PySem.F.type_list_append mt_append ho (pa_cons he pa_nil hs) hbase hfew hline hs hplain) fun σ H Q ⟨M, ρ, cs, P, sm, o, r0, p, k⟩ => by
    refine ⟨M, ρ, cs, _, sm, o, r0, p, fun v x M1 H1 cs1 s1 o1 r1 ⟨a, xs0, ea, hc, p1⟩ => ?_⟩
    subst ea
    have e1 : v = .ref a := r1
    subst e1
    obtain ⟨ys, hy, py⟩ := cell_lst o1 hc
    refine ⟨.inl ⟨rfl, _, .inl (.inl hy)⟩, M1, ρ, cs1, _, sm.trans s1, o1, r0.mono s1, p1, fun v2 x2 M2 H2 cs2 s2 o2 r2 ⟨xs, hc2, hz, p2⟩ => ?_⟩
    obtain ⟨ys2, hy2, py2⟩ := cell_lst o2 hc2
    refine ⟨a, ys2, v2, rfl, rfl, hy2, by rw [Paired.len py2]; exact size_lt hz, ?_⟩
    exact k _ _ M2 _ _ (s1.trans s2) (o2.setC hc2 (c := .lst (xs ++ [x2])) (Paired.app py2 (.cons r2 .nil))) (rv_dat .non) p2
theorem liftN_0 {K : Frag} {r : List V → Hp → VK → Prop} {wn : WN} (hr : RNOk K r wn) {σ : L2.St} {H : Hp} {Q : VK} (h : lift0 K M0 (wFn wn wr) σ H Q) : tCB r (liftA0 K M0 wr) σ H Q := by
  obtain ⟨M, ρ, cs, P, sm, o, r0, p, k⟩ := h
  exact ⟨M, ρ, cs, _, sm, o, r0, p, fun vs xs M1 H1 cs1 s1 o1 r1 p1 => hr M1 H1 cs1 vs xs P Q o1 r1 p1 (k.mono s1)⟩
/-! ### constants of classes and of the module -/
theorem de_cvalE {x f : Str} {C : Addr} {v : V} {d : Dat} {p : Pos} (h : X.mg x = some (.ref C) ∧ ∃ mc uv, ClX.CRead X.K C mc ∧ ClX.CVal X.K C mc f v uv) (hd : ∀ M, Dr X.K M v d) (hg : Gl X x := by rfl) (hdb : (x == ("__debug__" : Str)) = false := by decide) (hb : attributeBase (.Name x p) f X.env (eval (.Name x p) X.env) = eval (.Name x p) X.env := by rfl) :
    DE X (.Attribute (.Name x p) f pos) (wC d) := by
  obtain ⟨hm, mc, uv, r, k⟩ := h
  exact de_cval hm r k hd hg hdb hb
theorem de_conIE {f : Str} {C : Addr} {v : V} {d : Dat} (hc : Cls X.K C) (h : ∃ uv, Con X.K C f v uv) (hd : ∀ M, Dr X.K M v d) (ho : DE X o wo) (hb : attributeBase o f X.env (eval o X.env) = eval o X.env := by rfl) : DE X (.Attribute o f pos) (wConI C f d wo) := by
  obtain ⟨uv, hn⟩ := h
  exact de_conI hc hn hd ho hb
theorem de_gstrE {x z : Str} (h : ∃ t, X.mg x = some (.str z t)) (hg : Gl X x := by rfl) (hd : (x == ("__debug__" : Str)) = false := by decide) : DE X (.Name x pos) (wC (.str z)) := by
  obtain ⟨t, h⟩ := h
  exact de_c (pe_glob (v := .str z) hg h ⟨t, rfl⟩ hd) fun _ => .str z
end
end DL
set_option maxRecDepth 100000
set_option maxHeartbeats 4000000
namespace LamD
open PySem PySem.Spec PyProof.Rows L2 DL
/-- x(lambda: body) -/
theorem de_outL {X : Cx} {x a : Str} {T : TTd} {k : Nat} {c P : Addr} {params : Arguments} {body : Expr} {scope : Scope} {wl : DXP → WE} {p lpos pos : Pos} (TB : LamX.TabB X.base X.mg c P) (hcode : X.env.code = .ref c) (G : OutF X.prog X.w X.K X.mg X.base x a T) (hr : Room (k + 2) X.A) (L : LamX.LamS X.env.scope scope)
    (hbody : ∀ (A : Around) (outer : List Env) (s : Shared) (H : Hp) (E : XK) (f c' : Addr), Room k (A.deeper (LamX.lamEnv X scope s.heap.objs.size f c')) → ∀ (M0 : Hp) (W : DXP), Takes (LamX.lamCx X A outer s H E scope f c') (liftW X.K M0 fun cls fs _ cs => W cls fs cs) → DE0 (LamX.lamCx X A outer s H E scope f c') M0 body (wl W))
    (hbind : ∀ (q : Str) (cl : List (Str × Addr)) (pm cv ctv : Value), bindArgs (PySem.W.kla_fn "<lambda>" q params body scope cl pm cv ctv) ⟨[], []⟩ = pure [] := by intros; rfl) (hdef : defaultsOf params X.env = ([], []) := by rfl) (hg : Gl X x := by rfl)
    (hdb : (x == ("__debug__" : Str)) = false := by decide) (hd : (a == ("__debug__" : Str)) = false := by decide) (hcd : (a == ("__classdict__" : Str)) = false := by decide) (hst : starEach [.Lambda params body scope lpos] X.env = (false, eval (.Lambda params body scope lpos) X.env) :: starEach [] X.env := by rfl) (hpl : (backTo pos (starEach [] X.env)).any (·.1) = false := by rfl) :
    DE X (.Call (.Name x p) [.Lambda params body scope lpos] [] pos) (wOut (Lm (X.env.qual ++ "<lambda>") X.env.cells [(params, body, scope)]) T [wl] (wLamMk (Lm (X.env.qual ++ "<lambda>") X.env.cells [(params, body, scope)]) P (X.env.qual ++ "<lambda>") 0)) :=
  de_out G hr (de_lam TB hcode rfl L hdef) (.cons ⟨L, hbind, hbody⟩ .nil) hg hdb hd hcd hst hpl
end LamD
namespace DL
open PySem PySem.Spec PyProof.Rows L2
/-- a def that makes lambdas: its reading hangs on where it runs -/
theorem fn_dataL {P : Program} {w : World} {K : Frag} {mg : Str → Option Value} {base : Heap} {x qual : Str} {st : Stmt} {f : Addr} {fd : FuncData} {N ps : List Str} {k : Nat} {dsp : DSp} {cdv : Value} (F : Fun K x qual st f fd) (hcd : fd.code = cdv) (S : FnScope N ps (defScope st))
    (len : ∀ xs cs Q XP, dsp xs cs Q XP → xs.length = ps.length)
    (body : ∀ (A : Around) (outer : List Env) (s : Shared) (H : Hp) (E : XK), Room k (A.deeper (PyProof.Rows.envOfC qual (defScope st) s.heap.objs.size f cdv)) → ∃ ws, DSs (cxOf CX0 P w K mg base N qual (defScope st) f cdv A outer s H E).nox (defBody st) ws ∧ ∀ xs cs Q XP, dsp xs cs Q XP → ws (retE K Q) (startD N.length xs) cs) : FnOk P w K mg base CX0 (k + 1) f fd ps (liftSp K dsp) := by
  obtain ⟨oc, od, kV, doc, pm, an, cdv', ct, osl, rfl, lk, hcd'⟩ := F.ex
  have e : cdv' = cdv := hcd
  subst e
  refine fn_of lk hcd' S (fun vs H Q E ⟨M, xs, cs, P', XP, o, r, d, _⟩ => (Paired.len r).trans (len xs cs P' XP d)) fun A outer s H vs Q E hr ⟨M, xs, cs, P', XP, o, r, d, kk, _⟩ => ?_
  obtain ⟨ws, hb, pure⟩ := body A outer s H E hr
  refine ⟨_, hb.nox, ?_⟩
  exact ⟨M, startD N.length xs, cs, retE K P', o, start_rho r, pure xs cs P' XP d, ⟨fun σ' ρ' M' H' cs' s o' _ p => kk.gh _ _ M' H' cs' s o' (rv_dat .non) p, kk.gh, fun _ _ _ _ _ _ _ _ p => p.elim, fun _ _ _ _ _ _ _ _ p => p.elim⟩⟩
end DL
set_option maxRecDepth 100000
set_option maxHeartbeats 4000000
namespace DL
open PySem L2
local macro_rules | `(tactic| walk_at "dl") => `(tactic| simp only [wFldI, wConI, wPropI, wMethI, wMethX, wAlt, wAltS, wCallX, wRaise, wRaise1, wRaise2, wCm, wCm0, noX, xw, insD_obj, insD_cell, coIns_ins, wSt, wLenS, wAll, wCntF, wIdxF, wSplit, wTryAs, wAsD, unE, wIsE, wXf, wIsiO, LamD.wOut, LamD.wLamMk, LamD.wAct, Dat.str.injEq, Dat.obj.injEq, wAbs, wCatS, wExt, wListOf, wiStr, wFld, wSetF, wMeth, wMake, wGMeth, wGCall, wDNewK, wDNewT, CO.ins.injEq, CO.dk.injEq, CO.dt.injEq, Cells.put_put, wRet, wRetN, wSeq, wAsg, wIfS, wDrop, wNext, wVar, wC, wOp, wUn, wFn, wNil, wCons, wTest, wNot, wAnd, wOr, wAndV, wOrV, wNotV, wIf, wChain, wTup, wLst, wCall, wNever, gN, gT, gNil, gCons, gIx, wI, wI0, wNeg, wMax2, wMin2, wLen, wIsN, wNotN, isNon_non, isNon_bl, isNon_int, isNon_str, isNon_lst, isNon_tup, isNon_cell, wIx, wTuple, wAug, wAugIx, wPar, wPar3, wSlL, wSlT, wPart, wNoPart, wCatT, wIsi, wIsi2, isiT, tyD_non, tyD_bl, tyD_int, tyD_str, tyD_lst, tyD_tup, tyD_cell, coTy_lst, seqD_lst, seqD_tp, seqD_cell, coSeq_lst, seen_dat, seen_cell, coDat_lst, startD, wYes, wApp, wEq_int, wEq_bl, allDat_nil, allDat_cons, allDat_map, Option.map_some, List.map_cons, List.map_nil, List.cons_append, List.nil_append, List.length_cons, List.length_nil, List.replicate, List.getElem?_cons_zero, List.getElem?_cons_succ, List.set_cons_zero, List.set_cons_succ, Option.some.injEq, exists_eq_left', exists_eq_left, exists_and_left, exists_eq', exists_eq, Vl.dat.injEq, Vl.raw.injEq, V.ref.injEq, CO.lst.injEq, Dat.int.injEq, Dat.bl.injEq, Dat.tup.injEq, Dat.lst.injEq, List.cons.injEq, and_true, true_and, retE, Nat.reduceAdd, Nat.reduceSub, and_assoc, Prod.mk.injEq, if_true, if_false, Bool.false_eq_true, decide_eq_true_eq, Bool.not_true, Bool.not_false, Bool.not_eq_true', decide_eq_false_iff_not, if_false_left, if_false_right, beq_iff_eq, Bool.or_eq_true, Bool.and_eq_true, Bool.or_self, Bool.or_true, Bool.true_or, Bool.or_false, Bool.false_or, decide_true, decide_false, reduceCtorEq, Cells.put_same, gt_iff_lt, ge_iff_le, beq_self_eq_true, bne_self_eq_false, Bool.decide_eq_true, not_true_eq_false, not_false_eq_true, Decidable.not_not, false_and, and_false, Bool.not_eq_false, at_0, at_1, at_2, at_3, at_4, at_5, ix_0, ix_1, ix_2, ix_3, Nat.reduceLT, Int.reduceLT, Int.reduceLE, Int.reduceNeg, Int.reduceAdd, Int.reduceSub, Int.reduceEq, Int.reducePow, Int.reduceToNat, Cells.put_put])
/-- a list comprehension whose parts do not touch the cells -/
theorem lc_pure {wi : WI} {g : WG} {wt : WT} {we : WE} {vs : List Nat} {ρ : DEnv} {cs : Cells} {P : Vl → Cells → Prop} (items : List Vl) (G : Cells → Prop) (t : Vl → Bool) (r : Vl → Dat)
    (hi : ∀ Pi : List Vl → (Cells → Prop) → Cells → Prop, Pi items G cs → wi ρ cs Pi) (hG : ∀ cs', SubC cs cs' → G cs') (hl : items.length ≤ 16777216)
    (hb : ∀ x ∈ items, ∀ cs' (B : Vl → Cells → Prop) (N : Cells → Prop), SubC cs cs' → (if t x = true then B (.dat (r x)) cs' else N cs') → g x (wipeD ρ vs) cs' fun ρ2 cs2 => wt ρ2 cs2 fun b cs3 => if b = true then we ρ2 cs3 B else N cs3)
    (p : P (.dat (.lst ((items.filter t).map r))) cs) : wLc wi g wt we vs ρ cs P := by
  unfold wLc
  refine hi _ fun D hD => ?_
  have hsub : ∀ c, SubC cs (cs.put D c) := fun c a x e => by
    have : a ≠ D := fun z => by rw [z, hD] at e; cases e
    rw [Cells.put_ne this]; exact e
  refine ⟨fun i cs' => cs' = cs.put D (.lst ((((items.take i).filter t).map r).map .dat)), by simp, fun i cs' _ e => by subst e; exact hG _ (hsub _), ?_, ?_⟩
  · rintro i x cs' hx rfl
    have hlt : i < items.length := by rcases Nat.lt_or_ge i items.length with h | h; exact h; rw [List.getElem?_eq_none h] at hx; cases hx
    have hx' : items[i] = x := by rw [List.getElem?_eq_getElem hlt] at hx; exact Option.some.inj hx
    have htk : items.take (i + 1) = items.take i ++ [x] := by rw [List.take_add_one, hx]; rfl
    refine hb x (hx' ▸ List.getElem_mem hlt) _ _ _ (hsub _) ?_
    by_cases ht : t x = true
    · rw [if_pos ht]
      refine ⟨_, Cells.put_same, ?_, ?_⟩
      · rw [List.length_map, List.length_map]
        have h1 := List.length_filter_le t (items.take i)
        have h2 : (items.take i).length ≤ i := List.length_take_le i items
        omega
      · show _ = cs.put D _
        rw [Cells.put_put, htk]
        simp [ht]
    · rw [if_neg ht]
      show _ = cs.put D _
      rw [htk]
      simp [ht]
  · rintro cs' rfl
    refine ⟨_, Cells.put_same, .inr ⟨_, allDat_map _, ?_⟩⟩
    rw [Cells.del_put hD, List.take_length]
    exact p
end DL
set_option maxRecDepth 100000
set_option maxHeartbeats 4000000
namespace DL
open PySem L2
local macro_rules | `(tactic| walk_at "dl") => `(tactic| simp only [wRet, wRetN, wSeq, wAsg, wIfS, wDrop, wNext, wVar, wC, wOp, wUn, wFn, wNil, wCons, wTest, wNot, wAnd, wOr, wAndV, wOrV, wNotV, wIf, wChain, wTup, wLst, wCall, wNever, gN, gT, gNil, gCons, gIx, wI, wI0, wNeg, wMax2, wMin2, wLen, wIsN, wNotN, isNon_non, isNon_bl, isNon_int, isNon_str, isNon_lst, isNon_tup, isNon_cell, wIx, wTuple, wAug, wAugIx, wPar, wIsi, wIsi2, isiT, tyD_non, tyD_bl, tyD_int, tyD_str, tyD_lst, tyD_tup, tyD_cell, coTy_lst, seqD_lst, seqD_tp, seqD_cell, coSeq_lst, seen_dat, seen_cell, coDat_lst, startD, wYes, wApp, wEq_int, wEq_bl, allDat_nil, allDat_cons, allDat_map, Option.map_some, List.map_cons, List.map_nil, List.cons_append, List.nil_append, List.length_cons, List.length_nil, List.replicate, List.getElem?_cons_zero, List.getElem?_cons_succ, List.set_cons_zero, List.set_cons_succ, Option.some.injEq, exists_eq_left', exists_eq_left, exists_and_left, exists_eq', exists_eq, Vl.dat.injEq, Vl.raw.injEq, V.ref.injEq, CO.lst.injEq, Dat.int.injEq, Dat.bl.injEq, Dat.tup.injEq, Dat.lst.injEq, List.cons.injEq, and_true, true_and, retE, Nat.reduceAdd, Nat.reduceSub, and_assoc, Prod.mk.injEq, if_true, if_false, Bool.false_eq_true, decide_eq_true_eq, Bool.not_true, Bool.not_false, Bool.not_eq_true', decide_eq_false_iff_not, if_false_left, if_false_right, beq_iff_eq, Bool.or_eq_true, Bool.and_eq_true, Bool.or_self, Bool.or_true, Bool.true_or, Bool.or_false, Bool.false_or, decide_true, decide_false, reduceCtorEq, Cells.put_same, gt_iff_lt, ge_iff_le, beq_self_eq_true, bne_self_eq_false, Bool.decide_eq_true, not_true_eq_false, not_false_eq_true, Decidable.not_not, false_and, and_false, Bool.not_eq_false, at_0, at_1, at_2, at_3, at_4, at_5, ix_0, ix_1, ix_2, ix_3, Nat.reduceLT, Int.reduceLT, Int.reduceLE, Int.reduceNeg, Int.reduceAdd, Int.reduceSub, Int.reduceEq, Int.reducePow, Int.reduceToNat, Cells.put_put])
/-! ### calendars and orders as data -/
def iD (ns : List Int) : List Dat := ns.map .int
def iV (ns : List Int) : List Vl := ns.map .int
def cal (ps : List Int) : Dat := .tup (iD ps)
abbrev Ord := Int × Int × Int
def ord (o : Ord) : Dat := .tup [.int o.1, .int o.2.1, .int o.2.2]
def ordsD (os : List Ord) : List Dat := os.map ord
def seqd (b : Bool) (ds : List Dat) : Dat := if b then .lst ds else .tup ds
theorem seqD_seqd {cs : Cells} {b : Bool} {ds : List Dat} : seqD cs (.dat (seqd b ds)) = some (b, ds.map .dat) := by cases b <;> rfl
def calFrom (b : Int) : List Int → Prop
  | [] => True
  | p :: r => b < p ∧ p ≤ 400 ∧ (b > 0 → p % b = 0) ∧ calFrom p r
def CalOk (ps : List Int) : Prop := 1 ≤ ps.length ∧ ps.length ≤ 5 ∧ calFrom 0 ps
def ordB (ps : List Int) (o : Ord) : Bool := decide (o.1 ∈ ps) && (decide (0 ≤ o.2.1) && decide (o.2.1 < o.1)) && !(o.2.2 == 0)
def firstBad (ps : List Int) (os : List Ord) : Dat := match os.findIdx? (fun o => !ordB ps o) with
  | none => .non
  | some i => .int (i : Int)
theorem iD_map (ns : List Int) : (iD ns).map Vl.dat = iV ns := by simp [iD, iV]
theorem inV_ints (p : Int) (ps : List Int) : inV (.int p) (ps.map V.int) = decide (p ∈ ps) := by
  unfold inV
  induction ps with
  | nil => simp
  | cons a r ih =>
    rw [List.map_cons, List.any_cons, ih]
    by_cases h : a = p
    · subst h; simp [eqV]
    · have h' : ¬ p = a := fun z => h z.symm
      simp [eqV, h, h']
theorem flatsD_ints (ps : List Int) : flatsD (iV ps) = some (ps.map V.int) := by
  induction ps with
  | nil => rfl
  | cons a r ih =>
    show (match flatD (Vl.int a), flatsD (iV r) with
      | some v, some vs => some (v :: vs)
      | _, _ => none) = _
    rw [ih]; rfl
theorem seqD_cal {cs : Cells} {ps : List Int} : seqD cs (.dat (cal ps)) = some (false, iV ps) := by
  show some (false, (iD ps).map Vl.dat) = _
  rw [iD_map]
theorem allDat_iV (ns : List Int) : allDat (iV ns) = some (iD ns) := by
  rw [← iD_map, allDat_map]
/-! ### is_integer -/
def sp_is_integer : DSp := fun xs cs Q _ => ∃ i : Int, xs = [.int i] ∧ Q (.bl true) cs
theorem len_is_integer : ∀ xs cs Q XP, sp_is_integer xs cs Q XP → xs.length = 1 := by rintro xs cs Q XP ⟨i, rfl, _⟩; rfl
def w_is_integer : WS := (wRet (wAndV (wIsi .int (wVar 0)) (wNotV (wIsi .bool (wVar 0)))))
theorem pure_is_integer (K : Frag) : ∀ xs cs Q XP, sp_is_integer xs cs Q XP → w_is_integer (retE K Q) (startD 1 xs) cs := by
  rintro xs cs Q XP ⟨i, rfl, q⟩
  unfold w_is_integer
  walk_at "dl"
  exact .now q
/-! ### validate_calendar -/
def sp_validate_calendar : DSp := fun xs cs Q _ => ∃ ps : List Int, xs = [.dat (cal ps)] ∧ CalOk ps ∧ Q .non cs
theorem len_validate_calendar : ∀ xs cs Q XP, sp_validate_calendar xs cs Q XP → xs.length = 1 := by rintro xs cs Q XP ⟨i, rfl, _⟩; rfl
def w_validate_calendar : WS := (wSeq (wIfS (wNot (wTest (wChain wLe wLe (wC (.int 1)) (wFn wLen (wCons (wVar 0) wNil)) (wC (.int 5))))) wNever wNext)
    (wSeq (wAsg (wC (.int 0)) (gN 1))
    (wFor (wiEnum (wCons (wVar 0) wNil)) (gT 2 (gCons (gN 2) (gCons (gN 3) gNil))) (wSeq (wIfS (wOr (wNot (wTest (wCall sp_is_integer (wCons (wVar 3) wNil)))) (wOr (wNot (wTest (wChain wLt wLe (wVar 1) (wVar 3) (wC (.int 400))))) (wAnd (wTest (wOp wGt (wVar 1) (wC (.int 0)))) (wTest (wOp (wEqD true) (wOp wMod (wVar 3) (wVar 1)) (wC (.int 0))))))) wNever wNext)
    (wAsg (wVar 3) (gN 1))))))
theorem calFrom_at : ∀ {ps : List Int} {b : Int} {i : Nat} {p : Int}, calFrom b ps → ps[i]? = some p → (i = 0 → b < p ∧ p ≤ 400 ∧ (b > 0 → p % b = 0)) ∧ (∀ q, 0 < i → ps[i - 1]? = some q → q < p ∧ p ≤ 400 ∧ (q > 0 → p % q = 0))
  | a :: r, b, 0, p, h, e => by
    cases e
    exact ⟨fun _ => ⟨h.1, h.2.1, h.2.2.1⟩, fun q z => absurd z (by omega)⟩
  | a :: r, b, i + 1, p, h, e => by
    have ih := calFrom_at (b := a) (i := i) h.2.2.2 e
    refine ⟨fun z => absurd z (by omega), fun q _ hq => ?_⟩
    cases i with
    | zero =>
      have : (a :: r)[0]? = some q := hq
      cases this
      exact ih.1 rfl
    | succ i => exact ih.2 q (by omega) hq
def prevOf (ps : List Int) (i : Nat) : Int := if i = 0 then 0 else (ps[i - 1]?).getD 0
theorem calFrom_prev {ps : List Int} {i : Nat} {p : Int} (h : calFrom 0 ps) (e : ps[i]? = some p) : prevOf ps i < p ∧ p ≤ 400 ∧ (prevOf ps i > 0 → p % prevOf ps i = 0) := by
  have k := calFrom_at h e
  unfold prevOf
  by_cases h0 : i = 0
  · subst h0; simpa using k.1 rfl
  · rw [if_neg h0]
    have hl := (List.getElem?_eq_some_iff.mp e).1
    obtain ⟨q, hq⟩ : ∃ q, ps[i - 1]? = some q := ⟨ps[i - 1]'(by omega), List.getElem?_eq_getElem (by omega)⟩
    rw [hq]
    exact k.2 q (by omega) hq
theorem pure_validate_calendar (K : Frag) : ∀ xs cs Q XP, sp_validate_calendar xs cs Q XP → w_validate_calendar (retE K Q) (startD 4 xs) cs := by
  rintro xs cs Q XP ⟨ps, rfl, ⟨h1, h5, hc⟩, q⟩
  unfold w_validate_calendar
  simp only [cal]
  walk_at "dl"
  have hl : (iD ps).length = ps.length := by simp [iD]
  simp only [List.length_map, hl]
  refine ⟨by omega, by omega, ?_⟩
  simp only [wFor, wiEnum]
  walk_at "dl"
  refine ⟨fun i ρ cs' => cs' = cs ∧ ∃ a b, ρ = [some (.dat (.tup (iD ps))), some (.int (prevOf ps i)), a, b], ⟨rfl, _, _, rfl⟩, fun _ _ _ _ _ => trivial, ?_, ?_⟩
  · rintro i x ρ cs' hx ⟨rfl, a, b, rfl⟩
    obtain ⟨d, hd, rfl⟩ := enumF_at hx
    unfold iD at hd
    rw [List.getElem?_map] at hd
    obtain ⟨p, hp, rfl⟩ := Option.map_eq_some_iff.mp hd
    obtain ⟨k1, k2, k3⟩ := calFrom_prev hc hp
    have hn : prevOf ps (i + 1) = p := by unfold prevOf; rw [if_neg (by omega), Nat.add_sub_cancel, hp]; rfl
    simp only [sp_is_integer]
    walk_at "dl"
    refine ⟨k1, k2, ?_⟩
    split
    · rename_i h0
      exact ⟨h0, k3 h0, hn.symm⟩
    · exact hn.symm
  · rintro ρ cs' ⟨rfl, _⟩
    exact .now q
/-! ### is_order, first_invalid_order, validate_orders -/
def sp_is_order : DSp := fun xs cs Q _ => ∃ (ps : List Int) (o : Ord), xs = [.dat (cal ps), .dat (ord o)] ∧ Q (.bl (ordB ps o)) cs
theorem len_is_order : ∀ xs cs Q XP, sp_is_order xs cs Q XP → xs.length = 2 := by rintro xs cs Q XP ⟨ps, o, rfl, _⟩; rfl
def w_is_order : WS := (wSeq (wAsg (wVar 1) (gT 3 (gCons (gN 2) (gCons (gN 3) (gCons (gN 4) gNil)))))
    (wSeq (wIfS (wOr (wTest (wOp (wIn true) (wVar 2) (wVar 0))) (wOr (wNot (wTest (wCall sp_is_integer (wCons (wVar 3) wNil)))) (wNot (wTest (wChain wLe wLt (wC (.int 0)) (wVar 3) (wVar 2)))))) (wRet (wC (.bl false))) wNext)
    (wRet (wAndV (wCall sp_is_integer (wCons (wVar 4) wNil)) (wOp (wEqD true) (wVar 4) (wC (.int 0)))))))
theorem wIn_ints {neg : Bool} {p : Int} {x : Vl} {b : Bool} {ps : List Int} {cs : Cells} {P : Vl → Cells → Prop} (hx : seqD cs x = some (b, iV ps)) (h : P (.dat (.bl (if neg then !decide (p ∈ ps) else decide (p ∈ ps)))) cs) : wIn neg (.int p) x cs P :=
  ⟨b, _, .int p, _, hx, rfl, flatsD_ints ps, by rw [inV_ints]; exact h⟩
theorem pure_is_order (K : Frag) : ∀ xs cs Q XP, sp_is_order xs cs Q XP → w_is_order (retE K Q) (startD 5 xs) cs := by
  rintro xs cs Q XP ⟨ps, ⟨p, d, a⟩, rfl, q⟩
  unfold w_is_order
  simp only [ord, sp_is_integer]
  walk_at "dl"
  refine wIn_ints seqD_cal ?_
  unfold ordB at q
  simp only [sp_is_integer]
  walk_at "dl"
  by_cases h1 : p ∈ ps
  · rw [if_neg (by simpa using h1)]
    by_cases h2 : 0 ≤ d
    · rw [if_pos h2]
      by_cases h3 : d < p
      · rw [if_neg (by simpa using h3)]
        refine .now ?_
        simpa [h1, h2, h3] using q
      · rw [if_pos h3]
        refine .now ?_
        simpa [h1, h2, h3] using q
    · rw [if_neg h2]
      refine .now ?_
      simpa [h1, h2] using q
  · rw [if_pos (by simpa using h1)]
    refine .now ?_
    simpa [h1] using q
def sp_first_invalid_order : DSp := fun xs cs Q _ => ∃ (ps : List Int) (os : List Ord) (b : Bool), xs = [.dat (cal ps), .dat (seqd b (ordsD os))] ∧ Q (.dat (firstBad ps os)) cs
theorem len_first_invalid_order : ∀ xs cs Q XP, sp_first_invalid_order xs cs Q XP → xs.length = 2 := by rintro xs cs Q XP ⟨ps, o, b, rfl, _⟩; rfl
def w_first_invalid_order : WS := (wSeq (wFor (wiEnum (wCons (wVar 1) wNil)) (gT 2 (gCons (gN 2) (gCons (gN 3) gNil))) (wIfS (wNot (wTest (wCall sp_is_order (wCons (wVar 0) (wCons (wVar 3) wNil))))) (wRet (wVar 2)) wNext))
    (wRet (wC .non)))
theorem pure_first_invalid_order (K : Frag) : ∀ xs cs Q XP, sp_first_invalid_order xs cs Q XP → w_first_invalid_order (retE K Q) (startD 4 xs) cs := by
  rintro xs cs Q XP ⟨ps, os, b, rfl, q⟩
  unfold w_first_invalid_order
  walk_at "dl"
  simp only [wFor, wiEnum]
  walk_at "dl"
  refine ⟨_, _, seqD_seqd, _, allDat_map _, fun i ρ cs' => cs' = cs ∧ (∀ o ∈ os.take i, ordB ps o = true) ∧ ∃ a b', ρ = [some (.dat (cal ps)), some (.dat (seqd b (ordsD os))), a, b'], ⟨rfl, by simp, _, _, rfl⟩, fun _ _ _ _ _ => seqD_seqd, ?_, ?_⟩
  · rintro i x ρ cs' hx ⟨rfl, hall, a, b', rfl⟩
    obtain ⟨d, hd, rfl⟩ := enumF_at hx
    unfold ordsD at hd
    rw [List.getElem?_map] at hd
    obtain ⟨o, ho, rfl⟩ := Option.map_eq_some_iff.mp hd
    walk_at "dl"
    refine ⟨ps, o, rfl, ?_⟩
    walk_at "dl"
    have hlt := (List.getElem?_eq_some_iff.mp ho).1
    have ht : os.take (i + 1) = os.take i ++ [o] := by rw [List.take_succ, ho]; rfl
    cases hb : ordB ps o with
    | false =>
      simp only [if_true]
      refine .now ?_
      have : firstBad ps os = .int (i : Int) := by
        unfold firstBad
        have : os.findIdx? (fun o => !ordB ps o) = some i := by
          rw [List.findIdx?_eq_some_iff_getElem]
          refine ⟨hlt, ?_, fun j hj => ?_⟩
          · rw [(List.getElem?_eq_some_iff.mp ho).2, hb]; rfl
          · have : ordB ps os[j] = true := hall _ (by rw [List.mem_take_iff_getElem]; exact ⟨j, by omega, rfl⟩)
            simp [this]
        rw [this]
      rw [this] at q
      exact q
    | true =>
      simp only [Bool.true_eq_false, if_false]
      intro o' ho'
      rw [ht] at ho'
      rcases List.mem_append.mp ho' with z | z
      · exact hall o' z
      · simp at z; rw [z]; exact hb
  · rintro ρ cs' ⟨rfl, hall, _⟩
    rw [enumF_len] at hall
    refine .now ?_
    have : firstBad ps os = .non := by
      unfold firstBad
      have : os.findIdx? (fun o => !ordB ps o) = none := by
        rw [List.findIdx?_eq_none_iff]
        intro o ho
        have := hall o (by rw [List.take_of_length_le (by simp [ordsD])]; exact ho)
        simp [this]
      rw [this]
    rw [this] at q
    exact q
def OrdsOk (ps : List Int) (os : List Ord) : Prop := ∀ o ∈ os, ordB ps o = true
theorem firstBad_ok {ps : List Int} {os : List Ord} (h : OrdsOk ps os) : firstBad ps os = .non := by
  unfold firstBad
  have : os.findIdx? (fun o => !ordB ps o) = none := by
    rw [List.findIdx?_eq_none_iff]
    intro o ho
    simp [h o ho]
  rw [this]
def sp_validate_orders : DSp := fun xs cs Q _ => ∃ (ps : List Int) (os : List Ord) (b : Bool), xs = [.dat (cal ps), .dat (seqd b (ordsD os))] ∧ CalOk ps ∧ OrdsOk ps os ∧ Q .non cs
theorem len_validate_orders : ∀ xs cs Q XP, sp_validate_orders xs cs Q XP → xs.length = 2 := by rintro xs cs Q XP ⟨ps, o, b, rfl, _⟩; rfl
def w_validate_orders : WS := (wSeq (wDrop (wCall sp_validate_calendar (wCons (wVar 0) wNil)))
    (wSeq (wAsg (wCall sp_first_invalid_order (wCons (wVar 0) (wCons (wVar 1) wNil))) (gN 2))
    (wIfS (wTest (wOp wNotN (wVar 2) (wC .non))) wNever wNext)))
theorem pure_validate_orders (K : Frag) : ∀ xs cs Q XP, sp_validate_orders xs cs Q XP → w_validate_orders (retE K Q) (startD 3 xs) cs := by
  rintro xs cs Q XP ⟨ps, os, b, rfl, hc, ho, q⟩
  unfold w_validate_orders
  walk_at "dl"
  refine ⟨ps, rfl, hc, ps, os, b, rfl, ?_⟩
  rw [firstBad_ok ho]
  walk_at "dl"
  exact .now q
/-! ### days_due -/
def daysDue (p d f l : Int) : Int := max 0 ((l - d) / p - (f - 1 - d) / p)
def sp_days_due : DSp := fun xs cs Q _ => ∃ p d f l : Int, xs = [.int p, .int d, .int f, .int l] ∧ 0 < p ∧ p ≤ 400 ∧ Q (.int (daysDue p d f l)) cs
theorem len_days_due : ∀ xs cs Q XP, sp_days_due xs cs Q XP → xs.length = 4 := by rintro xs cs Q XP ⟨p, d, f, l, rfl, _⟩; rfl
def w_days_due : WS := (wRet (wFn wMax2 (wCons (wC (.int 0)) (wCons (wOp wSub (wOp wDiv (wOp wSub (wVar 3) (wVar 1)) (wVar 0)) (wOp wDiv (wOp wSub (wOp wSub (wVar 2) (wC (.int 1))) (wVar 1)) (wVar 0))) wNil))))
theorem pure_days_due (K : Frag) : ∀ xs cs Q XP, sp_days_due xs cs Q XP → w_days_due (retE K Q) (startD 4 xs) cs := by
  rintro xs cs Q XP ⟨p, d, f, l, rfl, hp, hp2, q⟩
  unfold w_days_due
  walk_at "dl"
  refine ⟨divOk hp (by omega), divOk hp (by omega), .now ?_⟩
  have : daysDue p d f l = (if 0 < (l - d) / p - (f - 1 - d) / p then (l - d) / p - (f - 1 - d) / p else 0) := by
    unfold daysDue
    split <;> omega
  rw [this] at q
  exact q
/-! ### flow_list -/
/-- the sum of what the orders pay on day t -/
def flowAt (os : List Ord) (t : Int) : Int := (os.map fun o => if t % o.1 = o.2.1 then o.2.2 else 0).sum
def rowF (c : Nat) (f : Nat → Int) : List Int := (List.range c).map f
def flowsL (c : Int) (os : List Ord) : List Int := rowF c.toNat fun t => flowAt os (t : Int)
end DL
set_option maxRecDepth 100000
set_option maxHeartbeats 4000000
namespace DL
open PySem L2
local macro_rules | `(tactic| walk_at "dl") => `(tactic| simp only [wFldI, wConI, wPropI, wMethI, wMethX, wAlt, wAltS, wCallX, wRaise, wRaise1, wRaise2, wCm, wCm0, noX, xw, insD_obj, insD_cell, coIns_ins, wSt, wLenS, wAll, wCntF, wIdxF, wSplit, wTryAs, wAsD, unE, wIsE, wXf, wIsiO, LamD.wOut, LamD.wLamMk, LamD.wAct, Dat.str.injEq, Dat.obj.injEq, wAbs, wCatS, wExt, wListOf, wiStr, wFld, wSetF, wMeth, wMake, wGMeth, wGCall, wDNewK, wDNewT, CO.ins.injEq, CO.dk.injEq, CO.dt.injEq, Cells.put_put, wRet, wRetN, wSeq, wAsg, wIfS, wDrop, wNext, wVar, wC, wOp, wUn, wFn, wNil, wCons, wTest, wNot, wAnd, wOr, wAndV, wOrV, wNotV, wIf, wChain, wTup, wLst, wCall, wNever, gN, gT, gNil, gCons, gIx, wI, wI0, wNeg, wMax2, wMin2, wLen, wIsN, wNotN, isNon_non, isNon_bl, isNon_int, isNon_str, isNon_lst, isNon_tup, isNon_cell, wIx, wTuple, wAug, wAugIx, wPar, wPar3, wSlL, wSlT, wPart, wNoPart, wCatT, wIsi, wIsi2, isiT, tyD_non, tyD_bl, tyD_int, tyD_str, tyD_lst, tyD_tup, tyD_cell, coTy_lst, seqD_lst, seqD_tp, seqD_cell, coSeq_lst, seen_dat, seen_cell, coDat_lst, startD, wYes, wApp, wEq_int, wEq_bl, allDat_nil, allDat_cons, allDat_map, Option.map_some, List.map_cons, List.map_nil, List.cons_append, List.nil_append, List.length_cons, List.length_nil, List.replicate, List.getElem?_cons_zero, List.getElem?_cons_succ, List.set_cons_zero, List.set_cons_succ, Option.some.injEq, exists_eq_left', exists_eq_left, exists_and_left, exists_eq', exists_eq, Vl.dat.injEq, Vl.raw.injEq, V.ref.injEq, CO.lst.injEq, Dat.int.injEq, Dat.bl.injEq, Dat.tup.injEq, Dat.lst.injEq, List.cons.injEq, and_true, true_and, retE, Nat.reduceAdd, Nat.reduceSub, and_assoc, Prod.mk.injEq, if_true, if_false, Bool.false_eq_true, decide_eq_true_eq, Bool.not_true, Bool.not_false, Bool.not_eq_true', decide_eq_false_iff_not, if_false_left, if_false_right, beq_iff_eq, Bool.or_eq_true, Bool.and_eq_true, Bool.or_self, Bool.or_true, Bool.true_or, Bool.or_false, Bool.false_or, decide_true, decide_false, reduceCtorEq, Cells.put_same, gt_iff_lt, ge_iff_le, beq_self_eq_true, bne_self_eq_false, Bool.decide_eq_true, not_true_eq_false, not_false_eq_true, Decidable.not_not, false_and, and_false, Bool.not_eq_false, at_0, at_1, at_2, at_3, at_4, at_5, ix_0, ix_1, ix_2, ix_3, Nat.reduceLT, Int.reduceLT, Int.reduceLE, Int.reduceNeg, Int.reduceAdd, Int.reduceSub, Int.reduceEq, Int.reducePow, Int.reduceToNat, Cells.put_put])
/-! ### accounts -/
inductive Kd where
  | op | li | sa
  deriving DecidableEq
def Kd.cls (C : CE) : Kd → Addr
  | .op => C.Account
  | .li => C.LimitedAccount
  | .sa => C.SavingsAccount
def Kd.str : Kd → Str
  | .op => "open"
  | .li => "limited"
  | .sa => "savings"
def acctF (n : Str) (l b c : Int) : List (Str × Dat) := [("title", .str n), ("credit", .int l), ("amount", .int b), ("cycle", .int c)]
def acctD (C : CE) (k : Kd) (n : Str) (l b c : Int) : Dat := .obj (k.cls C) (acctF n l b c)
def isAcct (C : CE) (cs : Cells) (x : Vl) (k : Kd) (n : Str) (l b c : Int) : Prop := insD cs x = some (k.cls C, datF (acctF n l b c))
theorem isAcct_dat {C : CE} {cs : Cells} {k : Kd} {n : Str} {l b c : Int} : isAcct C cs (.dat (acctD C k n l b c)) k n l b c := rfl
theorem af_t {n : Str} {l b c : Int} : (datF (acctF n l b c)).lookup ("title" : Str) = some (.dat (.str n)) := rfl
theorem af_c {n : Str} {l b c : Int} : (datF (acctF n l b c)).lookup ("credit" : Str) = some (.int l) := rfl
theorem af_a {n : Str} {l b c : Int} : (datF (acctF n l b c)).lookup ("amount" : Str) = some (.int b) := rfl
theorem af_y {n : Str} {l b c : Int} : (datF (acctF n l b c)).lookup ("cycle" : Str) = some (.int c) := rfl
def sp_is_amount (_ : CE) : DSp := fun xs cs Q _ => ∃ v lo hi : Int, xs = [.int v, .int lo, .int hi] ∧ Q (.bl (decide (lo ≤ v) && decide (v ≤ hi))) cs
theorem len_is_amount {C : CE} : ∀ xs cs Q XP, sp_is_amount C xs cs Q XP → xs.length = 3 := by rintro xs cs Q XP ⟨v, lo, hi, rfl, _⟩; rfl
def sp_Account___init__ (C : CE) : DSp := fun xs cs Q _ => ∃ (a : Addr) (k : Kd) (n : Str) (l b c : Int), xs = [.cell a, .dat (.str n), .int l, .int b, .int c] ∧ cs a = some (.ins (k.cls C) []) ∧ Q .non (cs.put a (.ins (k.cls C) (datF (acctF n l b c))))
theorem len_Account___init__ {C : CE} : ∀ xs cs Q XP, sp_Account___init__ C xs cs Q XP → xs.length = 5 := by rintro xs cs Q XP ⟨a, k, n, l, b, c, rfl, _⟩; rfl
def nameB (z : Str) : Bool := (decide (1 ≤ (z.length : Int)) && decide ((z.length : Int) ≤ 8)) && z.cps.toList.all fun c => !(Builtin.Str.occurrences "abcdefghijklmnopqrstuvwxyz" ⟨#[c]⟩ 0 ("abcdefghijklmnopqrstuvwxyz" : Str).length 1).isEmpty
def sp_Account_is_name (_ : CE) : DSp := fun xs cs Q _ => ∃ z : Str, xs = [.dat (.str z)] ∧ z.length ≤ 16777216 ∧ Q (.bl (nameB z)) cs
theorem len_Account_is_name {C : CE} : ∀ xs cs Q XP, sp_Account_is_name C xs cs Q XP → xs.length = 1 := by rintro xs cs Q XP ⟨z, rfl, _⟩; rfl
def sp_Account_allows (C : CE) : DSp := fun xs cs Q _ => ∃ (x : Vl) (v : Int), xs = [x, .int v] ∧ Q (.bl true) cs
theorem len_Account_allows {C : CE} : ∀ xs cs Q XP, sp_Account_allows C xs cs Q XP → xs.length = 2 := by rintro xs cs Q XP ⟨z, v, rfl, _⟩; rfl
def sp_LimitedAccount_allows (C : CE) : DSp := fun xs cs Q _ => ∃ (x : Vl) (v : Int) (k : Kd) (n : Str) (l b c : Int), xs = [x, .int v] ∧ isAcct C cs x k n l b c ∧ k ≠ .op ∧ Q (.bl (decide (0 - l ≤ v))) cs
theorem len_LimitedAccount_allows {C : CE} : ∀ xs cs Q XP, sp_LimitedAccount_allows C xs cs Q XP → xs.length = 2 := by rintro xs cs Q XP ⟨z, v, k, n, l, b, c, rfl, _⟩; rfl
/-- what Account.made answers: an account, or what it raises -/
def madeR (C : CE) (kd n : Str) (l b c : Int) : Except (Addr × List (Str × Vl)) Dat :=
  if (kd = "open" ∨ kd = "limited" ∨ kd = "savings") then
    if nameB n = true then
      if 0 ≤ l ∧ l ≤ (if kd = "limited" then 1000000000000000000 else 0) then
        if kd ≠ "open" ∧ b < 0 - l then .error (C.Overdrawn, [("day", .non), ("name", .dat (.str n))])
        else .ok (acctD C (if kd = "limited" then .li else if kd = "savings" then .sa else .op) n l b c)
      else .error (C.InvalidAmount, [])
    else .error (C.InvalidName, [("name", .dat (.str n))])
  else .error (C.UnknownKind, [])
def endR (r : Except (Addr × List (Str × Vl)) Dat) (cs : Cells) (Q : Vl → Cells → Prop) (XP : DXP) : Prop := match r with
  | .ok d => Q (.dat d) cs
  | .error (D, fs) => XP (.ref D) fs cs
def sp_Account_made (C : CE) : DSp := fun xs cs Q XP => ∃ (x : Vl) (kd n : Str) (l b c : Int), xs = [x, .dat (.str kd), .dat (.str n), .int l, .int b, .int c] ∧ PyData.strOk kd = true ∧ n.length ≤ 16777216 ∧ endR (madeR C kd n l b c) cs Q XP
theorem len_Account_made {C : CE} : ∀ xs cs Q XP, sp_Account_made C xs cs Q XP → xs.length = 6 := by rintro xs cs Q XP ⟨x, kd, n, l, b, c, rfl, _⟩; rfl
def spAcc (C : CE) (ok : Kd → Prop) (r : Kd → Str → Int → Int → Int → Dat) : DSp := fun xs cs Q _ => ∃ (x : Vl) (k : Kd) (n : Str) (l b c : Int), xs = [x] ∧ isAcct C cs x k n l b c ∧ ok k ∧ Q (.dat (r k n l b c)) cs
theorem len_acc {C : CE} {ok : Kd → Prop} {r : Kd → Str → Int → Int → Int → Dat} : ∀ xs cs Q XP, spAcc C ok r xs cs Q XP → xs.length = 1 := by rintro xs cs Q XP ⟨x, k, n, l, b, c, rfl, _⟩; rfl
def sp_Account_account_name (C : CE) : DSp := spAcc C (fun _ => True) fun _ n _ _ _ => .str n
def sp_Account_kind (C : CE) : DSp := spAcc C (fun _ => True) fun k _ _ _ _ => .str k.str
def sp_Account_limit (C : CE) : DSp := spAcc C (· = .op) fun _ _ _ _ _ => .non
def sp_LimitedAccount_limit (C : CE) : DSp := spAcc C (· = .li) fun _ _ l _ _ => .int l
def sp_SavingsAccount_limit (C : CE) : DSp := spAcc C (· = .sa) fun _ _ _ _ _ => .non
def sp_Account_floor (C : CE) : DSp := spAcc C (· = .op) fun _ _ _ _ _ => .non
def sp_LimitedAccount_floor (C : CE) : DSp := spAcc C (· ≠ .op) fun _ _ l _ _ => .int (0 - l)
def sp_Account_balance (C : CE) : DSp := spAcc C (fun _ => True) fun _ _ _ b _ => .int b
theorem len_Account_account_name {C : CE} : ∀ xs cs Q XP, sp_Account_account_name C xs cs Q XP → xs.length = 1 := len_acc
theorem len_Account_kind {C : CE} : ∀ xs cs Q XP, sp_Account_kind C xs cs Q XP → xs.length = 1 := len_acc
theorem len_Account_limit {C : CE} : ∀ xs cs Q XP, sp_Account_limit C xs cs Q XP → xs.length = 1 := len_acc
theorem len_LimitedAccount_limit {C : CE} : ∀ xs cs Q XP, sp_LimitedAccount_limit C xs cs Q XP → xs.length = 1 := len_acc
theorem len_SavingsAccount_limit {C : CE} : ∀ xs cs Q XP, sp_SavingsAccount_limit C xs cs Q XP → xs.length = 1 := len_acc
theorem len_Account_floor {C : CE} : ∀ xs cs Q XP, sp_Account_floor C xs cs Q XP → xs.length = 1 := len_acc
theorem len_LimitedAccount_floor {C : CE} : ∀ xs cs Q XP, sp_LimitedAccount_floor C xs cs Q XP → xs.length = 1 := len_acc
theorem len_Account_balance {C : CE} : ∀ xs cs Q XP, sp_Account_balance C xs cs Q XP → xs.length = 1 := len_acc
def sp_Account_may_withdraw (C : CE) : DSp := fun xs cs Q _ => ∃ (x : Vl) (v : Int), xs = [x, .int v] ∧ Q (.bl true) cs
theorem len_Account_may_withdraw {C : CE} : ∀ xs cs Q XP, sp_Account_may_withdraw C xs cs Q XP → xs.length = 2 := by rintro xs cs Q XP ⟨z, v, rfl, _⟩; rfl
/-- is_amount: slots 0 amount, 1 low, 2 high -/
def w_is_amount (K : Frag) (C : CE) : WS := (wRet (wAndV (wCall sp_is_integer (wCons (wVar 0) wNil)) (wChain wLe wLe (wVar 1) (wVar 0) (wVar 2))))
/-- Account.__init__: slots 0 self, 1 name, 2 limit, 3 amount, 4 cycle -/
def w_Account___init__ (K : Frag) (C : CE) : WS := (wSeq (wAltS (wSetF C.Account "title" (wVar 0) (wVar 1)) (wAltS (wSetF C.LimitedAccount "title" (wVar 0) (wVar 1)) (wSetF C.SavingsAccount "title" (wVar 0) (wVar 1))))
    (wSeq (wAltS (wSetF C.Account "credit" (wVar 0) (wVar 2)) (wAltS (wSetF C.LimitedAccount "credit" (wVar 0) (wVar 2)) (wSetF C.SavingsAccount "credit" (wVar 0) (wVar 2))))
    (wSeq (wAltS (wSetF C.Account "amount" (wVar 0) (wVar 3)) (wAltS (wSetF C.LimitedAccount "amount" (wVar 0) (wVar 3)) (wSetF C.SavingsAccount "amount" (wVar 0) (wVar 3))))
    (wAltS (wSetF C.Account "cycle" (wVar 0) (wVar 4)) (wAltS (wSetF C.LimitedAccount "cycle" (wVar 0) (wVar 4)) (wSetF C.SavingsAccount "cycle" (wVar 0) (wVar 4)))))))
/-- Account.is_name: slots 0 name, 1 letter -/
def w_Account_is_name (K : Frag) (C : CE) : WS := (wRet (wAndV (wChain wLe wLe (wC (.int 1)) (wFn wLenS (wCons (wVar 0) wNil)) (wC (.int 8))) (wFn wAll (wCons (wLc (wiStr (wVar 0)) (gN 1) wYes (wOp wStIn (wVar 1) (wC (.str "abcdefghijklmnopqrstuvwxyz"))) [1]) wNil))))
/-- Account.allows: slots 0 self, 1 amount -/
def w_Account_allows (K : Frag) (C : CE) : WS := (wRet (wC (.bl true)))
/-- LimitedAccount.allows: slots 0 self, 1 amount -/
def w_LimitedAccount_allows (K : Frag) (C : CE) : WS := (wRet (wOp wGe (wVar 1) (wOp wSub (wC (.int 0)) (wAlt (wFldI C.LimitedAccount "credit" (wVar 0)) (wFldI C.SavingsAccount "credit" (wVar 0))))))
/-- Account.made: slots 0 cls, 1 kind, 2 name, 3 limit, 4 balance, 5 cycle, 6 account -/
def w_Account_made (K : Frag) (C : CE) (W0 : DXP) : WS := (wSeq (wIfS (wTest (wOp (wIn true) (wVar 1) (wTup (wCons (wC (.str "open")) (wCons (wC (.str "limited")) (wCons (wC (.str "savings")) wNil)))))) (wRaise (.ref C.UnknownKind) (xw W0)) wNext)
    (wSeq (wIfS (wNot (wTest (wCall (sp_Account_is_name C) (wCons (wVar 2) wNil)))) (wRaise1 C.InvalidName "name" (wVar 2) (xw W0)) wNext)
    (wSeq (wIfS (wNot (wTest (wCall (sp_is_amount C) (wCons (wVar 3) (wCons (wC (.int 0)) (wCons (wIf (wTest (wOp (wEqD false) (wVar 1) (wC (.str "limited")))) (wC (.int 1000000000000000000)) (wC (.int 0))) wNil)))))) (wRaise (.ref C.InvalidAmount) (xw W0)) wNext)
    (wSeq (wIfS (wTest (wOp (wEqD false) (wVar 1) (wC (.str "limited")))) (wAsg (wMake C.LimitedAccount (sp_Account___init__ C) (wCons (wVar 2) (wCons (wVar 3) (wCons (wVar 4) (wCons (wVar 5) wNil))))) (gN 6)) (wIfS (wTest (wOp (wEqD false) (wVar 1) (wC (.str "savings")))) (wAsg (wMake C.SavingsAccount (sp_Account___init__ C) (wCons (wVar 2) (wCons (wVar 3) (wCons (wVar 4) (wCons (wVar 5) wNil))))) (gN 6)) (wAsg (wMake C.Account (sp_Account___init__ C) (wCons (wVar 2) (wCons (wVar 3) (wCons (wVar 4) (wCons (wVar 5) wNil))))) (gN 6))))
    (wSeq (wIfS (wNot (wTest (wAlt (wMethI C.Account "allows" (sp_Account_allows C) (wVar 6) (wCons (wVar 4) wNil)) (wAlt (wMethI C.LimitedAccount "allows" (sp_LimitedAccount_allows C) (wVar 6) (wCons (wVar 4) wNil)) (wMethI C.SavingsAccount "allows" (sp_LimitedAccount_allows C) (wVar 6) (wCons (wVar 4) wNil)))))) (wRaise2 C.Overdrawn "name" "day" (wVar 2) (wC .non) (xw W0)) wNext)
    (wRet (wVar 6)))))))
/-- Account.account_name: slots 0 self -/
def w_Account_account_name (K : Frag) (C : CE) : WS := (wRet (wAlt (wFldI C.Account "title" (wVar 0)) (wAlt (wFldI C.LimitedAccount "title" (wVar 0)) (wFldI C.SavingsAccount "title" (wVar 0)))))
/-- Account.kind: slots 0 self -/
def w_Account_kind (K : Frag) (C : CE) : WS := (wRet (wAlt (wConI C.Account "KIND" (.str "open") (wVar 0)) (wAlt (wConI C.LimitedAccount "KIND" (.str "limited") (wVar 0)) (wConI C.SavingsAccount "KIND" (.str "savings") (wVar 0)))))
/-- Account.limit: slots 0 self -/
def w_Account_limit (K : Frag) (C : CE) : WS := (wRet (wC .non))
/-- LimitedAccount.limit: slots 0 self -/
def w_LimitedAccount_limit (K : Frag) (C : CE) : WS := (wRet (wFldI C.LimitedAccount "credit" (wVar 0)))
/-- SavingsAccount.limit: slots 0 self -/
def w_SavingsAccount_limit (K : Frag) (C : CE) : WS := (wRet (wC .non))
/-- Account.floor: slots 0 self -/
def w_Account_floor (K : Frag) (C : CE) : WS := (wRet (wC .non))
/-- LimitedAccount.floor: slots 0 self -/
def w_LimitedAccount_floor (K : Frag) (C : CE) : WS := (wRet (wOp wSub (wC (.int 0)) (wAlt (wFldI C.LimitedAccount "credit" (wVar 0)) (wFldI C.SavingsAccount "credit" (wVar 0)))))
/-- Account.balance: slots 0 self -/
def w_Account_balance (K : Frag) (C : CE) : WS := (wRet (wAlt (wFldI C.Account "amount" (wVar 0)) (wAlt (wFldI C.LimitedAccount "amount" (wVar 0)) (wFldI C.SavingsAccount "amount" (wVar 0)))))
/-- Account.may_withdraw: slots 0 self, 1 day -/
def w_Account_may_withdraw (K : Frag) (C : CE) : WS := (wRet (wC (.bl true)))
theorem pure_is_amount (K : Frag) (C : CE) : ∀ xs cs Q XP, sp_is_amount C xs cs Q XP → w_is_amount K C (retE K Q) (startD 3 xs) cs := by
  rintro xs cs Q XP ⟨v, lo, hi, rfl, q⟩
  unfold w_is_amount
  walk_at "dl"
  refine ⟨_, rfl, ?_⟩
  refine ⟨true, rfl, ?_⟩
  by_cases h : lo ≤ v
  · simp only [h, if_true, decide_true, Bool.true_and] at q ⊢
    exact .now q
  · simp only [h, if_false, decide_false, Bool.false_and] at q ⊢
    exact .now q
theorem altSk {C : CE} (k : Kd) {w : Addr → WS} {D : DEnds} {ρ : DEnv} {cs : Cells} (h : w (k.cls C) D ρ cs) : wAltS (w C.Account) (wAltS (w C.LimitedAccount) (w C.SavingsAccount)) D ρ cs := by
  cases k
  · exact .inl h
  · exact .inr (.inl h)
  · exact .inr (.inr h)
theorem altk {C : CE} (k : Kd) {w : Addr → WE} {ρ : DEnv} {cs : Cells} {P : Vl → Cells → Prop} (h : w (k.cls C) ρ cs P) : wAlt (w C.Account) (wAlt (w C.LimitedAccount) (w C.SavingsAccount)) ρ cs P := by
  cases k
  · exact .inl h
  · exact .inr (.inl h)
  · exact .inr (.inr h)
theorem altk2 {C : CE} (k : Kd) (hk : k ≠ .op) {w : Addr → WE} {ρ : DEnv} {cs : Cells} {P : Vl → Cells → Prop} (h : w (k.cls C) ρ cs P) : wAlt (w C.LimitedAccount) (w C.SavingsAccount) ρ cs P := by
  cases k
  · exact absurd rfl hk
  · exact .inl h
  · exact .inr h
theorem putV_le {f : Str} {y : Vl} : ∀ {fs : List (Str × Vl)}, (putV f y fs).length ≤ fs.length + 1 := by
  intro fs
  induction fs with
  | nil => simp [putV]
  | cons q r ih => obtain ⟨m, z⟩ := q; unfold putV; split <;> simp <;> omega
theorem pure_Account___init__ (K : Frag) (C : CE) : ∀ xs cs Q XP, sp_Account___init__ C xs cs Q XP → w_Account___init__ K C (retE K Q) (startD 5 xs) cs := by
  rintro xs cs Q XP ⟨a, k, n, l, b, c, rfl, ha, q⟩
  unfold w_Account___init__
  refine altSk (w := fun D => wSetF D "title" (wVar 0) (wVar 1)) k ⟨_, rfl, _, rfl, a, _, rfl, ha, (by simp), ?_⟩
  refine altSk (w := fun D => wSetF D "credit" (wVar 0) (wVar 2)) k ⟨_, rfl, _, rfl, a, _, rfl, Cells.put_same, (by first | exact Nat.lt_of_le_of_lt putV_le (by simp) | exact Nat.lt_of_le_of_lt putV_le (Nat.succ_lt_succ (Nat.lt_of_le_of_lt putV_le (by simp))) | exact Nat.lt_of_le_of_lt putV_le (Nat.succ_lt_succ (Nat.lt_of_le_of_lt putV_le (Nat.succ_lt_succ (Nat.lt_of_le_of_lt putV_le (by simp)))))), ?_⟩
  refine altSk (w := fun D => wSetF D "amount" (wVar 0) (wVar 3)) k ⟨_, rfl, _, rfl, a, _, rfl, Cells.put_same, (by first | exact Nat.lt_of_le_of_lt putV_le (by simp) | exact Nat.lt_of_le_of_lt putV_le (Nat.succ_lt_succ (Nat.lt_of_le_of_lt putV_le (by simp))) | exact Nat.lt_of_le_of_lt putV_le (Nat.succ_lt_succ (Nat.lt_of_le_of_lt putV_le (Nat.succ_lt_succ (Nat.lt_of_le_of_lt putV_le (by simp)))))), ?_⟩
  refine altSk (w := fun D => wSetF D "cycle" (wVar 0) (wVar 4)) k ⟨_, rfl, _, rfl, a, _, rfl, Cells.put_same, (by first | exact Nat.lt_of_le_of_lt putV_le (by simp) | exact Nat.lt_of_le_of_lt putV_le (Nat.succ_lt_succ (Nat.lt_of_le_of_lt putV_le (by simp))) | exact Nat.lt_of_le_of_lt putV_le (Nat.succ_lt_succ (Nat.lt_of_le_of_lt putV_le (Nat.succ_lt_succ (Nat.lt_of_le_of_lt putV_le (by simp)))))), ?_⟩
  simp only [Cells.put_put]
  exact .now q
theorem pure_Account_is_name (K : Frag) (C : CE) : ∀ xs cs Q XP, sp_Account_is_name C xs cs Q XP → w_Account_is_name K C (retE K Q) (startD 2 xs) cs := by
  rintro xs cs Q XP ⟨z, rfl, hz, q⟩
  unfold w_Account_is_name
  walk_at "dl"
  refine ⟨hz, ?_⟩
  have hc : ∀ P : Vl → Cells → Prop, P (.dat (.lst ((z.cps.toList.map fun c => !(Builtin.Str.occurrences "abcdefghijklmnopqrstuvwxyz" ⟨#[c]⟩ 0 ("abcdefghijklmnopqrstuvwxyz" : Str).length 1).isEmpty).map .bl))) cs → wLc (wiStr (wVar 0)) (gN 1) wYes (wOp wStIn (wVar 1) (wC (.str "abcdefghijklmnopqrstuvwxyz"))) [1] [some (.dat (.str z)), none] cs P := by
    intro P p
    refine lc_pure (charsD z) (fun _ => True) (fun _ => true) (fun x => match x with | .dat (.str q) => .bl (!(Builtin.Str.occurrences "abcdefghijklmnopqrstuvwxyz" q 0 ("abcdefghijklmnopqrstuvwxyz" : Str).length 1).isEmpty) | _ => .non) (fun Pi h => ⟨_, rfl, z, rfl, h⟩) (fun _ _ => trivial) (by simpa [charsD, Str.length] using hz) ?_ ?_
    · intro x hx cs' B N hs hb
      obtain ⟨ch, -, rfl⟩ := List.mem_map.mp hx
      simp only [wipeD, wStIn]
      walk_at "dl"
      rw [if_pos rfl] at hb
      exact hb
    · have e : ((charsD z).filter fun _ => true) = charsD z := List.filter_eq_self.mpr fun _ _ => rfl
      rw [e, charsD, List.map_map]
      rw [List.map_map] at p
      exact p
  unfold nameB at q
  by_cases h1 : 1 ≤ (z.length : Int)
  · by_cases h8 : (z.length : Int) ≤ 8
    · rw [if_pos h1, if_pos h8]
      rw [decide_eq_true h1, decide_eq_true h8] at q
      refine hc _ ?_
      refine ⟨_, by rw [seqD_lst, List.map_map]; rfl, .now ?_⟩
      rw [List.all_map]
      exact q
    · rw [if_pos h1, if_neg h8]
      rw [decide_eq_true h1, decide_eq_false h8] at q
      exact .now q
  · rw [if_neg h1]
    rw [decide_eq_false h1] at q
    exact .now q
theorem pure_Account_allows (K : Frag) (C : CE) : ∀ xs cs Q XP, sp_Account_allows C xs cs Q XP → w_Account_allows K C (retE K Q) (startD 2 xs) cs := by
  rintro xs cs Q XP ⟨x, v, rfl, q⟩
  exact .now q
theorem pure_Account_may_withdraw (K : Frag) (C : CE) : ∀ xs cs Q XP, sp_Account_may_withdraw C xs cs Q XP → w_Account_may_withdraw K C (retE K Q) (startD 2 xs) cs := by
  rintro xs cs Q XP ⟨x, v, rfl, q⟩
  exact .now q
theorem pure_LimitedAccount_allows (K : Frag) (C : CE) : ∀ xs cs Q XP, sp_LimitedAccount_allows C xs cs Q XP → w_LimitedAccount_allows K C (retE K Q) (startD 2 xs) cs := by
  rintro xs cs Q XP ⟨x, v, k, n, l, b, c, rfl, hx, hk, q⟩
  unfold w_LimitedAccount_allows
  refine ⟨_, rfl, altk2 (w := fun D => wFldI D "credit" (wVar 0)) k hk ⟨_, rfl, _, _, hx, af_c, ?_⟩⟩
  walk_at "dl"
  exact .now q
theorem pure_Account_account_name (K : Frag) (C : CE) : ∀ xs cs Q XP, sp_Account_account_name C xs cs Q XP → w_Account_account_name K C (retE K Q) (startD 1 xs) cs := by
  rintro xs cs Q XP ⟨x, k, n, l, b, c, rfl, hx, hk, q⟩
  exact altk (w := fun D => wFldI D "title" (wVar 0)) k ⟨_, rfl, _, _, hx, af_t, .now q⟩
theorem pure_Account_balance (K : Frag) (C : CE) : ∀ xs cs Q XP, sp_Account_balance C xs cs Q XP → w_Account_balance K C (retE K Q) (startD 1 xs) cs := by
  rintro xs cs Q XP ⟨x, k, n, l, b, c, rfl, hx, hk, q⟩
  exact altk (w := fun D => wFldI D "amount" (wVar 0)) k ⟨_, rfl, _, _, hx, af_a, .now q⟩
theorem pure_Account_limit (K : Frag) (C : CE) : ∀ xs cs Q XP, sp_Account_limit C xs cs Q XP → w_Account_limit K C (retE K Q) (startD 1 xs) cs := by
  rintro xs cs Q XP ⟨x, k, n, l, b, c, rfl, hx, hk, q⟩
  exact .now q
theorem pure_SavingsAccount_limit (K : Frag) (C : CE) : ∀ xs cs Q XP, sp_SavingsAccount_limit C xs cs Q XP → w_SavingsAccount_limit K C (retE K Q) (startD 1 xs) cs := by
  rintro xs cs Q XP ⟨x, k, n, l, b, c, rfl, hx, hk, q⟩
  exact .now q
theorem pure_Account_floor (K : Frag) (C : CE) : ∀ xs cs Q XP, sp_Account_floor C xs cs Q XP → w_Account_floor K C (retE K Q) (startD 1 xs) cs := by
  rintro xs cs Q XP ⟨x, k, n, l, b, c, rfl, hx, hk, q⟩
  exact .now q
theorem pure_LimitedAccount_limit (K : Frag) (C : CE) : ∀ xs cs Q XP, sp_LimitedAccount_limit C xs cs Q XP → w_LimitedAccount_limit K C (retE K Q) (startD 1 xs) cs := by
  rintro xs cs Q XP ⟨x, k, n, l, b, c, rfl, hx, rfl, q⟩
  exact ⟨_, rfl, _, _, hx, af_c, .now q⟩
theorem pure_LimitedAccount_floor (K : Frag) (C : CE) : ∀ xs cs Q XP, sp_LimitedAccount_floor C xs cs Q XP → w_LimitedAccount_floor K C (retE K Q) (startD 1 xs) cs := by
  rintro xs cs Q XP ⟨x, k, n, l, b, c, rfl, hx, hk, q⟩
  unfold w_LimitedAccount_floor
  refine altk2 (w := fun D => wFldI D "credit" (wVar 0)) k hk ⟨_, rfl, _, _, hx, af_c, ?_⟩
  walk_at "dl"
  exact .now q
theorem pure_Account_kind (K : Frag) (C : CE) : ∀ xs cs Q XP, sp_Account_kind C xs cs Q XP → w_Account_kind K C (retE K Q) (startD 1 xs) cs := by
  rintro xs cs Q XP ⟨x, k, n, l, b, c, rfl, hx, hk, q⟩
  unfold w_Account_kind
  cases k
  · exact .inl ⟨_, rfl, _, hx, rfl, .now q⟩
  · exact .inr (.inl ⟨_, rfl, _, hx, rfl, .now q⟩)
  · exact .inr (.inr ⟨_, rfl, _, hx, rfl, .now q⟩)
theorem wEq_str {neg : Bool} {a b : Str} {cs : Cells} {P : Vl → Cells → Prop} (ha : PyData.strOk a = true) (hb : PyData.strOk b = true) (p : P (.dat (.bl (if neg then !decide (a = b) else decide (a = b)))) cs) : wEqD neg (.dat (.str a)) (.dat (.str b)) cs P := by
  refine wEq_of 0 (by omega) rfl rfl ha hb (fun h => ?_) (fun h => ?_)
  · cases h; cases neg <;> simpa using p
  · have h' : a ≠ b := fun z => h (by rw [z])
    cases neg <;> simpa [h'] using p
theorem s_lo : ¬ (("limited" : Str) = "open") := by decide
theorem s_so : ¬ (("savings" : Str) = "open") := by decide
theorem s_sl : ¬ (("savings" : Str) = "limited") := by decide
theorem s_ol : ¬ (("open" : Str) = "limited") := by decide
theorem s_os : ¬ (("open" : Str) = "savings") := by decide
theorem s_ls : ¬ (("limited" : Str) = "savings") := by decide
def Kd.lim : Kd → Int
  | .li => 1000000000000000000
  | _ => 0
theorem madeR_str {C : CE} {k : Kd} {n : Str} {l b c : Int} : madeR C k.str n l b c = if nameB n = true then (if 0 ≤ l ∧ l ≤ k.lim then (if k ≠ .op ∧ b < 0 - l then .error (C.Overdrawn, [("day", .non), ("name", .dat (.str n))]) else .ok (acctD C k n l b c)) else .error (C.InvalidAmount, [])) else .error (C.InvalidName, [("name", .dat (.str n))]) := by
  cases k <;> simp only [madeR, Kd.str, Kd.lim, s_lo, s_so, s_sl, s_ol, s_os, s_ls, if_true, if_false, or_true, true_or, or_false, false_or, ne_eq, not_true_eq_false, not_false_eq_true, false_and, true_and, reduceCtorEq]
theorem kd_of {kd : Str} (h : kd = "open" ∨ kd = "limited" ∨ kd = "savings") : ∃ k : Kd, kd = k.str := by
  rcases h with rfl | rfl | rfl
  · exact ⟨.op, rfl⟩
  · exact ⟨.li, rfl⟩
  · exact ⟨.sa, rfl⟩
theorem strOk_kd (k : Kd) : PyData.strOk k.str = true := by cases k <;> decide +kernel
theorem madeFin {C : CE} {K : Frag} {Q : Vl → Cells → Prop} {XP : DXP} {cs : Cells} {a : Addr} {k : Kd} {n : Str} {l b c : Int} (ha : cs a = none) (q : endR (if k ≠ .op ∧ b < 0 - l then .error (C.Overdrawn, [("day", .non), ("name", .dat (.str n))]) else .ok (acctD C k n l b c)) cs Q XP)
    {B : Bool} (hB : B = (match k with | .op => true | _ => decide (0 - l ≤ b))) : if B = false then GhX K XP (.ref C.Overdrawn) [("day", .non), ("name", .dat (.str n))] (cs.put a (.ins (k.cls C) (datF (acctF n l b c)))) else GhK K Q (.cell a) (cs.put a (.ins (k.cls C) (datF (acctF n l b c)))) := by
  have hsub : SubC cs (cs.put a (.ins (k.cls C) (datF (acctF n l b c)))) := fun d x e => by
    have : d ≠ a := fun z => by rw [z, ha] at e; cases e
    rw [Cells.put_ne this]; exact e
  have hiff : (k ≠ .op ∧ b < 0 - l) ↔ B = false := by
    subst hB
    cases k
    · simp
    all_goals simp
  by_cases h : B = false
  · rw [if_pos h]
    rw [if_pos (hiff.mpr h)] at q
    exact .drop hsub q
  · rw [if_neg h]
    rw [if_neg (fun z => h (hiff.mp z))] at q
    refine ⟨_, _, Gh.frzI Cells.put_same, ?_⟩
    rw [Cells.del_put ha]
    exact q
theorem pure_Account_made (K : Frag) (C : CE) : ∀ xs cs Q XP, sp_Account_made C xs cs Q XP → w_Account_made K C (GhX K XP) (retE K Q) (startD 7 xs) cs := by
  rintro xs cs Q XP ⟨x, kd, n, l, b, c, rfl, hs, hn, q⟩
  unfold w_Account_made
  walk_at "dl"
  refine ⟨by omega, _, _, _, _, rfl, rfl, rfl, _, rfl, ?_⟩
  have hin : inV (.str kd) [.str "open", .str "limited", .str "savings"] = decide (kd = "open" ∨ kd = "limited" ∨ kd = "savings") := by
    unfold inV
    simp only [List.any_cons, List.any_nil, eqV, Bool.or_false]
    rw [Bool.eq_iff_iff]
    simp only [Bool.or_eq_true, beq_iff_eq, decide_eq_true_eq]
    exact ⟨fun h => h.imp Eq.symm (fun h => h.imp Eq.symm Eq.symm), fun h => h.imp Eq.symm (fun h => h.imp Eq.symm Eq.symm)⟩
  by_cases hk : kd = "open" ∨ kd = "limited" ∨ kd = "savings"
  · simp only [hin, decide_eq_true hk, Bool.not_true, Bool.false_eq_true, if_false, if_true]
    obtain ⟨k, rfl⟩ := kd_of hk
    rw [madeR_str] at q
    refine ⟨n, rfl, hn, nameB n, rfl, ?_⟩
    by_cases hnm : nameB n = true
    · rw [if_pos hnm] at q
      simp only [hnm, Bool.true_eq_false, if_false]
      have hlim : ∀ P : Prop, (0 ≤ l ∧ l ≤ k.lim → endR (if k ≠ .op ∧ b < 0 - l then .error (C.Overdrawn, [("day", .non), ("name", .dat (.str n))]) else .ok (acctD C k n l b c)) cs Q XP → P) → if (decide (0 ≤ l) && decide (l ≤ k.lim)) = false then GhX K XP (.ref C.InvalidAmount) [] cs else P := by
        intro P h
        by_cases hl : 0 ≤ l ∧ l ≤ k.lim
        · rw [if_pos hl] at q
          rw [if_neg (by simp [hl])]
          exact h hl q
        · rw [if_neg hl] at q
          rw [if_pos (by simpa using hl)]
          exact .now q
      cases k
      · refine wEq_str hs (by decide +kernel) ⟨_, rfl, ?_⟩
        rw [if_neg (by decide)]
        refine ⟨l, 0, 0, rfl, _, rfl, hlim _ fun hl q => ?_⟩
        refine wEq_str hs (by decide +kernel) ⟨_, rfl, ?_⟩
        rw [if_neg (by decide)]
        refine wEq_str hs (by decide +kernel) ⟨_, rfl, ?_⟩
        rw [if_neg (by decide)]
        intro a ha
        refine ⟨a, .op, n, l, b, c, rfl, Cells.put_same, rfl, ?_⟩
        rw [Cells.put_put]
        refine .inl ⟨_, by rw [Cells.put_same]; rfl, rfl, _, _, rfl, _, rfl, madeFin ha q rfl⟩
      · refine wEq_str hs (by decide +kernel) ⟨_, rfl, ?_⟩
        rw [if_pos (by decide)]
        refine ⟨l, 0, _, rfl, _, rfl, hlim _ fun hl q => ?_⟩
        refine wEq_str hs (by decide +kernel) ⟨_, rfl, ?_⟩
        rw [if_pos (by decide)]
        intro a ha
        refine ⟨a, .li, n, l, b, c, rfl, Cells.put_same, rfl, ?_⟩
        rw [Cells.put_put]
        refine .inr (.inl ⟨_, by rw [Cells.put_same]; rfl, rfl, _, _, .li, n, l, b, c, rfl, by unfold isAcct; rw [insD_cell, Cells.put_same]; rfl, by simp, _, rfl, madeFin ha q rfl⟩)
      · refine wEq_str hs (by decide +kernel) ⟨_, rfl, ?_⟩
        rw [if_neg (by decide)]
        refine ⟨l, 0, 0, rfl, _, rfl, hlim _ fun hl q => ?_⟩
        refine wEq_str hs (by decide +kernel) ⟨_, rfl, ?_⟩
        rw [if_neg (by decide)]
        refine wEq_str hs (by decide +kernel) ⟨_, rfl, ?_⟩
        rw [if_pos (by decide)]
        intro a ha
        refine ⟨a, .sa, n, l, b, c, rfl, Cells.put_same, rfl, ?_⟩
        rw [Cells.put_put]
        refine .inr (.inr ⟨_, by rw [Cells.put_same]; rfl, rfl, _, _, .sa, n, l, b, c, rfl, by unfold isAcct; rw [insD_cell, Cells.put_same]; rfl, by simp, _, rfl, madeFin ha q rfl⟩)
    · rw [if_neg hnm] at q
      rw [if_pos (by simpa using hnm)]
      exact .now q
  · simp only [hin, decide_eq_false hk, Bool.not_false, if_true]
    unfold madeR at q
    rw [if_neg hk] at q
    exact .now q
theorem paired_drop {α β : Type} {R : α → β → Prop} : ∀ (n : Nat) {xs : List α} {ys : List β}, Paired R xs ys → Paired R (xs.drop n) (ys.drop n)
  | 0, _, _, h => h
  | _ + 1, _, _, .nil => .nil
  | n + 1, _, _, .cons _ h => paired_drop n h
theorem paired_take {α β : Type} {R : α → β → Prop} : ∀ (n : Nat) {xs : List α} {ys : List β}, Paired R xs ys → Paired R (xs.take n) (ys.take n)
  | 0, _, _, _ => .nil
  | _ + 1, _, _, .nil => .nil
  | n + 1, _, _, .cons r h => .cons r (paired_take n h)
theorem paired_seg {α β : Type} {R : α → β → Prop} {n m : Nat} {xs : List α} {ys : List β} (h : Paired R xs ys) : Paired R ((xs.drop n).take m) ((ys.drop n).take m) := paired_take m (paired_drop n h)
def gd_Account_made_2_limit_balance_cycle : List Vl → List Vl → List Vl := fun xs ys => xs ++ ys
def gd_Account_made_2 : List Vl → List Vl → List Vl := fun xs _ => xs ++ ([.int 0] ++ ([.int 0] ++ [.int 1]))
def gd_Account_made_2_balance : List Vl → List Vl → List Vl := fun xs ys => xs ++ ([.int 0] ++ ((ys.drop 0).take 1 ++ [.int 1]))
end DL
set_option maxRecDepth 100000
set_option maxHeartbeats 4000000
namespace DL
open PySem L2
local macro_rules | `(tactic| walk_at "dl") => `(tactic| simp only [wRet, wRetN, wSeq, wAsg, wIfS, wDrop, wNext, wVar, wC, wOp, wUn, wFn, wNil, wCons, wTest, wNot, wAnd, wOr, wAndV, wOrV, wNotV, wIf, wChain, wTup, wLst, wCall, wNever, gN, gT, gNil, gCons, gIx, wI, wI0, wNeg, wMax2, wMin2, wLen, wIsN, wNotN, isNon_non, isNon_bl, isNon_int, isNon_str, isNon_lst, isNon_tup, isNon_cell, wIx, wTuple, wAug, wAugIx, wPar, wIsi, wIsi2, isiT, tyD_non, tyD_bl, tyD_int, tyD_str, tyD_lst, tyD_tup, tyD_cell, coTy_lst, seqD_lst, seqD_tp, seqD_cell, coSeq_lst, seen_dat, seen_cell, coDat_lst, startD, wYes, wApp, wEq_int, wEq_bl, allDat_nil, allDat_cons, allDat_map, Option.map_some, List.map_cons, List.map_nil, List.cons_append, List.nil_append, List.length_cons, List.length_nil, List.replicate, List.getElem?_cons_zero, List.getElem?_cons_succ, List.set_cons_zero, List.set_cons_succ, Option.some.injEq, exists_eq_left', exists_eq_left, exists_and_left, exists_eq', exists_eq, Vl.dat.injEq, Vl.raw.injEq, V.ref.injEq, CO.lst.injEq, Dat.int.injEq, Dat.bl.injEq, Dat.tup.injEq, Dat.lst.injEq, List.cons.injEq, and_true, true_and, retE, Nat.reduceAdd, Nat.reduceSub, and_assoc, Prod.mk.injEq, if_true, if_false, Bool.false_eq_true, decide_eq_true_eq, Bool.not_true, Bool.not_false, Bool.not_eq_true', decide_eq_false_iff_not, if_false_left, if_false_right, beq_iff_eq, Bool.or_eq_true, Bool.and_eq_true, Bool.or_self, Bool.or_true, Bool.true_or, Bool.or_false, Bool.false_or, decide_true, decide_false, reduceCtorEq, Cells.put_same, gt_iff_lt, ge_iff_le, beq_self_eq_true, bne_self_eq_false, Bool.decide_eq_true, not_true_eq_false, not_false_eq_true, Decidable.not_not, false_and, and_false, Bool.not_eq_false, at_0, at_1, at_2, at_3, at_4, at_5, ix_0, ix_1, ix_2, ix_3, Nat.reduceLT, Int.reduceLT, Int.reduceLE, Int.reduceNeg, Int.reduceAdd, Int.reduceSub, Int.reduceEq, Int.reducePow, Int.reduceToNat, Cells.put_put])
theorem rgC_pos {i j c : Int} (h0 : 0 ≤ i) (hij : i < j) (hj : j ≤ 100000) (hc : 0 < c) (hc2 : c ≤ 100000) : RgC i j c ((j - i - 1) / c + 1).toNat := by
  have hq : 0 ≤ (j - i - 1) / c := Int.ediv_nonneg (by omega) (by omega)
  have hq2 : (j - i - 1) / c ≤ j - i - 1 := Int.ediv_le_self _ (by omega)
  have hs : Builtin.Range.rangeSize i j c = (j - i - 1) / c + 1 := by
    unfold Builtin.Range.rangeSize
    rw [if_pos (by omega), if_pos hij]
  refine ⟨by omega, by omega, ?_, ?_⟩
  · unfold Builtin.Range.small
    rw [hs]
    simp only [Builtin.Range.rangeFitsLong, Bool.and_eq_true, Bool.or_eq_true, decide_eq_true_eq, beq_iff_eq, show c > 0 from hc, if_true]
    omega
  · rw [hs]; omega
/-! ### rows -/
theorem rowF_len {c : Nat} {f : Nat → Int} : (rowF c f).length = c := by simp [rowF]
theorem iV_len {ns : List Int} : (iV ns).length = ns.length := by simp [iV]
theorem rowF_get {c : Nat} {f : Nat → Int} {k : Nat} (h : k < c) : (rowF c f)[k]? = some (f k) := by simp [rowF, h]
theorem iV_get {ns : List Int} {k : Nat} {n : Int} (h : ns[k]? = some n) : (iV ns)[k]? = some (.int n) := by
  unfold iV; rw [List.getElem?_map, h]; rfl
theorem rowF_set {c : Nat} {f : Nat → Int} {k : Nat} {v : Int} (h : k < c) : (iV (rowF c f)).set k (.int v) = iV (rowF c fun t => if t = k then v else f t) := by
  unfold iV rowF
  refine List.ext_getElem? fun i => ?_
  by_cases hi : i < c
  · by_cases hk : k = i
    · subst hk
      rw [List.getElem?_set_self (by simp; omega)]
      simp [hi]
    · rw [List.getElem?_set_ne hk]
      have : ¬ i = k := fun z => hk z.symm
      simp [hi, this]
  · rw [List.getElem?_eq_none (by simp; omega), List.getElem?_eq_none (by simp; omega)]
theorem rowF_ext {c : Nat} {f g : Nat → Int} (h : ∀ t, t < c → f t = g t) : rowF c f = rowF c g := by
  unfold rowF
  exact List.map_congr_left fun t ht => h t (List.mem_range.mp ht)
theorem rep0 (n : Nat) : (List.replicate n [(Vl.int 0)]).flatten = iV (rowF n fun _ => 0) := by
  induction n with
  | zero => rfl
  | succ n ih =>
    rw [List.replicate_succ', List.flatten_append, ih]
    unfold iV rowF
    rw [List.range_succ]
    simp
/-! ### a valid calendar's cycle -/
def rat4 (b : Int) : List Int → Prop
  | [] => True
  | p :: r => (0 < b → p ≤ 4 * b) ∧ rat4 p r
def cyc (ps : List Int) : Int := (ps.getLast?).getD 0
theorem calFrom_all : ∀ {ps : List Int} {b : Int}, 0 ≤ b → calFrom b ps → ∀ p ∈ ps, b < p ∧ p ≤ 400
  | a :: r, b, hb, h, p, hp => by
    rcases List.mem_cons.mp hp with z | z
    · subst z; exact ⟨h.1, h.2.1⟩
    · have := calFrom_all (b := a) (by have := h.1; omega) h.2.2.2 p z
      have h1 := h.1
      exact ⟨by omega, this.2⟩
/-- every period divides the last one -/
theorem calFrom_dvd : ∀ {ps : List Int} {b : Int} {c : Int}, 0 ≤ b → calFrom b ps → ps.getLast? = some c → (0 < b → b ∣ c) ∧ ∀ p ∈ ps, p ∣ c
  | [a], b, c, hb, h, e => by
    cases e
    exact ⟨fun z => Int.dvd_of_emod_eq_zero (h.2.2.1 z), fun p hp => by simp at hp; subst hp; exact Int.dvd_refl _⟩
  | a :: a2 :: r, b, c, hb, h, e => by
    have h1 := h.1
    have ih := calFrom_dvd (ps := a2 :: r) (b := a) (c := c) (by omega) h.2.2.2 (by rw [List.getLast?_cons_cons] at e; exact e)
    have ha : a ∣ c := ih.1 (by omega)
    refine ⟨fun z => Int.dvd_trans (Int.dvd_of_emod_eq_zero (h.2.2.1 z)) ha, fun p hp => ?_⟩
    rcases List.mem_cons.mp hp with z | z
    · subst z; exact ha
    · exact ih.2 p z
structure CycOk (ps : List Int) (c : Int) : Prop where
  last : ps.getLast? = some c
  pos : 0 < c
  le : c ≤ 400
  per : ∀ p ∈ ps, 0 < p ∧ p ≤ c ∧ p ∣ c
theorem cal_cyc {ps : List Int} (h : CalOk ps) : CycOk ps (cyc ps) := by
  obtain ⟨h1, h5, hc⟩ := h
  have hne : ps ≠ [] := by intro z; subst z; simp at h1
  obtain ⟨c, hl⟩ : ∃ c, ps.getLast? = some c := ⟨_, List.getLast?_eq_some_getLast hne⟩
  have hcy : cyc ps = c := by unfold cyc; rw [hl]; rfl
  rw [hcy]
  have hm : c ∈ ps := List.mem_of_getLast? hl
  have ha := calFrom_all (Int.le_refl 0) hc
  have hd := (calFrom_dvd (Int.le_refl 0) hc hl).2
  exact ⟨hl, (ha c hm).1, (ha c hm).2, fun p hp => ⟨(ha p hp).1, Int.le_of_dvd (ha c hm).1 (hd p hp), hd p hp⟩⟩
theorem atI_cyc {ps : List Int} {c : Int} (h : CycOk ps c) : atI (iV ps) (-1) = some (.int c) := atI_last (by unfold iV; rw [List.getLast?_map, h.last]; rfl)
theorem ordB_iff {ps : List Int} {o : Ord} : ordB ps o = true ↔ o.1 ∈ ps ∧ 0 ≤ o.2.1 ∧ o.2.1 < o.1 ∧ o.2.2 ≠ 0 := by
  unfold ordB
  simp [and_assoc]
theorem flowAt_snoc (os : List Ord) (o : Ord) (t : Int) : flowAt (os ++ [o]) t = flowAt os t + if t % o.1 = o.2.1 then o.2.2 else 0 := by
  unfold flowAt
  rw [List.map_append, List.sum_append]
  simp
theorem take_snoc {α : Type} {os : List α} {i : Nat} {o : α} (h : os[i]? = some o) : os.take (i + 1) = os.take i ++ [o] := by rw [List.take_succ, h]; rfl
/-! ### flow_list -/
def sp_flow_list : DSp := fun xs cs Q _ => ∃ (ps : List Int) (os : List Ord) (b : Bool), xs = [.dat (cal ps), .dat (seqd b (ordsD os))] ∧ CalOk ps ∧ OrdsOk ps os ∧ ∀ p, cs p = none → Q (.cell p) (cs.put p (.lst (iV (flowsL (cyc ps) os))))
theorem len_flow_list : ∀ xs cs Q XP, sp_flow_list xs cs Q XP → xs.length = 2 := by rintro xs cs Q XP ⟨ps, o, b, rfl, _⟩; rfl
def w_flow_list : WS := (wSeq (wAsg (wOp wRep (wLst (wCons (wC (.int 0)) wNil)) (wOp wIx (wVar 0) (wUn wNeg (wC (.int 1))))) (gN 2))
    (wSeq (wFor (wiSeq (wVar 1)) (gT 3 (gCons (gN 3) (gCons (gN 4) (gCons (gN 5) gNil)))) (wFor (wiRng3 (wCons (wVar 4) (wCons (wOp wIx (wVar 0) (wUn wNeg (wC (.int 1)))) (wCons (wVar 3) wNil)))) (gN 6) (wAugIx (wVar 2) (wVar 6) (wVar 5) (fun i j => i + j))))
    (wRet (wVar 2))))
theorem mod_near {p d t : Int} {j : Int} (hp : 0 < p) (hd : 0 ≤ d) (hdp : d < p) : (d + j * p) % p = d := by
  rw [Int.add_mul_emod_self_right, Int.emod_eq_of_lt hd hdp]
theorem pure_flow_list (K : Frag) : ∀ xs cs Q XP, sp_flow_list xs cs Q XP → w_flow_list (retE K Q) (startD 7 xs) cs := by
  rintro xs cs Q XP ⟨ps, os, b, rfl, hc, ho, q⟩
  have C := cal_cyc hc
  generalize cyc ps = c at C q
  have hpos := C.pos
  have hle := C.le
  unfold w_flow_list
  walk_at "dl"
  refine ⟨by decide, .inl fun p0 hp0 => ?_⟩
  refine ⟨_, _, seqD_cal, _, atI_cyc C, ?_⟩
  simp only [wRep]
  walk_at "dl"
  refine ⟨by omega, by omega, by omega, cs, SubC.put hp0, .inl fun p hp => ?_⟩
  rw [rep0]
  simp only [wFor, wiSeq]
  walk_at "dl"
  refine ⟨_, _, seqD_seqd, fun i ρ cs' => cs' = cs.put p (.lst (iV (rowF c.toNat fun t => flowAt (os.take i) (t : Int)))) ∧ ∃ a3 a4 a5 a6, ρ = [some (.dat (cal ps)), some (.dat (seqd b (ordsD os))), some (.cell p), a3, a4, a5, a6], ⟨rfl, _, _, _, _, rfl⟩, fun _ _ _ _ _ => seqD_seqd, ?_, ?_⟩
  · rintro i x ρ cs' hx ⟨rfl, a3, a4, a5, a6, rfl⟩
    unfold ordsD at hx
    rw [List.getElem?_map, List.getElem?_map] at hx
    obtain ⟨d0, hd0, rfl⟩ := Option.map_eq_some_iff.mp hx
    obtain ⟨⟨pp, dd, aa⟩, hoi, rfl⟩ := Option.map_eq_some_iff.mp hd0
    obtain ⟨k1, k2, k3, k4⟩ := ordB_iff.mp (ho _ (List.mem_of_getElem? hoi))
    simp only at k1 k2 k3 k4
    obtain ⟨p1, p2, p3⟩ := C.per _ k1
    simp only [ord]
    walk_at "dl"
    simp only [wiRng3]
    walk_at "dl"
    refine ⟨_, _, seqD_cal, _, atI_cyc C, ?_⟩
    walk_at "dl"
    refine ⟨_, rgC_pos k2 (by omega) (by omega) p1 (by omega), ?_⟩
    refine ⟨fun j ρ cs' => cs' = cs.put p (.lst (iV (rowF c.toNat fun t => flowAt (os.take i) (t : Int) + if (t : Int) % pp = dd ∧ (t : Int) < dd + j * pp then aa else 0))) ∧ ∃ a6, ρ = [some (.dat (cal ps)), some (.dat (seqd b (ordsD os))), some (.cell p), some (.int pp), some (.int dd), some (.int aa), a6], ⟨?_, _, rfl⟩, fun _ _ _ _ _ => trivial, ?_, ?_⟩
    · congr 3
      refine rowF_ext fun t _ => ?_
      rw [if_neg (fun z => ?_), Int.add_zero]
      obtain ⟨z1, z2⟩ := z
      have z3 : (t : Int) < dd := by simpa using z2
      rw [Int.emod_eq_of_lt (by omega) (by omega)] at z1
      omega
    · rintro j x ρ cs' hx ⟨rfl, a6, rfl⟩
      obtain ⟨hj, rfl⟩ := rangeD_at hx
      have hq : 0 ≤ (c - dd - 1) / pp := Int.ediv_nonneg (by omega) (by omega)
      have hjq : (j : Int) ≤ (c - dd - 1) / pp := by omega
      have hjm : (j : Int) * pp ≤ c - dd - 1 := Int.le_trans (Int.mul_le_mul_of_nonneg_right hjq (by omega)) (Int.ediv_mul_le _ (by omega))
      have hj0 : 0 ≤ (j : Int) * pp := Int.mul_nonneg (by omega) (by omega)
      have hr : (dd + (j : Int) * pp).toNat < c.toNat := by omega
      have hrc : (((dd + (j : Int) * pp).toNat : Nat) : Int) = dd + (j : Int) * pp := Int.toNat_of_nonneg (by omega)
      walk_at "dl"
      refine ⟨_, ixN_int (by omega) (by rw [iV_len, rowF_len]; omega), _, iV_get (rowF_get hr), ?_⟩
      rw [rowF_set hr]
      congr 3
      refine rowF_ext fun t ht => ?_
      simp only [hrc]
      by_cases htj : t = (dd + (j : Int) * pp).toNat
      · have htc : (t : Int) = dd + (j : Int) * pp := by omega
        have e0 : ((j + 1 : Nat) : Int) * pp = (j : Int) * pp + pp := by rw [Int.natCast_add, Int.add_mul]; simp
        rw [if_pos htj, htc, mod_near (t := t) p1 k2 k3, if_neg (by omega), if_pos ⟨rfl, by omega⟩, Int.add_zero]
      · rw [if_neg htj]
        congr 1
        have hiff : ((t : Int) % pp = dd ∧ (t : Int) < dd + (j : Int) * pp) ↔ ((t : Int) % pp = dd ∧ (t : Int) < dd + ((j + 1 : Nat) : Int) * pp) := by
          have e1 : ((j + 1 : Nat) : Int) * pp = (j : Int) * pp + pp := by rw [Int.natCast_add, Int.add_mul]; simp
          constructor
          · rintro ⟨z1, z2⟩; exact ⟨z1, by omega⟩
          · rintro ⟨z1, z2⟩
            refine ⟨z1, ?_⟩
            have e2 := Int.emod_add_mul_ediv (t : Int) pp
            rw [z1] at e2
            have e3 : (t : Int) / pp ≤ j := by
              have : pp * ((t : Int) / pp) < pp * ((j : Int) + 1) := by rw [Int.mul_add, Int.mul_comm pp j]; omega
              have := Int.lt_of_mul_lt_mul_left this (by omega)
              omega
            have e4 : (t : Int) / pp ≠ j := fun z => htj (by rw [z, Int.mul_comm] at e2; omega)
            have e5 : pp * ((t : Int) / pp) ≤ pp * ((j : Int) - 1) := Int.mul_le_mul_of_nonneg_left (by omega) (by omega)
            rw [Int.mul_sub, Int.mul_comm pp j] at e5
            omega
        simp only [hiff]
    · rintro ρ cs' ⟨rfl, a6, rfl⟩
      refine ⟨?_, _, _, _, _, rfl⟩
      congr 3
      refine rowF_ext fun t ht => ?_
      rw [take_snoc hoi, flowAt_snoc]
      congr 1
      have hq : 0 ≤ (c - dd - 1) / pp := Int.ediv_nonneg (by omega) (by omega)
      have hlen : (rangeD dd pp ((c - dd - 1) / pp + 1).toNat).length = ((c - dd - 1) / pp + 1).toNat := rangeD_len
      rw [hlen, Int.toNat_of_nonneg (by omega)]
      have hb : c - dd - 1 < ((c - dd - 1) / pp + 1) * pp := Int.lt_ediv_add_one_mul_self _ p1
      by_cases h1 : (t : Int) % pp = dd
      · rw [if_pos ⟨h1, by omega⟩, if_pos h1]
      · rw [if_neg (fun z => h1 z.1), if_neg h1]
  · rintro ρ cs' ⟨rfl, a3, a4, a5, a6, rfl⟩
    walk_at "dl"
    refine .now ?_
    have := q p hp
    unfold flowsL at this
    have hl : ((ordsD os).map Vl.dat).length = os.length := by simp [ordsD]
    rw [hl, List.take_of_length_le (Nat.le_refl _)]
    exact this
end DL
set_option maxRecDepth 100000
set_option maxHeartbeats 4000000
namespace DL
open PySem L2
local macro_rules | `(tactic| walk_at "dl") => `(tactic| simp only [wRet, wRetN, wSeq, wAsg, wIfS, wDrop, wNext, wVar, wC, wOp, wUn, wFn, wNil, wCons, wTest, wNot, wAnd, wOr, wAndV, wOrV, wNotV, wIf, wChain, wTup, wLst, wCall, wNever, gN, gT, gNil, gCons, gIx, wI, wI0, wNeg, wMax2, wMin2, wLen, wIsN, wNotN, isNon_non, isNon_bl, isNon_int, isNon_str, isNon_lst, isNon_tup, isNon_cell, wIx, wTuple, wAug, wAugIx, wPar, wIsi, wIsi2, isiT, tyD_non, tyD_bl, tyD_int, tyD_str, tyD_lst, tyD_tup, tyD_cell, coTy_lst, seqD_lst, seqD_tp, seqD_cell, coSeq_lst, seen_dat, seen_cell, coDat_lst, startD, wYes, wApp, wEq_int, wEq_bl, allDat_nil, allDat_cons, allDat_map, Option.map_some, List.map_cons, List.map_nil, List.cons_append, List.nil_append, List.length_cons, List.length_nil, List.replicate, List.getElem?_cons_zero, List.getElem?_cons_succ, List.set_cons_zero, List.set_cons_succ, Option.some.injEq, exists_eq_left', exists_eq_left, exists_and_left, exists_eq', exists_eq, Vl.dat.injEq, Vl.raw.injEq, V.ref.injEq, CO.lst.injEq, Dat.int.injEq, Dat.bl.injEq, Dat.tup.injEq, Dat.lst.injEq, List.cons.injEq, and_true, true_and, retE, Nat.reduceAdd, Nat.reduceSub, and_assoc, Prod.mk.injEq, if_true, if_false, Bool.false_eq_true, decide_eq_true_eq, Bool.not_true, Bool.not_false, Bool.not_eq_true', decide_eq_false_iff_not, if_false_left, if_false_right, beq_iff_eq, Bool.or_eq_true, Bool.and_eq_true, Bool.or_self, Bool.or_true, Bool.true_or, Bool.or_false, Bool.false_or, decide_true, decide_false, reduceCtorEq, Cells.put_same, gt_iff_lt, ge_iff_le, beq_self_eq_true, bne_self_eq_false, Bool.decide_eq_true, not_true_eq_false, not_false_eq_true, Decidable.not_not, false_and, and_false, Bool.not_eq_false, at_0, at_1, at_2, at_3, at_4, at_5, ix_0, ix_1, ix_2, ix_3, Nat.reduceLT, Int.reduceLT, Int.reduceLE, Int.reduceNeg, Int.reduceAdd, Int.reduceSub, Int.reduceEq, Int.reducePow, Int.reduceToNat, Cells.put_put])
/-! ### cycle_of, times_due, flows -/
def sp_cycle_of : DSp := fun xs cs Q _ => ∃ ps : List Int, xs = [.dat (cal ps)] ∧ CalOk ps ∧ Q (.int (cyc ps)) cs
theorem len_cycle_of : ∀ xs cs Q XP, sp_cycle_of xs cs Q XP → xs.length = 1 := by rintro xs cs Q XP ⟨ps, rfl, _⟩; rfl
def w_cycle_of : WS := (wSeq (wDrop (wCall sp_validate_calendar (wCons (wVar 0) wNil)))
    (wRet (wOp wIx (wVar 0) (wUn wNeg (wC (.int 1))))))
theorem pure_cycle_of (K : Frag) : ∀ xs cs Q XP, sp_cycle_of xs cs Q XP → w_cycle_of (retE K Q) (startD 1 xs) cs := by
  rintro xs cs Q XP ⟨ps, rfl, hc, q⟩
  unfold w_cycle_of
  walk_at "dl"
  exact ⟨ps, rfl, hc, _, _, seqD_cal, _, atI_cyc (cal_cyc hc), .now q⟩
def sp_times_due : DSp := fun xs cs Q _ => ∃ (ps : List Int) (o : Ord) (f l : Int), xs = [.dat (cal ps), .dat (ord o), .int f, .int l] ∧ CalOk ps ∧ ordB ps o = true ∧ Q (.int (daysDue o.1 o.2.1 f l)) cs
theorem len_times_due : ∀ xs cs Q XP, sp_times_due xs cs Q XP → xs.length = 4 := by rintro xs cs Q XP ⟨ps, o, f, l, rfl, _⟩; rfl
def w_times_due : WS := (wSeq (wDrop (wCall sp_validate_orders (wCons (wVar 0) (wCons (wLst (wCons (wVar 1) wNil)) wNil))))
    (wRet (wCall sp_days_due (wCons (wOp wIx (wVar 1) (wC (.int 0))) (wCons (wOp wIx (wVar 1) (wC (.int 1))) (wCons (wVar 2) (wCons (wVar 3) wNil)))))))
theorem pure_times_due (K : Frag) : ∀ xs cs Q XP, sp_times_due xs cs Q XP → w_times_due (retE K Q) (startD 4 xs) cs := by
  rintro xs cs Q XP ⟨ps, ⟨p, d, a⟩, f, l, rfl, hc, ho, q⟩
  obtain ⟨k1, k2, k3, k4⟩ := ordB_iff.mp ho
  have C := cal_cyc hc
  obtain ⟨p1, p2, p3⟩ := C.per _ k1
  have := C.le
  unfold w_times_due
  walk_at "dl"
  refine ⟨by decide, .inr ⟨[ord (p, d, a)], rfl, ps, [(p, d, a)], true, rfl, hc, fun o h => by simp at h; rw [h]; exact ho, ?_⟩⟩
  simp only [ord]
  walk_at "dl"
  exact ⟨p, d, f, l, rfl, p1, by omega, .now q⟩
abbrev sp_flows : DSp := sp_flow_list
theorem len_flows : ∀ xs cs Q XP, sp_flows xs cs Q XP → xs.length = 2 := len_flow_list
def w_flows : WS := (wSeq (wDrop (wCall sp_validate_orders (wCons (wVar 0) (wCons (wVar 1) wNil))))
    (wRet (wCall sp_flow_list (wCons (wVar 0) (wCons (wVar 1) wNil)))))
theorem pure_flows (K : Frag) : ∀ xs cs Q XP, sp_flows xs cs Q XP → w_flows (retE K Q) (startD 2 xs) cs := by
  rintro xs cs Q XP ⟨ps, os, b, rfl, hc, ho, q⟩
  unfold w_flows
  walk_at "dl"
  exact ⟨ps, os, b, rfl, hc, ho, ps, os, b, rfl, hc, ho, fun p hp => .now (q p hp)⟩
/-! ### draws -/
def DrSt (c : CO) : Prop := ∃ (ns : List Int) (pos seed rest : Int), c = .lst [.dat (.lst (iD ns)), .int pos, .int seed, .int rest] ∧ 0 ≤ pos
def sp_law_start : DSp := fun xs cs Q _ => ∃ ns : List Int, xs = [.dat (.lst (iD ns))] ∧ ∀ p c, cs p = none → DrSt c → Q (.cell p) (cs.put p c)
theorem len_law_start : ∀ xs cs Q XP, sp_law_start xs cs Q XP → xs.length = 1 := by rintro xs cs Q XP ⟨ns, rfl, _⟩; rfl
def w_law_start : WS := (wSeq (wAsg (wC (.int 1)) (gN 1))
    (wSeq (wFor (wiSeq (wVar 0)) (gN 2) (wAsg (wOp wMod (wOp wAdd (wOp wAdd (wOp wMul (wVar 1) (wC (.int 48271))) (wVar 2)) (wC (.int 7))) (wC (.int 2147483647))) (gN 1)))
    (wRet (wLst (wCons (wVar 0) (wCons (wC (.int 0)) (wCons (wVar 1) (wCons (wC (.int 0)) wNil))))))))
theorem pure_law_start (K : Frag) : ∀ xs cs Q XP, sp_law_start xs cs Q XP → w_law_start (retE K Q) (startD 3 xs) cs := by
  rintro xs cs Q XP ⟨ns, rfl, q⟩
  unfold w_law_start
  walk_at "dl"
  simp only [wFor, wiSeq]
  walk_at "dl"
  refine ⟨fun i ρ cs' => cs' = cs ∧ ∃ (m : Int) (a : Option Vl), ρ = [some (.dat (.lst (iD ns))), some (.int m), a], ⟨rfl, _, _, rfl⟩, fun _ _ _ _ _ => trivial, ?_, ?_⟩
  · rintro i x ρ cs' hx ⟨rfl, m, a, rfl⟩
    rw [iD_map] at hx
    unfold iV at hx
    rw [List.getElem?_map] at hx
    obtain ⟨n, hn, rfl⟩ := Option.map_eq_some_iff.mp hx
    walk_at "dl"
    exact mulR (by decide) (by decide)
  · rintro ρ cs' ⟨rfl, m, a, rfl⟩
    walk_at "dl"
    exact ⟨by decide, .inl fun p hp => .now (q p _ hp ⟨ns, 0, m, 0, rfl, by decide⟩)⟩
def sp_law_drawn : DSp := fun xs cs Q _ => ∃ (a : Addr) (n : Int) (c : CO), xs = [.cell a, .int n] ∧ cs a = some c ∧ DrSt c ∧ 0 < n ∧ n ≤ 1000000000000000000000000000000 ∧ ∀ r c', 0 ≤ r → r < n → DrSt c' → Q (.int r) (cs.put a c')
theorem len_law_drawn : ∀ xs cs Q XP, sp_law_drawn xs cs Q XP → xs.length = 2 := by rintro xs cs Q XP ⟨a, n, c, rfl, _⟩; rfl
def w_law_drawn : WS := (wSeq (wIfS (wTest (wOp wGt (wOp wIx (wVar 0) (wC (.int 3))) (wC (.int 0)))) (wSeq (wAsg (wOp wMod (wOp wIx (wVar 0) (wC (.int 3))) (wVar 1)) (gN 2))
    (wSeq (wAsg (wOp wDiv (wOp wIx (wVar 0) (wC (.int 3))) (wVar 1)) (gIx (wVar 0) (wC (.int 3))))
    (wRet (wVar 2)))) wNext)
    (wSeq (wAsg (wOp wAdd (wOp wIx (wVar 0) (wC (.int 1))) (wC (.int 1))) (gIx (wVar 0) (wC (.int 1))))
    (wSeq (wIfS (wTest (wOp wLe (wOp wIx (wVar 0) (wC (.int 1))) (wFn wLen (wCons (wOp wIx (wVar 0) (wC (.int 0))) wNil)))) (wSeq (wAsg (wOp wIx (wOp wIx (wVar 0) (wC (.int 0))) (wOp wSub (wOp wIx (wVar 0) (wC (.int 1))) (wC (.int 1)))) (gN 3))
    (wSeq (wAsg (wIf (wTest (wOp wGe (wVar 3) (wOp wPow (wC (.int 10)) (wC (.int 18))))) (wOp wDiv (wVar 3) (wVar 1)) (wC (.int 0))) (gIx (wVar 0) (wC (.int 3))))
    (wRet (wOp wMod (wVar 3) (wVar 1))))) wNext)
    (wSeq (wAsg (wOp wMod (wOp wAdd (wOp wMul (wOp wIx (wVar 0) (wC (.int 2))) (wC (.int 48271))) (wC (.int 11))) (wC (.int 2147483647))) (gIx (wVar 0) (wC (.int 2))))
    (wRet (wOp wMod (wOp wDiv (wOp wIx (wVar 0) (wC (.int 2))) (wC (.int 7))) (wVar 1)))))))
theorem pow10 (n : Nat) (h : (n : Int) ≤ 1000000) : CPow 10 (n : Int) := ⟨by omega, h, by decide⟩
theorem pure_law_drawn (K : Frag) : ∀ xs cs Q XP, sp_law_drawn xs cs Q XP → w_law_drawn (retE K Q) (startD 4 xs) cs := by
  rintro xs cs Q XP ⟨a, n, c, rfl, hc, ⟨ns, pos, seed, rest, rfl, hpos⟩, hn, hn2, q⟩
  unfold w_law_drawn
  walk_at "dl"
  simp only [hc]
  walk_at "dl"
  have m1 : ∀ x : Int, 0 ≤ x % n := fun x => Int.emod_nonneg _ (by omega)
  have m2 : ∀ x : Int, x % n < n := fun x => Int.emod_lt_of_pos _ hn
  split
  · exact ⟨hn, divOk hn hn2, .now (q _ _ (m1 _) (m2 _) ⟨ns, pos, seed, _, rfl, hpos⟩)⟩
  · split
    · rename_i h1 h2
      have hl : (List.map Vl.dat (iD ns)).length = ns.length := by simp [iD]
      rw [hl] at h2
      obtain ⟨z, hz⟩ : ∃ z, ns[pos.toNat]? = some z := ⟨_, List.getElem?_eq_getElem (by omega)⟩
      refine ⟨.int z, ?_, pow10 18 (by decide), z, rfl, ?_⟩
      · rw [show pos + 1 - 1 = pos by omega, iD_map]
        exact atI_int hpos (iV_get hz)
      · split
        · exact ⟨z, rfl, divOk hn hn2, z, rfl, hn, .now (q _ _ (m1 _) (m2 _) ⟨ns, _, seed, _, rfl, by omega⟩)⟩
        · exact ⟨z, rfl, hn, .now (q _ _ (m1 _) (m2 _) ⟨ns, _, seed, _, rfl, by omega⟩)⟩
    · exact ⟨mulR (by decide) (by decide), divOk (by decide) (by decide), hn, .now (q _ _ (m1 _) (m2 _) ⟨ns, _, _, _, rfl, by omega⟩)⟩
/-! ### random calendars and orders -/
theorem put_fresh {cs : Cells} {a p : Addr} {c c' : CO} (h : cs a = some c) (hp : cs p = none) : p ≠ a := by
  intro z; rw [z, h] at hp; cases hp
def sp_law_calendar : DSp := fun xs cs Q _ => ∃ (a : Addr) (n : Int) (c : CO), xs = [.cell a, .int n] ∧ cs a = some c ∧ DrSt c ∧ 1 ≤ n ∧ n ≤ 400 ∧ ∀ ps c', CalOk ps → (∀ p ∈ ps, p ≤ max 3 n) → ps.length ≤ 4 ∧ rat4 0 ps → DrSt c' → Q (.dat (cal ps)) (cs.put a c')
theorem len_law_calendar : ∀ xs cs Q XP, sp_law_calendar xs cs Q XP → xs.length = 2 := by rintro xs cs Q XP ⟨a, n, c, rfl, _⟩; rfl
def w_law_calendar : WS := (wSeq (wAsg (wLst (wCons (wOp wAdd (wC (.int 1)) (wCall sp_law_drawn (wCons (wVar 0) (wCons (wFn wMin2 (wCons (wC (.int 3)) (wCons (wVar 1) wNil))) wNil)))) wNil)) (gN 2))
    (wSeq (wFor (wiRng1 (wCons (wCall sp_law_drawn (wCons (wVar 0) (wCons (wC (.int 4)) wNil))) wNil)) (gN 3) (wSeq (wAsg (wOp wMul (wOp wIx (wVar 2) (wOp wSub (wC (.int 0)) (wC (.int 1)))) (wOp wAdd (wC (.int 2)) (wCall sp_law_drawn (wCons (wVar 0) (wCons (wC (.int 3)) wNil))))) (gN 4))
    (wIfS (wTest (wOp wLe (wVar 4) (wVar 1))) (wDrop (wApp (wVar 2) (wVar 4))) wNext)))
    (wRet (wFn wTuple (wCons (wVar 2) wNil)))))
theorem calFrom_snoc : ∀ {ps : List Int} {b c p : Int}, calFrom b ps → (ps.getLast?).getD b = c → c < p → p ≤ 400 → (c > 0 → p % c = 0) → calFrom b (ps ++ [p])
  | [], b, c, p, _, e, h1, h2, h3 => by
    simp at e; subst e; exact ⟨h1, h2, h3, trivial⟩
  | [a], b, c, p, h, e, h1, h2, h3 => by
    simp at e; subst e; exact ⟨h.1, h.2.1, h.2.2.1, h1, h2, h3, trivial⟩
  | a :: a2 :: r, b, c, p, h, e, h1, h2, h3 => by
    refine ⟨h.1, h.2.1, h.2.2.1, calFrom_snoc (ps := a2 :: r) h.2.2.2 ?_ h1 h2 h3⟩
    rw [List.getLast?_cons_cons] at e
    cases q : (a2 :: r).getLast? with
    | none => simp at q
    | some z => rw [q] at e; exact e
theorem rat4_snoc : ∀ {ps : List Int} {b c p : Int}, rat4 b ps → (ps.getLast?).getD b = c → p ≤ 4 * c → rat4 b (ps ++ [p])
  | [], b, c, p, _, e, h1 => by
    simp at e; subst e; exact ⟨fun _ => h1, trivial⟩
  | [a], b, c, p, h, e, h1 => by
    simp at e; subst e; exact ⟨h.1, fun _ => h1, trivial⟩
  | a :: a2 :: r, b, c, p, h, e, h1 => by
    refine ⟨h.1, rat4_snoc (ps := a2 :: r) h.2 ?_ h1⟩
    rw [List.getLast?_cons_cons] at e
    cases q : (a2 :: r).getLast? with
    | none => simp at q
    | some z => rw [q] at e; exact e
theorem iV_app (xs ys : List Int) : iV xs ++ iV ys = iV (xs ++ ys) := by simp [iV]
theorem pure_law_calendar (K : Frag) : ∀ xs cs Q XP, sp_law_calendar xs cs Q XP → w_law_calendar (retE K Q) (startD 5 xs) cs := by
  rintro xs cs Q XP ⟨a, n, c, rfl, hc, hD, hn, hn2, q⟩
  unfold w_law_calendar
  walk_at "dl"
  refine ⟨a, _, c, rfl, hc, hD, by split <;> omega, by split <;> omega, fun r c1 hr0 hr1 hD1 => ?_⟩
  walk_at "dl"
  refine ⟨by decide, .inl fun p hp => ?_⟩
  have hpa : p ≠ a := by
    intro z; rw [z, Cells.put_same] at hp; cases hp
  have hp0 : cs p = none := by rwa [Cells.put_ne hpa] at hp
  simp only [wFor, wiRng1]
  walk_at "dl"
  refine ⟨a, 4, c1, rfl, by rw [Cells.put_ne hpa.symm, Cells.put_same], hD1, by decide, by decide, fun k c2 hk0 hk1 hD2 => ?_⟩
  walk_at "dl"
  refine ⟨by omega, by omega, fun i ρ cs' => ∃ ps c', cs' = (cs.put a c').put p (.lst (iV ps)) ∧ DrSt c' ∧ (calFrom 0 ps ∧ rat4 0 ps) ∧ 1 ≤ ps.length ∧ ps.length ≤ i + 1 ∧ (∀ x ∈ ps, x ≤ max 3 n) ∧ ∃ a3 a4, ρ = [some (.cell a), some (.int n), some (.cell p), a3, a4], ?_, fun _ _ _ _ _ => trivial, ?_, ?_⟩
  · refine ⟨[1 + r], c2, ?_, hD2, ⟨⟨by omega, by split at hr1 <;> omega, fun z => absurd z (by decide), trivial⟩, fun z => absurd z (by decide), trivial⟩, by simp, by simp, by simp; split at hr1 <;> omega, _, _, rfl⟩
    rw [Cells.put_comm hpa, Cells.put_put]; rfl
  · rintro i x ρ cs' hx ⟨ps, c', rfl, hD', ⟨hcf, hrt⟩, hl1, hl2, hall, a3, a4, rfl⟩
    obtain ⟨hi, rfl⟩ := rangeD_at hx
    have hne : ps ≠ [] := by intro z; subst z; simp at hl1
    have hlast : ps.getLast? = some (ps.getLast hne) := List.getLast?_eq_some_getLast hne
    generalize hz : ps.getLast hne = z at hlast
    have hzm : z ∈ ps := List.mem_of_getLast? hlast
    have hza := calFrom_all (Int.le_refl 0) hcf z hzm
    walk_at "dl"
    refine ⟨.int z, atI_last (by unfold iV; rw [List.getLast?_map, hlast]; rfl), ?_⟩
    refine ⟨a, 3, c', rfl, by rw [Cells.put_ne hpa.symm, Cells.put_same], hD', by decide, by decide, fun r2 c3 hr20 hr21 hD3 => ?_⟩
    rw [Cells.put_comm hpa, Cells.put_put]
    walk_at "dl"
    refine ⟨mulL (by omega) (by omega), ?_⟩
    split
    · rename_i hle
      refine ⟨by rw [iV_len]; omega, ps ++ [z * (2 + r2)], c3, ?_, hD3, ?_, ?_, by simp, by simp; omega, ?_⟩
      · rw [← iV_app]; rfl
      · refine calFrom_snoc hcf (c := z) (by rw [hlast]; rfl) ?_ (by omega) (fun _ => by simp)
        have : z * 1 < z * (2 + r2) := Int.mul_lt_mul_of_pos_left (by omega) hza.1
        omega
      · refine rat4_snoc hrt (c := z) (by rw [hlast]; rfl) ?_
        have : z * (2 + r2) ≤ z * 4 := Int.mul_le_mul_of_nonneg_left (by omega) (by omega)
        omega
      · intro x hx
        rcases List.mem_append.mp hx with y | y
        · exact hall x y
        · simp at y; rw [y]; omega
    · exact ⟨ps, c3, rfl, hD3, hcf, hrt, hl1, by omega, hall⟩
  · rintro ρ cs' ⟨ps, c', rfl, hD', ⟨hcf, hrt⟩, hl1, hl2, hall, a3, a4, rfl⟩
    rw [rangeD_len] at hl2
    walk_at "dl"
    refine ⟨_, allDat_iV ps, ?_⟩
    refine .drop (SubC.put (by rw [Cells.put_ne hpa]; exact hp0)) (q ps c' ⟨hl1, by omega, hcf⟩ hall ⟨by omega, hrt⟩ hD')
def sp_law_order : DSp := fun xs cs Q _ => ∃ (a : Addr) (ps : List Int) (n : Int) (c : CO), xs = [.cell a, .dat (cal ps), .int n] ∧ cs a = some c ∧ DrSt c ∧ CalOk ps ∧ 0 < n ∧ n ≤ 1000000000000000000000000000000 ∧
  ∀ o c', ordB ps o = true → -n ≤ o.2.2 → o.2.2 ≤ n → DrSt c' → Q (.dat (ord o)) (cs.put a c')
theorem len_law_order : ∀ xs cs Q XP, sp_law_order xs cs Q XP → xs.length = 3 := by rintro xs cs Q XP ⟨a, ps, n, c, rfl, _⟩; rfl
def w_law_order : WS := (wSeq (wAsg (wOp wIx (wVar 1) (wCall sp_law_drawn (wCons (wVar 0) (wCons (wFn wLen (wCons (wVar 1) wNil)) wNil)))) (gN 3))
    (wSeq (wAsg (wOp wAdd (wCall sp_law_drawn (wCons (wVar 0) (wCons (wVar 2) wNil))) (wC (.int 1))) (gN 4))
    (wRet (wTup (wCons (wVar 3) (wCons (wCall sp_law_drawn (wCons (wVar 0) (wCons (wVar 3) wNil))) (wCons (wIf (wTest (wOp (wEqD false) (wCall sp_law_drawn (wCons (wVar 0) (wCons (wC (.int 2)) wNil))) (wC (.int 0)))) (wVar 4) (wOp wSub (wC (.int 0)) (wVar 4))) wNil)))))))
theorem pure_law_order (K : Frag) : ∀ xs cs Q XP, sp_law_order xs cs Q XP → w_law_order (retE K Q) (startD 5 xs) cs := by
  rintro xs cs Q XP ⟨a, ps, n, c, rfl, hc, hD, hcal, hn, hn2, q⟩
  have C := cal_cyc hcal
  have hcl := C.le
  obtain ⟨hl1, hl5, hcf⟩ := id hcal
  unfold w_law_order
  walk_at "dl"
  refine ⟨_, _, seqD_cal, ?_⟩
  rw [iV_len]
  refine ⟨a, _, c, rfl, hc, hD, by omega, by omega, fun r c1 hr0 hr1 hD1 => ?_⟩
  obtain ⟨p, hp⟩ : ∃ p, ps[r.toNat]? = some p := ⟨_, List.getElem?_eq_getElem (by omega)⟩
  obtain ⟨p1, p2, p3⟩ := C.per p (List.mem_of_getElem? hp)
  walk_at "dl"
  refine ⟨_, _, seqD_cal, _, atI_int hr0 (iV_get hp), ?_⟩
  refine ⟨a, n, c1, rfl, Cells.put_same, hD1, hn, hn2, fun r2 c2 h20 h21 hD2 => ?_⟩
  walk_at "dl"
  refine ⟨a, p, c2, rfl, Cells.put_same, hD2, p1, by omega, fun r3 c3 h30 h31 hD3 => ?_⟩
  walk_at "dl"
  refine ⟨a, 2, c3, rfl, Cells.put_same, hD3, by decide, by decide, fun r4 c4 h40 h41 hD4 => ?_⟩
  walk_at "dl"
  split
  · exact ⟨by decide, .now (q (p, r3, r2 + 1) c4 (ordB_iff.mpr ⟨List.mem_of_getElem? hp, h30, h31, by show r2 + 1 ≠ 0; omega⟩) (by show -n ≤ r2 + 1; omega) (by show r2 + 1 ≤ n; omega) hD4)⟩
  · exact ⟨by decide, .now (q (p, r3, 0 - (r2 + 1)) c4 (ordB_iff.mpr ⟨List.mem_of_getElem? hp, h30, h31, by show 0 - (r2 + 1) ≠ 0; omega⟩) (by show -n ≤ 0 - (r2 + 1); omega) (by show 0 - (r2 + 1) ≤ n; omega) hD4)⟩
def sp_law_orders : DSp := fun xs cs Q _ => ∃ (a : Addr) (ps : List Int) (m n : Int) (c : CO), xs = [.cell a, .dat (cal ps), .int m, .int n] ∧ cs a = some c ∧ DrSt c ∧ CalOk ps ∧ 0 ≤ m ∧ m ≤ 1000 ∧ 0 < n ∧ n ≤ 1000000000000000000000000000000 ∧
  ∀ os c', OrdsOk ps os → (∀ o ∈ os, -n ≤ o.2.2 ∧ o.2.2 ≤ n) → (os.length : Int) ≤ m → DrSt c' → Q (.dat (.lst (ordsD os))) (cs.put a c')
theorem len_law_orders : ∀ xs cs Q XP, sp_law_orders xs cs Q XP → xs.length = 4 := by rintro xs cs Q XP ⟨a, ps, m, n, c, rfl, _⟩; rfl
def w_law_orders : WS := (wRet (wLc (wiRng1 (wCons (wCall sp_law_drawn (wCons (wVar 0) (wCons (wOp wAdd (wVar 2) (wC (.int 1))) wNil))) wNil)) (gN 4) wYes (wCall sp_law_order (wCons (wVar 0) (wCons (wVar 1) (wCons (wVar 3) wNil)))) [4]))
theorem ordsD_map (os : List Ord) : (ordsD os).map Vl.dat = os.map fun o => .dat (ord o) := by simp [ordsD]
theorem pure_law_orders (K : Frag) : ∀ xs cs Q XP, sp_law_orders xs cs Q XP → w_law_orders (retE K Q) (startD 5 xs) cs := by
  rintro xs cs Q XP ⟨a, ps, m, n, c, rfl, hc, hD, hcal, hm0, hm, hn, hn2, q⟩
  unfold w_law_orders
  walk_at "dl"
  simp only [wLc, wiRng1]
  walk_at "dl"
  refine ⟨a, _, c, rfl, hc, hD, by omega, by omega, fun k c1 hk0 hk1 hD1 => ?_⟩
  walk_at "dl"
  refine ⟨by omega, by omega, fun D hD0 => ?_⟩
  have hDa : D ≠ a := by
    intro z; rw [z, Cells.put_same] at hD0; cases hD0
  have hD0' : cs D = none := by rwa [Cells.put_ne hDa] at hD0
  refine ⟨fun i cs' => ∃ os c', cs' = (cs.put a c').put D (.lst ((ordsD os).map .dat)) ∧ DrSt c' ∧ OrdsOk ps os ∧ (∀ o ∈ os, -n ≤ o.2.2 ∧ o.2.2 ≤ n) ∧ os.length = i, ⟨[], c1, rfl, hD1, fun _ h => by simp at h, fun _ h => by simp at h, rfl⟩, fun _ _ _ _ => trivial, ?_, ?_⟩
  · rintro i x cs' hx ⟨os, c', rfl, hD', ho, hb, hl⟩
    obtain ⟨hi, rfl⟩ := rangeD_at hx
    simp only [wipeD]
    walk_at "dl"
    refine ⟨a, ps, n, c', rfl, by rw [Cells.put_ne hDa.symm, Cells.put_same], hD', hcal, hn, hn2, fun o c2 h1 h2 h3 h4 => ?_⟩
    rw [Cells.put_comm hDa, Cells.put_put]
    walk_at "dl"
    refine ⟨by simp [ordsD]; omega, os ++ [o], c2, by simp [ordsD], h4, fun o' h' => ?_, fun o' h' => ?_, by simp [hl]⟩
    · rcases List.mem_append.mp h' with z | z
      · exact ho o' z
      · simp at z; rw [z]; exact h1
    · rcases List.mem_append.mp h' with z | z
      · exact hb o' z
      · simp at z; rw [z]; exact ⟨h2, h3⟩
  · rintro cs' ⟨os, c', rfl, hD', ho, hb, hl⟩
    rw [rangeD_len] at hl
    refine ⟨_, Cells.put_same, .inr ⟨_, allDat_map _, ?_⟩⟩
    rw [Cells.del_put (by rw [Cells.put_ne hDa]; exact hD0')]
    exact .now (q os c' ho hb (by omega) hD')
/-! ### _law_same: equal data are the same -/
def sp_law_same : Nat → DSp
  | 0 => fun _ _ _ _ => False
  | n + 1 => fun xs cs Q _ => ∃ (x y : Vl) (d : Dat), xs = [x, y] ∧ seen cs x = some d ∧ seen cs y = some d ∧ d.lv n ∧ n ≤ 10 ∧ Q (.bl true) cs
theorem len_law_same {n : Nat} : ∀ xs cs Q XP, sp_law_same (n + 1) xs cs Q XP → xs.length = 2 := by rintro xs cs Q XP ⟨x, y, d, rfl, _⟩; rfl
def w_law_same (n : Nat) : WS := (wSeq (wIfS (wTest (wIsi2 .tuple .list (wVar 1))) (wSeq (wIfS (wOr (wNot (wTest (wIsi2 .tuple .list (wVar 0)))) (wTest (wOp (wEqD true) (wIsi .list (wVar 0)) (wIsi .list (wVar 1))))) (wRet (wC (.bl false))) wNext)
    (wSeq (wIfS (wTest (wOp (wEqD true) (wFn wLen (wCons (wVar 0) wNil)) (wFn wLen (wCons (wVar 1) wNil)))) (wRet (wC (.bl false))) wNext)
    (wRet (wOp (wEqD false) (wLc (wiRng1 (wCons (wFn wLen (wCons (wVar 1) wNil)) wNil)) (gN 2) (wNot (wTest (wCall (sp_law_same n) (wCons (wOp wIx (wVar 0) (wVar 2)) (wCons (wOp wIx (wVar 1) (wVar 2)) wNil))))) (wVar 2) [2]) (wLst wNil))))) wNext)
    (wSeq (wIfS (wTest (wOp (wEqD true) (wIsi .bool (wVar 0)) (wIsi .bool (wVar 1)))) (wRet (wC (.bl false))) wNext)
    (wRet (wAndV (wOp (wEqD false) (wIsi .int (wVar 0)) (wIsi .int (wVar 1))) (wOp (wEqD false) (wVar 0) (wVar 1))))))
theorem seen_lstI {cs : Cells} {x : Vl} {ds : List Dat} (h : seen cs x = some (.lst ds)) : seqD cs x = some (true, ds.map .dat) ∧ tyD cs x = some .list := by
  match x, h with
  | .dat d, h => cases h; exact ⟨rfl, rfl⟩
  | .raw (.ref a), h =>
    have h : coDat (cs a) = some (.lst ds) := h
    cases e : cs a with
    | none => rw [e] at h; cases h
    | some c =>
      rw [e] at h
      cases c with
      | lst xs =>
        obtain ⟨es, e1, e2⟩ := Option.map_eq_some_iff.mp (show (allDat xs).map Dat.lst = some (.lst ds) from h)
        cases e2
        rw [seqD_cell, tyD_cell, e, coSeq_lst, coTy_lst, allDat_eq e1]
        exact ⟨rfl, rfl⟩
      | _ => cases h
theorem seen_else {cs : Cells} {x : Vl} {d : Dat} (h : seen cs x = some d) (hd : ∀ ds, d ≠ .lst ds) : x = .dat d := by
  match x, h with
  | .dat d', h => cases h; rfl
  | .raw (.ref a), h =>
    have h : coDat (cs a) = some d := h
    cases e : cs a with
    | none => rw [e] at h; cases h
    | some c =>
      rw [e] at h
      cases c with
      | lst xs =>
        obtain ⟨es, e1, e2⟩ := Option.map_eq_some_iff.mp (show (allDat xs).map Dat.lst = some d from h)
        exact absurd e2.symm (hd _)
      | _ => cases h
theorem seqD_put {cs : Cells} {x : Vl} {D : Addr} {c : CO} {r : Bool × List Vl} (hD : cs D = none) (h : seqD cs x = some r) : seqD (cs.put D c) x = some r := by
  match x, h with
  | .dat d, h => cases d <;> exact h
  | .raw (.ref a), h =>
    have h : coSeq (cs a) = some r := h
    show coSeq (cs.put D c a) = some r
    rw [Cells.put_ne (by intro z; rw [z, hD] at h; cases h)]
    exact h
theorem lst_nil_lv : (Dat.lst []).lv 1 := ⟨by decide, fun x h => by simp at h⟩
theorem same_seq {K : Frag} {n : Nat} {x y : Vl} {b : Bool} {ds : List Dat} {cs : Cells} {P : Vl → Cells → Prop} (hx : seqD cs x = some (b, ds.map .dat)) (hy : seqD cs y = some (b, ds.map .dat)) (hz : ds.length ≤ 16777216) (hlv : ∀ d ∈ ds, d.lv (n - 1)) (h1 : ds ≠ [] → 1 ≤ n) (hn : n ≤ 10) (q : P (.bl true) cs) :
    wOp (wEqD false) (wLc (wiRng1 (wCons (wFn wLen (wCons (wVar 1) wNil)) wNil)) (gN 2) (wNot (wTest (wCall (sp_law_same n) (wCons (wOp wIx (wVar 0) (wVar 2)) (wCons (wOp wIx (wVar 1) (wVar 2)) wNil))))) (wVar 2) [2]) (wLst wNil) [some x, some y, none] cs P := by
  walk_at "dl"
  simp only [wLc, wiRng1]
  walk_at "dl"
  refine ⟨_, _, hy, by omega, by rw [List.length_map]; omega, fun D hD => ?_⟩
  refine ⟨fun i cs' => cs' = cs.put D (.lst []), rfl, fun _ _ _ _ => trivial, ?_, ?_⟩
  · rintro i v cs' hv rfl
    obtain ⟨hi, rfl⟩ := rangeD_at hv
    rw [Int.toNat_natCast, List.length_map] at hi
    have hne : ds ≠ [] := by intro z; subst z; simp at hi
    obtain ⟨d, hd⟩ : ∃ d, ds[i]? = some d := ⟨_, List.getElem?_eq_getElem hi⟩
    have hdm : (ds.map Vl.dat)[i]? = some (.dat d) := by rw [List.getElem?_map, hd]; rfl
    simp only [wipeD]
    walk_at "dl"
    simp only [Int.mul_one, Int.zero_add]
    refine ⟨_, _, seqD_put hD hx, _, atI_nat hdm, _, _, seqD_put hD hy, _, atI_nat hdm, ?_⟩
    have := h1 hne
    obtain ⟨m, rfl⟩ : ∃ m, n = m + 1 := ⟨n - 1, by omega⟩
    refine ⟨_, _, d, rfl, rfl, rfl, hlv d (List.mem_of_getElem? hd), by omega, ?_⟩
    walk_at "dl"
  · rintro cs' rfl
    refine ⟨_, Cells.put_same, .inr ⟨[], rfl, ?_⟩⟩
    rw [Cells.del_put hD]
    walk_at "dl"
    refine ⟨by decide, .inr ⟨[], rfl, ?_⟩⟩
    exact wEq_of 1 (by decide) rfl rfl lst_nil_lv lst_nil_lv (fun _ => q) (fun z => absurd rfl z)
theorem pure_law_same (K : Frag) (n : Nat) : ∀ xs cs Q XP, sp_law_same (n + 1) xs cs Q XP → w_law_same n (retE K Q) (startD 3 xs) cs := by
  rintro xs cs Q XP ⟨x, y, d, rfl, hx, hy, hlv, hn, q⟩
  unfold w_law_same
  have fin := @same_seq K n x y
  generalize hw : wOp (wEqD false) (wLc (wiRng1 (wCons (wFn wLen (wCons (wVar 1) wNil)) wNil)) (gN 2) (wNot (wTest (wCall (sp_law_same n) (wCons (wOp wIx (wVar 0) (wVar 2)) (wCons (wOp wIx (wVar 1) (wVar 2)) wNil))))) (wVar 2) [2]) (wLst wNil) = W at fin
  cases d with
  | lst ds =>
    obtain ⟨x1, x2⟩ := seen_lstI hx
    obtain ⟨y1, y2⟩ := seen_lstI hy
    cases n with
    | zero => exact (show False from hlv).elim
    | succ n =>
      obtain ⟨hz, hl⟩ := hlv
      walk_at "dl"
      refine ⟨_, y2, ?_⟩
      walk_at "dl"
      refine ⟨_, x2, ?_⟩
      walk_at "dl"
      refine ⟨_, x2, _, y2, ?_⟩
      walk_at "dl"
      refine ⟨_, _, x1, _, _, y1, ?_⟩
      walk_at "dl"
      exact fin x1 y1 hz hl (fun _ => by omega) (by omega) (.now q)
  | tup ds =>
    have ex := seen_else hx (fun _ z => by cases z)
    have ey := seen_else hy (fun _ z => by cases z)
    subst ex ey
    cases n with
    | zero => exact (show False from hlv).elim
    | succ n =>
      obtain ⟨hz, hl⟩ := hlv
      walk_at "dl"
      exact fin rfl rfl hz hl (fun _ => by omega) (by omega) (.now q)
  | non =>
    have ex := seen_else hx (fun _ z => by cases z)
    have ey := seen_else hy (fun _ z => by cases z)
    subst ex ey
    walk_at "dl"
    exact wEq_of 1 (by decide) rfl rfl trivial trivial (fun _ => .now q) (fun z => absurd rfl z)
  | int i =>
    have ex := seen_else hx (fun _ z => by cases z)
    have ey := seen_else hy (fun _ z => by cases z)
    subst ex ey
    walk_at "dl"
    exact .now q
  | str z =>
    have ex := seen_else hx (fun _ z => by cases z)
    have ey := seen_else hy (fun _ z => by cases z)
    subst ex ey
    walk_at "dl"
    have h1 : (Dat.str z).lv 1 := by cases n <;> exact hlv
    exact wEq_of 1 (by decide) rfl rfl h1 h1 (fun _ => .now q) (fun z => absurd rfl z)
  | bl b => cases n <;> exact (show False from hlv).elim
  | obj C fs => cases n <;> exact (show False from hlv).elim
  | dct kvs => cases n <;> exact (show False from hlv).elim
  | ho φ ex => cases n <;> exact (show False from hlv).elim
end DL
set_option maxRecDepth 100000
set_option maxHeartbeats 4000000
namespace DL
open PySem L2
local macro_rules | `(tactic| walk_at "dl") => `(tactic| simp only [wFldI, wConI, wPropI, wMethI, wMethX, wAlt, wAltS, wCallX, wRaise, wRaise1, wRaise2, wCm, wCm0, noX, xw, insD_obj, insD_cell, coIns_ins, wSt, wLenS, wAll, wCntF, wIdxF, wSplit, wTryAs, wAsD, unE, wIsE, wXf, wIsiO, LamD.wOut, LamD.wLamMk, LamD.wAct, Dat.str.injEq, Dat.obj.injEq, wAbs, wCatS, wExt, wListOf, wiStr, wFld, wSetF, wMeth, wMake, wGMeth, wGCall, wDNewK, wDNewT, CO.ins.injEq, CO.dk.injEq, CO.dt.injEq, Cells.put_put, wRet, wRetN, wSeq, wAsg, wIfS, wDrop, wNext, wVar, wC, wOp, wUn, wFn, wNil, wCons, wTest, wNot, wAnd, wOr, wAndV, wOrV, wNotV, wIf, wChain, wTup, wLst, wCall, wNever, gN, gT, gNil, gCons, gIx, wI, wI0, wNeg, wMax2, wMin2, wLen, wIsN, wNotN, isNon_non, isNon_bl, isNon_int, isNon_str, isNon_lst, isNon_tup, isNon_cell, wIx, wTuple, wAug, wAugIx, wPar, wPar3, wSlL, wSlT, wPart, wNoPart, wCatT, wIsi, wIsi2, isiT, tyD_non, tyD_bl, tyD_int, tyD_str, tyD_lst, tyD_tup, tyD_cell, coTy_lst, seqD_lst, seqD_tp, seqD_cell, coSeq_lst, seen_dat, seen_cell, coDat_lst, startD, wYes, wApp, wEq_int, wEq_bl, allDat_nil, allDat_cons, allDat_map, Option.map_some, List.map_cons, List.map_nil, List.cons_append, List.nil_append, List.length_cons, List.length_nil, List.replicate, List.getElem?_cons_zero, List.getElem?_cons_succ, List.set_cons_zero, List.set_cons_succ, Option.some.injEq, exists_eq_left', exists_eq_left, exists_and_left, exists_eq', exists_eq, Vl.dat.injEq, Vl.raw.injEq, V.ref.injEq, CO.lst.injEq, Dat.int.injEq, Dat.bl.injEq, Dat.tup.injEq, Dat.lst.injEq, List.cons.injEq, and_true, true_and, retE, Nat.reduceAdd, Nat.reduceSub, and_assoc, Prod.mk.injEq, if_true, if_false, Bool.false_eq_true, decide_eq_true_eq, Bool.not_true, Bool.not_false, Bool.not_eq_true', decide_eq_false_iff_not, if_false_left, if_false_right, beq_iff_eq, Bool.or_eq_true, Bool.and_eq_true, Bool.or_self, Bool.or_true, Bool.true_or, Bool.or_false, Bool.false_or, decide_true, decide_false, reduceCtorEq, Cells.put_same, gt_iff_lt, ge_iff_le, beq_self_eq_true, bne_self_eq_false, Bool.decide_eq_true, not_true_eq_false, not_false_eq_true, Decidable.not_not, false_and, and_false, Bool.not_eq_false, at_0, at_1, at_2, at_3, at_4, at_5, ix_0, ix_1, ix_2, ix_3, Nat.reduceLT, Int.reduceLT, Int.reduceLE, Int.reduceNeg, Int.reduceAdd, Int.reduceSub, Int.reduceEq, Int.reducePow, Int.reduceToNat, Cells.put_put])
/-! ### what the laws know of exception classes -/
def kindsC (C : CE) : List Addr := [C.DuplicateName, C.Endless, C.InvalidAmount, C.InvalidCount, C.InvalidName, C.InvalidOperation, C.InvalidOrder, C.InvalidText, C.NotEmpty, C.Overdrawn, C.SameAccount, C.TooManyAccounts, C.TooManyOrders, C.UnknownAccount, C.UnknownKind, C.UnknownOrder, C.WrongDay]
def excCB (K : Frag) (D : Addr) : Bool := decide (PySem.W.findIn K (.ref D) "__getattribute__" = some (some (.builtin "BaseException.__getattribute__"))) && (decide (PySem.W.findIn K (.ref D) "__getattr__" = some none) && (decide (PySem.W.subIn K (.ref D) (.type "BaseException") = some true) && (PySem.W.hasDictIn K D && (decide (PySem.W.findIn K (.ref D) "__class__" = some (some (.builtin "object.__class__"))) && (decide (PySem.W.specialIn K (.builtin "object.__class__") "__get__" = some (some (.builtin "getset_descriptor.__get__"))) && (decide (PySem.W.takesIn K (.builtin "object.__class__") = some true) && decide (PySem.W.mroIn K D (.type "object") = some true)))))))
theorem excCB_ok {K : Frag} {D : Addr} (h : excCB K D = true) : ExcC K D ∧ XfC K D := by
  simp only [excCB, Bool.and_eq_true, decide_eq_true_eq] at h
  obtain ⟨h1, h2, h3, h4, h5, h6, h7, h8⟩ := h
  exact ⟨⟨h1, h2, h3, h4, h5, h6, h7, h8⟩, ⟨h1, h2, h3, h4⟩⟩
def kitB (K : Frag) (D c : Addr) (b : Bool) : Bool := decide (PySem.W.kitOne K (.ref D) (.ref c) = some b)
def kindsB (K : Frag) (D : Addr) (i : Nat) : Nat → List Addr → Bool
  | _, [] => true
  | j, c :: cs => kitB K D c (decide (j = i)) && kindsB K D i (j + 1) cs
def exOneB (K : Frag) (ks : List Addr) (CE0 D : Addr) (i : Nat) (fs : List Str) : Bool := excCB K D && (decide (PySem.W.exmOne K (.ref D) (.ref CE0) = some true) && (decide (PySem.W.kitOne K (.ref D) (.type "ValueError") = some true) && (kindsB K D i 0 ks && fs.all fun f => decide (PySem.W.findIn K (.ref D) f = some none))))
theorem kindsB_at {K : Frag} {D : Addr} {i : Nat} : ∀ {ks : List Addr} {j : Nat}, kindsB K D i j ks = true → ∀ (m : Nat) (c : Addr), ks[m]? = some c → PySem.W.kitOne K (.ref D) (.ref c) = some (decide (j + m = i))
  | c :: ks, j, h, 0, d, e => by
    cases e
    exact of_decide_eq_true (Bool.and_eq_true_iff.mp h).1
  | c :: ks, j, h, m + 1, d, e => by
    have := kindsB_at (Bool.and_eq_true_iff.mp h).2 m d e
    rw [this]
    congr 2
    exact propext ⟨fun h => by omega, fun h => by omega⟩
  | [], _, _, _, _, e => by cases e
structure ExOne (K : Frag) (C : CE) (D : Addr) (i : Nat) : Prop where
  c : ExcC K D
  x : XfC K D
  m : PySem.W.exmOne K (.ref D) (.ref C.OrderError) = some true
  v : PySem.W.kitOne K (.ref D) (.type "ValueError") = some true
  k : ∀ (m : Nat) (c : Addr), (kindsC C)[m]? = some c → PySem.W.kitOne K (.ref D) (.ref c) = some (decide (m = i))
theorem exOne_of {K : Frag} {C : CE} {D : Addr} {i : Nat} {fs : List Str} (h : exOneB K (kindsC C) C.OrderError D i fs = true) : ExOne K C D i ∧ ∀ f ∈ fs, PySem.W.findIn K (.ref D) f = some none := by
  simp only [exOneB, Bool.and_eq_true, decide_eq_true_eq, List.all_eq_true] at h
  obtain ⟨h1, h2, h3, h4, h5⟩ := h
  exact ⟨⟨(excCB_ok h1).1, (excCB_ok h1).2, h2, h3, fun m c e => by rw [kindsB_at h4 m c e, Nat.zero_add]⟩, fun f hf => h5 f hf⟩
def kws : List Str := ["duplicate", "endless", "amount", "count", "name", "operation", "order", "text", "notempty", "overdrawn", "same", "accounts", "orders", "account", "kind", "number", "day"]
/-- what _law_outcome answers of an exception -/
inductive OutOf (K : Frag) (C : CE) : Addr → List (Str × Vl) → Dat → Prop
  | plain {D : Addr} {i : Nat} {fs : List (Str × Vl)} {z : Str} : ExOne K C D i → i ∈ [1, 2, 3, 8, 10, 11, 12, 14, 15, 16] → kws[i]? = some z → OutOf K C D fs (.tup [.str z])
  | over {D : Addr} {fs : List (Str × Vl)} {n d : Dat} : ExOne K C D 9 → PySem.W.findIn K (.ref D) "name" = some none → PySem.W.findIn K (.ref D) "day" = some none → fs.lookup ("name" : Str) = some (.dat n) → fs.lookup ("day" : Str) = some (.dat d) → OutOf K C D fs (.tup [.str "overdrawn", n, d])
  | name {D : Addr} {i : Nat} {fs : List (Str × Vl)} {z : Str} {n : Dat} : ExOne K C D i → i ∈ [0, 4, 13] → kws[i]? = some z → PySem.W.findIn K (.ref D) "name" = some none → fs.lookup ("name" : Str) = some (.dat n) → OutOf K C D fs (.tup [.str z, n])
  | index {D : Addr} {i : Nat} {fs : List (Str × Vl)} {z : Str} {n : Dat} : ExOne K C D i → i ∈ [5, 6] → kws[i]? = some z → PySem.W.findIn K (.ref D) "index" = some none → fs.lookup ("index" : Str) = some (.dat n) → OutOf K C D fs (.tup [.str z, n])
  | row {D : Addr} {fs : List (Str × Vl)} {n : Dat} : ExOne K C D 7 → PySem.W.findIn K (.ref D) "row" = some none → fs.lookup ("row" : Str) = some (.dat n) → OutOf K C D fs (.tup [.str "text", n])
def sp_law_outcome (K : Frag) (C : CE) : LamD.TTd := fun tl cs Q => ∀ (W : DXP) (P' : Vl → Cells → Prop), (∀ cls fs cs', (∃ D r, cls = .ref D ∧ OutOf K C D fs r ∧ Q (.dat r) cs') → W cls fs cs') → (∀ v cs', (∃ d, v = .dat d ∧ Q (.dat (.tup [.str "value", d])) cs') → P' v cs') → tl W cs P'
theorem OutOf.one {K : Frag} {C : CE} {D : Addr} {fs : List (Str × Vl)} {r : Dat} (h : OutOf K C D fs r) : ∃ i z, ExOne K C D i ∧ kws[i]? = some z ∧ i < 17 ∧
    ((i ∈ [1, 2, 3, 8, 10, 11, 12, 14, 15, 16] ∧ r = .tup [.str z]) ∨ (i = 9 ∧ ∃ n d, PySem.W.findIn K (.ref D) "name" = some none ∧ PySem.W.findIn K (.ref D) "day" = some none ∧ fs.lookup ("name" : Str) = some (.dat n) ∧ fs.lookup ("day" : Str) = some (.dat d) ∧ r = .tup [.str z, n, d])
      ∨ (i ∈ [0, 4, 13] ∧ ∃ n, PySem.W.findIn K (.ref D) "name" = some none ∧ fs.lookup ("name" : Str) = some (.dat n) ∧ r = .tup [.str z, n]) ∨ (i ∈ [5, 6] ∧ ∃ n, PySem.W.findIn K (.ref D) "index" = some none ∧ fs.lookup ("index" : Str) = some (.dat n) ∧ r = .tup [.str z, n])
      ∨ (i = 7 ∧ ∃ n, PySem.W.findIn K (.ref D) "row" = some none ∧ fs.lookup ("row" : Str) = some (.dat n) ∧ r = .tup [.str z, n])) := by
  cases h with
  | plain e m hz => exact ⟨_, _, e, hz, by simp at m; omega, .inl ⟨m, rfl⟩⟩
  | over e h1 h2 h3 h4 => exact ⟨_, _, e, rfl, by decide, .inr (.inl ⟨rfl, _, _, h1, h2, h3, h4, rfl⟩)⟩
  | name e m hz h1 h2 => exact ⟨_, _, e, hz, by simp at m; omega, .inr (.inr (.inl ⟨m, _, h1, h2, rfl⟩))⟩
  | index e m hz h1 h2 => exact ⟨_, _, e, hz, by simp at m; omega, .inr (.inr (.inr (.inl ⟨m, _, h1, h2, rfl⟩)))⟩
  | row e h1 h2 => exact ⟨_, _, e, rfl, by decide, .inr (.inr (.inr (.inr ⟨rfl, _, h1, h2, rfl⟩)))⟩
def usI (i : Nat) : List V := [.bl (decide (0 = i)), .bl (decide (1 = i)), .bl (decide (2 = i)), .bl (decide (3 = i)), .bl (decide (4 = i)), .bl (decide (5 = i)), .bl (decide (6 = i)), .bl (decide (7 = i)), .bl (decide (8 = i)), .bl (decide (9 = i)), .bl (decide (10 = i)), .bl (decide (11 = i)), .bl (decide (12 = i)), .bl (decide (13 = i)), .bl (decide (14 = i)), .bl (decide (15 = i)), .bl (decide (16 = i))]
theorem usI_cnt : ∀ i, i < 17 → (usI i).countP (fun z => eqV z (.bl true)) = 1 := by decide
theorem usI_at {i : Nat} (h : i < 17) : (usI i)[i]? = some (.bl true) := by
  match i, h with
  | 0, _ | 1, _ | 2, _ | 3, _ | 4, _ | 5, _ | 6, _ | 7, _ | 8, _ | 9, _ | 10, _ | 11, _ | 12, _ | 13, _ | 14, _ | 15, _ | 16, _ => rfl
  | _ + 17, h => exact absurd h (by omega)
theorem usI_bef {i : Nat} (h : i < 17) (m : Nat) (z : V) (hm : m < i) (hz : (usI i)[m]? = some z) : eqV z (.bl true) = false := by
  have : z = .bl (decide (m = i)) := by
    have h17 : m < 17 := by omega
    match m, h17, hz with
    | 0, _, e | 1, _, e | 2, _, e | 3, _, e | 4, _, e | 5, _, e | 6, _, e | 7, _, e | 8, _, e | 9, _, e | 10, _, e | 11, _, e | 12, _, e | 13, _, e | 14, _, e | 15, _, e | 16, _, e => exact (Option.some.inj e).symm
    | _ + 17, h, _ => exact absurd h (by omega)
  rw [this, decide_eq_false (by omega)]
  rfl
/-! ### draws -/
def HOk (q : Addr) (c1 c2 : CO) : Prop := ∃ (m i : Int) (ns : List Int), c1 = .lst [.int m, .cell q, .int i] ∧ c2 = .lst (iV ns) ∧ 0 ≤ m ∧ 0 ≤ i ∧ ns.length ≤ 63
def sp_law_mix (_ : CE) : DSp := fun xs cs Q _ => ∃ (ns : List Int) (seed : Int), xs = [.dat (.lst (iD ns)), .int seed] ∧ ns.length ≤ 63 ∧ 0 ≤ seed ∧ ∀ p q c1 c2, p ≠ q → cs p = none → cs q = none → HOk q c1 c2 → Q (.cell p) ((cs.put q c2).put p c1)
theorem len_law_mix {C : CE} : ∀ xs cs Q XP, sp_law_mix C xs cs Q XP → xs.length = 2 := by rintro xs cs Q XP ⟨ns, m, rfl, _⟩; rfl
def sp_law_next (_ : CE) : DSp := fun xs cs Q _ => ∃ (a q : Addr) (n : Int) (c1 c2 : CO), xs = [.cell a, .int n] ∧ a ≠ q ∧ cs a = some c1 ∧ cs q = some c2 ∧ HOk q c1 c2 ∧ 0 < n ∧ n ≤ 1000000000000000000000000000000 ∧ ∀ r c1' c2', 0 ≤ r → r < n → HOk q c1' c2' → Q (.int r) ((cs.put a c1').put q c2')
theorem len_law_next {C : CE} : ∀ xs cs Q XP, sp_law_next C xs cs Q XP → xs.length = 2 := by rintro xs cs Q XP ⟨a, q, n, c1, c2, rfl, _⟩; rfl
/-! ### _law_alike: equal data -/
def sp_law_alike (C : CE) : Nat → DSp
  | 0 => fun _ _ _ _ => False
  | n + 1 => fun xs cs Q _ => ∃ (x y : Vl) (d : Dat), xs = [x, y] ∧ seen cs x = some d ∧ seen cs y = some d ∧ (d.lv n ∨ ∃ b, d = .bl b) ∧ n ≤ 10 ∧ Q (.bl true) cs
theorem len_law_alike {C : CE} {n : Nat} : ∀ xs cs Q XP, sp_law_alike C (n + 1) xs cs Q XP → xs.length = 2 := by rintro xs cs Q XP ⟨x, y, d, rfl, _⟩; rfl
theorem never_law_alike {C : CE} : ∀ xs cs Q XP, ¬ sp_law_alike C 0 xs cs Q XP := fun _ _ _ _ h => h
/-- _law_mix: slots 0 _law_script, 1 _law_seed, 2 _law_mixed, 3 _law_cell -/
def w_law_mix (K : Frag) (C : CE) : WS := (wSeq (wAsg (wVar 1) (gN 2))
    (wSeq (wFor (wiSeq (wVar 0)) (gN 3) (wAsg (wOp wMod (wOp wAdd (wOp wAdd (wOp wMul (wVar 2) (wC (.int 48271))) (wOp wMod (wVar 3) (wC (.int 2147483629)))) (wC (.int 1))) (wC (.int 2147483647))) (gN 2)))
    (wRet (wLst (wCons (wVar 2) (wCons (wFn wListOf (wCons (wVar 0) wNil)) (wCons (wC (.int 0)) wNil)))))))
/-- _law_next: slots 0 _law_h, 1 _law_bound, 2 _law_cell -/
def w_law_next (K : Frag) (C : CE) : WS := (wSeq (wAsg (wOp wIx (wOp wCatS (wOp wIx (wVar 0) (wC (.int 1))) (wLst (wCons (wC (.int 0)) wNil))) (wOp wMod (wOp wIx (wVar 0) (wC (.int 2))) (wFn wMax2 (wCons (wC (.int 1)) (wCons (wFn wLen (wCons (wOp wIx (wVar 0) (wC (.int 1))) wNil)) wNil))))) (gN 2))
    (wSeq (wIfS (wTest (wOp wGe (wVar 2) (wOp wPow (wC (.int 10)) (wC (.int 18))))) (wSeq (wAsg (wOp wDiv (wVar 2) (wVar 1)) (gIx (wOp wIx (wVar 0) (wC (.int 1))) (wOp wMod (wOp wIx (wVar 0) (wC (.int 2))) (wFn wLen (wCons (wOp wIx (wVar 0) (wC (.int 1))) wNil)))))
    (wRet (wOp wMod (wVar 2) (wVar 1)))) wNext)
    (wSeq (wAsg (wOp wMod (wOp wAdd (wOp wAdd (wOp wMul (wOp wIx (wVar 0) (wC (.int 0))) (wC (.int 48271))) (wOp wMul (wVar 2) (wC (.int 69621)))) (wC (.int 11))) (wC (.int 2147483647))) (gIx (wVar 0) (wC (.int 0))))
    (wSeq (wAsg (wOp wAdd (wOp wIx (wVar 0) (wC (.int 2))) (wC (.int 1))) (gIx (wVar 0) (wC (.int 2))))
    (wRet (wOp wMod (wOp wDiv (wOp wIx (wVar 0) (wC (.int 0))) (wC (.int 7))) (wVar 1)))))))
/-- _law_alike: slots 0 _law_found, 1 _law_due, 2 _law_k -/
def w_law_alike (K : Frag) (C : CE) (n : Nat) : WS := (wSeq (wIfS (wTest (wIsi .dict (wVar 1))) wNever wNext)
    (wSeq (wIfS (wTest (wIsi2 .tuple .list (wVar 1))) (wSeq (wIfS (wOr (wNot (wTest (wIsi2 .tuple .list (wVar 0)))) (wTest (wOp (wEqD true) (wIsi .list (wVar 0)) (wIsi .list (wVar 1))))) (wRet (wC (.bl false))) wNext)
    (wSeq (wIfS (wTest (wOp (wEqD true) (wFn wLen (wCons (wVar 0) wNil)) (wFn wLen (wCons (wVar 1) wNil)))) (wRet (wC (.bl false))) wNext)
    (wRet (wOp (wEqD false) (wLc (wiRng1 (wCons (wFn wLen (wCons (wVar 1) wNil)) wNil)) (gN 2) (wNot (wTest (wCall (sp_law_alike C n) (wCons (wOp wIx (wVar 0) (wVar 2)) (wCons (wOp wIx (wVar 1) (wVar 2)) wNil))))) (wVar 2) [2]) (wLst wNil))))) wNext)
    (wSeq (wIfS (wOr (wTest (wOp wIsN (wVar 1) (wC .non))) (wTest (wIsi .str (wVar 1)))) (wRet (wAndV (wOp (wEqD false) (wVar 0) (wVar 1)) (wOp (wEqD false) (wIsi .str (wVar 0)) (wIsi .str (wVar 1))))) wNext)
    (wRet (wAndV (wIsi .int (wVar 0)) (wAndV (wOp (wEqD false) (wIsi .bool (wVar 0)) (wIsi .bool (wVar 1))) (wOp (wEqD false) (wVar 0) (wVar 1))))))))
/-- _law_outcome: slots 0 _law_call, 1 e, 2 _law_kinds, 3 _law_words, 4 _law_word -/
def w_law_outcome (K : Frag) (C : CE) (φ : Addr → HO) (ex : List (Addr × HO)) (tl : LamD.TL) : WS := (wTryAs K (.ref C.OrderError) 1 (xw X0) (fun W1 => (wRet (wTup (wCons (wC (.str "value")) (wCons (LamD.wAct φ ex 0 tl W1) wNil))))) (fun a cls fs => (wSeq (wAsg (wLst (wCons (wIsE K a cls (.ref C.DuplicateName) (wVar 1)) (wCons (wIsE K a cls (.ref C.Endless) (wVar 1)) (wCons (wIsE K a cls (.ref C.InvalidAmount) (wVar 1)) wNil)))) (gN 2))
    (wSeq (wDrop (wExt (wVar 2) (wLst (wCons (wIsE K a cls (.ref C.InvalidCount) (wVar 1)) (wCons (wIsE K a cls (.ref C.InvalidName) (wVar 1)) (wCons (wIsE K a cls (.ref C.InvalidOperation) (wVar 1)) wNil))))))
    (wSeq (wDrop (wExt (wVar 2) (wLst (wCons (wIsE K a cls (.ref C.InvalidOrder) (wVar 1)) (wCons (wIsE K a cls (.ref C.InvalidText) (wVar 1)) (wCons (wIsE K a cls (.ref C.NotEmpty) (wVar 1)) wNil))))))
    (wSeq (wDrop (wExt (wVar 2) (wLst (wCons (wIsE K a cls (.ref C.Overdrawn) (wVar 1)) (wCons (wIsE K a cls (.ref C.SameAccount) (wVar 1)) (wCons (wIsE K a cls (.ref C.TooManyAccounts) (wVar 1)) wNil))))))
    (wSeq (wDrop (wExt (wVar 2) (wLst (wCons (wIsE K a cls (.ref C.TooManyOrders) (wVar 1)) (wCons (wIsE K a cls (.ref C.UnknownAccount) (wVar 1)) (wCons (wIsE K a cls (.ref C.UnknownKind) (wVar 1)) wNil))))))
    (wSeq (wDrop (wExt (wVar 2) (wLst (wCons (wIsE K a cls (.ref C.UnknownOrder) (wVar 1)) (wCons (wIsE K a cls (.ref C.WrongDay) (wVar 1)) wNil)))))
    (wSeq (wIfS (wOr (wTest (wOp (wEqD true) (wCntF (wVar 2) (wC (.bl true))) (wC (.int 1)))) (wNot (wTest (wIsE K a cls (.type "ValueError") (wVar 1))))) (wRet (wTup (wCons (wC (.str "other")) wNil))) wNext)
    (wSeq (wAsg (wC (.str "duplicate endless amount count name operation order text notempty overdrawn same accounts orders")) (gN 3))
    (wSeq (wAsg (wOp wIx (wSplit (wOp wStAdd (wVar 3) (wC (.str " account kind number day"))) (wC (.str " "))) (wIdxF (wVar 2) (wC (.bl true)))) (gN 4))
    (wSeq (wIfS (wTest (wOp (wEqD false) (wVar 4) (wC (.str "overdrawn")))) (wRet (wTup (wCons (wVar 4) (wCons (wXf K a cls fs "name" (wVar 1)) (wCons (wXf K a cls fs "day" (wVar 1)) wNil))))) wNext)
    (wSeq (wIfS (wTest (wOp (wIn false) (wVar 4) (wTup (wCons (wC (.str "duplicate")) (wCons (wC (.str "name")) (wCons (wC (.str "account")) wNil)))))) (wRet (wTup (wCons (wVar 4) (wCons (wXf K a cls fs "name" (wVar 1)) wNil)))) wNext)
    (wSeq (wIfS (wTest (wOp (wIn false) (wVar 4) (wTup (wCons (wC (.str "operation")) (wCons (wC (.str "order")) wNil))))) (wRet (wTup (wCons (wVar 4) (wCons (wXf K a cls fs "index" (wVar 1)) wNil)))) wNext)
    (wRet (wIf (wTest (wOp (wEqD false) (wVar 4) (wC (.str "text")))) (wTup (wCons (wVar 4) (wCons (wXf K a cls fs "row" (wVar 1)) wNil))) (wTup (wCons (wVar 4) wNil))))))))))))))))))
theorem iV_at {ns : List Int} {i : Int} (h0 : 0 ≤ i) (h1 : i < ns.length) : ∃ z, ns[i.toNat]? = some z ∧ atI (iV ns) i = some (.int z) := by
  obtain ⟨z, hz⟩ : ∃ z, ns[i.toNat]? = some z := ⟨_, List.getElem?_eq_getElem (by omega)⟩
  exact ⟨z, hz, atI_int h0 (iV_get hz)⟩
theorem pure_law_mix (K : Frag) (C : CE) : ∀ xs cs Q XP, sp_law_mix C xs cs Q XP → w_law_mix K C (retE K Q) (startD 4 xs) cs := by
  rintro xs cs Q XP ⟨ns, seed, rfl, hl, hs, q⟩
  unfold w_law_mix
  walk_at "dl"
  simp only [wFor, wiSeq]
  walk_at "dl"
  refine ⟨fun i ρ cs' => cs' = cs ∧ ∃ (m : Int) (a : Option Vl), ρ = [some (.dat (.lst (iD ns))), some (.int seed), some (.int m), a] ∧ 0 ≤ m, ⟨rfl, _, _, rfl, hs⟩, fun _ _ _ _ _ => trivial, ?_, ?_⟩
  · rintro i x ρ cs' hx ⟨rfl, m, a, rfl, hm⟩
    rw [iD_map] at hx
    unfold iV at hx
    rw [List.getElem?_map] at hx
    obtain ⟨n, hn, rfl⟩ := Option.map_eq_some_iff.mp hx
    walk_at "dl"
    exact ⟨mulR (by decide) (by decide), Int.emod_nonneg _ (by decide)⟩
  · rintro ρ cs' ⟨rfl, m, a, rfl, hm⟩
    walk_at "dl"
    refine .inl fun q' hq' => ⟨by decide, .inl fun p hp => .now (q p q' _ _ ?_ ?_ hq' ⟨m, 0, ns, rfl, by rw [iD_map], hm, by decide, hl⟩)⟩
    · intro z; rw [z, Cells.put_same] at hp; cases hp
    · have : p ≠ q' := by intro z; rw [z, Cells.put_same] at hp; cases hp
      rwa [Cells.put_ne this] at hp
theorem pure_law_next (K : Frag) (C : CE) : ∀ xs cs Q XP, sp_law_next C xs cs Q XP → w_law_next K C (retE K Q) (startD 3 xs) cs := by
  rintro xs cs Q XP ⟨a, q', n, c1, c2, rfl, haq, ha, hq, ⟨m, i, ns, rfl, rfl, hm, hi, hl⟩, hn, hn2, q⟩
  unfold w_law_next
  walk_at "dl"
  simp only [ha, hq]
  walk_at "dl"
  have hl1 : ((iV ns).length : Int) = ns.length := by rw [iV_len]
  have hM : 0 < (if 1 < ((iV ns).length : Int) then ((iV ns).length : Int) else 1) := by split <;> omega
  have hM0 := Int.emod_nonneg i (Int.ne_of_gt hM)
  have hM1 := Int.emod_lt_of_pos i hM
  have hML : (if 1 < ((iV ns).length : Int) then ((iV ns).length : Int) else 1) ≤ (ns ++ [0]).length := by simp [iV_len]; split <;> omega
  obtain ⟨z, hz, hz2⟩ := iV_at (ns := ns ++ [0]) hM0 (by omega)
  refine ⟨by decide, .inr ⟨_, rfl, iV ns, by rw [hq]; rfl, _, rfl, by rw [iV_len]; simp; omega, .inr ⟨iD (ns ++ [0]), by show allDat (iV ns ++ [Vl.dat (.int 0)]) = _; rw [show iV ns ++ [Vl.dat (.int 0)] = (iD (ns ++ [0])).map .dat by rw [iD_map]; simp [iV]]; exact allDat_map _, true, _, by rw [ha]; rfl, .int i, rfl, true, _, by rw [ha]; rfl, .cell q', rfl, true, iV ns, by rw [seqD_cell, hq]; rfl, i, rfl, hM, true, _, rfl, .int z, by rw [iD_map]; exact hz2, pow10 18 (by decide), z, rfl, ?_⟩⟩⟩
  have m1 : ∀ x : Int, 0 ≤ x % n := fun x => Int.emod_nonneg _ (by omega)
  have m2 : ∀ x : Int, x % n < n := fun x => Int.emod_lt_of_pos _ hn
  split
  · rename_i hbig
    have hL : 0 < ns.length := by
      rcases Nat.eq_zero_or_pos ns.length with h | h
      · have : ns = [] := List.eq_nil_of_length_eq_zero h
        subst this
        simp [iV] at hz
        omega
      · exact h
    have hL' : (0 : Int) < (iV ns).length := by rw [hl1]; omega
    have e0 := Int.emod_nonneg i (Int.ne_of_gt hL')
    have e1 := Int.emod_lt_of_pos i hL'
    refine ⟨z, rfl, divOk hn hn2, true, _, by rw [ha]; rfl, .cell q', rfl, true, _, by rw [ha]; rfl, .int i, rfl, true, _, by rw [ha]; rfl, .cell q', rfl, true, iV ns, by rw [seqD_cell, hq]; rfl, i, rfl, hL', q', rfl, iV ns, hq, _, ixN_int e0 e1, z, rfl, hn, .now ?_⟩
    have := q (z % n) (.lst [.int m, .cell q', .int i]) (.lst (iV (ns.set (i % ((iV ns).length : Int)).toNat (z / n)))) (m1 _) (m2 _) ⟨m, i, _, rfl, rfl, hm, hi, by simpa using hl⟩
    rw [Cells.put_self ha] at this
    rw [show iV (ns.set (i % ((iV ns).length : Int)).toNat (z / n)) = (iV ns).set (i % ((iV ns).length : Int)).toNat (.int (z / n)) by simp [iV]] at this
    exact this
  · refine ⟨true, _, by rw [ha]; rfl, .int m, rfl, m, rfl, mulR (by decide) (by decide), z, rfl, mulR (by decide) (by decide), _, ha, 0, rfl, .int i, rfl, i, rfl, 2, rfl, .int ((m * 48271 + z * 69621 + 11) % 2147483647), rfl, _, rfl, divOk (by decide) (by decide), hn, .now ?_⟩
    have := q ((m * 48271 + z * 69621 + 11) % 2147483647 / 7 % n) (.lst [.int ((m * 48271 + z * 69621 + 11) % 2147483647), .cell q', .int (i + 1)]) (.lst (iV ns)) (m1 _) (m2 _) ⟨_, _, ns, rfl, rfl, Int.emod_nonneg _ (by decide), by omega, hl⟩
    rw [Cells.put_self (by rw [Cells.put_ne haq.symm]; exact hq)] at this
    exact this
theorem alike_seq {K : Frag} {C : CE} {n : Nat} {x y : Vl} {b : Bool} {ds : List Dat} {cs : Cells} {P : Vl → Cells → Prop} (hx : seqD cs x = some (b, ds.map .dat)) (hy : seqD cs y = some (b, ds.map .dat)) (hz : ds.length ≤ 16777216) (hlv : ∀ d ∈ ds, d.lv (n - 1) ∨ ∃ b, d = .bl b) (h1 : ds ≠ [] → 1 ≤ n) (hn : n ≤ 10) (q : P (.bl true) cs) :
    wOp (wEqD false) (wLc (wiRng1 (wCons (wFn wLen (wCons (wVar 1) wNil)) wNil)) (gN 2) (wNot (wTest (wCall (sp_law_alike C n) (wCons (wOp wIx (wVar 0) (wVar 2)) (wCons (wOp wIx (wVar 1) (wVar 2)) wNil))))) (wVar 2) [2]) (wLst wNil) [some x, some y, none] cs P := by
  walk_at "dl"
  simp only [wLc, wiRng1]
  walk_at "dl"
  refine ⟨_, _, hy, by omega, by rw [List.length_map]; omega, fun D hD => ?_⟩
  refine ⟨fun i cs' => cs' = cs.put D (.lst []), rfl, fun _ _ _ _ => trivial, ?_, ?_⟩
  · rintro i v cs' hv rfl
    obtain ⟨hi, rfl⟩ := rangeD_at hv
    rw [Int.toNat_natCast, List.length_map] at hi
    have hne : ds ≠ [] := by intro z; subst z; simp at hi
    obtain ⟨d, hd⟩ : ∃ d, ds[i]? = some d := ⟨_, List.getElem?_eq_getElem hi⟩
    have hdm : (ds.map Vl.dat)[i]? = some (.dat d) := by rw [List.getElem?_map, hd]; rfl
    simp only [wipeD]
    walk_at "dl"
    simp only [Int.mul_one, Int.zero_add]
    refine ⟨_, _, seqD_put hD hx, _, atI_nat hdm, _, _, seqD_put hD hy, _, atI_nat hdm, ?_⟩
    have := h1 hne
    obtain ⟨m, rfl⟩ : ∃ m, n = m + 1 := ⟨n - 1, by omega⟩
    refine ⟨_, _, d, rfl, rfl, rfl, hlv d (List.mem_of_getElem? hd), by omega, ?_⟩
    walk_at "dl"
  · rintro cs' rfl
    refine ⟨_, Cells.put_same, .inr ⟨[], rfl, ?_⟩⟩
    rw [Cells.del_put hD]
    walk_at "dl"
    refine ⟨by decide, .inr ⟨[], rfl, ?_⟩⟩
    exact wEq_of 1 (by decide) rfl rfl lst_nil_lv lst_nil_lv (fun _ => q) (fun z => absurd rfl z)
theorem pure_law_alike (K : Frag) (C : CE) (n : Nat) : ∀ xs cs Q XP, sp_law_alike C (n + 1) xs cs Q XP → w_law_alike K C n (retE K Q) (startD 3 xs) cs := by
  rintro xs cs Q XP ⟨x, y, d, rfl, hx, hy, hlv, hn, q⟩
  unfold w_law_alike
  have fin := @alike_seq K C n x y
  generalize hw : wOp (wEqD false) (wLc (wiRng1 (wCons (wFn wLen (wCons (wVar 1) wNil)) wNil)) (gN 2) (wNot (wTest (wCall (sp_law_alike C n) (wCons (wOp wIx (wVar 0) (wVar 2)) (wCons (wOp wIx (wVar 1) (wVar 2)) wNil))))) (wVar 2) [2]) (wLst wNil) = W at fin
  cases d with
  | lst ds =>
    obtain ⟨x1, x2⟩ := seen_lstI hx
    obtain ⟨y1, y2⟩ := seen_lstI hy
    cases n with
    | zero => exact (hlv.elim (fun h => (show False from h).elim) (fun ⟨b, h⟩ => by cases h))
    | succ n =>
      obtain ⟨hz, hl⟩ : ds.length ≤ 16777216 ∧ ∀ x ∈ ds, Dat.lv n x := hlv.elim id (fun ⟨b, h⟩ => by cases h)
      walk_at "dl"
      refine ⟨_, y2, ?_⟩
      walk_at "dl"
      refine ⟨_, y2, ?_⟩
      walk_at "dl"
      refine ⟨_, x2, ?_⟩
      walk_at "dl"
      refine ⟨_, x2, _, y2, ?_⟩
      walk_at "dl"
      refine ⟨_, _, x1, _, _, y1, ?_⟩
      walk_at "dl"
      exact fin x1 y1 hz (fun d h => .inl (hl d h)) (fun _ => by omega) (by omega) (.now q)
  | tup ds =>
    have ex := seen_else hx (fun _ z => by cases z)
    have ey := seen_else hy (fun _ z => by cases z)
    subst ex ey
    cases n with
    | zero => exact (hlv.elim (fun h => (show False from h).elim) (fun ⟨b, h⟩ => by cases h))
    | succ n =>
      obtain ⟨hz, hl⟩ : ds.length ≤ 16777216 ∧ ∀ x ∈ ds, Dat.lv n x := hlv.elim id (fun ⟨b, h⟩ => by cases h)
      walk_at "dl"
      exact fin rfl rfl hz (fun d h => .inl (hl d h)) (fun _ => by omega) (by omega) (.now q)
  | non =>
    have ex := seen_else hx (fun _ z => by cases z)
    have ey := seen_else hy (fun _ z => by cases z)
    subst ex ey
    walk_at "dl"
    rw [if_neg (by simp)]
    exact wEq_of 1 (by decide) rfl rfl trivial trivial (fun _ => ⟨true, rfl, .now q⟩) (fun z => absurd rfl z)
  | int i =>
    have ex := seen_else hx (fun _ z => by cases z)
    have ey := seen_else hy (fun _ z => by cases z)
    subst ex ey
    walk_at "dl"
    exact .now q
  | bl b =>
    have ex := seen_else hx (fun _ z => by cases z)
    have ey := seen_else hy (fun _ z => by cases z)
    subst ex ey
    walk_at "dl"
    exact .now q
  | str z =>
    have ex := seen_else hx (fun _ z => by cases z)
    have ey := seen_else hy (fun _ z => by cases z)
    subst ex ey
    walk_at "dl"
    have h1 : (Dat.str z).lv 1 := by
      rcases hlv with h | ⟨b, h⟩
      · cases n <;> exact h
      · cases h
    rw [if_neg (by simp)]
    exact wEq_of 1 (by decide) rfl rfl h1 h1 (fun _ => ⟨true, rfl, .now q⟩) (fun z => absurd rfl z)
  | obj C fs => exact (hlv.elim (fun h => by cases n <;> exact (show False from h).elim) (fun ⟨b, h⟩ => by cases h))
  | dct kvs => exact (hlv.elim (fun h => by cases n <;> exact (show False from h).elim) (fun ⟨b, h⟩ => by cases h))
  | ho φ ex => exact (hlv.elim (fun h => by cases n <;> exact (show False from h).elim) (fun ⟨b, h⟩ => by cases h))
theorem split_words : Txt.split (("duplicate endless amount count name operation order text notempty overdrawn same accounts orders" : Str) ++ " account kind number day") " " = kws := by decide +kernel
theorem sub_put {cs cs' : Cells} {b : Addr} {c : CO} (h : SubC cs cs') (hb : cs' b = none) : SubC cs (cs'.put b c) := fun a x e => by
  have e2 := h a x e
  have : a ≠ b := fun z => by rw [z, hb] at e2; cases e2
  rw [Cells.put_ne this]; exact e2
theorem sub_put' {cs cs' : Cells} {b : Addr} {c : CO} (h : SubC cs cs') (hb : cs b = none) : SubC cs (cs'.put b c) := fun a x e => by
  have : a ≠ b := fun z => by rw [z, hb] at e; cases e
  rw [Cells.put_ne this]; exact h a x e
theorem ne_lookup {f : Str} {v : Vl} {fs : List (Str × Vl)} (h : fs.lookup f = some v) : fs ≠ [] := fun z => by rw [z] at h; cases h
theorem pure_law_outcome (K : Frag) (C : CE) : ∀ φ ex tl cs P, sp_law_outcome K C tl cs P → w_law_outcome K C φ ex tl (retE K P) (startD 5 [.dat (.ho φ ex)]) cs := by
  intro φ ex tl cs P h
  unfold w_law_outcome
  walk_at "dl"
  refine h _ _ ?_ ?_
  · rintro cls fs cs' ⟨D, r, rfl, ho, q⟩
    obtain ⟨i, z, E, hz, hi, tl2⟩ := ho.one
    refine ⟨true, E.m, fun _ a => ?_, fun z => by cases z⟩
    refine ⟨D, rfl, E.c, _, E.k 0 _ rfl, D, rfl, E.c, _, E.k 1 _ rfl, D, rfl, E.c, _, E.k 2 _ rfl, by decide, .inl fun p hp => ?_⟩
    refine ⟨p, rfl, _, Cells.put_same, D, rfl, E.c, _, E.k 3 _ rfl, D, rfl, E.c, _, E.k 4 _ rfl, D, rfl, E.c, _, E.k 5 _ rfl, by decide, .inl fun b0 hb0 => ?_⟩
    have n0 : p ≠ b0 := fun z => by rw [← z, Cells.put_same] at hb0; cases hb0
    refine ⟨b0, rfl, _, by rw [Cells.put_ne n0]; exact Cells.put_same, _, Cells.put_same, by simp, ?_⟩
    refine ⟨p, rfl, _, Cells.put_same, D, rfl, E.c, _, E.k 6 _ rfl, D, rfl, E.c, _, E.k 7 _ rfl, D, rfl, E.c, _, E.k 8 _ rfl, by decide, .inl fun b1 hb1 => ?_⟩
    have n1 : p ≠ b1 := fun z => by rw [← z, Cells.put_same] at hb1; cases hb1
    refine ⟨b1, rfl, _, by rw [Cells.put_ne n1]; exact Cells.put_same, _, Cells.put_same, by simp, ?_⟩
    refine ⟨p, rfl, _, Cells.put_same, D, rfl, E.c, _, E.k 9 _ rfl, D, rfl, E.c, _, E.k 10 _ rfl, D, rfl, E.c, _, E.k 11 _ rfl, by decide, .inl fun b2 hb2 => ?_⟩
    have n2 : p ≠ b2 := fun z => by rw [← z, Cells.put_same] at hb2; cases hb2
    refine ⟨b2, rfl, _, by rw [Cells.put_ne n2]; exact Cells.put_same, _, Cells.put_same, by simp, ?_⟩
    refine ⟨p, rfl, _, Cells.put_same, D, rfl, E.c, _, E.k 12 _ rfl, D, rfl, E.c, _, E.k 13 _ rfl, D, rfl, E.c, _, E.k 14 _ rfl, by decide, .inl fun b3 hb3 => ?_⟩
    have n3 : p ≠ b3 := fun z => by rw [← z, Cells.put_same] at hb3; cases hb3
    refine ⟨b3, rfl, _, by rw [Cells.put_ne n3]; exact Cells.put_same, _, Cells.put_same, by simp, ?_⟩
    refine ⟨p, rfl, _, Cells.put_same, D, rfl, E.c, _, E.k 15 _ rfl, D, rfl, E.c, _, E.k 16 _ rfl, by decide, .inl fun b4 hb4 => ?_⟩
    have n4 : p ≠ b4 := fun z => by rw [← z, Cells.put_same] at hb4; cases hb4
    refine ⟨b4, rfl, _, by rw [Cells.put_ne n4]; exact Cells.put_same, _, Cells.put_same, by simp, ?_⟩
    have S := fun c c' => sub_put' (c := c) (sub_put (c := c') (sub_put' (sub_put (sub_put' (sub_put (sub_put' (sub_put (sub_put' (sub_put (sub_put (fun _ _ e => e : SubC cs' cs') hp) hb0) hp) hb1) hp) hb2) hp) hb3) hp) hb4) hp
    clear hb0 hb1 hb2 hb3 hb4
    generalize hcs : Cells.put (Cells.put _ b4 _) p _ = csF
    have hF := congrFun hcs p
    rw [Cells.put_same] at hF
    have hS : SubC cs' csF := by rw [← hcs]; exact S _ _
    clear hcs S
    simp only [List.cons_append, List.nil_append] at hF
    have hq := fun cs1 => (seqD_cell (cs := cs1) (a := p))
    have hsq : seqD csF (.cell p) = some (true, [Vl.dat (Dat.bl (decide (0 = i))), Vl.dat (Dat.bl (decide (1 = i))), Vl.dat (Dat.bl (decide (2 = i))), Vl.dat (Dat.bl (decide (3 = i))), Vl.dat (Dat.bl (decide (4 = i))), Vl.dat (Dat.bl (decide (5 = i))), Vl.dat (Dat.bl (decide (6 = i))), Vl.dat (Dat.bl (decide (7 = i))), Vl.dat (Dat.bl (decide (8 = i))), Vl.dat (Dat.bl (decide (9 = i))), Vl.dat (Dat.bl (decide (10 = i))), Vl.dat (Dat.bl (decide (11 = i))), Vl.dat (Dat.bl (decide (12 = i))), Vl.dat (Dat.bl (decide (13 = i))), Vl.dat (Dat.bl (decide (14 = i))), Vl.dat (Dat.bl (decide (15 = i))), Vl.dat (Dat.bl (decide (16 = i)))]) := by
      rw [seqD_cell, ← hF]; rfl
    refine ⟨⟨_, hsq⟩, _, hsq, usI i, .bl true, rfl, rfl, ?_⟩
    rw [usI_cnt i hi, if_neg (by decide)]
    refine ⟨D, rfl, E.c, _, E.v, ?_⟩
    rw [if_neg (by decide), split_words]
    refine ⟨by decide +kernel, by decide +kernel, by decide +kernel, .inr ⟨kws.map .str, by rw [show (kws.map fun q => Vl.dat (.str q)) = (kws.map Dat.str).map .dat by rw [List.map_map]; rfl]; exact allDat_map _, ⟨_, hsq⟩, _, hsq, usI i, .bl true, rfl, rfl, i, _, usI_at hi, rfl, usI_bef hi, true, _, rfl, .dat (.str z), atI_nat (by rw [List.getElem?_map, List.getElem?_map, hz]; rfl), ?_⟩⟩
    clear hsq hF
    rcases tl2 with ⟨m, rfl⟩ | ⟨rfl, n, d, h1, h2, h3, h4, rfl⟩ | ⟨m, n, h1, h2, rfl⟩ | ⟨m, n, h1, h2, rfl⟩ | ⟨rfl, n, h1, h2, rfl⟩
    · simp only [List.mem_cons, List.not_mem_nil, or_false] at m
      rcases m with rfl | rfl | rfl | rfl | rfl | rfl | rfl | rfl | rfl | rfl <;> cases hz <;> ((refine wEq_str (by decide +kernel) (by decide +kernel) ⟨_, rfl, ?_⟩); (rw [if_neg (by decide +kernel)]); (refine ⟨by decide, _, _, _, _, rfl, rfl, rfl, _, rfl, ?_⟩); (rw [if_neg (by decide +kernel)]); (refine ⟨by decide, _, _, _, _, rfl, rfl, rfl, _, rfl, ?_⟩); (rw [if_neg (by decide +kernel)]); (refine wEq_str (by decide +kernel) (by decide +kernel) ⟨_, rfl, ?_⟩); (rw [if_neg (by decide +kernel)]); (exact ⟨_, rfl, by simp, .drop hS q⟩))
    · cases hz
      refine wEq_str (by decide +kernel) (by decide +kernel) ⟨_, rfl, ?_⟩
      rw [if_pos (by decide +kernel)]
      exact ⟨D, rfl, E.x, h1, ne_lookup h3, _, _, h3, rfl, D, rfl, E.x, h2, ne_lookup h3, _, _, h4, rfl, _, rfl, by simp, .drop hS q⟩
    · simp only [List.mem_cons, List.not_mem_nil, or_false] at m
      rcases m with rfl | rfl | rfl <;> cases hz <;> ((refine wEq_str (by decide +kernel) (by decide +kernel) ⟨_, rfl, ?_⟩); (rw [if_neg (by decide +kernel)]); (refine ⟨by decide, _, _, _, _, rfl, rfl, rfl, _, rfl, ?_⟩); (rw [if_pos (by decide +kernel)]); (exact ⟨D, rfl, E.x, h1, ne_lookup h2, _, _, h2, rfl, _, rfl, by simp, .drop hS q⟩))
    · simp only [List.mem_cons, List.not_mem_nil, or_false] at m
      rcases m with rfl | rfl <;> cases hz <;> ((refine wEq_str (by decide +kernel) (by decide +kernel) ⟨_, rfl, ?_⟩); (rw [if_neg (by decide +kernel)]); (refine ⟨by decide, _, _, _, _, rfl, rfl, rfl, _, rfl, ?_⟩); (rw [if_neg (by decide +kernel)]); (refine ⟨by decide, _, _, _, _, rfl, rfl, rfl, _, rfl, ?_⟩); (rw [if_pos (by decide +kernel)]); (exact ⟨D, rfl, E.x, h1, ne_lookup h2, _, _, h2, rfl, _, rfl, by simp, .drop hS q⟩))
    · cases hz
      refine wEq_str (by decide +kernel) (by decide +kernel) ⟨_, rfl, ?_⟩
      rw [if_neg (by decide +kernel)]
      refine ⟨by decide, _, _, _, _, rfl, rfl, rfl, _, rfl, ?_⟩
      rw [if_neg (by decide +kernel)]
      refine ⟨by decide, _, _, _, _, rfl, rfl, rfl, _, rfl, ?_⟩
      rw [if_neg (by decide +kernel)]
      refine wEq_str (by decide +kernel) (by decide +kernel) ⟨_, rfl, ?_⟩
      rw [if_pos (by decide +kernel)]
      exact ⟨D, rfl, E.x, h1, ne_lookup h2, _, _, h2, rfl, _, rfl, by simp, .drop hS q⟩
  · rintro v cs' ⟨d, rfl, q⟩
    exact ⟨_, rfl, by simp, .now q⟩
end DL
set_option maxRecDepth 100000
set_option maxHeartbeats 4000000
/-! a method whose body is `return super().m(y) and e2` -/
namespace SupD
open PySem PySem.Spec PyProof.Rows L2 DL
theorem wpAt_And2 {M : Model} {A : Around} {c : Code} {E : Value → Shared → Prop} {s : Shared} {env : Env} {x y : Expr} {pos : Pos} {Q : Value → Shared → Prop}
    (h : _root_.PySem.wpAt M A c (eval x env) (fun v s₁ => wpAny M A (truthy v) (fun t s₂ => if t then wpAny M A (eval y env) Q E s₂ else Q v s₂) E s₁) E s) :
    _root_.PySem.wpAt M A c (eval (.BoolOp .And [x, y] pos) env) Q E s := by
  show _root_.PySem.wpAt M A c (do
    let v ← eval x env
    standAt pos
    let t ← holding [v] (truthy v)
    match BoolOp.And, t with
    | .And, false | .Or, true => pure v
    | _, _ => boolOp pos .And [eval y env]) Q E s
  refine _root_.PySem.wpAt_bind (_root_.PySem.wpAt_mono h (fun v s₁ h₁ => _root_.PySem.wpAt_of_wpAny (wpAny_bind (wpAny_standAt (wpAny_bind (wpAny_holding (wpAny_mono h₁ (fun t s₂ h₂ => ?_) fun _ _ x => x)))))) fun _ _ x => x)
  cases t with
  | false => exact wpAny_pure h₂
  | true => exact h₂
def ksCx (P : Program) (w : World) (K : PySem.W.Frag) (mg : Str → Option Value) (base : Heap) (N : List Str) (qual : Str) (scope : Scope) (f cda cc : Addr) (A : Around) (outer : List Env) (s : Shared) (H : Hp) : Cx where
  prog := P
  w := w
  K := K
  mg := mg
  base := base
  A := A.deeper (PySem.W.ksEnv qual scope s.heap.objs.size f (.ref cda) cc)
  N := N
  s_0 := s
  H_0 := H
  env := PySem.W.ksEnv qual scope s.heap.objs.size f (.ref cda) cc
  outer := outer
  stack := PySem.W.ksEnv qual scope s.heap.objs.size f (.ref cda) cc :: outer
  ex := []
  calm := true
  fn := fun _ => false
  pn := []
  xe := fun _ _ => False
structure SScope (N : List Str) (scope : Scope) : Prop where
  kind : scope.kind = .function
  nocell : ∀ x ∈ scope.names, x.2 ≠ .cell
  free1 : ∀ q ∈ scope.names, q.2 = .free → q.1 = "__class__"
  loc : ∀ x ∈ N, scope.names.lookup x = some .local
  nd : N.Nodup
theorem lookup_zip {us : List Value} : ∀ {N : List Str} {i : Nat} {y : Str} {u : Value}, N.Nodup → N[i]? = some y → us[i]? = some u → us.length = N.length → (N.zip us).reverse.lookup y = some u := by
  intro N i y u nd h1 h2 hl
  have hmem : (y, u) ∈ N.zip us := by
    rw [List.mem_iff_getElem?]
    exact ⟨i, by rw [List.getElem?_zip_eq_some]; exact ⟨h1, h2⟩⟩
  have key : ∀ (l : List (Str × Value)), (l.map (·.1)).Nodup → (y, u) ∈ l → l.lookup y = some u := by
    intro l
    induction l with
    | nil => intro _ h; cases h
    | cons q l ih =>
      intro nd' hm
      obtain ⟨a, b⟩ := q
      rcases List.mem_cons.mp hm with e | hm
      · cases e; simp [List.lookup]
      · rw [List.map_cons, List.nodup_cons] at nd'
        have hne : y ≠ a := fun z => nd'.1 (List.mem_map.mpr ⟨(y, u), hm, z⟩)
        have : (y == a) = false := by simpa using hne
        simp only [List.lookup, this]
        exact ih nd'.2 hm
  refine key _ ?_ (List.mem_reverse.mpr hmem)
  rw [List.map_reverse]
  refine (List.reverse_perm _).nodup_iff.mpr ?_
  rw [List.map_fst_zip (by omega)]
  exact nd
theorem inv_super {P : Program} {w : World} {K : PySem.W.Frag} {mg : Str → Option Value} {base : Heap} {N : List Str} {qual : Str} {scope : Scope} {f cda cc : Addr} {A : Around} {outer : List Env} {s : Shared} {H : Hp} {us : List Value} {vs : List V} {h1 : Heap} {tk : Nat} {oc : Obj} {D : Value}
    (S : SScope N scope) (hd : A.handled = none) (e0 : Env0 P w K mg base A outer s H) (hl : vs.length = N.length) (r : Vals vs us) (hcc : base.get? cc = some oc) (hoc : oc.data = .cell (some D))
    (hns : h1.Ns s.heap.objs.size (fun x => (N.zip us).reverse.lookup x)) (hk : ∀ b o, s.heap.get? b = some o → h1.get? b = some o) :
    Inv (ksCx P w K mg base N qual scope f cda cc A outer s H) [] (start N vs) H { s with heap := h1, toks := tk } := by
  have noA : ∀ b : Addr, b ∉ (ksCx P w K mg base N qual scope f cda cc A outer s H).ex := fun b z => absurd (show b ∈ ([] : List Addr) from z) (by simp)
  have hcell : ∀ x c, (ksCx P w K mg base N qual scope f cda cc A outer s H).env.cells.lookup x = some c → x = "__class__" ∧ c = cc := fun x c h => by
    have h : List.lookup x [(("__class__" : Str), cc)] = some c := h
    unfold List.lookup at h
    split at h
    · rename_i e
      exact ⟨beq_iff_eq.mp e, (Option.some.inj h).symm⟩
    · cases h
  have hcs := e0.bs cc oc hcc
  refine ⟨⟨e0.mod, S.kind, rfl, rfl, Nat.le_refl _, fun y z c h1 h2 => ?_, fun y hy => ?_, fun y c h _ => (by cases h), fun _ => hd, Around.frames_deeper e0.frames, .inr ⟨rfl, rfl⟩, fun b z => absurd z (noA b), e0.bs, e0.bsz, fun b _ _ => noA b, fun b z => absurd z (noA b), e0.funs, e0.frf⟩,
    rfl, e0.bare, Un.kept hk, ⟨_, hns, fun i y v h1 h2 h3 => ?_⟩, fun y c h => ?_, e0.hok.fresh (Nat.le_refl _), fun y c h => ?_, fun p hp => absurd (show p ∈ ([] : List (Addr × Obj)) from hp) (by simp), e0.hok.kept hk, ?_⟩
  · exact (hcell y c h1).1.trans (hcell z c h2).1.symm
  · have hy : scope.names.lookup y = some .cell ∨ scope.names.lookup y = some .free := hy
    rcases hy with hy | hy
    · exact absurd rfl (S.nocell _ (PySem.mem_of_lookup hy))
    · rw [show y = _ from S.free1 _ (PySem.mem_of_lookup hy) rfl]
      exact ⟨cc, rfl⟩
  · have hi : i < vs.length := by
      unfold L2.start at h2
      by_cases hi : i < vs.length
      · exact hi
      · rw [List.getElem?_append_right (by simpa using hi)] at h2
        rw [List.getElem?_replicate] at h2
        split at h2 <;> cases h2
    have ha : vs[i]? = some v := by
      unfold L2.start at h2
      rw [List.getElem?_append_left (by simpa using hi), List.getElem?_map] at h2
      cases e : vs[i]? with
      | none => rw [e] at h2; cases h2
      | some a => rw [e] at h2; cases h2; rfl
    obtain ⟨u, hu, rv⟩ := r.get ha
    refine ⟨u, rv, .inl ⟨S.loc y (List.mem_of_getElem? h1), ?_⟩⟩
    exact lookup_zip S.nd h1 hu (by rw [← r.length]; exact hl)
  · obtain ⟨rfl, rfl⟩ := hcell y c h
    exact ⟨_, _, hk _ _ hcs.1, hoc⟩
  · obtain ⟨rfl, rfl⟩ := hcell y c h
    exact hcs.2
  · unfold L2.start
    simp
    show vs.length + (N.length - vs.length) = N.length
    omega
theorem boot_super : bootBuiltins "super" = some (.type "super") := by first | rfl | kernel_rfl
section
variable {P : Program} {w : World} {K : PySem.W.Frag} {mg : Str → Option Value} {base : Heap} {k : Nat} {f cda cc : Addr} {name qual : Str} {params : Arguments} {body : List Stmt} {scope : Scope} {kV doc pm ct oc ccl cl : Value} {an od cdd cld : Option Addr} {osl ccs csl : Array (Option Value)} {ar : Arg} {vsc : Array Value} {file : Str} {tf : Tok}
  {D f2 : Addr} {fd2 : FuncData} {cdD : ClassData} {m y : Str} {p0 p1 p2 apos cpos bpos rpos : Pos} {e2 : Expr} {we : WE} {dsp dsp2 : DSp} {pl : Sem Bool} {ps2 : List Str}
theorem fn_super (lk : K.lookup f = some ⟨oc, od, .func (PySem.W.ksFn name qual params body scope .none kV doc pm an (.ref cda) ct cc), osl⟩) (hcd : PySem.W.codeIn K (.ref cda) qual = true) (S : SScope [ar.arg, y] scope) (hco : scope.isCoroutine = false) (hgen : scope.isGenerator = false)
    (hbd : body = [.Return (some (.BoolOp .And [.Call (.Attribute (.Call (.Name "super" p0) [] [] p1) m apos) [.Name y p2] [] cpos, e2] bpos)) rpos])
    (hp : (params.posonlyargs ++ params.args).head? = some ar) (hcode : K.lookup cda = some ⟨ccl, cdd, .fields vsc, ccs⟩) (hvs : vsc[2]? = some (.str file tf)) (hfile : ((P.main.file : Str) == file) = true)
    (hcell : K.lookup cc = some ⟨cl, cld, .cell (some (.ref D)), csl⟩) (hD : PySem.W.clsIn K D = some cdD) (hsub : PySem.W.mroIn K D (.ref D) = some true) (hsuper : mg "super" = none)
    (hat : (m == ("__class__" : Str)) = false) (hdb : (y == ("__debug__" : Str)) = false) (hcd2 : (y == ("__classdict__" : Str)) = false) (hks : scope.names.lookup ("super" : Str) = some .globalImplicit) (hkc : scope.names.lookup ("__class__" : Str) = some .free)
    (htop : (P.main.scope.names.lookup ("super" : Str)).isSome = false) (hboot : bootBuiltins "super" = some (.type "super")) (hno : PySem.W.nsIn K cStatics "thirdparty.any" = some none)
    (hpl : eval (.Call (.Attribute (.Call (.Name "super" p0) [] [] p1) m apos) [.Name y p2] [] cpos) = fun env => (do
      let ov ← attributeBase (.Call (.Name "super" p0) [] [] p1) m env (eval (.Call (.Name "super" p0) [] [] p1) env)
      standAt apos.atName
      let (f, first) ← holding [ov] (getMethod ov m pl)
      callWith cpos f first (backTo cpos (starEach [.Name y p2] env)) []))
    (hm : PySem.W.ks_superIn K D D m = some (some (.ref f2))) (ht : PySem.W.typeIn K (.ref f2) = some (.type "function")) (hfn : PySem.W.fnIn K f2 = true) (F2 : FnOk P w K mg base CX0 k f2 fd2 ps2 (liftSp K dsp2)) (hb2 : Binds K fd2 ps2 [])
    (len : ∀ xs cs Q XP, dsp xs cs Q XP → xs.length = 2)
    (he2 : ∀ (A : Around) (outer : List Env) (s : Shared) (H : Hp), Room k (A.deeper (PySem.W.ksEnv qual scope s.heap.objs.size f (.ref cda) cc)) → DE (ksCx P w K mg base [ar.arg, y] qual scope f cda cc A outer s H) e2 we)
    (pure : ∀ xs cs Q XP, dsp xs cs Q XP → ∃ x1 x2 gs, xs = [x1, x2] ∧ insD cs x1 = some (D, gs) ∧ dsp2 [x1, x2] cs (fun v cs1 => ∃ b, v = .dat (.bl b) ∧ if b = true then we [some x1, some x2] cs1 (GhK K Q) else GhK K Q (.dat (.bl false)) cs1) X0) :
    FnOk P w K mg base CX0 (k + 1) f (PySem.W.ksFn name qual params body scope .none kV doc pm an (.ref cda) ct cc) [ar.arg, y] (liftSp K dsp) := by
  refine ⟨fun vs H Q E ⟨M, xs, cs, P', XP, o, r, d, _⟩ => (Paired.len r).trans (len xs cs P' XP d), fun A outer s H args us vs Q E hr e0 hb r hsp => ?_⟩
  obtain ⟨M, xs, cs, P', XP, o, rp, d, kk, kx⟩ := hsp
  have hl : vs.length = 2 := (Paired.len rp).trans (len xs cs P' XP d)
  obtain ⟨x1, x2, gs, rfl, hins, hd2⟩ := pure xs cs P' XP d
  have KX : K.In s.heap := e0.mod.kin.keeps fun b o e => (e0.bs b o e).1
  have lim : s.heap.NoLimit := e0.mod.nolimit.keeps fun b o e => (e0.bs b o e).1
  refine PySem.ks_codeAny_call_defAt (fd := PySem.W.ksFn name qual params body scope .none kV doc pm an (.ref cda) ct cc) (body := body) (binds := [ar.arg, y].zip us) hr.depth (KX _ _ lk) rfl lim (PySem.W.codeRec_of KX hcd) rfl hb S.nocell (fun z hz => S.loc _ (List.of_mem_zip hz).1) (fun h1 hns hk1 => ?_) hco hgen S.kind
  have I := inv_super (qual := qual) (scope := scope) (f := f) (cda := cda) (tk := s.toks + ([ar.arg, y].zip us).length) S hr.hd e0 hl r (e0.mod.kin _ _ hcell) rfl hns hk1
  have hr' : Room k (A.deeper (PySem.W.ksEnv qual scope s.heap.objs.size f (.ref cda) cc)) := hr.deeper _
  have E2 := he2 A outer s H hr'
  cases rp with
  | cons r1 rp =>
    cases rp with
    | cons r2 rp =>
      cases rp
      cases r with
      | cons ra rr =>
        cases rr with
        | cons rb rr =>
          cases rr
          rename_i v1 v2 u1 u2
          subst hbd
          obtain ⟨a, dx, fs, ev, hH, _⟩ := insD_ok o r1 hins
          subst ev
          have eu : u1 = Value.ref a := ra
          subst eu
          obtain ⟨mA, O, _, _, _, _⟩ := ins_get I.hok hH
          obtain ⟨odj, J, _⟩ := O.look
          have KX1 := I.kIn
          obtain ⟨oD, hD1, hD2⟩ : ∃ oD, h1.get? D = some oD ∧ oD.data = .cls cdD := by
            unfold PySem.W.clsIn at hD
            split at hD
            · rename_i c d cd' sl ho
              cases hD
              exact ⟨_, KX1 _ _ ho, rfl⟩
            · cases hD
          obtain ⟨mb, hb1, hbb⟩ := I.mod.blt
          have rho : Rho K M (L2.start [ar.arg, y] [V.ref a, v2]) [some x1, some x2] := start_rho (N := [ar.arg, y]) (.cons r1 (.cons r2 .nil))
          refine PySem.ks_wpAt_execs_cons (PySem.ks_wpAt_Return_some (wpAt_And2 (PySem.ks_wpAt_MethodCall (pl := pl) ?_ (congrFun hpl _))))
          refine PySem.ks_wpAt_super_base (env := PySem.W.ksEnv qual scope s.heap.objs.size f (.ref cda) cc) hks hkc hat rfl (KX1 _ _ lk) rfl hp rfl (KX1 _ _ hcode) rfl hvs hfile htop ?_
          refine PySem.W.ks_loadName_global S.kind hks (PySem.Calls.loadGlobal_builtin (env := PySem.W.ksEnv qual scope s.heap.objs.size f (.ref cda) cc) (I.mod.glob.keeps I.bk) hsuper (hb1.keeps I.bk) ((hbb _ (by decide)).trans hboot) ⟨rfl, ?_⟩)
          refine PySem.wpAny_loadName_free S.kind hkc rfl ⟨_, KX1 _ _ hcell, rfl⟩ ?_
          refine PySem.wpAny_loadName_local S.kind (S.loc ar.arg (by simp)) hns (lookup_zip (i := 0) S.nd rfl rfl rfl) ?_
          refine PySem.ks_wpAny_isType_cls hD1 hD2 ⟨rfl, ?_⟩
          refine PySem.ks_wpAny_call_super hD1 hD2 J.at_ J.cls (fun c e => ?_) (PySem.W.looks_mroIn KX1 hsub) (fun h' e kp => ?_)
          · have := J.no
            unfold PySem.W.notCls at this
            rw [e] at this
            exact Bool.noConfusion this
          · have I2 := I.kept (h' := h') (t' := s.toks + ([ar.arg, y].zip [Value.ref a, u2]).length) kp
            have X2 : K.In h' := I2.kIn
            obtain ⟨of, hof, hofc⟩ : ∃ of, h'.get? f2 = some of ∧ of.cls = .type "function" := by
              have ht' : (K.lookup f2).map (·.cls) = some (.type "function") := ht
              cases z : K.lookup f2 with
              | none => rw [z] at ht'; cases ht'
              | some of => rw [z] at ht'; exact ⟨of, X2 _ _ z, Option.some.inj ht'⟩
            have hm2 := hm
            unfold PySem.W.ks_superIn at hm2
            rw [hD] at hm2
            have haD : a ≠ D := by
              rintro rfl
              rw [J.at_] at hD1
              cases hD1
              have := J.no
              unfold PySem.W.notCls at this
              rw [hD2] at this
              exact Bool.noConfusion this
            refine PySem.ks_wpAny_getMethod_super e (PySem.W.looks_opaque X2 hno) (l₀ := cdD.mro) (fun A Q E s k q => wpAny_bind ((PySem.W.looks_clsIn X2 hD) A _ E s k (wpAny_pure q))) rfl X2 hm2 hof hofc haD hat ?_
            have I3 := ClX.met_new (g := f2) (C := a) I2
            generalize hq3 : h'.objs.size = q3 at I3 ⊢
            refine PySem.W.callWith_of (P := PySem.W.MethP K q3 f2 (.ref a)) (by rfl) (PySem.W.keeps_M hfn) (PySem.Calls.evalArgs_plain ?_)
            have ha : DA (ksCx P w K mg base [ar.arg, y] qual scope f cda cc A outer s H) [.Name y p2] (wCons (wVar 1) wNil) := da_cons (de_var 1 rfl (.inl (S.loc y (by simp))) hdb hcd2) da_nil
            have hrun := ha.run cpos _ _ _ H (fun vs H2 => ∃ M2 xs cs2, Same M M2 ∧ Ok K M2 H2 cs2 ∧ Paired (RV K M2) vs xs ∧ xs = [x2] ∧ cs2 = cs) I3 ⟨M, [some x1, some x2], cs, fun xs cs2 => xs = [x2] ∧ cs2 = cs, o, rho, ⟨x2, rfl, ⟨rfl, rfl⟩⟩, fun vs xs M2 H2 cs2 s2 o2 r2 p2 => ⟨M2, xs, cs2, s2, o2, r2, p2⟩⟩
            refine wpAny_mono hrun (fun us2 s2 ⟨vs2, H2, I4, rv, M2, xs2, cs2, sm2, o2, pr2, exs, ecs⟩ => ⟨⟨ClX.pin_at I4, I4.kIn⟩, ?_⟩) fun _ _ z => z.elim
            subst exs ecs
            have hsp : liftSp K dsp2 (.ref a :: vs2) H2 (fun v H' => ∃ M3 x3 cs3, Same M2 M3 ∧ Ok K M3 H' cs3 ∧ RV K M3 v x3 ∧ ∃ b, x3 = .dat (.bl b) ∧ if b = true then we [some x1, some x2] cs3 (GhK K P') else GhK K P' (.dat (.bl false)) cs3) E0 :=
              ⟨M2, _, cs2, _, X0, o2, .cons (r1.mono sm2) pr2, hd2, fun v x M3 H3 cs3 s3 o3 r3 q3 => ⟨M3, x, cs3, s3, o3, r3, q3⟩, fun _ _ _ _ _ _ _ _ _ z => z.elim⟩
            have hl2 : (.ref a :: us2 : List Value).length = ps2.length := by
              have := F2.len _ _ _ _ hsp
              rw [← this]
              show us2.length + 1 = vs2.length + 1
              rw [rv.length]
            have hbn := hb2 s2 (.ref a :: us2) I4.kIn (by rw [List.append_nil]; exact hl2)
            rw [List.append_nil] at hbn
            show wpAny _ _ (call (.ref q3) us2 []) _ _ s2
            refine PySem.wpAny_call (PySem.W.method_call (ClX.pin_at I4) (codeAny_mono (run_at (X := ksCx P w K mg base [ar.arg, y] qual scope f cda cc A outer s H) F2 hr' hbn (fun _ _ _ _ _ _ z => z.elim) I4 (.cons (show RelV (.ref a) (.ref a) from rfl) rv) hsp) fun rr s' hq => ?_))
            cases rr with
            | error e => exact (show False from hq).elim
            | ok fl =>
              cases fl with
              | next => exact False.elim hq
              | brk => exact False.elim hq
              | cont => exact False.elim hq
              | ret u =>
                obtain ⟨v, H3, I5, rv3, M3, x3, cs3, sm3, o3, r3, b, ex3, hb3⟩ := (show EP _ _ _ _ u s' from hq)
                subst ex3
                have ev := inv_bl r3
                subst ev
                have eu : u = Value.bool b := rv3
                subst eu
                refine wpAny_truthy_bool ?_
                cases b with
                | false =>
                  obtain ⟨x4, cs4, gh, p4⟩ := (show GhK K P' (.dat (.bl false)) cs3 from hb3)
                  obtain ⟨M4, sm4, o4, r4⟩ := gh M3 H3 _ o3 (rv_dat (.bl false))
                  exact ⟨.bl false, H3, I5.os, I5.bare, I5.base, I5.hok, rfl, kk _ _ M4 H3 cs4 (sm2.trans (sm3.trans sm4)) o4 r4 p4⟩
                | true =>
                  have hb3 : we [some x1, some x2] cs3 (GhK K P') := hb3
                  refine wpAny_mono (E2.run _ s' _ H3 Q I5 ⟨M3, _, cs3, _, o3, rho.mono (sm2.trans sm3), hb3, (kk.mono (sm2.trans sm3)).gh⟩) (fun u s'' ⟨v, H4, I6, rv4, q4⟩ => ?_) fun _ _ z => z.elim
                  exact ⟨v, H4, I6.os, I6.bare, I6.base, I6.hok, rv4, q4⟩
end
end SupD
set_option maxRecDepth 100000
set_option maxHeartbeats 4000000
namespace DL
open PySem L2
local macro_rules | `(tactic| walk_at "dl") => `(tactic| simp only [wFldI, wConI, wPropI, wMethI, wMethX, wAlt, wAltS, wCallX, wRaise, wRaise1, wRaise2, wCm, wCm0, noX, xw, insD_obj, insD_cell, coIns_ins, wSt, wLenS, wAll, wCntF, wIdxF, wSplit, wTryAs, wAsD, unE, wIsE, wXf, wIsiO, LamD.wOut, LamD.wLamMk, LamD.wAct, Dat.str.injEq, Dat.obj.injEq, wAbs, wCatS, wExt, wListOf, wiStr, wFld, wSetF, wMeth, wMake, wGMeth, wGCall, wDNewK, wDNewT, CO.ins.injEq, CO.dk.injEq, CO.dt.injEq, Cells.put_put, wRet, wRetN, wSeq, wAsg, wIfS, wDrop, wNext, wVar, wC, wOp, wUn, wFn, wNil, wCons, wTest, wNot, wAnd, wOr, wAndV, wOrV, wNotV, wIf, wChain, wTup, wLst, wCall, wNever, gN, gT, gNil, gCons, gIx, wI, wI0, wNeg, wMax2, wMin2, wLen, wIsN, wNotN, isNon_non, isNon_bl, isNon_int, isNon_str, isNon_lst, isNon_tup, isNon_cell, wIx, wTuple, wAug, wAugIx, wPar, wPar3, wSlL, wSlT, wPart, wNoPart, wCatT, wIsi, wIsi2, isiT, tyD_non, tyD_bl, tyD_int, tyD_str, tyD_lst, tyD_tup, tyD_cell, coTy_lst, seqD_lst, seqD_tp, seqD_cell, coSeq_lst, seen_dat, seen_cell, coDat_lst, startD, wYes, wApp, wEq_int, wEq_bl, allDat_nil, allDat_cons, allDat_map, Option.map_some, List.map_cons, List.map_nil, List.cons_append, List.nil_append, List.length_cons, List.length_nil, List.replicate, List.getElem?_cons_zero, List.getElem?_cons_succ, List.set_cons_zero, List.set_cons_succ, Option.some.injEq, exists_eq_left', exists_eq_left, exists_and_left, exists_eq', exists_eq, Vl.dat.injEq, Vl.raw.injEq, V.ref.injEq, CO.lst.injEq, Dat.int.injEq, Dat.bl.injEq, Dat.tup.injEq, Dat.lst.injEq, List.cons.injEq, and_true, true_and, retE, Nat.reduceAdd, Nat.reduceSub, and_assoc, Prod.mk.injEq, if_true, if_false, Bool.false_eq_true, decide_eq_true_eq, Bool.not_true, Bool.not_false, Bool.not_eq_true', decide_eq_false_iff_not, if_false_left, if_false_right, beq_iff_eq, Bool.or_eq_true, Bool.and_eq_true, Bool.or_self, Bool.or_true, Bool.true_or, Bool.or_false, Bool.false_or, decide_true, decide_false, reduceCtorEq, Cells.put_same, gt_iff_lt, ge_iff_le, beq_self_eq_true, bne_self_eq_false, Bool.decide_eq_true, not_true_eq_false, not_false_eq_true, Decidable.not_not, false_and, and_false, Bool.not_eq_false, at_0, at_1, at_2, at_3, at_4, at_5, ix_0, ix_1, ix_2, ix_3, Nat.reduceLT, Int.reduceLT, Int.reduceLE, Int.reduceNeg, Int.reduceAdd, Int.reduceSub, Int.reduceEq, Int.reducePow, Int.reduceToNat, Cells.put_put])
def sp_SavingsAccount_may_withdraw (C : CE) : DSp := fun xs cs Q _ => ∃ (x : Vl) (v : Int) (n : Str) (l b c : Int), xs = [x, .int v] ∧ isAcct C cs x .sa n l b c ∧ 0 < c ∧ Q (.bl (decide (v % c = 0))) cs
theorem len_SavingsAccount_may_withdraw {C : CE} : ∀ xs cs Q XP, sp_SavingsAccount_may_withdraw C xs cs Q XP → xs.length = 2 := by rintro xs cs Q XP ⟨x, v, n, l, b, c, rfl, _⟩; rfl
theorem pure_SavingsAccount_may_withdraw (K : Frag) (C : CE) : ∀ xs cs Q XP, sp_SavingsAccount_may_withdraw C xs cs Q XP → ∃ x1 x2 gs, xs = [x1, x2] ∧ insD cs x1 = some (C.SavingsAccount, gs) ∧ sp_Account_may_withdraw C [x1, x2] cs (fun v cs1 => ∃ b, v = .dat (.bl b) ∧ if b = true then (wOp (wEqD false) (wOp wMod (wVar 1) (wFldI C.SavingsAccount "cycle" (wVar 0))) (wC (.int 0))) [some x1, some x2] cs1 (GhK K Q) else GhK K Q (.dat (.bl false)) cs1) X0 := by
  rintro xs cs Q XP ⟨x, v, n, l, b, c, rfl, hx, hc, q⟩
  refine ⟨x, .int v, _, rfl, hx, x, v, rfl, true, rfl, ?_⟩
  rw [if_pos rfl]
  refine ⟨_, rfl, ⟨_, rfl, _, _, hx, af_y, ?_⟩⟩
  refine ⟨v, c, rfl, rfl, hc, ?_⟩
  simp only [wC]
  refine wEq_int.mpr ?_
  rw [show (if false = true then !(v % c == 0) else (v % c == 0)) = decide (v % c = 0) from rfl]
  exact .now q
end DL
set_option maxRecDepth 100000
set_option maxHeartbeats 4000000
namespace DL
open PySem L2
local macro_rules | `(tactic| walk_at "dl") => `(tactic| simp only [wFldI, wConI, wPropI, wMethI, wMethX, wAlt, wAltS, wCallX, wRaise, wRaise1, wRaise2, wCm, wCm0, noX, xw, insD_obj, insD_cell, coIns_ins, wSt, wLenS, wAll, wCntF, wIdxF, wSplit, wTryAs, wAsD, unE, wIsE, wXf, wIsiO, LamD.wOut, LamD.wLamMk, LamD.wAct, Dat.str.injEq, Dat.obj.injEq, wAbs, wCatS, wExt, wListOf, wiStr, wFld, wSetF, wMeth, wMake, wGMeth, wGCall, wDNewK, wDNewT, CO.ins.injEq, CO.dk.injEq, CO.dt.injEq, Cells.put_put, wRet, wRetN, wSeq, wAsg, wIfS, wDrop, wNext, wVar, wC, wOp, wUn, wFn, wNil, wCons, wTest, wNot, wAnd, wOr, wAndV, wOrV, wNotV, wIf, wChain, wTup, wLst, wCall, wNever, gN, gT, gNil, gCons, gIx, wI, wI0, wNeg, wMax2, wMin2, wLen, wIsN, wNotN, isNon_non, isNon_bl, isNon_int, isNon_str, isNon_lst, isNon_tup, isNon_cell, wIx, wTuple, wAug, wAugIx, wPar, wPar3, wSlL, wSlT, wPart, wNoPart, wCatT, wIsi, wIsi2, isiT, tyD_non, tyD_bl, tyD_int, tyD_str, tyD_lst, tyD_tup, tyD_cell, coTy_lst, seqD_lst, seqD_tp, seqD_cell, coSeq_lst, seen_dat, seen_cell, coDat_lst, startD, wYes, wApp, wEq_int, wEq_bl, allDat_nil, allDat_cons, allDat_map, Option.map_some, List.map_cons, List.map_nil, List.cons_append, List.nil_append, List.length_cons, List.length_nil, List.replicate, List.getElem?_cons_zero, List.getElem?_cons_succ, List.set_cons_zero, List.set_cons_succ, Option.some.injEq, exists_eq_left', exists_eq_left, exists_and_left, exists_eq', exists_eq, Vl.dat.injEq, Vl.raw.injEq, V.ref.injEq, CO.lst.injEq, Dat.int.injEq, Dat.bl.injEq, Dat.tup.injEq, Dat.lst.injEq, List.cons.injEq, and_true, true_and, retE, Nat.reduceAdd, Nat.reduceSub, and_assoc, Prod.mk.injEq, if_true, if_false, Bool.false_eq_true, decide_eq_true_eq, Bool.not_true, Bool.not_false, Bool.not_eq_true', decide_eq_false_iff_not, if_false_left, if_false_right, beq_iff_eq, Bool.or_eq_true, Bool.and_eq_true, Bool.or_self, Bool.or_true, Bool.true_or, Bool.or_false, Bool.false_or, decide_true, decide_false, reduceCtorEq, Cells.put_same, gt_iff_lt, ge_iff_le, beq_self_eq_true, bne_self_eq_false, Bool.decide_eq_true, not_true_eq_false, not_false_eq_true, Decidable.not_not, false_and, and_false, Bool.not_eq_false, at_0, at_1, at_2, at_3, at_4, at_5, ix_0, ix_1, ix_2, ix_3, Nat.reduceLT, Int.reduceLT, Int.reduceLE, Int.reduceNeg, Int.reduceAdd, Int.reduceSub, Int.reduceEq, Int.reducePow, Int.reduceToNat, Cells.put_put])
def clsIB (K : Frag) (D : Addr) : Bool := PySem.W.plainGet K D Str.empty && (PySem.W.hasDictIn K D && (PySem.W.plainOver K D && (decide (PySem.W.findIn K (.ref D) "__setattr__" = some (some (.builtin "object.__setattr__"))) && (decide (PySem.W.findIn K (.ref D) "__class__" = some (some (.builtin "object.__class__"))) && (decide (PySem.W.specialIn K (.builtin "object.__class__") "__get__" = some (some (.builtin "getset_descriptor.__get__"))) && (decide (PySem.W.takesIn K (.builtin "object.__class__") = some true) && decide (PySem.W.mroIn K D (.type "object") = some true))))))) 
theorem clsIB_ok {K : Frag} {D : Addr} (h : clsIB K D = true) : ClsI K D := by
  simp only [clsIB, Bool.and_eq_true, decide_eq_true_eq] at h
  obtain ⟨a, b, c, d, h1, h2, h3, h4⟩ := h
  exact ⟨⟨a, b, c, d⟩, h1, h2, h3, h4⟩
theorem kitB_ok {K : Frag} {D c : Addr} {b : Bool} (h : kitB K D c b = true) : PySem.W.kitOne K (.ref D) (.ref c) = some b := of_decide_eq_true h
structure KF (K : Frag) (C : CE) : Prop where
  ov : exOneB K [C.DuplicateName, C.Endless, C.InvalidAmount, C.InvalidCount, C.InvalidName, C.InvalidOperation, C.InvalidOrder, C.InvalidText, C.NotEmpty, C.Overdrawn, C.SameAccount, C.TooManyAccounts, C.TooManyOrders, C.UnknownAccount, C.UnknownKind, C.UnknownOrder, C.WrongDay] C.OrderError C.Overdrawn 9 ["name", "day"] = true
  am : exOneB K [C.DuplicateName, C.Endless, C.InvalidAmount, C.InvalidCount, C.InvalidName, C.InvalidOperation, C.InvalidOrder, C.InvalidText, C.NotEmpty, C.Overdrawn, C.SameAccount, C.TooManyAccounts, C.TooManyOrders, C.UnknownAccount, C.UnknownKind, C.UnknownOrder, C.WrongDay] C.OrderError C.InvalidAmount 2 [] = true
  nm : exOneB K [C.DuplicateName, C.Endless, C.InvalidAmount, C.InvalidCount, C.InvalidName, C.InvalidOperation, C.InvalidOrder, C.InvalidText, C.NotEmpty, C.Overdrawn, C.SameAccount, C.TooManyAccounts, C.TooManyOrders, C.UnknownAccount, C.UnknownKind, C.UnknownOrder, C.WrongDay] C.OrderError C.InvalidName 4 ["name"] = true
  uk : exOneB K [C.DuplicateName, C.Endless, C.InvalidAmount, C.InvalidCount, C.InvalidName, C.InvalidOperation, C.InvalidOrder, C.InvalidText, C.NotEmpty, C.Overdrawn, C.SameAccount, C.TooManyAccounts, C.TooManyOrders, C.UnknownAccount, C.UnknownKind, C.UnknownOrder, C.WrongDay] C.OrderError C.UnknownKind 14 [] = true
  cA : clsIB K C.Account = true
  cL : clsIB K C.LimitedAccount = true
  cS : clsIB K C.SavingsAccount = true
  k1 : kitB K C.Account C.LimitedAccount false = true
  k2 : kitB K C.Account C.SavingsAccount false = true
  k3 : kitB K C.LimitedAccount C.LimitedAccount true = true
  k4 : kitB K C.LimitedAccount C.SavingsAccount false = true
  k5 : kitB K C.SavingsAccount C.SavingsAccount true = true
def Kd.limD (l : Int) : Kd → Dat
  | .li => .int l
  | _ => .non
def Kd.flD (l : Int) : Kd → Dat
  | .op => .non
  | _ => .int (0 - l)
def sp_law_account_right (C : CE) : DSp := fun xs cs Q _ => ∃ (a q e : Addr) (k : Kd) (n : Str) (l b c : Int) (c1 c2 : CO), xs = [.cell a, .dat (acctD C k n l b c), .cell e, .int c] ∧ a ≠ q ∧ e ≠ a ∧ e ≠ q ∧ cs a = some c1 ∧ cs q = some c2 ∧ HOk q c1 c2 ∧
  cs e = some (.lst [.dat (.str n), .dat (.str k.str), .int l, .dat (k.flD l), .int b]) ∧ PyData.strOk n = true ∧ 0 < c ∧ c ≤ 1000 ∧ ∀ c1' c2' ce', HOk q c1' c2' → Q (.bl true) (((cs.put a c1').put q c2').put e ce')
theorem len_law_account_right {C : CE} : ∀ xs cs Q XP, sp_law_account_right C xs cs Q XP → xs.length = 4 := by rintro xs cs Q XP ⟨a, q, e, k, n, l, b, c, c1, c2, rfl, _⟩; rfl
def sp_law (C : CE) : DSp := fun xs cs Q _ => ∃ ns : List Int, xs = [.dat (.lst (iD ns))] ∧ ns.length ≤ 63 ∧ cs C.T_law = some (.tl ("law" ++ ".<locals>." ++ "<lambda>")) ∧ ∀ cs', Q (.bl true) cs'
theorem len_law {C : CE} : ∀ xs cs Q XP, sp_law C xs cs Q XP → xs.length = 1 := by rintro xs cs Q XP ⟨ns, rfl, _⟩; rfl
theorem law_start (C : CE) (ns : List Int) (cs : Cells) (Q : Vl → Cells → Prop) (XP : DXP) (hl : ns.length ≤ 63) (hT : cs C.T_law = some (.tl ("law" ++ ".<locals>." ++ "<lambda>"))) (q : ∀ cs', Q (.dat (.bl true)) cs') : sp_law C [.dat (.lst (ns.map .int))] cs Q XP := ⟨ns, rfl, hl, hT, q⟩
/-- _law_account_right: slots 0 _law_h, 1 _law_account, 2 _law_due, 3 _law_wheel, 4 _law_kind, 5 _law_moment, 6 _law_told, 7 _law_spot -/
def w_law_account_right_b0_6 (K : Frag) (C : CE) : WS := (wRet (wAndV (wOp (wEqD false) (wIsiO K C.LimitedAccount (wVar 1)) (wOp (wEqD false) (wVar 4) (wC (.str "limited")))) (wNotV (wIsiO K C.SavingsAccount (wVar 1)))))
def w_law_account_right_b0_5 (K : Frag) (C : CE) : WS := (wSeq (wIfS (wTest (wOp (wEqD false) (wVar 4) (wC (.str "savings")))) (wRet (wIsiO K C.SavingsAccount (wVar 1))) wNext)
    (w_law_account_right_b0_6 K C))
def w_law_account_right_b0_4 (K : Frag) (C : CE) : WS := (wSeq (wFor (wiSeq (wTup (wCons (wVar 5) (wCons (wOp wMul (wC (.int 3)) (wVar 3)) (wCons (wOp wAdd (wOp wMul (wC (.int 3)) (wVar 3)) (wC (.int 1))) (wCons (wOp wSub (wC (.int 1)) (wVar 3)) (wCons (wC (.int 0)) (wCons (wUn wNeg (wC (.int 1))) wNil)))))))) (gN 7) (wIfS (wNot (wTest (wCall (sp_law_alike C 4) (wCons (wAlt (wMethI C.Account "may_withdraw" (sp_Account_may_withdraw C) (wVar 1) (wCons (wVar 7) wNil)) (wAlt (wMethI C.LimitedAccount "may_withdraw" (sp_Account_may_withdraw C) (wVar 1) (wCons (wVar 7) wNil)) (wMethI C.SavingsAccount "may_withdraw" (sp_SavingsAccount_may_withdraw C) (wVar 1) (wCons (wVar 7) wNil)))) (wCons (wOrV (wOp (wEqD true) (wVar 4) (wC (.str "savings"))) (wOp (wEqD false) (wOp wMod (wVar 7) (wVar 3)) (wC (.int 0)))) wNil))))) (wRet (wC (.bl false))) wNext))
    (w_law_account_right_b0_5 K C))
def w_law_account_right_b0_3 (K : Frag) (C : CE) : WS := (wSeq (wIfS (wNot (wTest (wCall (sp_law_alike C 4) (wCons (wVar 6) (wCons (wVar 2) wNil))))) (wRet (wC (.bl false))) wNext)
    (w_law_account_right_b0_4 K C))
def w_law_account_right_b0_2 (K : Frag) (C : CE) : WS := (wSeq (wAsg (wIf (wTest (wOp (wEqD false) (wVar 4) (wC (.str "limited")))) (wOp wIx (wVar 2) (wC (.int 2))) (wC .non)) (gIx (wVar 2) (wC (.int 2))))
    (w_law_account_right_b0_3 K C))
def w_law_account_right_b0_1 (K : Frag) (C : CE) : WS := (wSeq (wAsg (wLst (wCons (wAlt (wPropI C.Account (sp_Account_account_name C) (wVar 1)) (wAlt (wPropI C.LimitedAccount (sp_Account_account_name C) (wVar 1)) (wPropI C.SavingsAccount (sp_Account_account_name C) (wVar 1)))) (wCons (wAlt (wPropI C.Account (sp_Account_kind C) (wVar 1)) (wAlt (wPropI C.LimitedAccount (sp_Account_kind C) (wVar 1)) (wPropI C.SavingsAccount (sp_Account_kind C) (wVar 1)))) (wCons (wAlt (wPropI C.Account (sp_Account_limit C) (wVar 1)) (wAlt (wPropI C.LimitedAccount (sp_LimitedAccount_limit C) (wVar 1)) (wPropI C.SavingsAccount (sp_SavingsAccount_limit C) (wVar 1)))) (wCons (wAlt (wPropI C.Account (sp_Account_floor C) (wVar 1)) (wAlt (wPropI C.LimitedAccount (sp_LimitedAccount_floor C) (wVar 1)) (wPropI C.SavingsAccount (sp_LimitedAccount_floor C) (wVar 1)))) (wCons (wAlt (wPropI C.Account (sp_Account_balance C) (wVar 1)) (wAlt (wPropI C.LimitedAccount (sp_Account_balance C) (wVar 1)) (wPropI C.SavingsAccount (sp_Account_balance C) (wVar 1)))) wNil)))))) (gN 6))
    (w_law_account_right_b0_2 K C))
def w_law_account_right_b0_0 (K : Frag) (C : CE) : WS := (wSeq (wPar 4 5 (wCons (wOp wIx (wVar 2) (wC (.int 1))) (wCons (wOp wSub (wCall (sp_law_next C) (wCons (wVar 0) (wCons (wC (.int 1000)) wNil))) (wC (.int 500))) wNil)))
    (w_law_account_right_b0_1 K C))
def w_law_account_right (K : Frag) (C : CE) : WS := (w_law_account_right_b0_0 K C)
/-- law: slots 0 _law_script, 1 _law_h, 2 _law_turn, 3 _law_kind, 4 _law_name, 5 _law_bound, 6 _law_worth, 7 _law_wheel, 8 _law_good, 9 _law_most, 10 _law_due, 11 _law_floor, 12 _law_found, 13 _law_told, 14 _law_plain, 15 _law_tight, 16 _law_kept, 17 _law_spot, 18 _law_low, 19 _law_c -/
def w_law_b1_12 (K : Frag) (C : CE) (R0 : LamD.RL) (R1 : LamD.RL) : WS := (wIfS (wAnd (wTest (wOp wIsN (wVar 10) (wC .non))) (wNot (wTest (wCall (sp_law_account_right C) (wCons (wVar 1) (wCons (wOp wIx (wVar 12) (wC (.int 1))) (wCons (wVar 13) (wCons (wVar 7) wNil)))))))) (wRet (wC (.bl false))) wNext)
def w_law_b1_11 (K : Frag) (C : CE) (R0 : LamD.RL) (R1 : LamD.RL) : WS := (wSeq (wAsg (wLst (wCons (wVar 4) (wCons (wVar 3) (wCons (wVar 5) (wCons (wVar 11) (wCons (wVar 6) wNil)))))) (gN 13))
    (w_law_b1_12 K C R0 R1))
def w_law_b1_10 (K : Frag) (C : CE) (R0 : LamD.RL) (R1 : LamD.RL) : WS := (wSeq (wIfS (wAnd (wTest (wOp wNotN (wVar 10) (wC .non))) (wTest (wOp (wEqD true) (wVar 12) (wVar 10)))) (wRet (wC (.bl false))) wNext)
    (w_law_b1_11 K C R0 R1))
def w_law_b1_9 (K : Frag) (C : CE) (R0 : LamD.RL) (R1 : LamD.RL) : WS := (wSeq (wAsg (LamD.wOut R0 (sp_law_outcome K C) [fun W => (wCm C.Account 2 3 gd_Account_made_2_limit_balance_cycle (sp_Account_made C) (xw W) (wCons (wVar 3) (wCons (wVar 4) wNil)) (wCons (wVar 5) (wCons (wVar 6) (wCons (wVar 7) wNil))))] (LamD.wLamMk R0 C.T_law ("law" ++ ".<locals>." ++ "<lambda>") 0)) (gN 12))
    (w_law_b1_10 K C R0 R1))
def w_law_b1_8 (K : Frag) (C : CE) (R0 : LamD.RL) (R1 : LamD.RL) : WS := (wSeq (wIfS (wTest (wOp (wIn true) (wVar 3) (wTup (wCons (wC (.str "open")) (wCons (wC (.str "limited")) (wCons (wC (.str "savings")) wNil)))))) (wAsg (wTup (wCons (wC (.str "kind")) wNil)) (gN 10)) (wIfS (wNot (wTest (wVar 8))) (wAsg (wTup (wCons (wC (.str "name")) (wCons (wVar 4) wNil))) (gN 10)) (wIfS (wNot (wTest (wChain wLe wLe (wC (.int 0)) (wVar 5) (wVar 9)))) (wAsg (wTup (wCons (wC (.str "amount")) wNil)) (gN 10)) (wIfS (wAnd (wTest (wOp wNotN (wVar 11) (wC .non))) (wTest (wOp wLt (wVar 6) (wVar 11)))) (wAsg (wTup (wCons (wC (.str "overdrawn")) (wCons (wVar 4) (wCons (wC .non) wNil)))) (gN 10)) wNext))))
    (w_law_b1_9 K C R0 R1))
def w_law_b1_7 (K : Frag) (C : CE) (R0 : LamD.RL) (R1 : LamD.RL) : WS := (wSeq (wPar 10 11 (wCons (wC .non) (wCons (wIf (wTest (wOp (wEqD false) (wVar 3) (wC (.str "open")))) (wC .non) (wOp wSub (wC (.int 0)) (wVar 5))) wNil)))
    (w_law_b1_8 K C R0 R1))
def w_law_b1_6 (K : Frag) (C : CE) (R0 : LamD.RL) (R1 : LamD.RL) : WS := (wSeq (wAsg (wIf (wTest (wOp (wEqD false) (wVar 3) (wC (.str "limited")))) (wOp wPow (wC (.int 10)) (wC (.int 18))) (wC (.int 0))) (gN 9))
    (w_law_b1_7 K C R0 R1))
def w_law_b1_5 (K : Frag) (C : CE) (R0 : LamD.RL) (R1 : LamD.RL) : WS := (wSeq (wIfS (wNot (wTest (wCall (sp_law_alike C 4) (wCons (wCall (sp_Account_is_name C) (wCons (wVar 4) wNil)) (wCons (wVar 8) wNil))))) (wRet (wC (.bl false))) wNext)
    (w_law_b1_6 K C R0 R1))
def w_law_b1_4 (K : Frag) (C : CE) (R0 : LamD.RL) (R1 : LamD.RL) : WS := (wSeq (wAsg (wAndV (wChain wLe wLe (wC (.int 1)) (wFn wLenS (wCons (wVar 4) wNil)) (wC (.int 8))) (wOp (wEqD false) (wLc (wiStr (wVar 4)) (gN 19) (wNot (wTest (wChain wStLe wStLe (wC (.str "a")) (wVar 19) (wC (.str "z"))))) (wVar 19) [19]) (wLst wNil))) (gN 8))
    (w_law_b1_5 K C R0 R1))
def w_law_b1_3 (K : Frag) (C : CE) (R0 : LamD.RL) (R1 : LamD.RL) : WS := (wSeq (wAsg (wTup (wCons (wOp wIx (wLst (wCons (wC (.int 0)) (wCons (wC (.int 7)) (wCons (wUn wNeg (wC (.int 5))) (wCons (wUn wNeg (wC (.int 6))) (wCons (wUn wNeg (wC (.int 1))) (wCons (wOp wSub (wUn wNeg (wOp wPow (wC (.int 10)) (wC (.int 18)))) (wC (.int 1))) wNil))))))) (wCall (sp_law_next C) (wCons (wVar 1) (wCons (wC (.int 6)) wNil)))) (wCons (wOp wAdd (wC (.int 1)) (wCall (sp_law_next C) (wCons (wVar 1) (wCons (wC (.int 400)) wNil)))) wNil))) (gT 2 (gCons (gN 6) (gCons (gN 7) gNil))))
    (w_law_b1_4 K C R0 R1))
def w_law_b1_2 (K : Frag) (C : CE) (R0 : LamD.RL) (R1 : LamD.RL) : WS := (wSeq (wAsg (wOp wIx (wLst (wCons (wC (.int 0)) (wCons (wC (.int 0)) (wCons (wC (.int 5)) (wCons (wOp wPow (wC (.int 10)) (wC (.int 18))) (wCons (wOp wAdd (wOp wPow (wC (.int 10)) (wC (.int 18))) (wC (.int 1))) (wCons (wUn wNeg (wC (.int 1))) wNil))))))) (wCall (sp_law_next C) (wCons (wVar 1) (wCons (wC (.int 6)) wNil)))) (gN 5))
    (w_law_b1_3 K C R0 R1))
def w_law_b1_1 (K : Frag) (C : CE) (R0 : LamD.RL) (R1 : LamD.RL) : WS := (wSeq (wAsg (wOp wIx (wLst (wCons (wC (.str "bob")) (wCons (wC (.str "a")) (wCons (wC (.str "abcdefgh")) (wCons (wC (.str "abcdefghi")) (wCons (wC (.str "")) (wCons (wC (.str "Bob")) (wCons (wC (.str "b b")) (wCons (wC (.str "b1")) wNil))))))))) (wOp wMul (wCall (sp_law_next C) (wCons (wVar 1) (wCons (wC (.int 8)) wNil))) (wCall (sp_law_next C) (wCons (wVar 1) (wCons (wC (.int 2)) wNil))))) (gN 4))
    (w_law_b1_2 K C R0 R1))
def w_law_b1_0 (K : Frag) (C : CE) (R0 : LamD.RL) (R1 : LamD.RL) : WS := (wSeq (wAsg (wOp wIx (wLst (wCons (wC (.str "limited")) (wCons (wC (.str "limited")) (wCons (wC (.str "limited")) (wCons (wC (.str "open")) (wCons (wC (.str "savings")) (wCons (wC (.str "")) (wCons (wC (.str "Open")) wNil)))))))) (wCall (sp_law_next C) (wCons (wVar 1) (wCons (wC (.int 7)) wNil)))) (gN 3))
    (w_law_b1_1 K C R0 R1))
def w_law_b0_6 (K : Frag) (C : CE) (R0 : LamD.RL) (R1 : LamD.RL) : WS := (wRet (wOp (wEqD false) (wLst (wCons (wC (.str "open")) (wCons (wC (.str "limited")) (wCons (wC (.str "savings")) wNil)))) (wLst (wCons (wC (.str "open")) (wCons (wC (.str "limited")) (wCons (wC (.str "savings")) wNil))))))
def w_law_b0_5 (K : Frag) (C : CE) (R0 : LamD.RL) (R1 : LamD.RL) : WS := (wSeq (wIfS (wOr (wNot (wTest (wMethI C.SavingsAccount "may_withdraw" (sp_SavingsAccount_may_withdraw C) (wVar 16) (wCons (wVar 17) wNil)))) (wTest (wOp (wEqD true) (wVar 18) (wTup (wCons (wC (.str "overdrawn")) (wCons (wC (.str "bob")) (wCons (wC .non) wNil))))))) (wRet (wC (.bl false))) wNext)
    (w_law_b0_6 K C R0 R1))
def w_law_b0_4 (K : Frag) (C : CE) (R0 : LamD.RL) (R1 : LamD.RL) : WS := (wSeq (wPar 17 18 (wCons (wOp wSub (wCall (sp_law_next C) (wCons (wVar 1) (wCons (wC (.int 1000)) wNil))) (wC (.int 500))) (wCons (LamD.wOut R1 (sp_law_outcome K C) [fun W => (wCm C.Account 2 1 gd_Account_made_2_balance (sp_Account_made C) (xw W) (wCons (wC (.str "limited")) (wCons (wC (.str "bob")) wNil)) (wCons (wUn wNeg (wC (.int 1))) wNil))] (LamD.wLamMk R1 C.T_law ("law" ++ ".<locals>." ++ "<lambda>") 0)) wNil)))
    (w_law_b0_5 K C R0 R1))
def w_law_b0_3 (K : Frag) (C : CE) (R0 : LamD.RL) (R1 : LamD.RL) : WS := (wSeq (wIfS (wNot (wTest (wCall (sp_law_alike C 4) (wCons (wLst (wCons (wPropI C.Account (sp_Account_balance C) (wVar 14)) (wCons (wPropI C.Account (sp_Account_limit C) (wVar 14)) (wCons (wPropI C.LimitedAccount (sp_LimitedAccount_limit C) (wVar 15)) (wCons (wPropI C.LimitedAccount (sp_LimitedAccount_floor C) (wVar 15)) (wCons (wPropI C.SavingsAccount (sp_Account_balance C) (wVar 16)) wNil)))))) (wCons (wLst (wCons (wC (.int 0)) (wCons (wC .non) (wCons (wC (.int 0)) (wCons (wC (.int 0)) (wCons (wC (.int 0)) wNil)))))) wNil))))) (wRet (wC (.bl false))) wNext)
    (w_law_b0_4 K C R0 R1))
def w_law_b0_2 (K : Frag) (C : CE) (R0 : LamD.RL) (R1 : LamD.RL) : WS := (wSeq (wPar3 14 15 16 (wCons (wCm0 C.Account 2 0 gd_Account_made_2 (noX (sp_Account_made C)) (wCons (wC (.str "open")) (wCons (wC (.str "amy")) wNil)) wNil) (wCons (wCm0 C.Account 2 0 gd_Account_made_2 (noX (sp_Account_made C)) (wCons (wC (.str "limited")) (wCons (wC (.str "bob")) wNil)) wNil) (wCons (wCm0 C.Account 2 0 gd_Account_made_2 (noX (sp_Account_made C)) (wCons (wC (.str "savings")) (wCons (wC (.str "cid")) wNil)) wNil) wNil))))
    (w_law_b0_3 K C R0 R1))
def w_law_b0_1 (K : Frag) (C : CE) (R0 : LamD.RL) (R1 : LamD.RL) : WS := (wSeq (wFor (wiRng1 (wCons (wC (.int 8)) wNil)) (gN 2) (w_law_b1_0 K C R0 R1))
    (w_law_b0_2 K C R0 R1))
def w_law_b0_0 (K : Frag) (C : CE) (R0 : LamD.RL) (R1 : LamD.RL) : WS := (wSeq (wAsg (wCall (sp_law_mix C) (wCons (wVar 0) (wCons (wC (.int 41)) wNil))) (gN 1))
    (w_law_b0_1 K C R0 R1))
def w_law (K : Frag) (C : CE) (R0 : LamD.RL) (R1 : LamD.RL) : WS := (w_law_b0_0 K C R0 R1)
def toldW (C : CE) : WA := (wCons (wAlt (wPropI C.Account (sp_Account_account_name C) (wVar 1)) (wAlt (wPropI C.LimitedAccount (sp_Account_account_name C) (wVar 1)) (wPropI C.SavingsAccount (sp_Account_account_name C) (wVar 1)))) (wCons (wAlt (wPropI C.Account (sp_Account_kind C) (wVar 1)) (wAlt (wPropI C.LimitedAccount (sp_Account_kind C) (wVar 1)) (wPropI C.SavingsAccount (sp_Account_kind C) (wVar 1)))) (wCons (wAlt (wPropI C.Account (sp_Account_limit C) (wVar 1)) (wAlt (wPropI C.LimitedAccount (sp_LimitedAccount_limit C) (wVar 1)) (wPropI C.SavingsAccount (sp_SavingsAccount_limit C) (wVar 1)))) (wCons (wAlt (wPropI C.Account (sp_Account_floor C) (wVar 1)) (wAlt (wPropI C.LimitedAccount (sp_LimitedAccount_floor C) (wVar 1)) (wPropI C.SavingsAccount (sp_LimitedAccount_floor C) (wVar 1)))) (wCons (wAlt (wPropI C.Account (sp_Account_balance C) (wVar 1)) (wAlt (wPropI C.LimitedAccount (sp_Account_balance C) (wVar 1)) (wPropI C.SavingsAccount (sp_Account_balance C) (wVar 1)))) wNil)))))
theorem told_of {C : CE} {k : Kd} {n : Str} {l b c : Int} {ρ : DEnv} {cs : Cells} {P : List Vl → Cells → Prop} (h1 : ρ[1]? = some (some (.dat (acctD C k n l b c)))) (p : P [.dat (.str n), .dat (.str k.str), .dat (k.limD l), .dat (k.flD l), .int b] cs) : toldW C ρ cs P := by
  cases k
  · exact .inl ⟨_, h1, _, rfl, _, .op, n, l, b, c, rfl, isAcct_dat, trivial, .inl ⟨_, h1, _, rfl, _, .op, n, l, b, c, rfl, isAcct_dat, trivial, .inl ⟨_, h1, _, rfl, _, .op, n, l, b, c, rfl, isAcct_dat, rfl, .inl ⟨_, h1, _, rfl, _, .op, n, l, b, c, rfl, isAcct_dat, rfl, .inl ⟨_, h1, _, rfl, _, .op, n, l, b, c, rfl, isAcct_dat, trivial, p⟩⟩⟩⟩⟩
  · exact .inr (.inl ⟨_, h1, _, rfl, _, .li, n, l, b, c, rfl, isAcct_dat, trivial, .inr (.inl ⟨_, h1, _, rfl, _, .li, n, l, b, c, rfl, isAcct_dat, trivial, .inr (.inl ⟨_, h1, _, rfl, _, .li, n, l, b, c, rfl, isAcct_dat, rfl, .inr (.inl ⟨_, h1, _, rfl, _, .li, n, l, b, c, rfl, isAcct_dat, by simp, .inr (.inl ⟨_, h1, _, rfl, _, .li, n, l, b, c, rfl, isAcct_dat, trivial, p⟩)⟩)⟩)⟩)⟩)
  · exact .inr (.inr ⟨_, h1, _, rfl, _, .sa, n, l, b, c, rfl, isAcct_dat, trivial, .inr (.inr ⟨_, h1, _, rfl, _, .sa, n, l, b, c, rfl, isAcct_dat, trivial, .inr (.inr ⟨_, h1, _, rfl, _, .sa, n, l, b, c, rfl, isAcct_dat, rfl, .inr (.inr ⟨_, h1, _, rfl, _, .sa, n, l, b, c, rfl, isAcct_dat, by simp, .inr (.inr ⟨_, h1, _, rfl, _, .sa, n, l, b, c, rfl, isAcct_dat, trivial, p⟩)⟩)⟩)⟩)⟩)
def mayW (C : CE) : WE := (wAlt (wMethI C.Account "may_withdraw" (sp_Account_may_withdraw C) (wVar 1) (wCons (wVar 7) wNil)) (wAlt (wMethI C.LimitedAccount "may_withdraw" (sp_Account_may_withdraw C) (wVar 1) (wCons (wVar 7) wNil)) (wMethI C.SavingsAccount "may_withdraw" (sp_SavingsAccount_may_withdraw C) (wVar 1) (wCons (wVar 7) wNil))))
def Kd.mayB (v c : Int) : Kd → Bool
  | .sa => decide (v % c = 0)
  | _ => true
theorem may_of {C : CE} {k : Kd} {n : Str} {l b c v : Int} {ρ : DEnv} {cs : Cells} {P : Vl → Cells → Prop} (h1 : ρ[1]? = some (some (.dat (acctD C k n l b c)))) (h7 : ρ[7]? = some (some (.int v))) (hc : 0 < c) (p : P (.bl (k.mayB v c)) cs) : mayW C ρ cs P := by
  cases k
  · exact .inl ⟨_, h1, _, rfl, rfl, _, h7, _, _, rfl, p⟩
  · exact .inr (.inl ⟨_, h1, _, rfl, rfl, _, h7, _, _, rfl, p⟩)
  · exact .inr (.inr ⟨_, h1, _, rfl, rfl, _, h7, _, _, n, l, b, c, rfl, isAcct_dat, hc, p⟩)
theorem eq_li {neg : Bool} {k : Kd} {cs : Cells} {P : Vl → Cells → Prop} (p : P (.dat (.bl (if neg then !decide (k = .li) else decide (k = .li)))) cs) : wEqD neg (.dat (.str k.str)) (.dat (.str "limited")) cs P := by
  refine wEq_str (strOk_kd k) (by decide +kernel) ?_
  cases k <;> exact p
theorem eq_sa {neg : Bool} {k : Kd} {cs : Cells} {P : Vl → Cells → Prop} (p : P (.dat (.bl (if neg then !decide (k = .sa) else decide (k = .sa)))) cs) : wEqD neg (.dat (.str k.str)) (.dat (.str "savings")) cs P := by
  refine wEq_str (strOk_kd k) (by decide +kernel) ?_
  cases k <;> exact p
def bodyW (C : CE) : WS := (wIfS (wNot (wTest (wCall (sp_law_alike C 4) (wCons (mayW C) (wCons (wOrV (wOp (wEqD true) (wVar 4) (wC (.str "savings"))) (wOp (wEqD false) (wOp wMod (wVar 7) (wVar 3)) (wC (.int 0)))) wNil))))) (wRet (wC (.bl false))) wNext)
theorem alike_bl {C : CE} {b b' : Bool} {cs : Cells} {Q : Vl → Cells → Prop} {XP : DXP} (e : b = b') (q : Q (.bl true) cs) : sp_law_alike C 4 [.bl b, .dat (.bl b')] cs Q XP := by
  subst e
  exact ⟨_, _, .bl b, rfl, rfl, rfl, .inr ⟨b, rfl⟩, by decide, q⟩
theorem body_of {C : CE} {k : Kd} {n : Str} {l b c v : Int} {ρ : DEnv} {cs : Cells} {D : DEnds} (h1 : ρ[1]? = some (some (.dat (acctD C k n l b c)))) (h3 : ρ[3]? = some (some (.int c))) (h4 : ρ[4]? = some (some (.dat (.str k.str)))) (h7 : ρ[7]? = some (some (.int v))) (hc : 0 < c) (p : D.nx ρ cs) : bodyW C D ρ cs := by
  unfold bodyW
  simp only [wIfS, wNot, wTest, wCall, wCons]
  refine @may_of C k n l b c v _ _ _ h1 h7 hc ?_
  refine ⟨_, h4, ?_⟩
  simp only [wC]
  refine eq_sa ⟨_, rfl, ?_⟩
  have fin : ∀ b', k.mayB v c = b' → sp_law_alike C 4 [.bl (k.mayB v c), .dat (.bl b')] cs (fun x cs1 => ∃ k, x = .dat (.bl k) ∧ if (!k) = true then wRet (wC (.bl false)) D ρ cs1 else wNext D ρ cs1) X0 := fun b' e => alike_bl e ⟨true, rfl, p⟩
  cases k
  · rw [if_pos (by decide)]; exact fin _ rfl
  · rw [if_pos (by decide)]; exact fin _ rfl
  · rw [if_neg (by decide)]
    refine ⟨_, h7, _, h3, v, c, rfl, rfl, hc, ?_⟩
    simp only [wC]
    refine wEq_int.mpr ?_
    exact fin _ (by simp [Kd.mayB]; rfl)
theorem pure_law_account_right (K : Frag) (C : CE) (F : KF K C) : ∀ xs cs Q XP, sp_law_account_right C xs cs Q XP → w_law_account_right K C (retE K Q) (startD 8 xs) cs := by
  rintro xs cs Q XP ⟨a, q', e, k, n, l, b, c, c1, c2, rfl, haq, hea, heq, ha, hq, hH, he, hn, hc, hc2, q⟩
  unfold w_law_account_right w_law_account_right_b0_0
  walk_at "dl"
  refine ⟨_, _, by rw [he]; rfl, _, rfl, a, q', 1000, c1, c2, rfl, haq, ha, hq, hH, by decide, by decide, fun r c1' c2' h0 h1 hH' => ?_⟩
  walk_at "dl"
  unfold w_law_account_right_b0_1
  simp only [wSeq, wAsg, wLst]
  refine @told_of C k n l b c _ _ _ ?_ ?_
  · rfl
  refine ⟨by simp, .inr ⟨[.str n, .str k.str, k.limD l, k.flD l, .int b], rfl, ?_⟩⟩
  have he3 : ((cs.put a c1').put q' c2') e = some (CO.lst [Vl.dat (Dat.str n), Vl.dat (Dat.str k.str), Vl.int l, Vl.dat (Kd.flD l k), Vl.int b]) := by
    rw [Cells.put_ne heq, Cells.put_ne hea]; exact he
  have q3 := fun ce => q c1' c2' ce hH'
  generalize (cs.put a c1').put q' c2' = cs3 at he3 q3 ⊢
  clear q ha hq he
  simp only [gN]
  walk_at "dl"
  unfold w_law_account_right_b0_2
  walk_at "dl"
  refine eq_li ⟨_, rfl, ?_⟩
  have hset : ∀ x : Vl, x = .dat (k.limD l) → ∃ xs, cs3 e = some (.lst xs) ∧ ∃ j, ixN xs.length 2 = some j ∧ w_law_account_right_b0_3 K C { nx := fun _ cs => GhK K Q (.dat .non) cs, rt := GhK K Q } [some (.cell a), some (.dat (acctD C k n l b c)), some (.cell e), some (.int c), some (.dat (.str k.str)), some (.dat (.int (r - 500))), some (.dat (.lst [.str n, .str k.str, k.limD l, k.flD l, .int b])), none] (cs3.put e (.lst (xs.set j x))) := by
    intro x hx
    refine ⟨_, he3, 2, rfl, ?_⟩
    subst hx
    simp only [List.set_cons_succ, List.set_cons_zero]
    unfold w_law_account_right_b0_3
    walk_at "dl"
    refine ⟨_, _, .lst [.str n, .str k.str, k.limD l, k.flD l, .int b], rfl, rfl, by rw [seen_cell, Cells.put_same]; rfl, .inl ?_, by decide, true, rfl, ?_⟩
    · refine ⟨by simp, fun x hx => ?_⟩
      simp only [List.mem_cons, List.not_mem_nil, or_false] at hx
      rcases hx with rfl | rfl | rfl | rfl | rfl
      · exact hn
      · exact strOk_kd k
      · cases k <;> exact trivial
      · cases k <;> exact trivial
      · exact trivial
    · rw [if_neg (by decide)]
      generalize hcs4 : cs3.put e _ = cs4
      have q4 : Q (.bl true) cs4 := by rw [← hcs4]; exact q3 _
      clear hcs4
      unfold w_law_account_right_b0_4
      have hB := @body_of C k n l b c
      change wSeq (wFor _ _ (bodyW C)) _ _ _ _
      generalize bodyW C = B at hB ⊢
      walk_at "dl"
      simp only [wFor, wiSeq]
      walk_at "dl"
      refine ⟨mulL (by decide) (by decide), mulL (by decide) (by decide), by decide, fun i ρ cs' => cs' = cs4 ∧ ∃ a7, ρ = [some (Vl.cell a), some (Vl.dat (acctD C k n l b c)), some (Vl.cell e), some (Vl.int c), some (Vl.dat (Dat.str k.str)), some (Vl.dat (Dat.int (r - 500))), some (Vl.dat (Dat.lst [Dat.str n, Dat.str k.str, Kd.limD l k, Kd.flD l k, Dat.int b])), a7], ⟨rfl, _, rfl⟩, fun _ _ _ _ _ => trivial, ?_, ?_⟩
      · rintro i x ρ cs' hx ⟨rfl, a7, rfl⟩
        obtain ⟨v, rfl⟩ : ∃ v, x = .int v := by
          have := List.mem_of_getElem? hx
          simp only [List.mem_cons, List.not_mem_nil, or_false] at this
          rcases this with rfl | rfl | rfl | rfl | rfl | rfl <;> exact ⟨_, rfl⟩
        exact hB (v := v) rfl rfl rfl rfl hc ⟨rfl, _, rfl⟩
      · rintro ρ cs' ⟨rfl, a7, rfl⟩
        unfold w_law_account_right_b0_5
        walk_at "dl"
        refine eq_sa ⟨_, rfl, ?_⟩
        cases k
        · rw [if_neg (by decide)]
          unfold w_law_account_right_b0_6
          walk_at "dl"
          refine ⟨_, _, rfl, clsIB_ok F.cA, _, kitB_ok F.k1, eq_li ?_⟩
          refine wEq_bl.mpr ?_
          refine ⟨_, rfl, ?_⟩
          rw [if_pos (by decide)]
          exact ⟨_, _, rfl, clsIB_ok F.cA, _, kitB_ok F.k2, .now q4⟩
        · rw [if_neg (by decide)]
          unfold w_law_account_right_b0_6
          walk_at "dl"
          refine ⟨_, _, rfl, clsIB_ok F.cL, _, kitB_ok F.k3, eq_li ?_⟩
          refine wEq_bl.mpr ?_
          refine ⟨_, rfl, ?_⟩
          rw [if_pos (by decide)]
          exact ⟨_, _, rfl, clsIB_ok F.cL, _, kitB_ok F.k4, .now q4⟩
        · rw [if_pos (by decide)]
          exact ⟨_, _, rfl, clsIB_ok F.cS, _, kitB_ok F.k5, .now q4⟩
  cases k
  · rw [if_neg (by decide)]; exact hset _ rfl
  · rw [if_pos (by decide)]; exact ⟨_, _, by rw [he3]; rfl, _, rfl, hset _ rfl⟩
  · rw [if_neg (by decide)]; exact hset _ rfl
/-! ### k41: the law -/
def lamQ : Str := "law" ++ ".<locals>." ++ "<lambda>"
/-- the draws' state and the lambdas' table stand -/
structure StK (C : CE) (a q : Addr) (cs : Cells) : Prop where
  ne : a ≠ q
  h : ∃ c1 c2, cs a = some c1 ∧ cs q = some c2 ∧ HOk q c1 c2
  t : cs C.T_law = some (.tl lamQ)
theorem StK.put2 {C : CE} {a q : Addr} {cs : Cells} {c1 c2 : CO} (s : StK C a q cs) (hH : HOk q c1 c2) : StK C a q ((cs.put a c1).put q c2) := by
  obtain ⟨d1, d2, h1, h2, m, i, ns, e1, e2, _⟩ := s.h
  have ta : C.T_law ≠ a := fun z => by have := s.t; rw [z, h1, e1] at this; cases this
  have tq : C.T_law ≠ q := fun z => by have := s.t; rw [z, h2, e2] at this; cases this
  exact ⟨s.ne, ⟨c1, c2, by rw [Cells.put_ne s.ne, Cells.put_same], Cells.put_same, hH⟩, by rw [Cells.put_ne tq, Cells.put_ne ta]; exact s.t⟩
theorem StK.put {C : CE} {a q e : Addr} {cs : Cells} {c : CO} (s : StK C a q cs) (ea : e ≠ a) (eq : e ≠ q) (et : e ≠ C.T_law) : StK C a q (cs.put e c) := by
  obtain ⟨d1, d2, h1, h2, hH⟩ := s.h
  exact ⟨s.ne, ⟨d1, d2, by rw [Cells.put_ne ea.symm]; exact h1, by rw [Cells.put_ne eq.symm]; exact h2, hH⟩, by rw [Cells.put_ne et.symm]; exact s.t⟩
theorem StK.fresh {C : CE} {a q e : Addr} {cs : Cells} (s : StK C a q cs) (h : cs e = none) : e ≠ a ∧ e ≠ q ∧ e ≠ C.T_law := by
  obtain ⟨d1, d2, h1, h2, hH⟩ := s.h
  exact ⟨fun z => (by rw [z, h1] at h; cases h), fun z => (by rw [z, h2] at h; cases h), fun z => (by rw [z, s.t] at h; cases h)⟩
theorem st_next {C : CE} {a q : Addr} {cs : Cells} {n : Int} {Q : Vl → Cells → Prop} {XP : DXP} (s : StK C a q cs) (h0 : 0 < n) (h1 : n ≤ 1000000000000000000000000000000) (p : ∀ r cs', 0 ≤ r → r < n → StK C a q cs' → Q (.int r) cs') : sp_law_next C [.cell a, .dat (.int n)] cs Q XP := by
  obtain ⟨c1, c2, ha, hq, hH⟩ := s.h
  exact ⟨a, q, n, c1, c2, rfl, s.ne, ha, hq, hH, h0, h1, fun r c1' c2' r0 r1 hH' => p r _ r0 r1 (s.put2 hH')⟩
theorem atI_mem {α : Type} {xs : List α} {i : Int} (h0 : 0 ≤ i) (h1 : i < xs.length) : ∃ x, atI xs i = some x ∧ x ∈ xs := by
  have : i.toNat < xs.length := by omega
  exact ⟨xs[i.toNat], atI_int h0 (List.getElem?_eq_getElem this), List.getElem_mem this⟩
def outW (K : Frag) (C : CE) (R0 : LamD.RL) : WE := (LamD.wOut R0 (sp_law_outcome K C) [fun W => (wCm C.Account 2 3 gd_Account_made_2_limit_balance_cycle (sp_Account_made C) (xw W) (wCons (wVar 3) (wCons (wVar 4) wNil)) (wCons (wVar 5) (wCons (wVar 6) (wCons (wVar 7) wNil))))] (LamD.wLamMk R0 C.T_law ("law" ++ ".<locals>." ++ "<lambda>") 0))
theorem out_gen {K : Frag} {C : CE} {R0 : LamD.RL} {ρ : DEnv} {cs : Cells} {P : Vl → Cells → Prop} {kd nm : Str} {bd wo wh : Int} (ht : cs C.T_law = some (.tl lamQ)) (h3 : ρ[3]? = some (some (.dat (.str kd)))) (h4 : ρ[4]? = some (some (.dat (.str nm)))) (h5 : ρ[5]? = some (some (.int bd))) (h6 : ρ[6]? = some (some (.int wo))) (h7 : ρ[7]? = some (some (.int wh)))
    (hk : PyData.strOk kd = true) (hn : nm.length ≤ 16777216) (h : ∀ (W : DXP) (P' : Vl → Cells → Prop), (∀ cls fs cs', (∃ D r, cls = .ref D ∧ OutOf K C D fs r ∧ P (.dat r) cs') → W cls fs cs') → (∀ v cs', (∃ d, v = .dat d ∧ P (.dat (.tup [.str "value", d])) cs') → P' v cs') → endR (madeR C kd nm bd wo wh) cs P' W) : outW K C R0 ρ cs P := by
  refine ⟨ht, fun φ ex hR => ⟨0, φ, ex, _, rfl, hR, rfl, fun W P' hW hP => ?_⟩⟩
  refine ⟨_, h3, _, h4, _, h5, _, h6, _, h7, rfl, rfl, .raw (.ref C.Account), kd, nm, bd, wo, wh, rfl, hk, hn, h W P' hW hP⟩
theorem out_err {K : Frag} {C : CE} {R0 : LamD.RL} {ρ : DEnv} {cs : Cells} {P : Vl → Cells → Prop} {kd nm : Str} {bd wo wh : Int} (ht : cs C.T_law = some (.tl lamQ)) (h3 : ρ[3]? = some (some (.dat (.str kd)))) (h4 : ρ[4]? = some (some (.dat (.str nm)))) (h5 : ρ[5]? = some (some (.int bd))) (h6 : ρ[6]? = some (some (.int wo))) (h7 : ρ[7]? = some (some (.int wh)))
    (hk : PyData.strOk kd = true) (hn : nm.length ≤ 16777216) {D : Addr} {fs : List (Str × Vl)} {r : Dat} (hm : madeR C kd nm bd wo wh = .error (D, fs)) (ho : OutOf K C D fs r) (p : P (.dat r) cs) : outW K C R0 ρ cs P :=
  out_gen ht h3 h4 h5 h6 h7 hk hn fun W P' hW hP => by rw [hm]; exact hW _ _ _ ⟨D, r, rfl, ho, p⟩
theorem out_ok {K : Frag} {C : CE} {R0 : LamD.RL} {ρ : DEnv} {cs : Cells} {P : Vl → Cells → Prop} {kd nm : Str} {bd wo wh : Int} (ht : cs C.T_law = some (.tl lamQ)) (h3 : ρ[3]? = some (some (.dat (.str kd)))) (h4 : ρ[4]? = some (some (.dat (.str nm)))) (h5 : ρ[5]? = some (some (.int bd))) (h6 : ρ[6]? = some (some (.int wo))) (h7 : ρ[7]? = some (some (.int wh)))
    (hk : PyData.strOk kd = true) (hn : nm.length ≤ 16777216) {d : Dat} (hm : madeR C kd nm bd wo wh = .ok d) (p : P (.dat (.tup [.str "value", d])) cs) : outW K C R0 ρ cs P :=
  out_gen ht h3 h4 h5 h6 h7 hk hn fun W P' hW hP => by rw [hm]; exact hP _ _ ⟨d, rfl, p⟩
/-- good names by comparing letters -/
def goodB (z : Str) : Bool := (decide (1 ≤ (z.length : Int)) && decide ((z.length : Int) ≤ 8)) && (z.cps.toList.filter fun c => !((!decide (((⟨#[c]⟩ : Str)).cps.toList < ("a" : Str).cps.toList)) && (!decide (("z" : Str).cps.toList < ((⟨#[c]⟩ : Str)).cps.toList)))).isEmpty
def names8 : List Str := ["bob", "a", "abcdefgh", "abcdefghi", "", "Bob", "b b", "b1"]
theorem names_ok : ∀ z ∈ names8, PyData.strOk z = true ∧ z.length ≤ 16777216 ∧ nameB z = goodB z := by decide +kernel
end DL
set_option maxRecDepth 100000
set_option maxHeartbeats 4000000
namespace DL
open PySem L2
local macro_rules | `(tactic| walk_at "dl") => `(tactic| simp only [wFldI, wConI, wPropI, wMethI, wMethX, wAlt, wAltS, wCallX, wRaise, wRaise1, wRaise2, wCm, wCm0, noX, xw, insD_obj, insD_cell, coIns_ins, wSt, wLenS, wAll, wCntF, wIdxF, wSplit, wTryAs, wAsD, unE, wIsE, wXf, wIsiO, LamD.wOut, LamD.wLamMk, LamD.wAct, Dat.str.injEq, Dat.obj.injEq, wAbs, wCatS, wExt, wListOf, wiStr, wFld, wSetF, wMeth, wMake, wGMeth, wGCall, wDNewK, wDNewT, CO.ins.injEq, CO.dk.injEq, CO.dt.injEq, Cells.put_put, wRet, wRetN, wSeq, wAsg, wIfS, wDrop, wNext, wVar, wC, wOp, wUn, wFn, wNil, wCons, wTest, wNot, wAnd, wOr, wAndV, wOrV, wNotV, wIf, wChain, wTup, wLst, wCall, wNever, gN, gT, gNil, gCons, gIx, wI, wI0, wNeg, wMax2, wMin2, wLen, wIsN, wNotN, isNon_non, isNon_bl, isNon_int, isNon_str, isNon_lst, isNon_tup, isNon_cell, wIx, wTuple, wAug, wAugIx, wPar, wPar3, wSlL, wSlT, wPart, wNoPart, wCatT, wIsi, wIsi2, isiT, tyD_non, tyD_bl, tyD_int, tyD_str, tyD_lst, tyD_tup, tyD_cell, coTy_lst, seqD_lst, seqD_tp, seqD_cell, coSeq_lst, seen_dat, seen_cell, coDat_lst, startD, wYes, wApp, wEq_int, wEq_bl, allDat_nil, allDat_cons, allDat_map, Option.map_some, List.map_cons, List.map_nil, List.cons_append, List.nil_append, List.length_cons, List.length_nil, List.replicate, List.getElem?_cons_zero, List.getElem?_cons_succ, List.set_cons_zero, List.set_cons_succ, Option.some.injEq, exists_eq_left', exists_eq_left, exists_and_left, exists_eq', exists_eq, Vl.dat.injEq, Vl.raw.injEq, V.ref.injEq, CO.lst.injEq, Dat.int.injEq, Dat.bl.injEq, Dat.tup.injEq, Dat.lst.injEq, List.cons.injEq, and_true, true_and, retE, Nat.reduceAdd, Nat.reduceSub, and_assoc, Prod.mk.injEq, if_true, if_false, Bool.false_eq_true, decide_eq_true_eq, Bool.not_true, Bool.not_false, Bool.not_eq_true', decide_eq_false_iff_not, if_false_left, if_false_right, beq_iff_eq, Bool.or_eq_true, Bool.and_eq_true, Bool.or_self, Bool.or_true, Bool.true_or, Bool.or_false, Bool.false_or, decide_true, decide_false, reduceCtorEq, Cells.put_same, gt_iff_lt, ge_iff_le, beq_self_eq_true, bne_self_eq_false, Bool.decide_eq_true, not_true_eq_false, not_false_eq_true, Decidable.not_not, false_and, and_false, Bool.not_eq_false, at_0, at_1, at_2, at_3, at_4, at_5, ix_0, ix_1, ix_2, ix_3, Nat.reduceLT, Int.reduceLT, Int.reduceLE, Int.reduceNeg, Int.reduceAdd, Int.reduceSub, Int.reduceEq, Int.reducePow, Int.reduceToNat, Cells.put_put])
def goodW : WE := (wAndV (wChain wLe wLe (wC (.int 1)) (wFn wLenS (wCons (wVar 4) wNil)) (wC (.int 8))) (wOp (wEqD false) (wLc (wiStr (wVar 4)) (gN 19) (wNot (wTest (wChain wStLe wStLe (wC (.str "a")) (wVar 19) (wC (.str "z"))))) (wVar 19) [19]) (wLst wNil)))
def badC (c : Nat) : Bool := !((!decide (((⟨#[c]⟩ : Str)).cps.toList < ("a" : Str).cps.toList)) && (!decide (("z" : Str).cps.toList < ((⟨#[c]⟩ : Str)).cps.toList)))
theorem goodB_eq (z : Str) : goodB z = ((decide (1 ≤ (z.length : Int)) && decide ((z.length : Int) ≤ 8)) && (z.cps.toList.filter badC).isEmpty) := rfl
theorem good_of {z : Str} {o0 o1 o2 o3 o5 o6 o7 o8 o9 o10 o11 o12 o13 o14 o15 o16 o17 o18 o19 : Option Vl} {cs : Cells} {P : Vl → Cells → Prop} (hs : PyData.strOk z = true) (hz : z.length ≤ 16777216) (p : P (.bl (goodB z)) cs) : goodW [o0, o1, o2, o3, some (.dat (.str z)), o5, o6, o7, o8, o9, o10, o11, o12, o13, o14, o15, o16, o17, o18, o19] cs P := by
  unfold goodW
  walk_at "dl"
  refine ⟨hz, ?_⟩
  have key : ∀ P : Vl → Cells → Prop, P (.dat (.lst ((z.cps.toList.filter badC).map fun c => .str ⟨#[c]⟩))) cs → wLc (wiStr (wVar 4)) (gN 19) (wNot (wTest (wChain wStLe wStLe (wC (.str "a")) (wVar 19) (wC (.str "z"))))) (wVar 19) [19] [o0, o1, o2, o3, some (.dat (.str z)), o5, o6, o7, o8, o9, o10, o11, o12, o13, o14, o15, o16, o17, o18, o19] cs P := by
    intro P p
    refine lc_pure (charsD z) (fun _ => True) (fun x => match x with | .dat (.str ⟨⟨[c]⟩⟩) => badC c | _ => false) (fun x => match x with | .dat d => d | _ => .non) (fun Pi h => ⟨_, rfl, z, rfl, h⟩) (fun _ _ => trivial) (by simpa [charsD, Str.length] using hz) ?_ ?_
    · intro x hx cs' B N hs hb
      obtain ⟨ch, -, rfl⟩ := List.mem_map.mp hx
      simp only [wipeD]
      walk_at "dl"
      have hb : if badC ch = true then B (.dat (.str ⟨#[ch]⟩)) cs' else N cs' := hb
      unfold badC at hb
      change if (!(!decide ([ch] < (Str.ofString "a").cps.toList) && !decide ((Str.ofString "z").cps.toList < [ch]))) = true then _ else _ at hb
      by_cases h1 : [ch] < (Str.ofString "a").cps.toList <;> by_cases h2 : (Str.ofString "z").cps.toList < [ch] <;> simp only [h1, h2, decide_true, decide_false, Bool.not_true, Bool.not_false, Bool.and_true, Bool.true_and, Bool.and_false, Bool.false_and, not_true_eq_false, not_false_eq_true, if_true, if_false, Bool.false_eq_true, Bool.true_eq_false] at hb ⊢ <;> exact hb
    · have e : ((charsD z).filter fun x => match x with | .dat (.str ⟨⟨[c]⟩⟩) => badC c | _ => false) = (z.cps.toList.filter badC).map fun c => .dat (.str ⟨#[c]⟩) := by
        unfold charsD
        rw [List.filter_map]
        rfl
      rw [e, List.map_map]
      exact p
  rw [goodB_eq] at p
  have lvc : ∀ c ∈ z.cps.toList, PyData.strOk ⟨#[c]⟩ = true := fun c hc => by
    unfold PyData.strOk at hs ⊢
    rw [Array.all_eq_true'] at hs
    have := hs c (Array.mem_def.mpr hc)
    simpa using this
  by_cases h1 : 1 ≤ (z.length : Int)
  · by_cases h8 : (z.length : Int) ≤ 8
    · rw [if_pos h1, if_pos h8]
      rw [decide_eq_true h1, decide_eq_true h8] at p
      refine key _ ?_
      refine ⟨by decide, .inr ⟨[], rfl, ?_⟩⟩
      have lvb : (Dat.lst ((z.cps.toList.filter badC).map fun c => .str ⟨#[c]⟩)).lv 1 := by
        refine ⟨?_, fun x hx => ?_⟩
        · rw [List.length_map]
          have := List.length_filter_le badC z.cps.toList
          have hz' : z.cps.toList.length ≤ 16777216 := by simpa [Str.length] using hz
          omega
        · obtain ⟨c, hc, rfl⟩ := List.mem_map.mp hx
          exact lvc c (List.mem_filter.mp hc).1
      refine wEq_of 1 (by decide) rfl rfl lvb lst_nil_lv (fun h => ?_) (fun h => ?_)
      · have : z.cps.toList.filter badC = [] := by
          have := Dat.lst.inj h
          exact List.map_eq_nil_iff.mp this
        rw [this] at p
        exact p
      · have hne : (z.cps.toList.filter badC).isEmpty = false := by
          cases e : z.cps.toList.filter badC with
          | nil => exact absurd (by rw [e]; rfl) h
          | cons _ _ => rfl
        rw [hne] at p
        exact p
    · rw [if_pos h1, if_neg h8]
      rw [decide_eq_true h1, decide_eq_false h8] at p
      exact p
  · rw [if_neg h1]
    rw [decide_eq_false h1] at p
    exact p
def ShK (x0 : Vl) (a : Addr) (ρ : DEnv) : Prop := ∃ y2 y3 y4 y5 y6 y7 y8 y9 y10 y11 y12 y13 y14 y15 y16 y17 y18 y19, ρ = [some x0, some (.cell a), y2, y3, y4, y5, y6, y7, y8, y9, y10, y11, y12, y13, y14, y15, y16, y17, y18, y19]
def kinds7 : List Str := ["limited", "limited", "limited", "open", "savings", "", "Open"]
theorem kinds_ok : ∀ z ∈ kinds7, PyData.strOk z = true := by decide +kernel
theorem turn_of {K : Frag} {C : CE} (F : KF K C) {R0 R1 : LamD.RL} {x0 : Vl} {a q : Addr} {cs : Cells} {D : DEnds} {ρ : DEnv} (sh : ShK x0 a ρ) (st : StK C a q cs) (p : ∀ ρ' cs', ShK x0 a ρ' → StK C a q cs' → D.nx ρ' cs') : w_law_b1_0 K C R0 R1 D ρ cs := by
  obtain ⟨y2, y3, y4, y5, y6, y7, y8, y9, y10, y11, y12, y13, y14, y15, y16, y17, y18, y19, rfl⟩ := sh
  unfold w_law_b1_0
  walk_at "dl"
  refine ⟨by decide, .inr ⟨kinds7.map .str, rfl, st_next st (by decide) (by decide) fun r cs1 r0 r1 st1 => ?_⟩⟩
  walk_at "dl"
  obtain ⟨x, hx, hm⟩ := atI_mem (xs := (kinds7.map Dat.str).map Vl.dat) r0 (by simpa [kinds7] using r1)
  rw [List.map_map] at hm
  obtain ⟨kd, hkd, rfl⟩ := List.mem_map.mp hm
  have hks := kinds_ok kd hkd
  refine ⟨_, hx, ?_⟩
  clear hx hm r0 r1 st
  unfold w_law_b1_1
  walk_at "dl"
  refine ⟨by decide, .inr ⟨names8.map .str, rfl, st_next st1 (by decide) (by decide) fun r cs2 r0 r1 st2 => st_next st2 (by decide) (by decide) fun r' cs3 r0' r1' st3 => ?_⟩⟩
  walk_at "dl"
  have hrr : 0 ≤ r * r' ∧ r * r' < 8 := by
    rcases (by omega : r' = 0 ∨ r' = 1) with rfl | rfl <;> omega
  obtain ⟨x, hx, hm⟩ := atI_mem (xs := (names8.map Dat.str).map Vl.dat) hrr.1 (by simpa [names8] using hrr.2)
  rw [List.map_map] at hm
  obtain ⟨nm, hnm, rfl⟩ := List.mem_map.mp hm
  obtain ⟨hns, hnl, hng⟩ := names_ok nm hnm
  refine ⟨mulR (by omega) (by omega), _, hx, ?_⟩
  clear hx hm r0 r1 r0' r1' hrr hnm hkd st1 st2
  unfold w_law_b1_2
  walk_at "dl"
  refine ⟨pow10 18 (by decide), pow10 18 (by decide), by decide, .inr ⟨[.int 0, .int 0, .int 5, .int 1000000000000000000, .int 1000000000000000001, .int (-1)], rfl, st_next st3 (by decide) (by decide) fun r cs4 r0 r1 st4 => ?_⟩⟩
  walk_at "dl"
  obtain ⟨x, hx, hm⟩ := atI_mem (xs := [Dat.int 0, .int 0, .int 5, .int 1000000000000000000, .int 1000000000000000001, .int (-1)].map Vl.dat) r0 (by simpa using r1)
  obtain ⟨bd, rfl⟩ : ∃ bd, x = .int bd := by
    simp only [List.map_cons, List.map_nil, List.mem_cons, List.not_mem_nil, or_false] at hm
    rcases hm with rfl | rfl | rfl | rfl | rfl | rfl <;> exact ⟨_, rfl⟩
  refine ⟨_, hx, ?_⟩
  clear hx hm r0 r1 st3
  unfold w_law_b1_3
  walk_at "dl"
  refine ⟨pow10 18 (by decide), by decide, .inr ⟨[.int 0, .int 7, .int (-5), .int (-6), .int (-1), .int (-1000000000000000001)], rfl, st_next st4 (by decide) (by decide) fun r cs5 r0 r1 st5 => ?_⟩⟩
  obtain ⟨x, hx, hm⟩ := atI_mem (xs := [Dat.int 0, .int 7, .int (-5), .int (-6), .int (-1), .int (-1000000000000000001)].map Vl.dat) r0 (by simpa using r1)
  obtain ⟨wo, rfl⟩ : ∃ bd, x = .int bd := by
    simp only [List.map_cons, List.map_nil, List.mem_cons, List.not_mem_nil, or_false] at hm
    rcases hm with rfl | rfl | rfl | rfl | rfl | rfl <;> exact ⟨_, rfl⟩
  refine ⟨true, _, rfl, r, rfl, .int wo, hx, st_next st5 (by decide) (by decide) fun w cs6 w0 w1 st6 => ⟨w, rfl, [.int wo, .int (1 + w)], rfl, by simp, rfl, _, _, rfl, _, _, rfl, rfl, ?_⟩⟩
  clear hx hm r0 r1 st4 st5
  have hw0 : 0 < 1 + w := by omega
  have hw1 : 1 + w ≤ 1000 := by omega
  generalize 1 + w = wh at hw0 hw1 ⊢
  unfold w_law_b1_4
  change wSeq (wAsg goodW _) _ _ _ _
  simp only [wSeq, wAsg]
  refine good_of hns hnl ?_
  simp only [gN]
  walk_at "dl"
  unfold w_law_b1_5
  walk_at "dl"
  refine ⟨nm, rfl, hnl, alike_bl hng ⟨true, rfl, ?_⟩⟩
  rw [if_neg (by decide)]
  clear w0 w1
  have tailE : ∀ (mo fl : Vl) (rs : List Dat) D' fs, madeR C kd nm bd wo wh = .error (D', fs) → OutOf K C D' fs (.tup rs) → (Dat.tup rs).lv 1 → (∃ f, fl = .dat f) → w_law_b1_9 K C R0 R1 D [some x0, some (.cell a), y2, some (.dat (.str kd)), some (.dat (.str nm)), some (.int bd), some (.int wo), some (.int wh), some (.bl (goodB nm)), some mo, some (.dat (.tup rs)), some fl, y12, y13, y14, y15, y16, y17, y18, y19] cs6 := by
    rintro mo fl rs D' fs hm ho hlv ⟨f, rfl⟩
    unfold w_law_b1_9
    change wSeq (wAsg (outW K C R0) _) _ _ _ _
    simp only [wSeq, wAsg]
    refine out_err st6.t rfl rfl rfl rfl rfl hks hnl hm ho ?_
    simp only [gN]
    walk_at "dl"
    unfold w_law_b1_10
    walk_at "dl"
    refine wEq_of 1 (by decide) rfl rfl hlv hlv (fun _ => ⟨false, rfl, ?_⟩) (fun z => absurd rfl z)
    rw [if_neg (by decide)]
    unfold w_law_b1_11
    walk_at "dl"
    refine ⟨by decide, .inr ⟨_, rfl, ?_⟩⟩
    unfold w_law_b1_12
    walk_at "dl"
    exact p _ _ ⟨_, _, _, _, _, _, _, _, _, _, _, _, _, _, _, _, _, _, rfl⟩ st6
  have tailO : ∀ (mo : Vl) (k : Kd), kd = k.str → madeR C kd nm bd wo wh = .ok (acctD C k nm bd wo wh) → w_law_b1_9 K C R0 R1 D [some x0, some (.cell a), y2, some (.dat (.str kd)), some (.dat (.str nm)), some (.int bd), some (.int wo), some (.int wh), some (.bl (goodB nm)), some mo, some (.dat .non), some (.dat (k.flD bd)), y12, y13, y14, y15, y16, y17, y18, y19] cs6 := by
    rintro mo k rfl hm
    unfold w_law_b1_9
    change wSeq (wAsg (outW K C R0) _) _ _ _ _
    simp only [wSeq, wAsg]
    refine out_ok st6.t rfl rfl rfl rfl rfl hks hnl hm ?_
    simp only [gN]
    walk_at "dl"
    unfold w_law_b1_10
    walk_at "dl"
    unfold w_law_b1_11
    walk_at "dl"
    refine ⟨by decide, .inl fun e he => ?_⟩
    obtain ⟨ea, eq, et⟩ := st6.fresh he
    unfold w_law_b1_12
    walk_at "dl"
    obtain ⟨c1, c2, ha, hq, hH⟩ := st6.h
    refine ⟨a, q, e, k, nm, bd, wo, wh, c1, c2, rfl, st6.ne, ea, eq, by rw [Cells.put_ne ea.symm]; exact ha, by rw [Cells.put_ne eq.symm]; exact hq, hH, Cells.put_same, hns, hw0, hw1, fun c1' c2' ce' hH' => ⟨true, rfl, ?_⟩⟩
    rw [if_neg (by decide)]
    exact p _ _ ⟨_, _, _, _, _, _, _, _, _, _, _, _, _, _, _, _, _, _, rfl⟩ (((st6.put ea eq et).put2 hH').put ea eq et)
  have step8 : ∀ (mo : Int) (fl : Dat), mo = (if kd = "limited" then 1000000000000000000 else 0) → fl = (if kd = "open" then .non else .int (0 - bd)) → w_law_b1_8 K C R0 R1 D [some x0, some (.cell a), y2, some (.dat (.str kd)), some (.dat (.str nm)), some (.int bd), some (.int wo), some (.int wh), some (.bl (goodB nm)), some (.int mo), some (.dat .non), some (.dat fl), y12, y13, y14, y15, y16, y17, y18, y19] cs6 := by
    intro mo fl hmo hfl
    unfold w_law_b1_8
    walk_at "dl"
    refine ⟨by decide, _, _, _, _, rfl, rfl, rfl, _, rfl, ?_⟩
    have hin : inV (.str kd) [.str "open", .str "limited", .str "savings"] = decide (kd = "open" ∨ kd = "limited" ∨ kd = "savings") := by
      unfold inV
      simp only [List.any_cons, List.any_nil, eqV, Bool.or_false]
      rw [Bool.eq_iff_iff]
      simp only [Bool.or_eq_true, beq_iff_eq, decide_eq_true_eq]
      exact ⟨fun h => h.imp Eq.symm (fun h => h.imp Eq.symm Eq.symm), fun h => h.imp Eq.symm (fun h => h.imp Eq.symm Eq.symm)⟩
    by_cases hk : kd = "open" ∨ kd = "limited" ∨ kd = "savings"
    · simp only [hin, decide_eq_true hk, Bool.not_true, Bool.false_eq_true, if_false, if_true]
      obtain ⟨k, rfl⟩ := kd_of hk
      have hM := @madeR_str C k nm bd wo wh
      have hmo' : mo = k.lim := by rw [hmo]; cases k <;> rfl
      have hfl' : fl = k.flD bd := by rw [hfl]; cases k <;> rfl
      clear hin hk hmo hfl
      subst hmo' hfl'
      have lvA : (Dat.tup [.str "amount"]).lv 1 := ⟨by decide, fun x hx => by
        simp only [List.mem_cons, List.not_mem_nil, or_false] at hx
        subst hx
        exact (by decide +kernel : PyData.strOk "amount" = true)⟩
      by_cases hg : goodB nm = false
      · rw [if_pos hg]
        refine ⟨by decide, tailE _ _ _ C.InvalidName [("name", .dat (.str nm))] (by rw [hM, if_neg (by rw [hng, hg]; decide)]) (.name (i := 4) (exOne_of F.nm).1 (by decide) rfl ((exOne_of F.nm).2 _ (by decide)) rfl) ⟨by simp, fun x hx => ?_⟩ ⟨_, rfl⟩⟩
        simp only [List.mem_cons, List.not_mem_nil, or_false] at hx
        rcases hx with rfl | rfl
        · exact (by decide +kernel : PyData.strOk "name" = true)
        · exact hns
      · rw [if_neg hg]
        have hgt : nameB nm = true := by rw [hng]; simpa using hg
        rw [if_pos hgt] at hM
        by_cases hb0 : 0 ≤ bd
        · rw [if_pos hb0]
          by_cases hb1 : bd ≤ k.lim
          · rw [if_neg (fun z => z hb1)]
            rw [if_pos ⟨hb0, hb1⟩] at hM
            have over : ∀ k' : Kd, k = k' → k' ≠ .op → wo < 0 - bd → w_law_b1_9 K C R0 R1 D [some x0, some (.cell a), y2, some (.dat (.str k.str)), some (.dat (.str nm)), some (.int bd), some (.int wo), some (.int wh), some (.bl (goodB nm)), some (.int k.lim), some (.dat (.tup [.str "overdrawn", .str nm, .non])), some (.dat (k.flD bd)), y12, y13, y14, y15, y16, y17, y18, y19] cs6 := by
              intro k' ek hop ho
              subst ek
              rw [if_pos ⟨hop, ho⟩] at hM
              refine tailE _ _ _ C.Overdrawn _ hM (.over (exOne_of F.ov).1 ((exOne_of F.ov).2 _ (by decide)) ((exOne_of F.ov).2 _ (by decide)) rfl rfl) ⟨by simp, fun x hx => ?_⟩ ⟨_, rfl⟩
              simp only [List.mem_cons, List.not_mem_nil, or_false] at hx
              rcases hx with rfl | rfl | rfl
              · exact (by decide +kernel : PyData.strOk "overdrawn" = true)
              · exact hns
              · exact trivial
            cases k
            · rw [if_neg (by simp [Kd.flD, isNon_non])]
              exact tailO _ .op rfl (by rw [hM, if_neg (by simp)])
            · rw [if_pos (by simp [Kd.flD, isNon_int])]
              refine ⟨0 - bd, rfl, ?_⟩
              by_cases ho : wo < 0 - bd
              · rw [if_pos ho]; exact ⟨by decide, over .li rfl (by simp) ho⟩
              · rw [if_neg ho]; exact tailO _ .li rfl (by rw [hM, if_neg (fun z => ho z.2)])
            · rw [if_pos (by simp [Kd.flD, isNon_int])]
              refine ⟨0 - bd, rfl, ?_⟩
              by_cases ho : wo < 0 - bd
              · rw [if_pos ho]; exact ⟨by decide, over .sa rfl (by simp) ho⟩
              · rw [if_neg ho]; exact tailO _ .sa rfl (by rw [hM, if_neg (fun z => ho z.2)])
          · rw [if_pos hb1]
            exact ⟨by decide, tailE _ _ _ C.InvalidAmount [] (by rw [hM, if_neg (fun z => hb1 z.2)]) (.plain (i := 2) (exOne_of F.am).1 (by decide) rfl) lvA ⟨_, rfl⟩⟩
        · rw [if_neg hb0]
          exact ⟨by decide, tailE _ _ _ C.InvalidAmount [] (by rw [hM, if_neg (fun z => hb0 z.1)]) (.plain (i := 2) (exOne_of F.am).1 (by decide) rfl) lvA ⟨_, rfl⟩⟩
    · simp only [hin, decide_eq_false hk, Bool.not_false, if_true]
      refine ⟨by decide, ?_⟩
      refine tailE _ _ _ C.UnknownKind [] (by unfold madeR; rw [if_neg hk]) (.plain (i := 14) (exOne_of F.uk).1 (by decide) rfl) ⟨by decide, fun x hx => ?_⟩ ⟨_, rfl⟩
      simp only [List.mem_cons, List.not_mem_nil, or_false] at hx
      subst hx
      exact (by decide +kernel : PyData.strOk "kind" = true)
  unfold w_law_b1_6
  walk_at "dl"
  have step7 : ∀ mo : Int, mo = (if kd = "limited" then 1000000000000000000 else 0) → w_law_b1_7 K C R0 R1 D [some x0, some (.cell a), y2, some (.dat (.str kd)), some (.dat (.str nm)), some (.int bd), some (.int wo), some (.int wh), some (.bl (goodB nm)), some (.int mo), y10, y11, y12, y13, y14, y15, y16, y17, y18, y19] cs6 := by
    intro mo hmo
    unfold w_law_b1_7
    walk_at "dl"
    refine wEq_str hks (by decide +kernel) ⟨_, rfl, ?_⟩
    by_cases ho : kd = "open"
    · rw [if_pos (by simp [ho])]
      exact step8 mo .non hmo (by rw [if_pos ho])
    · rw [if_neg (by simp [ho])]
      exact step8 mo (.int (0 - bd)) hmo (by rw [if_neg ho])
  refine wEq_str hks (by decide +kernel) ⟨_, rfl, ?_⟩
  by_cases ho : kd = "limited"
  · rw [if_pos (by simp [ho])]
    exact ⟨pow10 18 (by decide), step7 _ (by rw [if_pos ho])⟩
  · rw [if_neg (by simp [ho])]
    exact step7 0 (by rw [if_neg ho])
theorem madeOk (C : CE) (k : Kd) (n : Str) (hn : nameB n = true) : madeR C k.str n 0 0 1 = .ok (acctD C k n 0 0 1) := by
  rw [madeR_str, if_pos hn, if_pos ⟨by decide, by cases k <;> decide⟩, if_neg (fun z => absurd z.2 (by decide))]
theorem pure_law (K : Frag) (C : CE) (F : KF K C) (R0 R1 : LamD.RL) : ∀ xs cs Q XP, sp_law C xs cs Q XP → w_law K C R0 R1 (retE K Q) (startD 20 xs) cs := by
  rintro xs cs Q XP ⟨ns, rfl, hl, hT, q⟩
  unfold w_law w_law_b0_0
  walk_at "dl"
  refine ⟨ns, 41, rfl, hl, by decide, fun a q' c1 c2 hne ha hq hH => ?_⟩
  have st : StK C a q' ((cs.put q' c2).put a c1) := by
    have ta : C.T_law ≠ a := fun z => by rw [z, ha] at hT; cases hT
    have tq : C.T_law ≠ q' := fun z => by rw [z, hq] at hT; cases hT
    exact ⟨hne, ⟨c1, c2, Cells.put_same, by rw [Cells.put_ne hne.symm, Cells.put_same], hH⟩, by rw [Cells.put_ne ta, Cells.put_ne tq]; exact hT⟩
  generalize (cs.put q' c2).put a c1 = cs1 at st
  walk_at "dl"
  unfold w_law_b0_1
  have hturn := @turn_of K C F R0 R1 (.dat (.lst (iD ns))) a q'
  generalize w_law_b1_0 K C R0 R1 = B at hturn ⊢
  walk_at "dl"
  simp only [wFor, wiRng1]
  walk_at "dl"
  refine ⟨fun _ ρ cs' => ShK (.dat (.lst (iD ns))) a ρ ∧ StK C a q' cs', ⟨⟨_, _, _, _, _, _, _, _, _, _, _, _, _, _, _, _, _, _, rfl⟩, st⟩, fun _ _ _ _ _ => trivial, ?_, ?_⟩
  · rintro i x ρ cs' hx ⟨⟨y2, y3, y4, y5, y6, y7, y8, y9, y10, y11, y12, y13, y14, y15, y16, y17, y18, y19, rfl⟩, st⟩
    exact hturn ⟨_, _, _, _, _, _, _, _, _, _, _, _, _, _, _, _, _, _, rfl⟩ st fun ρ' cs' sh st => ⟨sh, st⟩
  · rintro ρ cs2 ⟨⟨y2, y3, y4, y5, y6, y7, y8, y9, y10, y11, y12, y13, y14, y15, y16, y17, y18, y19, rfl⟩, st2⟩
    unfold w_law_b0_2
    walk_at "dl"
    refine ⟨.raw (.ref C.Account), "open", "amy", 0, 0, 1, rfl, by decide +kernel, by decide +kernel, ?_⟩
    rw [show ("open" : Str) = Kd.op.str from rfl, madeOk C .op "amy" (by decide +kernel)]
    refine ⟨.raw (.ref C.Account), "limited", "bob", 0, 0, 1, rfl, by decide +kernel, by decide +kernel, ?_⟩
    rw [show ("limited" : Str) = Kd.li.str from rfl, madeOk C .li "bob" (by decide +kernel)]
    refine ⟨.raw (.ref C.Account), "savings", "cid", 0, 0, 1, rfl, by decide +kernel, by decide +kernel, ?_⟩
    rw [show ("savings" : Str) = Kd.sa.str from rfl, madeOk C .sa "cid" (by decide +kernel)]
    simp only [endR]
    unfold w_law_b0_3
    refine ⟨_, rfl, _, rfl, _, .op, _, 0, 0, 1, rfl, isAcct_dat, trivial, ?_⟩
    refine ⟨_, rfl, _, rfl, _, .op, _, 0, 0, 1, rfl, isAcct_dat, rfl, ?_⟩
    refine ⟨_, rfl, _, rfl, _, .li, _, 0, 0, 1, rfl, isAcct_dat, rfl, ?_⟩
    refine ⟨_, rfl, _, rfl, _, .li, _, 0, 0, 1, rfl, isAcct_dat, by simp, ?_⟩
    refine ⟨_, rfl, _, rfl, _, .sa, _, 0, 0, 1, rfl, isAcct_dat, trivial, ?_⟩
    refine ⟨by simp, .inr ⟨[.int 0, .non, .int 0, .int (0 - 0), .int 0], rfl, ?_⟩⟩
    refine ⟨by simp, .inr ⟨[.int 0, .non, .int 0, .int 0, .int 0], rfl, ?_⟩⟩
    refine ⟨_, _, .lst [.int 0, .non, .int 0, .int 0, .int 0], rfl, rfl, rfl, .inl ⟨by decide, fun x hx => ?_⟩, by decide, true, rfl, ?_⟩
    · simp only [List.mem_cons, List.not_mem_nil, or_false] at hx
      rcases hx with rfl | rfl | rfl | rfl | rfl <;> exact trivial
    simp only [Bool.not_true, Bool.false_eq_true, if_false, wNext]
    unfold w_law_b0_4
    walk_at "dl"
    refine st_next st2 (by decide) (by decide) fun r cs3 r0 r1 st3 => ?_
    walk_at "dl"
    refine ⟨st3.t, fun φ ex hR => ⟨0, φ, ex, rfl, hR, _, rfl, fun W P' hW hP => ?_⟩⟩
    refine ⟨1, rfl, rfl, rfl, .raw (.ref C.Account), "limited", "bob", 0, -1, 1, rfl, by decide +kernel, by decide +kernel, ?_⟩
    have hm : madeR C "limited" "bob" 0 (-1) 1 = .error (C.Overdrawn, [("day", .non), ("name", .dat (.str "bob"))]) := by
      rw [show ("limited" : Str) = Kd.li.str from rfl, madeR_str, if_pos (by decide +kernel), if_pos (by decide), if_pos (by decide)]
    rw [hm]
    refine hW _ _ _ ⟨C.Overdrawn, _, rfl, .over (n := .str "bob") (d := .non) (exOne_of F.ov).1 ((exOne_of F.ov).2 _ (by decide)) ((exOne_of F.ov).2 _ (by decide)) rfl rfl, ?_⟩
    unfold w_law_b0_5
    walk_at "dl"
    refine ⟨_, rfl, rfl, _, r - 500, "cid", 0, 0, 1, rfl, isAcct_dat, by decide, true, by rw [decide_eq_true (by omega : (r - 500) % 1 = 0)], ?_⟩
    rw [if_neg (by decide)]
    have lvO : (Dat.tup [.str "overdrawn", .str "bob", .non]).lv 1 := ⟨by decide, fun x hx => by
      simp only [List.mem_cons, List.not_mem_nil, or_false] at hx
      rcases hx with rfl | rfl | rfl
      · exact (by decide +kernel : PyData.strOk "overdrawn" = true)
      · exact (by decide +kernel : PyData.strOk "bob" = true)
      · exact trivial⟩
    refine ⟨by decide, wEq_of 1 (by decide) rfl rfl lvO lvO (fun _ => ⟨false, rfl, ?_⟩) (fun z => absurd rfl z)⟩
    rw [if_neg (by decide)]
    unfold w_law_b0_6
    walk_at "dl"
    have lvK : (Dat.lst [.str "open", .str "limited", .str "savings"]).lv 1 := ⟨by decide, fun x hx => by
      simp only [List.mem_cons, List.not_mem_nil, or_false] at hx
      rcases hx with rfl | rfl | rfl
      · exact (by decide +kernel : PyData.strOk "open" = true)
      · exact (by decide +kernel : PyData.strOk "limited" = true)
      · exact (by decide +kernel : PyData.strOk "savings" = true)⟩
    refine ⟨by decide, .inr ⟨_, rfl, by decide, .inr ⟨_, rfl, ?_⟩⟩⟩
    exact wEq_of 1 (by decide) rfl rfl lvK lvK (fun _ => .now (q _)) (fun z => absurd rfl z)
end DL
namespace Law
open PySem L2 DL GT
def top (i : Nat) : Stmt := PySem.Challenge.pw_standingorders_k41_accounts_of_all_kinds.main.body.getD i (.Pass ⟨0, 0, 0, 0⟩)
abbrev s_is_integer : Stmt := top 20
abbrev s_is_amount : Stmt := top 25
abbrev s_Account___init__ : Stmt := inClass (top 26) 1
abbrev s_Account_is_name : Stmt := inClass (top 26) 2
abbrev s_Account_allows : Stmt := inClass (top 26) 9
abbrev s_LimitedAccount_allows : Stmt := inClass (top 27) 3
abbrev s_Account_made : Stmt := inClass (top 26) 3
abbrev s_Account_account_name : Stmt := inClass (top 26) 4
abbrev s_Account_kind : Stmt := inClass (top 26) 5
abbrev s_Account_limit : Stmt := inClass (top 26) 6
abbrev s_LimitedAccount_limit : Stmt := inClass (top 27) 1
abbrev s_SavingsAccount_limit : Stmt := inClass (top 28) 1
abbrev s_Account_floor : Stmt := inClass (top 26) 7
abbrev s_LimitedAccount_floor : Stmt := inClass (top 27) 2
abbrev s_Account_balance : Stmt := inClass (top 26) 8
abbrev s_Account_may_withdraw : Stmt := inClass (top 26) 10
abbrev s_law_mix : Stmt := top 30
abbrev s_law_next : Stmt := top 31
abbrev s_law_alike : Stmt := top 32
abbrev s_law_outcome : Stmt := top 33
abbrev s_law_account_right : Stmt := top 34
abbrev s_law : Stmt := top 35
abbrev s_SavingsAccount_may_withdraw : Stmt := inClass (top 28) 2
abbrev s_XInvalidName : Stmt := inClass (top 5) 0
abbrev s_XOverdrawn : Stmt := inClass (top 8) 0
structure Bi (K : Frag) (mg : Str → Option Value) (C : CE) : Prop where
  b_ValueError : mg "ValueError" = none
  b_all : mg "all" = none
  b_bool : mg "bool" = none
  b_dict : mg "dict" = none
  b_int : mg "int" = none
  b_isinstance : mg "isinstance" = none
  b_len : mg "len" = none
  b_list : mg "list" = none
  b_max : mg "max" = none
  b_range : mg "range" = none
  b_str : mg "str" = none
  b_tuple : mg "tuple" = none
  g_LETTERS : ∃ t, mg "LETTERS" = some (.str "abcdefghijklmnopqrstuvwxyz" t)
  g_MAX_AMOUNT : ∃ t, mg "MAX_AMOUNT" = some (.int 1000000000000000000 t)
  g_MAX_LETTERS : ∃ t, mg "MAX_LETTERS" = some (.int 8 t)
  cl_Account : Cls K C.Account
  cl_LimitedAccount : Cls K C.LimitedAccount
  cl_SavingsAccount : Cls K C.SavingsAccount
  na_Account_amount : NoAttr K C.Account "amount"
  na_Account_credit : NoAttr K C.Account "credit"
  na_Account_cycle : NoAttr K C.Account "cycle"
  na_Account_title : NoAttr K C.Account "title"
  na_LimitedAccount_amount : NoAttr K C.LimitedAccount "amount"
  na_LimitedAccount_credit : NoAttr K C.LimitedAccount "credit"
  na_LimitedAccount_cycle : NoAttr K C.LimitedAccount "cycle"
  na_LimitedAccount_title : NoAttr K C.LimitedAccount "title"
  na_SavingsAccount_amount : NoAttr K C.SavingsAccount "amount"
  na_SavingsAccount_credit : NoAttr K C.SavingsAccount "credit"
  na_SavingsAccount_cycle : NoAttr K C.SavingsAccount "cycle"
  na_SavingsAccount_title : NoAttr K C.SavingsAccount "title"
  co_Account_KIND : ∃ uv, Con K C.Account "KIND" (.str "open") uv
  co_LimitedAccount_KIND : ∃ uv, Con K C.LimitedAccount "KIND" (.str "limited") uv
  co_SavingsAccount_KIND : ∃ uv, Con K C.SavingsAccount "KIND" (.str "savings") uv
  cv_Account_KIND : mg "Account" = some (.ref C.Account) ∧ ∃ mc uv, ClX.CRead K C.Account mc ∧ ClX.CVal K C.Account mc "KIND" (.str "open") uv
  cv_LimitedAccount_KIND : mg "LimitedAccount" = some (.ref C.LimitedAccount) ∧ ∃ mc uv, ClX.CRead K C.LimitedAccount mc ∧ ClX.CVal K C.LimitedAccount mc "KIND" (.str "limited") uv
  cv_SavingsAccount_KIND : mg "SavingsAccount" = some (.ref C.SavingsAccount) ∧ ∃ mc uv, ClX.CRead K C.SavingsAccount mc ∧ ClX.CVal K C.SavingsAccount mc "KIND" (.str "savings") uv
  gc_DuplicateName : mg "DuplicateName" = some (.ref C.DuplicateName)
  gc_Endless : mg "Endless" = some (.ref C.Endless)
  gc_InvalidAmount : mg "InvalidAmount" = some (.ref C.InvalidAmount)
  gc_InvalidCount : mg "InvalidCount" = some (.ref C.InvalidCount)
  gc_InvalidName : mg "InvalidName" = some (.ref C.InvalidName)
  gc_InvalidOperation : mg "InvalidOperation" = some (.ref C.InvalidOperation)
  gc_InvalidOrder : mg "InvalidOrder" = some (.ref C.InvalidOrder)
  gc_InvalidText : mg "InvalidText" = some (.ref C.InvalidText)
  gc_LimitedAccount : mg "LimitedAccount" = some (.ref C.LimitedAccount)
  gc_NotEmpty : mg "NotEmpty" = some (.ref C.NotEmpty)
  gc_OrderError : mg "OrderError" = some (.ref C.OrderError)
  gc_Overdrawn : mg "Overdrawn" = some (.ref C.Overdrawn)
  gc_SameAccount : mg "SameAccount" = some (.ref C.SameAccount)
  gc_SavingsAccount : mg "SavingsAccount" = some (.ref C.SavingsAccount)
  gc_TooManyAccounts : mg "TooManyAccounts" = some (.ref C.TooManyAccounts)
  gc_TooManyOrders : mg "TooManyOrders" = some (.ref C.TooManyOrders)
  gc_UnknownAccount : mg "UnknownAccount" = some (.ref C.UnknownAccount)
  gc_UnknownKind : mg "UnknownKind" = some (.ref C.UnknownKind)
  gc_UnknownOrder : mg "UnknownOrder" = some (.ref C.UnknownOrder)
  gc_WrongDay : mg "WrongDay" = some (.ref C.WrongDay)
  x0_InvalidAmount : Xc0 K mg "InvalidAmount" C.InvalidAmount
  x0_UnknownKind : Xc0 K mg "UnknownKind" C.UnknownKind
  kf : KF K C
section
variable {P : Program} {w : World} {K : Frag} {mg : Str → Option Value} {base : Heap} {C : CE}
theorem sc_is_integer : FnScope ["value"] ["value"] (defScope s_is_integer) := ⟨rfl, rfl, rfl, by decide +kernel, rfl, by decide +kernel, by decide +kernel⟩
theorem fo_is_integer {f : Addr} {fd : FuncData} (F : Fun K "is_integer" "is_integer" s_is_integer f fd) (B : Bi K mg C)  : FnOk P w K mg base CX0 1 f fd ["value"] (liftSp K sp_is_integer) :=
  fn_dataQ F sc_is_integer len_is_integer (fun cdv A outer s H E hr =>
      (dss_one (ds_ret (de_and (de_isi .int B.b_isinstance B.b_int (by decide +kernel) (de_var 0)) (de_one (de_not (de_isi .bool B.b_isinstance B.b_bool (by decide +kernel) (de_var 0)))))))) (fun xs cs Q XP h => pure_is_integer K xs cs Q XP h)
theorem sc_is_amount : FnScope ["amount", "low", "high"] ["amount", "low", "high"] (defScope s_is_amount) := ⟨rfl, rfl, rfl, by decide +kernel, rfl, by decide +kernel, by decide +kernel⟩
theorem fo_is_amount {f : Addr} {fd : FuncData} (F : Fun K "is_amount" "is_amount" s_is_amount f fd) (B : Bi K mg C) (G_is_integer : DOk P w K mg base CX0 "is_integer" ["value"] 1 sp_is_integer) : FnOk P w K mg base CX0 2 f fd ["amount", "low", "high"] (liftSp K (sp_is_amount C)) :=
  fn_dataQ F sc_is_amount len_is_amount (fun cdv A outer s H E hr =>
      (dss_one (ds_ret (de_and (de_call G_is_integer (hr.mono (by decide)) (da_cons (de_var 0) da_nil)) (de_one (de_chainD c_le c_le (de_var 1) (de_var 0) (de_var 2))))))) (fun xs cs Q XP h => pure_is_amount K C xs cs Q XP h)
theorem sc_Account___init__ : FnScope ["self", "name", "limit", "amount", "cycle"] ["self", "name", "limit", "amount", "cycle"] (defScope s_Account___init__) := ⟨rfl, rfl, rfl, by decide +kernel, rfl, by decide +kernel, by decide +kernel⟩
theorem fo_Account___init__ {f : Addr} {fd : FuncData} (F : Fun K "__init__" "Account.__init__" s_Account___init__ f fd) (B : Bi K mg C)  : FnOk P w K mg base CX0 1 f fd ["self", "name", "limit", "amount", "cycle"] (liftSp K (sp_Account___init__ C)) :=
  fn_dataQ F sc_Account___init__ len_Account___init__ (fun cdv A outer s H E hr =>
      (dss_cons (ds_alt (ds_fld B.cl_Account B.na_Account_title (de_var 0) (de_var 1)) (ds_alt (ds_fld B.cl_LimitedAccount B.na_LimitedAccount_title (de_var 0) (de_var 1)) (ds_fld B.cl_SavingsAccount B.na_SavingsAccount_title (de_var 0) (de_var 1))))
      (dss_cons (ds_alt (ds_fld B.cl_Account B.na_Account_credit (de_var 0) (de_var 2)) (ds_alt (ds_fld B.cl_LimitedAccount B.na_LimitedAccount_credit (de_var 0) (de_var 2)) (ds_fld B.cl_SavingsAccount B.na_SavingsAccount_credit (de_var 0) (de_var 2))))
      (dss_cons (ds_alt (ds_fld B.cl_Account B.na_Account_amount (de_var 0) (de_var 3)) (ds_alt (ds_fld B.cl_LimitedAccount B.na_LimitedAccount_amount (de_var 0) (de_var 3)) (ds_fld B.cl_SavingsAccount B.na_SavingsAccount_amount (de_var 0) (de_var 3))))
      (dss_one (ds_alt (ds_fld B.cl_Account B.na_Account_cycle (de_var 0) (de_var 4)) (ds_alt (ds_fld B.cl_LimitedAccount B.na_LimitedAccount_cycle (de_var 0) (de_var 4)) (ds_fld B.cl_SavingsAccount B.na_SavingsAccount_cycle (de_var 0) (de_var 4))))))))) (fun xs cs Q XP h => pure_Account___init__ K C xs cs Q XP h)
theorem sc_Account_is_name : FnScope ["name", "letter"] ["name"] (defScope s_Account_is_name) := ⟨rfl, rfl, rfl, by decide +kernel, rfl, by decide +kernel, by decide +kernel⟩
theorem fo_Account_is_name {f : Addr} {fd : FuncData} (F : Fun K "is_name" "Account.is_name" s_Account_is_name f fd) (B : Bi K mg C)  : FnOk P w K mg base CX0 1 f fd ["name"] (liftSp K (sp_Account_is_name C)) :=
  fn_dataQ F sc_Account_is_name len_Account_is_name (fun cdv A outer s H E hr =>
      (dss_one (ds_ret (de_and (de_chainD c_le c_le de_int (de_lenS B.b_len (da_cons (de_var 0) da_nil)) (de_gintE B.g_MAX_LETTERS)) (de_one (de_all rfl B.b_all (da_cons (de_lc (own := [("letter", 1)]) sc_Account_is_name.nd (di_str (de_var 0)) (blkOk_by (N := ["name", "letter"]) (sc := defScope s_Account_is_name) (by decide +kernel)) (fun _ _ _ _ _ => (dg_name (i := 1) sc_Account_is_name.nd)) (fun _ _ _ _ _ => dts_nil) (fun _ _ _ _ _ => (de_inS (de_var 1) (de_gstrE B.g_LETTERS))) (by decide)) da_nil))))))) (fun xs cs Q XP h => pure_Account_is_name K C xs cs Q XP h)
theorem sc_Account_allows : FnScope ["self", "amount"] ["self", "amount"] (defScope s_Account_allows) := ⟨rfl, rfl, rfl, by decide +kernel, rfl, by decide +kernel, by decide +kernel⟩
theorem fo_Account_allows {f : Addr} {fd : FuncData} (F : Fun K "allows" "Account.allows" s_Account_allows f fd) (B : Bi K mg C)  : FnOk P w K mg base CX0 1 f fd ["self", "amount"] (liftSp K (sp_Account_allows C)) :=
  fn_dataQ F sc_Account_allows len_Account_allows (fun cdv A outer s H E hr =>
      (dss_one (ds_ret de_bl))) (fun xs cs Q XP h => pure_Account_allows K C xs cs Q XP h)
theorem sc_LimitedAccount_allows : FnScope ["self", "amount"] ["self", "amount"] (defScope s_LimitedAccount_allows) := ⟨rfl, rfl, rfl, by decide +kernel, rfl, by decide +kernel, by decide +kernel⟩
theorem fo_LimitedAccount_allows {f : Addr} {fd : FuncData} (F : Fun K "allows" "LimitedAccount.allows" s_LimitedAccount_allows f fd) (B : Bi K mg C)  : FnOk P w K mg base CX0 1 f fd ["self", "amount"] (liftSp K (sp_LimitedAccount_allows C)) :=
  fn_dataQ F sc_LimitedAccount_allows len_LimitedAccount_allows (fun cdv A outer s H E hr =>
      (dss_one (ds_ret (de_cmpD c_ge (de_var 1) (de_sub de_int (de_alt (de_fldI B.cl_LimitedAccount B.na_LimitedAccount_credit (de_var 0)) (de_fldI B.cl_SavingsAccount B.na_SavingsAccount_credit (de_var 0)))))))) (fun xs cs Q XP h => pure_LimitedAccount_allows K C xs cs Q XP h)
theorem sc_Account_made : FnScope ["cls", "kind", "name", "limit", "balance", "cycle", "account"] ["cls", "kind", "name", "limit", "balance", "cycle"] (defScope s_Account_made) := ⟨rfl, rfl, rfl, by decide +kernel, rfl, by decide +kernel, by decide +kernel⟩
theorem fo_Account_made {f : Addr} {fd : FuncData} (F : Fun K "made" "Account.made" s_Account_made f fd) (B : Bi K mg C) (G_Account_is_name : DStok P w K mg base "Account" C.Account "is_name" ["name"] 1 (sp_Account_is_name C)) (GX_InvalidName : Xc1 P w K mg base "InvalidName" C.InvalidName "name") (G_is_amount : DOk P w K mg base CX0 "is_amount" ["amount", "low", "high"] 2 (sp_is_amount C)) (G_LimitedAccount___init__ : DKok P w K mg base C.LimitedAccount "LimitedAccount" ["self", "name", "limit", "amount", "cycle"] 1 (sp_Account___init__ C)) (G_SavingsAccount___init__ : DKok P w K mg base C.SavingsAccount "SavingsAccount" ["self", "name", "limit", "amount", "cycle"] 1 (sp_Account___init__ C)) (G_Account___init__ : DKok P w K mg base C.Account "Account" ["self", "name", "limit", "amount", "cycle"] 1 (sp_Account___init__ C)) (G_Account_allows : DMok P w K mg base C.Account "allows" ["self", "amount"] 1 (sp_Account_allows C)) (G_LimitedAccount_allows : DMok P w K mg base C.LimitedAccount "allows" ["self", "amount"] 1 (sp_LimitedAccount_allows C)) (G_SavingsAccount_allows : DMok P w K mg base C.SavingsAccount "allows" ["self", "amount"] 1 (sp_LimitedAccount_allows C)) (GX_Overdrawn : Xc2 P w K mg base "Overdrawn" C.Overdrawn "name" "day") : FnOk P w K mg base (L2.CX P w) 3 f fd ["cls", "kind", "name", "limit", "balance", "cycle"] (liftSp K (sp_Account_made C)) :=
  fn_dataX (ws := fun W0 => w_Account_made K C W0) F sc_Account_made len_Account_made (fun cdv A outer s H E hr M0 W0 tk =>
      (dss_cons0 (ds_if0 (DT.d0 (dt_notin (de_var 1) (de_tup (da_cons (de_cvalE B.cv_Account_KIND (fun _ => .str _)) (da_cons (de_cvalE B.cv_LimitedAccount_KIND (fun _ => .str _)) (da_cons (de_cvalE B.cv_SavingsAccount_KIND (fun _ => .str _)) da_nil)))))) (dss_one0 (ds_raise0 B.x0_UnknownKind tk)) (DSs.d0 dss_nil))
      (dss_cons0 (ds_if0 (DT.d0 (dt_not (dt_val (de_static G_Account_is_name (hr.mono (by decide)) (da_cons (de_var 2) da_nil))))) (dss_one0 (ds_raise1 GX_InvalidName tk (hr.mono (by decide)) (DE.d0 (de_var 2)))) (DSs.d0 dss_nil))
      (dss_cons0 (ds_if0 (DT.d0 (dt_not (dt_val (de_call G_is_amount (hr.mono (by decide)) (da_cons (de_var 3) (da_cons de_int (da_cons (de_if (dt_cmpD (c_eq hr.units) (de_var 1) (de_cvalE B.cv_LimitedAccount_KIND (fun _ => .str _))) (de_gintE B.g_MAX_AMOUNT) de_int) da_nil))))))) (dss_one0 (ds_raise0 B.x0_InvalidAmount tk)) (DSs.d0 dss_nil))
      (dss_cons0 (DS.d0 (ds_if (dt_cmpD (c_eq hr.units) (de_var 1) (de_cvalE B.cv_LimitedAccount_KIND (fun _ => .str _))) (dss_one (ds_set (i := 6) sc_Account_made.nd (de_makeD G_LimitedAccount___init__ (hr.mono (by decide)) (da_cons (de_var 2) (da_cons (de_var 3) (da_cons (de_var 4) (da_cons (de_var 5) da_nil))))))) (dss_one (ds_if (dt_cmpD (c_eq hr.units) (de_var 1) (de_cvalE B.cv_SavingsAccount_KIND (fun _ => .str _))) (dss_one (ds_set (i := 6) sc_Account_made.nd (de_makeD G_SavingsAccount___init__ (hr.mono (by decide)) (da_cons (de_var 2) (da_cons (de_var 3) (da_cons (de_var 4) (da_cons (de_var 5) da_nil))))))) (dss_one (ds_set (i := 6) sc_Account_made.nd (de_makeD G_Account___init__ (hr.mono (by decide)) (da_cons (de_var 2) (da_cons (de_var 3) (da_cons (de_var 4) (da_cons (de_var 5) da_nil)))))))))))
      (dss_cons0 (ds_if0 (DT.d0 (dt_not (dt_val (de_alt (de_methI G_Account_allows (hr.mono (by decide)) (de_var 6) (da_cons (de_var 4) da_nil)) (de_alt (de_methI G_LimitedAccount_allows (hr.mono (by decide)) (de_var 6) (da_cons (de_var 4) da_nil)) (de_methI G_SavingsAccount_allows (hr.mono (by decide)) (de_var 6) (da_cons (de_var 4) da_nil))))))) (dss_one0 (ds_raise2 GX_Overdrawn tk (hr.mono (by decide)) (DE.d0 (de_var 2)) (DE.d0 de_non))) (DSs.d0 dss_nil))
      (dss_one0 (DS.d0 (ds_ret (de_var 6)))))))))) (fun xs cs Q XP h => pure_Account_made K C xs cs Q XP h)
theorem sc_Account_account_name : FnScope ["self"] ["self"] (defScope s_Account_account_name) := ⟨rfl, rfl, rfl, by decide +kernel, rfl, by decide +kernel, by decide +kernel⟩
theorem fo_Account_account_name {f : Addr} {fd : FuncData} (F : Fun K "account_name" "Account.account_name" s_Account_account_name f fd) (B : Bi K mg C)  : FnOk P w K mg base CX0 1 f fd ["self"] (liftSp K (sp_Account_account_name C)) :=
  fn_dataQ F sc_Account_account_name len_Account_account_name (fun cdv A outer s H E hr =>
      (dss_one (ds_ret (de_alt (de_fldI B.cl_Account B.na_Account_title (de_var 0)) (de_alt (de_fldI B.cl_LimitedAccount B.na_LimitedAccount_title (de_var 0)) (de_fldI B.cl_SavingsAccount B.na_SavingsAccount_title (de_var 0))))))) (fun xs cs Q XP h => pure_Account_account_name K C xs cs Q XP h)
theorem sc_Account_kind : FnScope ["self"] ["self"] (defScope s_Account_kind) := ⟨rfl, rfl, rfl, by decide +kernel, rfl, by decide +kernel, by decide +kernel⟩
theorem fo_Account_kind {f : Addr} {fd : FuncData} (F : Fun K "kind" "Account.kind" s_Account_kind f fd) (B : Bi K mg C)  : FnOk P w K mg base CX0 1 f fd ["self"] (liftSp K (sp_Account_kind C)) :=
  fn_dataQ F sc_Account_kind len_Account_kind (fun cdv A outer s H E hr =>
      (dss_one (ds_ret (de_alt (de_conIE B.cl_Account B.co_Account_KIND (fun _ => .str _) (de_var 0)) (de_alt (de_conIE B.cl_LimitedAccount B.co_LimitedAccount_KIND (fun _ => .str _) (de_var 0)) (de_conIE B.cl_SavingsAccount B.co_SavingsAccount_KIND (fun _ => .str _) (de_var 0))))))) (fun xs cs Q XP h => pure_Account_kind K C xs cs Q XP h)
theorem sc_Account_limit : FnScope ["self"] ["self"] (defScope s_Account_limit) := ⟨rfl, rfl, rfl, by decide +kernel, rfl, by decide +kernel, by decide +kernel⟩
theorem fo_Account_limit {f : Addr} {fd : FuncData} (F : Fun K "limit" "Account.limit" s_Account_limit f fd) (B : Bi K mg C)  : FnOk P w K mg base CX0 1 f fd ["self"] (liftSp K (sp_Account_limit C)) :=
  fn_dataQ F sc_Account_limit len_Account_limit (fun cdv A outer s H E hr =>
      (dss_one (ds_ret de_non))) (fun xs cs Q XP h => pure_Account_limit K C xs cs Q XP h)
theorem sc_LimitedAccount_limit : FnScope ["self"] ["self"] (defScope s_LimitedAccount_limit) := ⟨rfl, rfl, rfl, by decide +kernel, rfl, by decide +kernel, by decide +kernel⟩
theorem fo_LimitedAccount_limit {f : Addr} {fd : FuncData} (F : Fun K "limit" "LimitedAccount.limit" s_LimitedAccount_limit f fd) (B : Bi K mg C)  : FnOk P w K mg base CX0 1 f fd ["self"] (liftSp K (sp_LimitedAccount_limit C)) :=
  fn_dataQ F sc_LimitedAccount_limit len_LimitedAccount_limit (fun cdv A outer s H E hr =>
      (dss_one (ds_ret (de_fldI B.cl_LimitedAccount B.na_LimitedAccount_credit (de_var 0))))) (fun xs cs Q XP h => pure_LimitedAccount_limit K C xs cs Q XP h)
theorem sc_SavingsAccount_limit : FnScope ["self"] ["self"] (defScope s_SavingsAccount_limit) := ⟨rfl, rfl, rfl, by decide +kernel, rfl, by decide +kernel, by decide +kernel⟩
theorem fo_SavingsAccount_limit {f : Addr} {fd : FuncData} (F : Fun K "limit" "SavingsAccount.limit" s_SavingsAccount_limit f fd) (B : Bi K mg C)  : FnOk P w K mg base CX0 1 f fd ["self"] (liftSp K (sp_SavingsAccount_limit C)) :=
  fn_dataQ F sc_SavingsAccount_limit len_SavingsAccount_limit (fun cdv A outer s H E hr =>
      (dss_one (ds_ret de_non))) (fun xs cs Q XP h => pure_SavingsAccount_limit K C xs cs Q XP h)
theorem sc_Account_floor : FnScope ["self"] ["self"] (defScope s_Account_floor) := ⟨rfl, rfl, rfl, by decide +kernel, rfl, by decide +kernel, by decide +kernel⟩
theorem fo_Account_floor {f : Addr} {fd : FuncData} (F : Fun K "floor" "Account.floor" s_Account_floor f fd) (B : Bi K mg C)  : FnOk P w K mg base CX0 1 f fd ["self"] (liftSp K (sp_Account_floor C)) :=
  fn_dataQ F sc_Account_floor len_Account_floor (fun cdv A outer s H E hr =>
      (dss_one (ds_ret de_non))) (fun xs cs Q XP h => pure_Account_floor K C xs cs Q XP h)
theorem sc_LimitedAccount_floor : FnScope ["self"] ["self"] (defScope s_LimitedAccount_floor) := ⟨rfl, rfl, rfl, by decide +kernel, rfl, by decide +kernel, by decide +kernel⟩
theorem fo_LimitedAccount_floor {f : Addr} {fd : FuncData} (F : Fun K "floor" "LimitedAccount.floor" s_LimitedAccount_floor f fd) (B : Bi K mg C)  : FnOk P w K mg base CX0 1 f fd ["self"] (liftSp K (sp_LimitedAccount_floor C)) :=
  fn_dataQ F sc_LimitedAccount_floor len_LimitedAccount_floor (fun cdv A outer s H E hr =>
      (dss_one (ds_ret (de_sub de_int (de_alt (de_fldI B.cl_LimitedAccount B.na_LimitedAccount_credit (de_var 0)) (de_fldI B.cl_SavingsAccount B.na_SavingsAccount_credit (de_var 0))))))) (fun xs cs Q XP h => pure_LimitedAccount_floor K C xs cs Q XP h)
theorem sc_Account_balance : FnScope ["self"] ["self"] (defScope s_Account_balance) := ⟨rfl, rfl, rfl, by decide +kernel, rfl, by decide +kernel, by decide +kernel⟩
theorem fo_Account_balance {f : Addr} {fd : FuncData} (F : Fun K "balance" "Account.balance" s_Account_balance f fd) (B : Bi K mg C)  : FnOk P w K mg base CX0 1 f fd ["self"] (liftSp K (sp_Account_balance C)) :=
  fn_dataQ F sc_Account_balance len_Account_balance (fun cdv A outer s H E hr =>
      (dss_one (ds_ret (de_alt (de_fldI B.cl_Account B.na_Account_amount (de_var 0)) (de_alt (de_fldI B.cl_LimitedAccount B.na_LimitedAccount_amount (de_var 0)) (de_fldI B.cl_SavingsAccount B.na_SavingsAccount_amount (de_var 0))))))) (fun xs cs Q XP h => pure_Account_balance K C xs cs Q XP h)
theorem sc_Account_may_withdraw : FnScope ["self", "day"] ["self", "day"] (defScope s_Account_may_withdraw) := ⟨rfl, rfl, rfl, by decide +kernel, rfl, by decide +kernel, by decide +kernel⟩
theorem fo_Account_may_withdraw {f : Addr} {fd : FuncData} (F : Fun K "may_withdraw" "Account.may_withdraw" s_Account_may_withdraw f fd) (B : Bi K mg C)  : FnOk P w K mg base CX0 1 f fd ["self", "day"] (liftSp K (sp_Account_may_withdraw C)) :=
  fn_dataQ F sc_Account_may_withdraw len_Account_may_withdraw (fun cdv A outer s H E hr =>
      (dss_one (ds_ret de_bl))) (fun xs cs Q XP h => pure_Account_may_withdraw K C xs cs Q XP h)
theorem sc_law_mix : FnScope ["_law_script", "_law_seed", "_law_mixed", "_law_cell"] ["_law_script", "_law_seed"] (defScope s_law_mix) := ⟨rfl, rfl, rfl, by decide +kernel, rfl, by decide +kernel, by decide +kernel⟩
theorem fo_law_mix {f : Addr} {fd : FuncData} (F : Fun K "_law_mix" "_law_mix" s_law_mix f fd) (B : Bi K mg C)  : FnOk P w K mg base CX0 1 f fd ["_law_script", "_law_seed"] (liftSp K (sp_law_mix C)) :=
  fn_dataQ F sc_law_mix len_law_mix (fun cdv A outer s H E hr =>
      (dss_cons (ds_set (i := 2) sc_law_mix.nd (de_var 1))
      (dss_cons (ds_for (di_seq (de_var 0)) (dg_name (i := 3) sc_law_mix.nd) (dss_one (ds_set (i := 2) sc_law_mix.nd (de_mod (de_add (de_add (de_mul (de_var 2) de_int) (de_mod (de_var 3) de_int)) de_int) de_int))))
      (dss_one (ds_ret (de_lst (da_cons (de_var 2) (da_cons (de_list B.b_list (da_cons (de_var 0) da_nil)) (da_cons de_int da_nil))))))))) (fun xs cs Q XP h => pure_law_mix K C xs cs Q XP h)
theorem sc_law_next : FnScope ["_law_h", "_law_bound", "_law_cell"] ["_law_h", "_law_bound"] (defScope s_law_next) := ⟨rfl, rfl, rfl, by decide +kernel, rfl, by decide +kernel, by decide +kernel⟩
theorem fo_law_next {f : Addr} {fd : FuncData} (F : Fun K "_law_next" "_law_next" s_law_next f fd) (B : Bi K mg C)  : FnOk P w K mg base CX0 1 f fd ["_law_h", "_law_bound"] (liftSp K (sp_law_next C)) :=
  fn_dataQ F sc_law_next len_law_next (fun cdv A outer s H E hr =>
      (dss_cons (ds_set (i := 2) sc_law_next.nd (de_ix (de_catS (de_ix (de_var 0) de_int) (de_lst (da_cons de_int da_nil))) (de_mod (de_ix (de_var 0) de_int) (de_max2 rfl B.b_max (da_cons de_int (da_cons (de_len B.b_len (da_cons (de_ix (de_var 0) de_int) da_nil)) da_nil))))))
      (dss_cons (ds_if (dt_cmpD c_ge (de_var 2) (de_pow de_int de_int)) (dss_cons (ds_asg (de_div (de_var 2) (de_var 1)) (dg_ix (de_ix (de_var 0) de_int) (de_mod (de_ix (de_var 0) de_int) (de_len B.b_len (da_cons (de_ix (de_var 0) de_int) da_nil)))))
      (dss_one (ds_ret (de_mod (de_var 2) (de_var 1))))) dss_nil)
      (dss_cons (ds_asg (de_mod (de_add (de_add (de_mul (de_ix (de_var 0) de_int) de_int) (de_mul (de_var 2) de_int)) de_int) de_int) (dg_ix (de_var 0) de_int))
      (dss_cons (ds_asg (de_add (de_ix (de_var 0) de_int) de_int) (dg_ix (de_var 0) de_int))
      (dss_one (ds_ret (de_mod (de_div (de_ix (de_var 0) de_int) de_int) (de_var 1))))))))) (fun xs cs Q XP h => pure_law_next K C xs cs Q XP h)
theorem sc_law_alike : FnScope ["_law_found", "_law_due", "_law_k"] ["_law_found", "_law_due"] (defScope s_law_alike) := ⟨rfl, rfl, rfl, by decide +kernel, rfl, by decide +kernel, by decide +kernel⟩
theorem step_law_alike {f : Addr} {fd : FuncData} (F : Fun K "_law_alike" "_law_alike" s_law_alike f fd) {k : Nat} {n : Nat} (hk : 0 ≤ k) (hm : mg "_law_alike" = some (.ref f)) (B : Bi K mg C)  (R : DOk P w K mg base CX0 "_law_alike" ["_law_found", "_law_due"] k (sp_law_alike C n)) : DOk P w K mg base CX0 "_law_alike" ["_law_found", "_law_due"] (k + 1) (sp_law_alike C (n + 1)) :=
  ⟨f, fd, fn_dataQ F sc_law_alike len_law_alike (fun cdv A outer s H E hr =>
      (dss_cons (ds_if (dt_val (de_isi .dict B.b_isinstance B.b_dict (by decide +kernel) (de_var 1))) (dss_one ds_never) dss_nil)
      (dss_cons (ds_if (dt_val (de_isi2 .tuple .list B.b_isinstance B.b_tuple B.b_list (by decide +kernel) (by decide +kernel) (de_var 1))) (dss_cons (ds_if (DW.dt (dw_or (dt_not (dt_val (de_isi2 .tuple .list B.b_isinstance B.b_tuple B.b_list (by decide +kernel) (by decide +kernel) (de_var 0)))) (dw_or1 (dt_cmpD (c_ne hr.units) (de_isi .list B.b_isinstance B.b_list (by decide +kernel) (de_var 0)) (de_isi .list B.b_isinstance B.b_list (by decide +kernel) (de_var 1)))))) (dss_one (ds_ret de_bl)) dss_nil)
      (dss_cons (ds_if (dt_cmpD (c_ne hr.units) (de_len B.b_len (da_cons (de_var 0) da_nil)) (de_len B.b_len (da_cons (de_var 1) da_nil))) (dss_one (ds_ret de_bl)) dss_nil)
      (dss_one (ds_ret (de_cmpD (c_eq hr.units) (de_lc (own := [("_law_k", 2)]) sc_law_alike.nd (di_range1 B.b_range (da_cons (de_len B.b_len (da_cons (de_var 1) da_nil)) da_nil)) (blkOk_by (N := ["_law_found", "_law_due", "_law_k"]) (sc := defScope s_law_alike) (by decide +kernel)) (fun _ _ _ _ _ => (dg_name (i := 2) sc_law_alike.nd)) (fun _ _ _ _ _ => (dts_one (dt_not (dt_val (de_call R hr (da_cons (de_ix (de_var 0) (de_var 2)) (da_cons (de_ix (de_var 1) (de_var 2)) da_nil))))))) (fun _ _ _ _ _ => (de_var 2)) (by decide)) (de_lst da_nil)))))) dss_nil)
      (dss_cons (ds_if (DW.dt (dw_or (dt_cmpD c_isN (de_var 1) de_non) (dw_or1 (dt_val (de_isi .str B.b_isinstance B.b_str (by decide +kernel) (de_var 1)))))) (dss_one (ds_ret (de_and (de_cmpD (c_eq hr.units) (de_var 0) (de_var 1)) (de_one (de_cmpD (c_eq hr.units) (de_isi .str B.b_isinstance B.b_str (by decide +kernel) (de_var 0)) (de_isi .str B.b_isinstance B.b_str (by decide +kernel) (de_var 1))))))) dss_nil)
      (dss_one (ds_ret (de_and (de_isi .int B.b_isinstance B.b_int (by decide +kernel) (de_var 0)) (de_and (de_cmpD (c_eq hr.units) (de_isi .bool B.b_isinstance B.b_bool (by decide +kernel) (de_var 0)) (de_isi .bool B.b_isinstance B.b_bool (by decide +kernel) (de_var 1))) (de_one (de_cmpD (c_eq hr.units) (de_var 0) (de_var 1))))))))))) (fun xs cs Q XP h => pure_law_alike K C n xs cs Q XP h), hm, F.kp, F.binds (ps := ["_law_found", "_law_due"]) (fun _ _ _ _ _ _ us hl => match us, hl with | [_, _], _ => rfl)⟩
theorem ok_law_alike {f : Addr} {fd : FuncData} (F : Fun K "_law_alike" "_law_alike" s_law_alike f fd) (hm : mg "_law_alike" = some (.ref f)) (B : Bi K mg C)  : DOk P w K mg base CX0 "_law_alike" ["_law_found", "_law_due"] 4 (sp_law_alike C 4) := by
  have R0 : DOk P w K mg base CX0 "_law_alike" ["_law_found", "_law_due"] 0 (sp_law_alike C 0) := ⟨f, fd, never_fn never_law_alike, hm, F.kp, F.binds (ps := ["_law_found", "_law_due"]) (fun _ _ _ _ _ _ us hl => match us, hl with | [_, _], _ => rfl)⟩
  have R1 : DOk P w K mg base CX0 "_law_alike" ["_law_found", "_law_due"] 1 (sp_law_alike C 1) := step_law_alike F (by decide) hm B  R0
  have R2 : DOk P w K mg base CX0 "_law_alike" ["_law_found", "_law_due"] 2 (sp_law_alike C 2) := step_law_alike F (by decide) hm B  R1
  have R3 : DOk P w K mg base CX0 "_law_alike" ["_law_found", "_law_due"] 3 (sp_law_alike C 3) := step_law_alike F (by decide) hm B  R2
  have R4 : DOk P w K mg base CX0 "_law_alike" ["_law_found", "_law_due"] 4 (sp_law_alike C 4) := step_law_alike F (by decide) hm B  R3
  exact R4
theorem sc_law_outcome : FnScope ["_law_call", "e", "_law_kinds", "_law_words", "_law_word"] ["_law_call"] (defScope s_law_outcome) := ⟨rfl, rfl, rfl, by decide +kernel, rfl, by decide +kernel, by decide +kernel⟩
theorem ok_law_outcome {f : Addr} {fd : FuncData} (F : Fun K "_law_outcome" "_law_outcome" s_law_outcome f fd) (hm : mg "_law_outcome" = some (.ref f)) (B : Bi K mg C)  : LamD.OutF P w K mg base "_law_outcome" "_law_call" (sp_law_outcome K C) :=
  ⟨s_law_outcome, f, fd, ["_law_call", "e", "_law_kinds", "_law_words", "_law_word"], fun φ ex tl => w_law_outcome K C φ ex tl, F, sc_law_outcome, hm, F.binds (ps := ["_law_call"]) (fun _ _ _ _ _ _ us hl => match us, hl with | [_], _ => rfl), rfl, .inl rfl,
    fun cdv A outer s H M0 φ ex tl hr act => (dss_one0 (ds_tryAs (i := 1) sc_law_outcome.nd ⟨by rfl, by decide, .inl B.gc_OrderError⟩ tk0 (fun M1 W1 pn xe sm1 tk1 po1 => (dss_one0 (ds_ret0 (de_tup0 (da_cons0 (DE.d0 de_str) (da_cons0 (act _ _ _ _ _ _ sm1 tk1) (DA.d0 da_nil))))))) (fun a oe cls d pn M1 fs sm1 hz hf xr => (dss_cons0 (ds_set0 (i := 2) sc_law_outcome.nd (de_lst0 (da_cons0 (de_isE hz hf xr B.b_isinstance B.gc_DuplicateName (DE.d0 (de_var 1))) (da_cons0 (de_isE hz hf xr B.b_isinstance B.gc_Endless (DE.d0 (de_var 1))) (da_cons0 (de_isE hz hf xr B.b_isinstance B.gc_InvalidAmount (DE.d0 (de_var 1))) (DA.d0 da_nil))))))
      (dss_cons0 (ds_expr0 (de_extend0 (DE.d0 (de_var 2)) (de_lst0 (da_cons0 (de_isE hz hf xr B.b_isinstance B.gc_InvalidCount (DE.d0 (de_var 1))) (da_cons0 (de_isE hz hf xr B.b_isinstance B.gc_InvalidName (DE.d0 (de_var 1))) (da_cons0 (de_isE hz hf xr B.b_isinstance B.gc_InvalidOperation (DE.d0 (de_var 1))) (DA.d0 da_nil)))))))
      (dss_cons0 (ds_expr0 (de_extend0 (DE.d0 (de_var 2)) (de_lst0 (da_cons0 (de_isE hz hf xr B.b_isinstance B.gc_InvalidOrder (DE.d0 (de_var 1))) (da_cons0 (de_isE hz hf xr B.b_isinstance B.gc_InvalidText (DE.d0 (de_var 1))) (da_cons0 (de_isE hz hf xr B.b_isinstance B.gc_NotEmpty (DE.d0 (de_var 1))) (DA.d0 da_nil)))))))
      (dss_cons0 (ds_expr0 (de_extend0 (DE.d0 (de_var 2)) (de_lst0 (da_cons0 (de_isE hz hf xr B.b_isinstance B.gc_Overdrawn (DE.d0 (de_var 1))) (da_cons0 (de_isE hz hf xr B.b_isinstance B.gc_SameAccount (DE.d0 (de_var 1))) (da_cons0 (de_isE hz hf xr B.b_isinstance B.gc_TooManyAccounts (DE.d0 (de_var 1))) (DA.d0 da_nil)))))))
      (dss_cons0 (ds_expr0 (de_extend0 (DE.d0 (de_var 2)) (de_lst0 (da_cons0 (de_isE hz hf xr B.b_isinstance B.gc_TooManyOrders (DE.d0 (de_var 1))) (da_cons0 (de_isE hz hf xr B.b_isinstance B.gc_UnknownAccount (DE.d0 (de_var 1))) (da_cons0 (de_isE hz hf xr B.b_isinstance B.gc_UnknownKind (DE.d0 (de_var 1))) (DA.d0 da_nil)))))))
      (dss_cons0 (ds_expr0 (de_extend0 (DE.d0 (de_var 2)) (de_lst0 (da_cons0 (de_isE hz hf xr B.b_isinstance B.gc_UnknownOrder (DE.d0 (de_var 1))) (da_cons0 (de_isE hz hf xr B.b_isinstance B.gc_WrongDay (DE.d0 (de_var 1))) (DA.d0 da_nil))))))
      (dss_cons0 (ds_if0 (DW0.dt (dw_or0 (DT.d0 (dt_cmpD (c_ne hr.units) (de_cntF (de_var 2) de_bl) de_int)) (dw_or1_0 (dt_not0 (dt_val0 (de_isEb (T := "ValueError") hz hf xr B.b_isinstance B.b_ValueError (by decide +kernel) (DE.d0 (de_var 1)))))))) (DSs.d0 (dss_one (ds_ret (de_tup (da_cons de_str da_nil))))) (DSs.d0 dss_nil))
      (dss_cons0 (DS.d0 (ds_set (i := 3) sc_law_outcome.nd de_str))
      (dss_cons0 (DS.d0 (ds_set (i := 4) sc_law_outcome.nd (de_ix (de_split (de_addS (de_var 3) de_str) de_str (pe_split (de_addS (de_var 3) de_str) de_str)) (de_idxF (de_var 2) de_bl))))
      (dss_cons0 (ds_if0 (DT.d0 (dt_cmpD (c_eq hr.units) (de_var 4) de_str)) (dss_one0 (ds_ret0 (de_tup0 (da_cons0 (DE.d0 (de_var 4)) (da_cons0 (de_xf hz hf xr (DE.d0 (de_var 1))) (da_cons0 (de_xf hz hf xr (DE.d0 (de_var 1))) (DA.d0 da_nil))))))) (DSs.d0 dss_nil))
      (dss_cons0 (ds_if0 (DT.d0 (dt_in (de_var 4) (de_tup (da_cons de_str (da_cons de_str (da_cons de_str da_nil)))))) (dss_one0 (ds_ret0 (de_tup0 (da_cons0 (DE.d0 (de_var 4)) (da_cons0 (de_xf hz hf xr (DE.d0 (de_var 1))) (DA.d0 da_nil)))))) (DSs.d0 dss_nil))
      (dss_cons0 (ds_if0 (DT.d0 (dt_in (de_var 4) (de_tup (da_cons de_str (da_cons de_str da_nil))))) (dss_one0 (ds_ret0 (de_tup0 (da_cons0 (DE.d0 (de_var 4)) (da_cons0 (de_xf hz hf xr (DE.d0 (de_var 1))) (DA.d0 da_nil)))))) (DSs.d0 dss_nil))
      (dss_one0 (ds_ret0 (de_if0 (DT.d0 (dt_cmpD (c_eq hr.units) (de_var 4) de_str)) (de_tup0 (da_cons0 (DE.d0 (de_var 4)) (da_cons0 (de_xf hz hf xr (DE.d0 (de_var 1))) (DA.d0 da_nil)))) (DE.d0 (de_tup (da_cons (de_var 4) da_nil))))))))))))))))))))), fun φ ex tl cs P h => pure_law_outcome K C φ ex tl cs P h⟩
theorem sc_law_account_right : FnScope ["_law_h", "_law_account", "_law_due", "_law_wheel", "_law_kind", "_law_moment", "_law_told", "_law_spot"] ["_law_h", "_law_account", "_law_due", "_law_wheel"] (defScope s_law_account_right) := ⟨rfl, rfl, rfl, by decide +kernel, rfl, by decide +kernel, by decide +kernel⟩
theorem fo_law_account_right {f : Addr} {fd : FuncData} (F : Fun K "_law_account_right" "_law_account_right" s_law_account_right f fd) (B : Bi K mg C) (G_law_next : DOk P w K mg base CX0 "_law_next" ["_law_h", "_law_bound"] 1 (sp_law_next C)) (G_Account_balance : DPok P w K mg base C.Account "balance" 1 (sp_Account_balance C)) (G_LimitedAccount_balance : DPok P w K mg base C.LimitedAccount "balance" 1 (sp_Account_balance C)) (G_SavingsAccount_balance : DPok P w K mg base C.SavingsAccount "balance" 1 (sp_Account_balance C)) (G_Account_floor : DPok P w K mg base C.Account "floor" 1 (sp_Account_floor C)) (G_LimitedAccount_floor : DPok P w K mg base C.LimitedAccount "floor" 1 (sp_LimitedAccount_floor C)) (G_SavingsAccount_floor : DPok P w K mg base C.SavingsAccount "floor" 1 (sp_LimitedAccount_floor C)) (G_Account_limit : DPok P w K mg base C.Account "limit" 1 (sp_Account_limit C)) (G_LimitedAccount_limit : DPok P w K mg base C.LimitedAccount "limit" 1 (sp_LimitedAccount_limit C)) (G_SavingsAccount_limit : DPok P w K mg base C.SavingsAccount "limit" 1 (sp_SavingsAccount_limit C)) (G_Account_kind : DPok P w K mg base C.Account "kind" 1 (sp_Account_kind C)) (G_LimitedAccount_kind : DPok P w K mg base C.LimitedAccount "kind" 1 (sp_Account_kind C)) (G_SavingsAccount_kind : DPok P w K mg base C.SavingsAccount "kind" 1 (sp_Account_kind C)) (G_Account_account_name : DPok P w K mg base C.Account "account_name" 1 (sp_Account_account_name C)) (G_LimitedAccount_account_name : DPok P w K mg base C.LimitedAccount "account_name" 1 (sp_Account_account_name C)) (G_SavingsAccount_account_name : DPok P w K mg base C.SavingsAccount "account_name" 1 (sp_Account_account_name C)) (G_law_alike : DOk P w K mg base CX0 "_law_alike" ["_law_found", "_law_due"] 4 (sp_law_alike C 4)) (G_Account_may_withdraw : DMok P w K mg base C.Account "may_withdraw" ["self", "day"] 1 (sp_Account_may_withdraw C)) (G_LimitedAccount_may_withdraw : DMok P w K mg base C.LimitedAccount "may_withdraw" ["self", "day"] 1 (sp_Account_may_withdraw C)) (G_SavingsAccount_may_withdraw : DMok P w K mg base C.SavingsAccount "may_withdraw" ["self", "day"] 2 (sp_SavingsAccount_may_withdraw C)) : FnOk P w K mg base CX0 5 f fd ["_law_h", "_law_account", "_law_due", "_law_wheel"] (liftSp K (sp_law_account_right C)) :=
  fn_dataQ F sc_law_account_right len_law_account_right (fun cdv A outer s H E hr =>
      (dss_cons (ds_par (i := 4) (j := 5) rfl sc_law_account_right.nd (da_cons (de_ix (de_var 2) de_int) (da_cons (de_sub (de_call G_law_next (hr.mono (by decide)) (da_cons (de_var 0) (da_cons de_int da_nil))) de_int) da_nil)))
      (dss_cons (ds_set (i := 6) sc_law_account_right.nd (de_lst (da_cons (de_alt (de_propI G_Account_account_name (hr.mono (by decide)) (de_var 1)) (de_alt (de_propI G_LimitedAccount_account_name (hr.mono (by decide)) (de_var 1)) (de_propI G_SavingsAccount_account_name (hr.mono (by decide)) (de_var 1)))) (da_cons (de_alt (de_propI G_Account_kind (hr.mono (by decide)) (de_var 1)) (de_alt (de_propI G_LimitedAccount_kind (hr.mono (by decide)) (de_var 1)) (de_propI G_SavingsAccount_kind (hr.mono (by decide)) (de_var 1)))) (da_cons (de_alt (de_propI G_Account_limit (hr.mono (by decide)) (de_var 1)) (de_alt (de_propI G_LimitedAccount_limit (hr.mono (by decide)) (de_var 1)) (de_propI G_SavingsAccount_limit (hr.mono (by decide)) (de_var 1)))) (da_cons (de_alt (de_propI G_Account_floor (hr.mono (by decide)) (de_var 1)) (de_alt (de_propI G_LimitedAccount_floor (hr.mono (by decide)) (de_var 1)) (de_propI G_SavingsAccount_floor (hr.mono (by decide)) (de_var 1)))) (da_cons (de_alt (de_propI G_Account_balance (hr.mono (by decide)) (de_var 1)) (de_alt (de_propI G_LimitedAccount_balance (hr.mono (by decide)) (de_var 1)) (de_propI G_SavingsAccount_balance (hr.mono (by decide)) (de_var 1)))) da_nil)))))))
      (dss_cons (ds_asg (de_if (dt_cmpD (c_eq hr.units) (de_var 4) de_str) (de_ix (de_var 2) de_int) de_non) (dg_ix (de_var 2) de_int))
      (dss_cons (ds_if (dt_not (dt_val (de_call G_law_alike (hr.mono (by decide)) (da_cons (de_var 6) (da_cons (de_var 2) da_nil))))) (dss_one (ds_ret de_bl)) dss_nil)
      (dss_cons (ds_for (di_seq (de_tup (da_cons (de_var 5) (da_cons (de_mul de_int (de_var 3)) (da_cons (de_add (de_mul de_int (de_var 3)) de_int) (da_cons (de_sub de_int (de_var 3)) (da_cons de_int (da_cons (de_neg de_int) da_nil)))))))) (dg_name (i := 7) sc_law_account_right.nd) (dss_one (ds_if (dt_not (dt_val (de_call G_law_alike (hr.mono (by decide)) (da_cons (de_alt (de_methI G_Account_may_withdraw (hr.mono (by decide)) (de_var 1) (da_cons (de_var 7) da_nil)) (de_alt (de_methI G_LimitedAccount_may_withdraw (hr.mono (by decide)) (de_var 1) (da_cons (de_var 7) da_nil)) (de_methI G_SavingsAccount_may_withdraw (hr.mono (by decide)) (de_var 1) (da_cons (de_var 7) da_nil)))) (da_cons (de_or (de_cmpD (c_ne hr.units) (de_var 4) de_str) (de_one (de_cmpD (c_eq hr.units) (de_mod (de_var 7) (de_var 3)) de_int))) da_nil))))) (dss_one (ds_ret de_bl)) dss_nil)))
      (dss_cons (ds_if (dt_cmpD (c_eq hr.units) (de_var 4) de_str) (dss_one (ds_ret (de_isiO B.b_isinstance B.gc_SavingsAccount (de_var 1)))) dss_nil)
      (dss_one (ds_ret (de_and (de_cmpD (c_eq hr.units) (de_isiO B.b_isinstance B.gc_LimitedAccount (de_var 1)) (de_cmpD (c_eq hr.units) (de_var 4) de_str)) (de_one (de_not (de_isiO B.b_isinstance B.gc_SavingsAccount (de_var 1)))))))))))))) (fun xs cs Q XP h => pure_law_account_right K C B.kf xs cs Q XP h)
theorem sc_law : FnScope ["_law_script", "_law_h", "_law_turn", "_law_kind", "_law_name", "_law_bound", "_law_worth", "_law_wheel", "_law_good", "_law_most", "_law_due", "_law_floor", "_law_found", "_law_told", "_law_plain", "_law_tight", "_law_kept", "_law_spot", "_law_low", "_law_c"] ["_law_script"] (defScope s_law) := ⟨rfl, rfl, rfl, by decide +kernel, rfl, by decide +kernel, by decide +kernel⟩
theorem fo_law {f : Addr} {fd : FuncData} (F : Fun K "law" "law" s_law f fd) {c : Addr} (hcd : fd.code = .ref c) (TB : LamX.TabB base mg c C.T_law) (B : Bi K mg C) (G_law_mix : DOk P w K mg base CX0 "_law_mix" ["_law_script", "_law_seed"] 1 (sp_law_mix C)) (G_law_next : DOk P w K mg base CX0 "_law_next" ["_law_h", "_law_bound"] 1 (sp_law_next C)) (G_Account_is_name : DStok P w K mg base "Account" C.Account "is_name" ["name"] 1 (sp_Account_is_name C)) (G_law_alike : DOk P w K mg base CX0 "_law_alike" ["_law_found", "_law_due"] 4 (sp_law_alike C 4)) (G_Account_made_2_limit_balance_cycle : DCok (L2.CX P w) P w K mg base "Account" C.Account "made" 2 ["limit", "balance", "cycle"] gd_Account_made_2_limit_balance_cycle 3 (sp_Account_made C)) (G_law_outcome : LamD.OutF P w K mg base "_law_outcome" "_law_call" (sp_law_outcome K C)) (G_law_account_right : DOk P w K mg base CX0 "_law_account_right" ["_law_h", "_law_account", "_law_due", "_law_wheel"] 5 (sp_law_account_right C)) (G_Account_made_2 : DCok (L2.CX P w) P w K mg base "Account" C.Account "made" 2 [] gd_Account_made_2 3 (sp_Account_made C)) (G_SavingsAccount_balance : DPok P w K mg base C.SavingsAccount "balance" 1 (sp_Account_balance C)) (G_LimitedAccount_floor : DPok P w K mg base C.LimitedAccount "floor" 1 (sp_LimitedAccount_floor C)) (G_LimitedAccount_limit : DPok P w K mg base C.LimitedAccount "limit" 1 (sp_LimitedAccount_limit C)) (G_Account_limit : DPok P w K mg base C.Account "limit" 1 (sp_Account_limit C)) (G_Account_balance : DPok P w K mg base C.Account "balance" 1 (sp_Account_balance C)) (G_Account_made_2_balance : DCok (L2.CX P w) P w K mg base "Account" C.Account "made" 2 ["balance"] gd_Account_made_2_balance 3 (sp_Account_made C)) (G_SavingsAccount_may_withdraw : DMok P w K mg base C.SavingsAccount "may_withdraw" ["self", "day"] 2 (sp_SavingsAccount_may_withdraw C)) : FnOk P w K mg base CX0 6 f fd ["_law_script"] (liftSp K (sp_law C)) :=
  fn_dataL F hcd sc_law len_law (fun A outer s H E hr =>
      ⟨_, (dss_cons (ds_set (i := 1) sc_law.nd (de_call G_law_mix (hr.mono (by decide)) (da_cons (de_var 0) (da_cons de_int da_nil))))
      (dss_cons (ds_for (di_range1 B.b_range (da_cons de_int da_nil)) (dg_name (i := 2) sc_law.nd) (dss_cons (ds_set (i := 3) sc_law.nd (de_ix (de_lst (da_cons de_str (da_cons de_str (da_cons de_str (da_cons de_str (da_cons de_str (da_cons de_str (da_cons de_str da_nil)))))))) (de_call G_law_next (hr.mono (by decide)) (da_cons (de_var 1) (da_cons de_int da_nil)))))
      (dss_cons (ds_set (i := 4) sc_law.nd (de_ix (de_lst (da_cons de_str (da_cons de_str (da_cons de_str (da_cons de_str (da_cons de_str (da_cons de_str (da_cons de_str (da_cons de_str da_nil))))))))) (de_mul (de_call G_law_next (hr.mono (by decide)) (da_cons (de_var 1) (da_cons de_int da_nil))) (de_call G_law_next (hr.mono (by decide)) (da_cons (de_var 1) (da_cons de_int da_nil))))))
      (dss_cons (ds_set (i := 5) sc_law.nd (de_ix (de_lst (da_cons de_int (da_cons de_int (da_cons de_int (da_cons (de_pow de_int de_int) (da_cons (de_add (de_pow de_int de_int) de_int) (da_cons (de_neg de_int) da_nil))))))) (de_call G_law_next (hr.mono (by decide)) (da_cons (de_var 1) (da_cons de_int da_nil)))))
      (dss_cons (ds_asg (de_tup (da_cons (de_ix (de_lst (da_cons de_int (da_cons de_int (da_cons (de_neg de_int) (da_cons (de_neg de_int) (da_cons (de_neg de_int) (da_cons (de_sub (de_neg (de_pow de_int de_int)) de_int) da_nil))))))) (de_call G_law_next (hr.mono (by decide)) (da_cons (de_var 1) (da_cons de_int da_nil)))) (da_cons (de_add de_int (de_call G_law_next (hr.mono (by decide)) (da_cons (de_var 1) (da_cons de_int da_nil)))) da_nil))) (dg_tup rfl (dgs_cons (dg_name (i := 6) sc_law.nd) (dgs_cons (dg_name (i := 7) sc_law.nd) dgs_nil))))
      (dss_cons (ds_set (i := 8) sc_law.nd (de_and (de_chainD c_le c_le de_int (de_lenS B.b_len (da_cons (de_var 4) da_nil)) de_int) (de_one (de_cmpD (c_eq hr.units) (de_lc (own := [("_law_c", 19)]) sc_law.nd (di_str (de_var 4)) (blkOk_by (N := ["_law_script", "_law_h", "_law_turn", "_law_kind", "_law_name", "_law_bound", "_law_worth", "_law_wheel", "_law_good", "_law_most", "_law_due", "_law_floor", "_law_found", "_law_told", "_law_plain", "_law_tight", "_law_kept", "_law_spot", "_law_low", "_law_c"]) (sc := defScope s_law) (by decide +kernel)) (fun _ _ _ _ _ => (dg_name (i := 19) sc_law.nd)) (fun _ _ _ _ _ => (dts_one (dt_not (dt_chainD c_leS c_leS de_str (de_var 19) de_str)))) (fun _ _ _ _ _ => (de_var 19)) (by decide)) (de_lst da_nil)))))
      (dss_cons (ds_if (dt_not (dt_val (de_call G_law_alike (hr.mono (by decide)) (da_cons (de_static G_Account_is_name (hr.mono (by decide)) (da_cons (de_var 4) da_nil)) (da_cons (de_var 8) da_nil))))) (dss_one (ds_ret de_bl)) dss_nil)
      (dss_cons (ds_set (i := 9) sc_law.nd (de_if (dt_cmpD (c_eq hr.units) (de_var 3) de_str) (de_pow de_int de_int) de_int))
      (dss_cons (ds_par (i := 10) (j := 11) rfl sc_law.nd (da_cons de_non (da_cons (de_if (dt_cmpD (c_eq hr.units) (de_var 3) de_str) de_non (de_sub de_int (de_var 5))) da_nil)))
      (dss_cons (ds_if (dt_notin (de_var 3) (de_tup (da_cons de_str (da_cons de_str (da_cons de_str da_nil))))) (dss_one (ds_set (i := 10) sc_law.nd (de_tup (da_cons de_str da_nil)))) (dss_one (ds_if (dt_not (dt_val (de_var 8))) (dss_one (ds_set (i := 10) sc_law.nd (de_tup (da_cons de_str (da_cons (de_var 4) da_nil))))) (dss_one (ds_if (dt_not (dt_chainD c_le c_le de_int (de_var 5) (de_var 9))) (dss_one (ds_set (i := 10) sc_law.nd (de_tup (da_cons de_str da_nil)))) (dss_one (ds_if (DW.dt (dw_and (dt_cmpD c_notN (de_var 11) de_non) (dw_and1 (dt_cmpD c_lt (de_var 6) (de_var 11))))) (dss_one (ds_set (i := 10) sc_law.nd (de_tup (da_cons de_str (da_cons (de_var 4) (da_cons de_non da_nil)))))) dss_nil)))))))
      (dss_cons (ds_set (i := 12) sc_law.nd (LamD.de_outL (k := 3) TB rfl G_law_outcome (hr.mono (by decide)) (LamX.lamS_by (show LamX.lamSB (defScope s_law) _ = true by decide +kernel)) (fun A outer s H E f c' hr M0 W tk => (de_cmX G_Account_made_2_limit_balance_cycle tk (hr.mono (by decide)) (DA.d0 (da_cons (de_var 3) (da_cons (de_var 4) da_nil))) ((dkc (de_var 5) (dkc (de_var 6) (dkc (de_var 7) dkn))) _)))))
      (dss_cons (ds_if (DW.dt (dw_and (dt_cmpD c_notN (de_var 10) de_non) (dw_and1 (dt_cmpD (c_ne hr.units) (de_var 12) (de_var 10))))) (dss_one (ds_ret de_bl)) dss_nil)
      (dss_cons (ds_set (i := 13) sc_law.nd (de_lst (da_cons (de_var 4) (da_cons (de_var 3) (da_cons (de_var 5) (da_cons (de_var 11) (da_cons (de_var 6) da_nil)))))))
      (dss_one (ds_if (DW.dt (dw_and (dt_cmpD c_isN (de_var 10) de_non) (dw_and1 (dt_not (dt_val (de_call G_law_account_right (hr.mono (by decide)) (da_cons (de_var 1) (da_cons (de_ix (de_var 12) de_int) (da_cons (de_var 13) (da_cons (de_var 7) da_nil)))))))))) (dss_one (ds_ret de_bl)) dss_nil)))))))))))))))
      (dss_cons (ds_par3 (i := 14) (j := 15) (l := 16) rfl sc_law.nd (da_cons (de_cm0 G_Account_made_2.ok0 (hr.mono (by decide)) (da_cons de_str (da_cons de_str da_nil)) dkn) (da_cons (de_cm0 G_Account_made_2.ok0 (hr.mono (by decide)) (da_cons de_str (da_cons de_str da_nil)) dkn) (da_cons (de_cm0 G_Account_made_2.ok0 (hr.mono (by decide)) (da_cons de_str (da_cons de_str da_nil)) dkn) da_nil))))
      (dss_cons (ds_if (dt_not (dt_val (de_call G_law_alike (hr.mono (by decide)) (da_cons (de_lst (da_cons (de_propI G_Account_balance (hr.mono (by decide)) (de_var 14)) (da_cons (de_propI G_Account_limit (hr.mono (by decide)) (de_var 14)) (da_cons (de_propI G_LimitedAccount_limit (hr.mono (by decide)) (de_var 15)) (da_cons (de_propI G_LimitedAccount_floor (hr.mono (by decide)) (de_var 15)) (da_cons (de_propI G_SavingsAccount_balance (hr.mono (by decide)) (de_var 16)) da_nil)))))) (da_cons (de_lst (da_cons de_int (da_cons de_non (da_cons de_int (da_cons de_int (da_cons de_int da_nil)))))) da_nil))))) (dss_one (ds_ret de_bl)) dss_nil)
      (dss_cons (ds_par (i := 17) (j := 18) rfl sc_law.nd (da_cons (de_sub (de_call G_law_next (hr.mono (by decide)) (da_cons (de_var 1) (da_cons de_int da_nil))) de_int) (da_cons (LamD.de_outL (k := 3) TB rfl G_law_outcome (hr.mono (by decide)) (LamX.lamS_by (show LamX.lamSB (defScope s_law) _ = true by decide +kernel)) (fun A outer s H E f c' hr M0 W tk => (de_cmX G_Account_made_2_balance tk (hr.mono (by decide)) (DA.d0 (da_cons de_str (da_cons de_str da_nil))) ((dkc (de_neg de_int) dkn) _)))) da_nil)))
      (dss_cons (ds_if (DW.dt (dw_or (dt_not (dt_val (de_methI G_SavingsAccount_may_withdraw (hr.mono (by decide)) (de_var 16) (da_cons (de_var 17) da_nil)))) (dw_or1 (dt_cmpD (c_ne hr.units) (de_var 18) (de_tup (da_cons de_str (da_cons de_str (da_cons de_non da_nil)))))))) (dss_one (ds_ret de_bl)) dss_nil)
      (dss_one (ds_ret (de_cmpD (c_eq hr.units) (de_lst (da_cons (de_cvalE B.cv_Account_KIND (fun _ => .str _)) (da_cons (de_cvalE B.cv_LimitedAccount_KIND (fun _ => .str _)) (da_cons (de_cvalE B.cv_SavingsAccount_KIND (fun _ => .str _)) da_nil)))) (de_lst (da_cons de_str (da_cons de_str (da_cons de_str da_nil))))))))))))), fun xs cs Q XP h => pure_law K C B.kf _ _ xs cs Q XP h⟩)
theorem sc_XInvalidName : FnScope ["self", "name"] ["self", "name"] (defScope s_XInvalidName) := ⟨rfl, rfl, rfl, by decide +kernel, rfl, by decide +kernel, by decide +kernel⟩
theorem fx_InvalidName {f CB : Addr} {fd : FuncData} {mc : Value} (F : Fun K "__init__" "InvalidName.__init__" s_XInvalidName f fd) (hm : mg "OrderError" = some (.ref CB)) (r : ClX.CRead K CB mc) (vV : PySem.W.findCls K (.ref CB) mc "__init__" = some (.val (.builtin "ValueError.__init__"))) : FnOk P w K mg base CX0 1 f fd ["self", "name"] (XKw.sp1 K "name") := by
  refine F.ok sc_XInvalidName (fun vs H Q E ⟨a, C, y0, e, _⟩ => by rw [e]; rfl) fun cdv A outer s H vs Q E hr ⟨a, C, y0, e, T, hf0, ha, hq⟩ => ?_
  rw [e]
  refine ⟨_, pss_cons (ps_expr (XKw.pe_oeinit hm r vV (pa_cons (pe_var (i := 0) rfl (.inl rfl)) (pa_cons pe_str pa_nil)) (by rfl))) (pss_one (ps_ost (pe_var (i := 0) rfl (.inl rfl)) (pe_var (i := 1) rfl (.inl rfl)))), ?_⟩
  exact ⟨.ref a, rfl, a, C, [.str "invalid name"], rfl, by decide, T, ha, y0, rfl, .ref a, rfl, a, C, rfl, T, hf0, .inl ⟨ha, fun dx h1 h2 => hq dx h1 h2⟩⟩
theorem sc_XOverdrawn : FnScope ["self", "name", "day"] ["self", "name", "day"] (defScope s_XOverdrawn) := ⟨rfl, rfl, rfl, by decide +kernel, rfl, by decide +kernel, by decide +kernel⟩
theorem fx_Overdrawn {f CB : Addr} {fd : FuncData} {mc : Value} (F : Fun K "__init__" "Overdrawn.__init__" s_XOverdrawn f fd) (hm : mg "OrderError" = some (.ref CB)) (r : ClX.CRead K CB mc) (vV : PySem.W.findCls K (.ref CB) mc "__init__" = some (.val (.builtin "ValueError.__init__"))) : FnOk P w K mg base CX0 1 f fd ["self", "name", "day"] (XKw.sp2 K "name" "day") := by
  refine F.ok sc_XOverdrawn (fun vs H Q E ⟨a, C, y0, y1, e, _⟩ => by rw [e]; rfl) fun cdv A outer s H vs Q E hr ⟨a, C, y0, y1, e, T, hf0, hf1, ha, hq⟩ => ?_
  rw [e]
  refine ⟨_, pss_cons (ps_expr (XKw.pe_oeinit hm r vV (pa_cons (pe_var (i := 0) rfl (.inl rfl)) (pa_cons pe_str pa_nil)) (by rfl))) (pss_cons (ps_ost (pe_var (i := 0) rfl (.inl rfl)) (pe_var (i := 1) rfl (.inl rfl))) (pss_one (ps_ost (pe_var (i := 0) rfl (.inl rfl)) (pe_var (i := 2) rfl (.inl rfl))))), ?_⟩
  exact ⟨.ref a, rfl, a, C, [.str "overdrawn"], rfl, by decide, T, ha, y0, rfl, .ref a, rfl, a, C, rfl, T, hf0, .inl ⟨ha, fun dx h1 h2 => ⟨y1, rfl, .ref a, rfl, a, C, rfl, T, hf1, .inr ⟨dx, [("name", y0)], upd_same, (by rw [upd_ne h2]; exact upd_same), by simp, hq dx h1 h2⟩⟩⟩⟩
end
theorem all_mk {l : PySem.W.OpenLaw} {w : World} {K : PySem.W.Frag} {h : Heap} {mg : Str → Option Value} {fa : Addr} (X : K.In h) (G : h.Ns mainGlobals mg) (hfa : mg "law" = some (.ref fa))
    {q : Program} (T : TabsOf K q mg h) {CAccount : Addr}
    {CLimitedAccount : Addr}
    {CSavingsAccount : Addr}
    {CInvalidName : Addr}
    {COverdrawn : Addr}
    {CInvalidAmount : Addr}
    {CUnknownKind : Addr}
    {CDuplicateName : Addr}
    {CEndless : Addr}
    {CInvalidCount : Addr}
    {CInvalidOperation : Addr}
    {CInvalidOrder : Addr}
    {CInvalidText : Addr}
    {CNotEmpty : Addr}
    {COrderError : Addr}
    {CSameAccount : Addr}
    {CTooManyAccounts : Addr}
    {CTooManyOrders : Addr}
    {CUnknownAccount : Addr}
    {CUnknownOrder : Addr}
    {CWrongDay : Addr}
    {tcoAccount_KIND : Tok}
    {tcoLimitedAccount_KIND : Tok}
    {tcoSavingsAccount_KIND : Tok}
    {tcvAccount_KIND : Tok}
    {tcvLimitedAccount_KIND : Tok}
    {tcvSavingsAccount_KIND : Tok}
    {f0 : Addr} {od0 an0 : Option Addr} {sl0 : Array (Option Value)} {oc0 dc0 pm0 ct0 cd0 kV0 : Value}
    {f1 : Addr} {od1 an1 : Option Addr} {sl1 : Array (Option Value)} {oc1 dc1 pm1 ct1 cd1 kV1 : Value}
    {f2 : Addr} {od2 an2 : Option Addr} {sl2 : Array (Option Value)} {oc2 dc2 pm2 ct2 cd2 kV2 : Value}
    {f3 : Addr} {od3 an3 : Option Addr} {sl3 : Array (Option Value)} {oc3 dc3 pm3 ct3 cd3 kV3 : Value}
    {p3 : Addr} {rs3 : List Value}
    {f4 : Addr} {od4 an4 : Option Addr} {sl4 : Array (Option Value)} {oc4 dc4 pm4 ct4 cd4 kV4 : Value}
    {f5 : Addr} {od5 an5 : Option Addr} {sl5 : Array (Option Value)} {oc5 dc5 pm5 ct5 cd5 kV5 : Value}
    {f6 : Addr} {od6 an6 : Option Addr} {sl6 : Array (Option Value)} {oc6 dc6 pm6 ct6 cd6 : Value}
    {p6 : Addr} {rs6 : List Value}
    {kd6 : Addr} {tk6_limit tk6_balance tk6_cycle : Tok}
    {f7 : Addr} {od7 an7 : Option Addr} {sl7 : Array (Option Value)} {oc7 dc7 pm7 ct7 cd7 kV7 : Value}
    {p7 : Addr} {rs7 : List Value}
    {f8 : Addr} {od8 an8 : Option Addr} {sl8 : Array (Option Value)} {oc8 dc8 pm8 ct8 cd8 kV8 : Value}
    {p8 : Addr} {rs8 : List Value}
    {f9 : Addr} {od9 an9 : Option Addr} {sl9 : Array (Option Value)} {oc9 dc9 pm9 ct9 cd9 kV9 : Value}
    {p9 : Addr} {rs9 : List Value}
    {f10 : Addr} {od10 an10 : Option Addr} {sl10 : Array (Option Value)} {oc10 dc10 pm10 ct10 cd10 kV10 : Value}
    {p10 : Addr} {rs10 : List Value}
    {f11 : Addr} {od11 an11 : Option Addr} {sl11 : Array (Option Value)} {oc11 dc11 pm11 ct11 cd11 kV11 : Value}
    {p11 : Addr} {rs11 : List Value}
    {f12 : Addr} {od12 an12 : Option Addr} {sl12 : Array (Option Value)} {oc12 dc12 pm12 ct12 cd12 kV12 : Value}
    {p12 : Addr} {rs12 : List Value}
    {f13 : Addr} {od13 an13 : Option Addr} {sl13 : Array (Option Value)} {oc13 dc13 pm13 ct13 cd13 kV13 : Value}
    {p13 : Addr} {rs13 : List Value}
    {f14 : Addr} {od14 an14 : Option Addr} {sl14 : Array (Option Value)} {oc14 dc14 pm14 ct14 cd14 kV14 : Value}
    {p14 : Addr} {rs14 : List Value}
    {f15 : Addr} {od15 an15 : Option Addr} {sl15 : Array (Option Value)} {oc15 dc15 pm15 ct15 cd15 kV15 : Value}
    {f16 : Addr} {od16 an16 : Option Addr} {sl16 : Array (Option Value)} {oc16 dc16 pm16 ct16 cd16 kV16 : Value}
    {f17 : Addr} {od17 an17 : Option Addr} {sl17 : Array (Option Value)} {oc17 dc17 pm17 ct17 cd17 kV17 : Value}
    {f18 : Addr} {od18 an18 : Option Addr} {sl18 : Array (Option Value)} {oc18 dc18 pm18 ct18 cd18 kV18 : Value}
    {f19 : Addr} {od19 an19 : Option Addr} {sl19 : Array (Option Value)} {oc19 dc19 pm19 ct19 cd19 kV19 : Value}
    {f20 : Addr} {od20 an20 : Option Addr} {sl20 : Array (Option Value)} {oc20 dc20 pm20 ct20 cd20 kV20 : Value}
    {f21 : Addr} {od21 an21 : Option Addr} {sl21 : Array (Option Value)} {oc21 dc21 pm21 ct21 kV21 : Value}
    {nmInvalidName qInvalidName : Str} {NInvalidName : Addr} {bsInvalidName bmInvalidName subInvalidName : List Value} {snInvalidName : List Str} {abInvalidName : Bool} {colInvalidName : Option Bool} {ddInvalidName : Option Addr} {kaInvalidName kbInvalidName kdInvalidName keInvalidName kgInvalidName : Option Value}
    {f22 : Addr} {od22 an22 : Option Addr} {sl22 : Array (Option Value)} {oc22 dc22 pm22 ct22 cd22 kV22 : Value}
    {nmOverdrawn qOverdrawn : Str} {NOverdrawn : Addr} {bsOverdrawn bmOverdrawn subOverdrawn : List Value} {snOverdrawn : List Str} {abOverdrawn : Bool} {colOverdrawn : Option Bool} {ddOverdrawn : Option Addr} {kaOverdrawn kbOverdrawn kdOverdrawn keOverdrawn kgOverdrawn : Option Value}
    {f23 : Addr} {od23 an23 : Option Addr} {sl23 : Array (Option Value)} {oc23 dc23 pm23 ct23 cd23 kV23 : Value}
    {t_LETTERS : Tok}
    {t_MAX_AMOUNT : Tok}
    {t_MAX_LETTERS : Tok}
    {c_law P_law : Addr} {dd_law : Option Addr} {vs_law : Array Value} {sl_law : Array (Option Value)}
    {fS cdS ccS : Addr} {ocS kVS dcS pmS ctS cclS clS : Value} {odS anS cddS cldS : Option Addr} {oslS ccsS cslS : Array (Option Value)} {vscS : Array Value} {fileS : Str} {tfS : Tok} {cdDS : ClassData}
    (aCAccount : PySem.W.nsIn K mainGlobals "Account" = some (some (.ref CAccount)))
    (aCLimitedAccount : PySem.W.nsIn K mainGlobals "LimitedAccount" = some (some (.ref CLimitedAccount)))
    (aCSavingsAccount : PySem.W.nsIn K mainGlobals "SavingsAccount" = some (some (.ref CSavingsAccount)))
    (aCInvalidName : PySem.W.nsIn K mainGlobals "InvalidName" = some (some (.ref CInvalidName)))
    (aCOverdrawn : PySem.W.nsIn K mainGlobals "Overdrawn" = some (some (.ref COverdrawn)))
    (aCInvalidAmount : PySem.W.nsIn K mainGlobals "InvalidAmount" = some (some (.ref CInvalidAmount)))
    (aCUnknownKind : PySem.W.nsIn K mainGlobals "UnknownKind" = some (some (.ref CUnknownKind)))
    (aCDuplicateName : PySem.W.nsIn K mainGlobals "DuplicateName" = some (some (.ref CDuplicateName)))
    (aCEndless : PySem.W.nsIn K mainGlobals "Endless" = some (some (.ref CEndless)))
    (aCInvalidCount : PySem.W.nsIn K mainGlobals "InvalidCount" = some (some (.ref CInvalidCount)))
    (aCInvalidOperation : PySem.W.nsIn K mainGlobals "InvalidOperation" = some (some (.ref CInvalidOperation)))
    (aCInvalidOrder : PySem.W.nsIn K mainGlobals "InvalidOrder" = some (some (.ref CInvalidOrder)))
    (aCInvalidText : PySem.W.nsIn K mainGlobals "InvalidText" = some (some (.ref CInvalidText)))
    (aCNotEmpty : PySem.W.nsIn K mainGlobals "NotEmpty" = some (some (.ref CNotEmpty)))
    (aCOrderError : PySem.W.nsIn K mainGlobals "OrderError" = some (some (.ref COrderError)))
    (aCSameAccount : PySem.W.nsIn K mainGlobals "SameAccount" = some (some (.ref CSameAccount)))
    (aCTooManyAccounts : PySem.W.nsIn K mainGlobals "TooManyAccounts" = some (some (.ref CTooManyAccounts)))
    (aCTooManyOrders : PySem.W.nsIn K mainGlobals "TooManyOrders" = some (some (.ref CTooManyOrders)))
    (aCUnknownAccount : PySem.W.nsIn K mainGlobals "UnknownAccount" = some (some (.ref CUnknownAccount)))
    (aCUnknownOrder : PySem.W.nsIn K mainGlobals "UnknownOrder" = some (some (.ref CUnknownOrder)))
    (aCWrongDay : PySem.W.nsIn K mainGlobals "WrongDay" = some (some (.ref CWrongDay)))
    (pgAccount : PySem.W.plainGet K CAccount Str.empty = true)
    (hdAccount : PySem.W.hasDictIn K CAccount = true)
    (poAccount : PySem.W.plainOver K CAccount = true)
    (saAccount : PySem.W.findIn K (.ref CAccount) "__setattr__" = some (some (.builtin "object.__setattr__")))
    (mkAccount : PySem.W.makesIn K CAccount = true)
    (kcAccount : PySem.W.keepIn K (.ref CAccount) = true)
    (pgLimitedAccount : PySem.W.plainGet K CLimitedAccount Str.empty = true)
    (hdLimitedAccount : PySem.W.hasDictIn K CLimitedAccount = true)
    (poLimitedAccount : PySem.W.plainOver K CLimitedAccount = true)
    (saLimitedAccount : PySem.W.findIn K (.ref CLimitedAccount) "__setattr__" = some (some (.builtin "object.__setattr__")))
    (mkLimitedAccount : PySem.W.makesIn K CLimitedAccount = true)
    (kcLimitedAccount : PySem.W.keepIn K (.ref CLimitedAccount) = true)
    (pgSavingsAccount : PySem.W.plainGet K CSavingsAccount Str.empty = true)
    (hdSavingsAccount : PySem.W.hasDictIn K CSavingsAccount = true)
    (poSavingsAccount : PySem.W.plainOver K CSavingsAccount = true)
    (saSavingsAccount : PySem.W.findIn K (.ref CSavingsAccount) "__setattr__" = some (some (.builtin "object.__setattr__")))
    (mkSavingsAccount : PySem.W.makesIn K CSavingsAccount = true)
    (kcSavingsAccount : PySem.W.keepIn K (.ref CSavingsAccount) = true)
    (naAccount_amount : PySem.W.findIn K (.ref CAccount) "amount" = some none)
    (naAccount_credit : PySem.W.findIn K (.ref CAccount) "credit" = some none)
    (naAccount_cycle : PySem.W.findIn K (.ref CAccount) "cycle" = some none)
    (naAccount_title : PySem.W.findIn K (.ref CAccount) "title" = some none)
    (naLimitedAccount_amount : PySem.W.findIn K (.ref CLimitedAccount) "amount" = some none)
    (naLimitedAccount_credit : PySem.W.findIn K (.ref CLimitedAccount) "credit" = some none)
    (naLimitedAccount_cycle : PySem.W.findIn K (.ref CLimitedAccount) "cycle" = some none)
    (naLimitedAccount_title : PySem.W.findIn K (.ref CLimitedAccount) "title" = some none)
    (naSavingsAccount_amount : PySem.W.findIn K (.ref CSavingsAccount) "amount" = some none)
    (naSavingsAccount_credit : PySem.W.findIn K (.ref CSavingsAccount) "credit" = some none)
    (naSavingsAccount_cycle : PySem.W.findIn K (.ref CSavingsAccount) "cycle" = some none)
    (naSavingsAccount_title : PySem.W.findIn K (.ref CSavingsAccount) "title" = some none)
    (coAccount_KIND : PySem.W.findIn K (.ref CAccount) "KIND" = some (some (.str "open" tcoAccount_KIND)))
    (cgAccount_KIND : PySem.W.specialIn K (.str "open" tcoAccount_KIND) "__get__" = some none)
    (coLimitedAccount_KIND : PySem.W.findIn K (.ref CLimitedAccount) "KIND" = some (some (.str "limited" tcoLimitedAccount_KIND)))
    (cgLimitedAccount_KIND : PySem.W.specialIn K (.str "limited" tcoLimitedAccount_KIND) "__get__" = some none)
    (coSavingsAccount_KIND : PySem.W.findIn K (.ref CSavingsAccount) "KIND" = some (some (.str "savings" tcoSavingsAccount_KIND)))
    (cgSavingsAccount_KIND : PySem.W.specialIn K (.str "savings" tcoSavingsAccount_KIND) "__get__" = some none)
    (rdAccount : PySem.W.readsIn K CAccount (.type "type") = true)
    (gaAccount : PySem.W.specialIn K (.ref CAccount) "__getattribute__" = some (some (.builtin "type.__getattribute__")))
    (rdLimitedAccount : PySem.W.readsIn K CLimitedAccount (.type "type") = true)
    (gaLimitedAccount : PySem.W.specialIn K (.ref CLimitedAccount) "__getattribute__" = some (some (.builtin "type.__getattribute__")))
    (rdOrderError : PySem.W.readsIn K COrderError (.type "type") = true)
    (gaOrderError : PySem.W.specialIn K (.ref COrderError) "__getattribute__" = some (some (.builtin "type.__getattribute__")))
    (rdSavingsAccount : PySem.W.readsIn K CSavingsAccount (.type "type") = true)
    (gaSavingsAccount : PySem.W.specialIn K (.ref CSavingsAccount) "__getattribute__" = some (some (.builtin "type.__getattribute__")))
    (cvAccount_KIND : PySem.W.findCls K (.ref CAccount) (.type "type") "KIND" = some (.val (.str "open" tcvAccount_KIND)))
    (cvLimitedAccount_KIND : PySem.W.findCls K (.ref CLimitedAccount) (.type "type") "KIND" = some (.val (.str "limited" tcvLimitedAccount_KIND)))
    (cvSavingsAccount_KIND : PySem.W.findCls K (.ref CSavingsAccount) (.type "type") "KIND" = some (.val (.str "savings" tcvSavingsAccount_KIND)))
    (xeInvalidAmount : PySem.W.excIn K CInvalidAmount [.type "ValueError", .type "Exception", .type "BaseException", .type "object"] "ValueError.__new__" = true)
    (xkInvalidAmount : PySem.W.keepIn K (.ref CInvalidAmount) = true)
    (xsInvalidAmount : PySem.W.subIn K (.ref CInvalidAmount) (.type "BaseException") = some true)
    (xtInvalidAmount : PySem.W.typeIn K (.ref CInvalidAmount) = some (.type "type"))
    (xeUnknownKind : PySem.W.excIn K CUnknownKind [.type "ValueError", .type "Exception", .type "BaseException", .type "object"] "ValueError.__new__" = true)
    (xkUnknownKind : PySem.W.keepIn K (.ref CUnknownKind) = true)
    (xsUnknownKind : PySem.W.subIn K (.ref CUnknownKind) (.type "BaseException") = some true)
    (xtUnknownKind : PySem.W.typeIn K (.ref CUnknownKind) = some (.type "type"))
    (a0 : PySem.W.nsIn K mainGlobals "is_integer" = some (some (.ref f0)))
    (l0 : K.lookup f0 = some ⟨oc0, od0, .func (PySem.W.fnOf "is_integer" "is_integer" (defArgs s_is_integer) (defBody s_is_integer) (defScope s_is_integer) .none kV0 dc0 pm0 an0 cd0 ct0), sl0⟩)
    (c0 : PySem.W.codeIn K cd0 "is_integer" = true)
    (k0 : PySem.W.keepIn K (.ref f0) = true)
    (a1 : PySem.W.nsIn K mainGlobals "is_amount" = some (some (.ref f1)))
    (l1 : K.lookup f1 = some ⟨oc1, od1, .func (PySem.W.fnOf "is_amount" "is_amount" (defArgs s_is_amount) (defBody s_is_amount) (defScope s_is_amount) .none kV1 dc1 pm1 an1 cd1 ct1), sl1⟩)
    (c1 : PySem.W.codeIn K cd1 "is_amount" = true)
    (k1 : PySem.W.keepIn K (.ref f1) = true)
    (a2 : PySem.W.findIn K (.ref CAccount) "__init__" = some (some (.ref f2)))
    (i2 : PySem.W.isFn K (.ref f2) = true)
    (l2 : K.lookup f2 = some ⟨oc2, od2, .func (PySem.W.fnOf "__init__" "Account.__init__" (defArgs s_Account___init__) (defBody s_Account___init__) (defScope s_Account___init__) .none kV2 dc2 pm2 an2 cd2 ct2), sl2⟩)
    (c2 : PySem.W.codeIn K cd2 "Account.__init__" = true)
    (k2 : PySem.W.keepIn K (.ref f2) = true)
    (a3 : PySem.W.findCls K (.ref CAccount) (.type "type") "is_name" = some (.get (.builtin "staticmethod.__get__") (.ref p3) .none (.ref CAccount)))
    (r3 : PySem.W.recIn K p3 "staticmethod" = some (.ref f3 :: rs3))
    (l3 : K.lookup f3 = some ⟨oc3, od3, .func (PySem.W.fnOf "is_name" "Account.is_name" (defArgs s_Account_is_name) (defBody s_Account_is_name) (defScope s_Account_is_name) .none kV3 dc3 pm3 an3 cd3 ct3), sl3⟩)
    (c3 : PySem.W.codeIn K cd3 "Account.is_name" = true)
    (k3 : PySem.W.keepIn K (.ref f3) = true)
    (a4 : PySem.W.findIn K (.ref CAccount) "allows" = some (some (.ref f4)))
    (i4 : PySem.W.isFn K (.ref f4) = true)
    (l4 : K.lookup f4 = some ⟨oc4, od4, .func (PySem.W.fnOf "allows" "Account.allows" (defArgs s_Account_allows) (defBody s_Account_allows) (defScope s_Account_allows) .none kV4 dc4 pm4 an4 cd4 ct4), sl4⟩)
    (c4 : PySem.W.codeIn K cd4 "Account.allows" = true)
    (k4 : PySem.W.keepIn K (.ref f4) = true)
    (a5 : PySem.W.findIn K (.ref CLimitedAccount) "allows" = some (some (.ref f5)))
    (i5 : PySem.W.isFn K (.ref f5) = true)
    (l5 : K.lookup f5 = some ⟨oc5, od5, .func (PySem.W.fnOf "allows" "LimitedAccount.allows" (defArgs s_LimitedAccount_allows) (defBody s_LimitedAccount_allows) (defScope s_LimitedAccount_allows) .none kV5 dc5 pm5 an5 cd5 ct5), sl5⟩)
    (c5 : PySem.W.codeIn K cd5 "LimitedAccount.allows" = true)
    (k5 : PySem.W.keepIn K (.ref f5) = true)
    (a6 : PySem.W.findCls K (.ref CAccount) (.type "type") "made" = some (.get (.builtin "classmethod.__get__") (.ref p6) .none (.ref CAccount)))
    (r6 : PySem.W.recIn K p6 "classmethod" = some (.ref f6 :: rs6))
    (n6 : PySem.W.fnIn K f6 = true)
    (l6 : K.lookup f6 = some ⟨oc6, od6, .func (PySem.W.fnOf "made" "Account.made" (defArgs s_Account_made) (defBody s_Account_made) (defScope s_Account_made) .none (.ref kd6) dc6 pm6 an6 cd6 ct6), sl6⟩)
    (kw6_limit : PySem.W.nsIn K kd6 "limit" = some (some (.int 0 tk6_limit)))
    (kw6_balance : PySem.W.nsIn K kd6 "balance" = some (some (.int 0 tk6_balance)))
    (kw6_cycle : PySem.W.nsIn K kd6 "cycle" = some (some (.int 1 tk6_cycle)))
    (c6 : PySem.W.codeIn K cd6 "Account.made" = true)
    (k6 : PySem.W.keepIn K (.ref f6) = true)
    (a7 : PySem.W.findIn K (.ref CAccount) "account_name" = some (some (.ref p7)))
    (g7 : PySem.W.specialIn K (.ref p7) "__get__" = some (some (.builtin "property.__get__")))
    (t7 : PySem.W.takesIn K (.ref p7) = some true)
    (r7 : PySem.W.recIn K p7 "property" = some (.ref f7 :: rs7))
    (l7 : K.lookup f7 = some ⟨oc7, od7, .func (PySem.W.fnOf "account_name" "Account.account_name" (defArgs s_Account_account_name) (defBody s_Account_account_name) (defScope s_Account_account_name) .none kV7 dc7 pm7 an7 cd7 ct7), sl7⟩)
    (c7 : PySem.W.codeIn K cd7 "Account.account_name" = true)
    (k7 : PySem.W.keepIn K (.ref f7) = true)
    (a8 : PySem.W.findIn K (.ref CAccount) "kind" = some (some (.ref p8)))
    (g8 : PySem.W.specialIn K (.ref p8) "__get__" = some (some (.builtin "property.__get__")))
    (t8 : PySem.W.takesIn K (.ref p8) = some true)
    (r8 : PySem.W.recIn K p8 "property" = some (.ref f8 :: rs8))
    (l8 : K.lookup f8 = some ⟨oc8, od8, .func (PySem.W.fnOf "kind" "Account.kind" (defArgs s_Account_kind) (defBody s_Account_kind) (defScope s_Account_kind) .none kV8 dc8 pm8 an8 cd8 ct8), sl8⟩)
    (c8 : PySem.W.codeIn K cd8 "Account.kind" = true)
    (k8 : PySem.W.keepIn K (.ref f8) = true)
    (a9 : PySem.W.findIn K (.ref CAccount) "limit" = some (some (.ref p9)))
    (g9 : PySem.W.specialIn K (.ref p9) "__get__" = some (some (.builtin "property.__get__")))
    (t9 : PySem.W.takesIn K (.ref p9) = some true)
    (r9 : PySem.W.recIn K p9 "property" = some (.ref f9 :: rs9))
    (l9 : K.lookup f9 = some ⟨oc9, od9, .func (PySem.W.fnOf "limit" "Account.limit" (defArgs s_Account_limit) (defBody s_Account_limit) (defScope s_Account_limit) .none kV9 dc9 pm9 an9 cd9 ct9), sl9⟩)
    (c9 : PySem.W.codeIn K cd9 "Account.limit" = true)
    (k9 : PySem.W.keepIn K (.ref f9) = true)
    (a10 : PySem.W.findIn K (.ref CLimitedAccount) "limit" = some (some (.ref p10)))
    (g10 : PySem.W.specialIn K (.ref p10) "__get__" = some (some (.builtin "property.__get__")))
    (t10 : PySem.W.takesIn K (.ref p10) = some true)
    (r10 : PySem.W.recIn K p10 "property" = some (.ref f10 :: rs10))
    (l10 : K.lookup f10 = some ⟨oc10, od10, .func (PySem.W.fnOf "limit" "LimitedAccount.limit" (defArgs s_LimitedAccount_limit) (defBody s_LimitedAccount_limit) (defScope s_LimitedAccount_limit) .none kV10 dc10 pm10 an10 cd10 ct10), sl10⟩)
    (c10 : PySem.W.codeIn K cd10 "LimitedAccount.limit" = true)
    (k10 : PySem.W.keepIn K (.ref f10) = true)
    (a11 : PySem.W.findIn K (.ref CSavingsAccount) "limit" = some (some (.ref p11)))
    (g11 : PySem.W.specialIn K (.ref p11) "__get__" = some (some (.builtin "property.__get__")))
    (t11 : PySem.W.takesIn K (.ref p11) = some true)
    (r11 : PySem.W.recIn K p11 "property" = some (.ref f11 :: rs11))
    (l11 : K.lookup f11 = some ⟨oc11, od11, .func (PySem.W.fnOf "limit" "SavingsAccount.limit" (defArgs s_SavingsAccount_limit) (defBody s_SavingsAccount_limit) (defScope s_SavingsAccount_limit) .none kV11 dc11 pm11 an11 cd11 ct11), sl11⟩)
    (c11 : PySem.W.codeIn K cd11 "SavingsAccount.limit" = true)
    (k11 : PySem.W.keepIn K (.ref f11) = true)
    (a12 : PySem.W.findIn K (.ref CAccount) "floor" = some (some (.ref p12)))
    (g12 : PySem.W.specialIn K (.ref p12) "__get__" = some (some (.builtin "property.__get__")))
    (t12 : PySem.W.takesIn K (.ref p12) = some true)
    (r12 : PySem.W.recIn K p12 "property" = some (.ref f12 :: rs12))
    (l12 : K.lookup f12 = some ⟨oc12, od12, .func (PySem.W.fnOf "floor" "Account.floor" (defArgs s_Account_floor) (defBody s_Account_floor) (defScope s_Account_floor) .none kV12 dc12 pm12 an12 cd12 ct12), sl12⟩)
    (c12 : PySem.W.codeIn K cd12 "Account.floor" = true)
    (k12 : PySem.W.keepIn K (.ref f12) = true)
    (a13 : PySem.W.findIn K (.ref CLimitedAccount) "floor" = some (some (.ref p13)))
    (g13 : PySem.W.specialIn K (.ref p13) "__get__" = some (some (.builtin "property.__get__")))
    (t13 : PySem.W.takesIn K (.ref p13) = some true)
    (r13 : PySem.W.recIn K p13 "property" = some (.ref f13 :: rs13))
    (l13 : K.lookup f13 = some ⟨oc13, od13, .func (PySem.W.fnOf "floor" "LimitedAccount.floor" (defArgs s_LimitedAccount_floor) (defBody s_LimitedAccount_floor) (defScope s_LimitedAccount_floor) .none kV13 dc13 pm13 an13 cd13 ct13), sl13⟩)
    (c13 : PySem.W.codeIn K cd13 "LimitedAccount.floor" = true)
    (k13 : PySem.W.keepIn K (.ref f13) = true)
    (a14 : PySem.W.findIn K (.ref CAccount) "balance" = some (some (.ref p14)))
    (g14 : PySem.W.specialIn K (.ref p14) "__get__" = some (some (.builtin "property.__get__")))
    (t14 : PySem.W.takesIn K (.ref p14) = some true)
    (r14 : PySem.W.recIn K p14 "property" = some (.ref f14 :: rs14))
    (l14 : K.lookup f14 = some ⟨oc14, od14, .func (PySem.W.fnOf "balance" "Account.balance" (defArgs s_Account_balance) (defBody s_Account_balance) (defScope s_Account_balance) .none kV14 dc14 pm14 an14 cd14 ct14), sl14⟩)
    (c14 : PySem.W.codeIn K cd14 "Account.balance" = true)
    (k14 : PySem.W.keepIn K (.ref f14) = true)
    (a15 : PySem.W.findIn K (.ref CAccount) "may_withdraw" = some (some (.ref f15)))
    (i15 : PySem.W.isFn K (.ref f15) = true)
    (l15 : K.lookup f15 = some ⟨oc15, od15, .func (PySem.W.fnOf "may_withdraw" "Account.may_withdraw" (defArgs s_Account_may_withdraw) (defBody s_Account_may_withdraw) (defScope s_Account_may_withdraw) .none kV15 dc15 pm15 an15 cd15 ct15), sl15⟩)
    (c15 : PySem.W.codeIn K cd15 "Account.may_withdraw" = true)
    (k15 : PySem.W.keepIn K (.ref f15) = true)
    (a16 : PySem.W.nsIn K mainGlobals "_law_mix" = some (some (.ref f16)))
    (l16 : K.lookup f16 = some ⟨oc16, od16, .func (PySem.W.fnOf "_law_mix" "_law_mix" (defArgs s_law_mix) (defBody s_law_mix) (defScope s_law_mix) .none kV16 dc16 pm16 an16 cd16 ct16), sl16⟩)
    (c16 : PySem.W.codeIn K cd16 "_law_mix" = true)
    (k16 : PySem.W.keepIn K (.ref f16) = true)
    (a17 : PySem.W.nsIn K mainGlobals "_law_next" = some (some (.ref f17)))
    (l17 : K.lookup f17 = some ⟨oc17, od17, .func (PySem.W.fnOf "_law_next" "_law_next" (defArgs s_law_next) (defBody s_law_next) (defScope s_law_next) .none kV17 dc17 pm17 an17 cd17 ct17), sl17⟩)
    (c17 : PySem.W.codeIn K cd17 "_law_next" = true)
    (k17 : PySem.W.keepIn K (.ref f17) = true)
    (a18 : PySem.W.nsIn K mainGlobals "_law_alike" = some (some (.ref f18)))
    (l18 : K.lookup f18 = some ⟨oc18, od18, .func (PySem.W.fnOf "_law_alike" "_law_alike" (defArgs s_law_alike) (defBody s_law_alike) (defScope s_law_alike) .none kV18 dc18 pm18 an18 cd18 ct18), sl18⟩)
    (c18 : PySem.W.codeIn K cd18 "_law_alike" = true)
    (k18 : PySem.W.keepIn K (.ref f18) = true)
    (a19 : PySem.W.nsIn K mainGlobals "_law_outcome" = some (some (.ref f19)))
    (l19 : K.lookup f19 = some ⟨oc19, od19, .func (PySem.W.fnOf "_law_outcome" "_law_outcome" (defArgs s_law_outcome) (defBody s_law_outcome) (defScope s_law_outcome) .none kV19 dc19 pm19 an19 cd19 ct19), sl19⟩)
    (c19 : PySem.W.codeIn K cd19 "_law_outcome" = true)
    (k19 : PySem.W.keepIn K (.ref f19) = true)
    (a20 : PySem.W.nsIn K mainGlobals "_law_account_right" = some (some (.ref f20)))
    (l20 : K.lookup f20 = some ⟨oc20, od20, .func (PySem.W.fnOf "_law_account_right" "_law_account_right" (defArgs s_law_account_right) (defBody s_law_account_right) (defScope s_law_account_right) .none kV20 dc20 pm20 an20 cd20 ct20), sl20⟩)
    (c20 : PySem.W.codeIn K cd20 "_law_account_right" = true)
    (k20 : PySem.W.keepIn K (.ref f20) = true)
    (a21 : PySem.W.nsIn K mainGlobals "law" = some (some (.ref f21)))
    (l21 : K.lookup f21 = some ⟨oc21, od21, .func (PySem.W.fnOf "law" "law" (defArgs s_law) (defBody s_law) (defScope s_law) .none kV21 dc21 pm21 an21 (.ref c_law) ct21), sl21⟩)
    (c21 : PySem.W.codeIn K (.ref c_law) "law" = true)
    (k21 : PySem.W.keepIn K (.ref f21) = true)
    (hLimitedAccount___init__ : PySem.W.findIn K (.ref CLimitedAccount) "__init__" = some (some (.ref f2)))
    (hSavingsAccount___init__ : PySem.W.findIn K (.ref CSavingsAccount) "__init__" = some (some (.ref f2)))
    (hSavingsAccount_allows : PySem.W.findIn K (.ref CSavingsAccount) "allows" = some (some (.ref f5)))
    (hLimitedAccount_balance : PySem.W.findIn K (.ref CLimitedAccount) "balance" = some (some (.ref p14)))
    (hSavingsAccount_balance : PySem.W.findIn K (.ref CSavingsAccount) "balance" = some (some (.ref p14)))
    (hSavingsAccount_floor : PySem.W.findIn K (.ref CSavingsAccount) "floor" = some (some (.ref p13)))
    (hLimitedAccount_kind : PySem.W.findIn K (.ref CLimitedAccount) "kind" = some (some (.ref p8)))
    (hSavingsAccount_kind : PySem.W.findIn K (.ref CSavingsAccount) "kind" = some (some (.ref p8)))
    (hLimitedAccount_account_name : PySem.W.findIn K (.ref CLimitedAccount) "account_name" = some (some (.ref p7)))
    (hSavingsAccount_account_name : PySem.W.findIn K (.ref CSavingsAccount) "account_name" = some (some (.ref p7)))
    (hLimitedAccount_may_withdraw : PySem.W.findIn K (.ref CLimitedAccount) "may_withdraw" = some (some (.ref f15)))
    (xlInvalidName : K.lookup CInvalidName = some (excClassObj nmInvalidName qInvalidName CInvalidName NInvalidName bsInvalidName bmInvalidName true snInvalidName subInvalidName abInvalidName colInvalidName ddInvalidName kaInvalidName kbInvalidName kdInvalidName keInvalidName kgInvalidName "ValueError.__new__"))
    (xmInvalidName : PySem.HandSPX.refsVE bmInvalidName = true)
    (xsaInvalidName : PySem.W.findIn K (.ref CInvalidName) "__setattr__" = some (some (.builtin "object.__setattr__")))
    (xsbInvalidName : PySem.W.subIn K (.ref CInvalidName) (.type "BaseException") = some true)
    (xtyInvalidName : PySem.W.typeIn K (.ref CInvalidName) = some (.type "type"))
    (xkpInvalidName : PySem.W.keepIn K (.ref CInvalidName) = true)
    (xnaInvalidName_name : PySem.W.findIn K (.ref CInvalidName) "name" = some none)
    (a22 : PySem.W.findIn K (.ref CInvalidName) "__init__" = some (some (.ref f22)))
    (y22 : PySem.W.typeIn K (.ref f22) = some (.type "function"))
    (l22 : K.lookup f22 = some ⟨oc22, od22, .func (PySem.W.fnOf "__init__" "InvalidName.__init__" (defArgs s_XInvalidName) (defBody s_XInvalidName) (defScope s_XInvalidName) .none kV22 dc22 pm22 an22 cd22 ct22), sl22⟩)
    (c22 : PySem.W.codeIn K cd22 "InvalidName.__init__" = true)
    (k22 : PySem.W.keepIn K (.ref f22) = true)
    (xlOverdrawn : K.lookup COverdrawn = some (excClassObj nmOverdrawn qOverdrawn COverdrawn NOverdrawn bsOverdrawn bmOverdrawn true snOverdrawn subOverdrawn abOverdrawn colOverdrawn ddOverdrawn kaOverdrawn kbOverdrawn kdOverdrawn keOverdrawn kgOverdrawn "ValueError.__new__"))
    (xmOverdrawn : PySem.HandSPX.refsVE bmOverdrawn = true)
    (xsaOverdrawn : PySem.W.findIn K (.ref COverdrawn) "__setattr__" = some (some (.builtin "object.__setattr__")))
    (xsbOverdrawn : PySem.W.subIn K (.ref COverdrawn) (.type "BaseException") = some true)
    (xtyOverdrawn : PySem.W.typeIn K (.ref COverdrawn) = some (.type "type"))
    (xkpOverdrawn : PySem.W.keepIn K (.ref COverdrawn) = true)
    (xnaOverdrawn_name : PySem.W.findIn K (.ref COverdrawn) "name" = some none)
    (xnaOverdrawn_day : PySem.W.findIn K (.ref COverdrawn) "day" = some none)
    (a23 : PySem.W.findIn K (.ref COverdrawn) "__init__" = some (some (.ref f23)))
    (y23 : PySem.W.typeIn K (.ref f23) = some (.type "function"))
    (l23 : K.lookup f23 = some ⟨oc23, od23, .func (PySem.W.fnOf "__init__" "Overdrawn.__init__" (defArgs s_XOverdrawn) (defBody s_XOverdrawn) (defScope s_XOverdrawn) .none kV23 dc23 pm23 an23 cd23 ct23), sl23⟩)
    (c23 : PySem.W.codeIn K cd23 "Overdrawn.__init__" = true)
    (k23 : PySem.W.keepIn K (.ref f23) = true)
    (oei : PySem.W.findCls K (.ref COrderError) (.type "type") "__init__" = some (.val (.builtin "ValueError.__init__")))
    (z_ValueError : PySem.W.nsIn K mainGlobals "ValueError" = some none)
    (z_all : PySem.W.nsIn K mainGlobals "all" = some none)
    (z_bool : PySem.W.nsIn K mainGlobals "bool" = some none)
    (z_dict : PySem.W.nsIn K mainGlobals "dict" = some none)
    (z_int : PySem.W.nsIn K mainGlobals "int" = some none)
    (z_isinstance : PySem.W.nsIn K mainGlobals "isinstance" = some none)
    (z_len : PySem.W.nsIn K mainGlobals "len" = some none)
    (z_list : PySem.W.nsIn K mainGlobals "list" = some none)
    (z_max : PySem.W.nsIn K mainGlobals "max" = some none)
    (z_range : PySem.W.nsIn K mainGlobals "range" = some none)
    (z_str : PySem.W.nsIn K mainGlobals "str" = some none)
    (z_tuple : PySem.W.nsIn K mainGlobals "tuple" = some none)
    (y_LETTERS : PySem.W.nsIn K mainGlobals "LETTERS" = some (some (.str "abcdefghijklmnopqrstuvwxyz" t_LETTERS)))
    (y_MAX_AMOUNT : PySem.W.nsIn K mainGlobals "MAX_AMOUNT" = some (some (.int 1000000000000000000 t_MAX_AMOUNT)))
    (y_MAX_LETTERS : PySem.W.nsIn K mainGlobals "MAX_LETTERS" = some (some (.int 8 t_MAX_LETTERS)))
    (tb_law : K.lookup c_law = some ⟨.type "code", dd_law, .fields vs_law, sl_law⟩)
    (tp_law : vs_law[11]? = some (.ref P_law))
    (th_law : hdB c_law P_law vs_law = true)
    (tn_law : K.lookup P_law = none)
    (tr_law : ((PyProof.Rows.recsOf q).any fun e => e.name == "law") = true)
    (suA : PySem.W.findIn K (.ref CSavingsAccount) "may_withdraw" = some (some (.ref fS)))
    (suL : K.lookup fS = some ⟨ocS, odS, .func (PySem.W.ksFn "may_withdraw" "SavingsAccount.may_withdraw" (defArgs s_SavingsAccount_may_withdraw) (defBody s_SavingsAccount_may_withdraw) (defScope s_SavingsAccount_may_withdraw) .none kVS dcS pmS anS (.ref cdS) ctS ccS), oslS⟩)
    (suC : PySem.W.codeIn K (.ref cdS) "SavingsAccount.may_withdraw" = true)
    (suI : PySem.W.isFn K (.ref fS) = true)
    (suK : PySem.W.keepIn K (.ref fS) = true)
    (suD : K.lookup cdS = some ⟨cclS, cddS, .fields vscS, ccsS⟩)
    (suV : vscS[2]? = some (.str fileS tfS))
    (suF : ((l.prog.main.file : Str) == fileS) = true)
    (suE : K.lookup ccS = some ⟨clS, cldS, .cell (some (.ref CSavingsAccount)), cslS⟩)
    (suG : PySem.W.clsIn K CSavingsAccount = some cdDS)
    (suM : PySem.W.mroIn K CSavingsAccount (.ref CSavingsAccount) = some true)
    (suZ : PySem.W.nsIn K mainGlobals "super" = some none)
    (suT : (l.prog.main.scope.names.lookup ("super" : Str)).isSome = false)
    (suO : PySem.W.nsIn K cStatics "thirdparty.any" = some none)
    (suS : PySem.W.ks_superIn K CSavingsAccount CSavingsAccount "may_withdraw" = some (some (.ref f15)))
    (suY : PySem.W.typeIn K (.ref f15) = some (.type "function"))
    (suN : PySem.W.fnIn K f15 = true)
    (kf0 : exOneB K [CDuplicateName, CEndless, CInvalidAmount, CInvalidCount, CInvalidName, CInvalidOperation, CInvalidOrder, CInvalidText, CNotEmpty, COverdrawn, CSameAccount, CTooManyAccounts, CTooManyOrders, CUnknownAccount, CUnknownKind, CUnknownOrder, CWrongDay] COrderError COverdrawn 9 ["name", "day"] = true)
    (kf1 : exOneB K [CDuplicateName, CEndless, CInvalidAmount, CInvalidCount, CInvalidName, CInvalidOperation, CInvalidOrder, CInvalidText, CNotEmpty, COverdrawn, CSameAccount, CTooManyAccounts, CTooManyOrders, CUnknownAccount, CUnknownKind, CUnknownOrder, CWrongDay] COrderError CInvalidAmount 2 [] = true)
    (kf2 : exOneB K [CDuplicateName, CEndless, CInvalidAmount, CInvalidCount, CInvalidName, CInvalidOperation, CInvalidOrder, CInvalidText, CNotEmpty, COverdrawn, CSameAccount, CTooManyAccounts, CTooManyOrders, CUnknownAccount, CUnknownKind, CUnknownOrder, CWrongDay] COrderError CInvalidName 4 ["name"] = true)
    (kf3 : exOneB K [CDuplicateName, CEndless, CInvalidAmount, CInvalidCount, CInvalidName, CInvalidOperation, CInvalidOrder, CInvalidText, CNotEmpty, COverdrawn, CSameAccount, CTooManyAccounts, CTooManyOrders, CUnknownAccount, CUnknownKind, CUnknownOrder, CWrongDay] COrderError CUnknownKind 14 [] = true)
    (kf4 : clsIB K CAccount = true)
    (kf5 : clsIB K CLimitedAccount = true)
    (kf6 : clsIB K CSavingsAccount = true)
    (kf7 : kitB K CAccount CLimitedAccount false = true)
    (kf8 : kitB K CAccount CSavingsAccount false = true)
    (kf9 : kitB K CLimitedAccount CLimitedAccount true = true)
    (kf10 : kitB K CLimitedAccount CSavingsAccount false = true)
    (kf11 : kitB K CSavingsAccount CSavingsAccount true = true)
    : LamX.LawAtS l w K CX0 6 63 "_law_script" mg fa h := by
  have e := hfa.symm.trans (PySem.W.mg_of X G a21)
  cases e
  have B : Bi K mg { Account := CAccount, LimitedAccount := CLimitedAccount, SavingsAccount := CSavingsAccount, InvalidName := CInvalidName, Overdrawn := COverdrawn, InvalidAmount := CInvalidAmount, UnknownKind := CUnknownKind, DuplicateName := CDuplicateName, Endless := CEndless, InvalidCount := CInvalidCount, InvalidOperation := CInvalidOperation, InvalidOrder := CInvalidOrder, InvalidText := CInvalidText, NotEmpty := CNotEmpty, OrderError := COrderError, SameAccount := CSameAccount, TooManyAccounts := CTooManyAccounts, TooManyOrders := CTooManyOrders, UnknownAccount := CUnknownAccount, UnknownOrder := CUnknownOrder, WrongDay := CWrongDay, T_law := P_law : CE } := ⟨PySem.W.mg_none_of X G z_ValueError, PySem.W.mg_none_of X G z_all, PySem.W.mg_none_of X G z_bool, PySem.W.mg_none_of X G z_dict, PySem.W.mg_none_of X G z_int, PySem.W.mg_none_of X G z_isinstance, PySem.W.mg_none_of X G z_len, PySem.W.mg_none_of X G z_list, PySem.W.mg_none_of X G z_max, PySem.W.mg_none_of X G z_range, PySem.W.mg_none_of X G z_str, PySem.W.mg_none_of X G z_tuple, ⟨_, PySem.W.mg_of X G y_LETTERS⟩, ⟨_, PySem.W.mg_of X G y_MAX_AMOUNT⟩, ⟨_, PySem.W.mg_of X G y_MAX_LETTERS⟩, ⟨pgAccount, hdAccount, poAccount, saAccount⟩, ⟨pgLimitedAccount, hdLimitedAccount, poLimitedAccount, saLimitedAccount⟩, ⟨pgSavingsAccount, hdSavingsAccount, poSavingsAccount, saSavingsAccount⟩, naAccount_amount, naAccount_credit, naAccount_cycle, naAccount_title, naLimitedAccount_amount, naLimitedAccount_credit, naLimitedAccount_cycle, naLimitedAccount_title, naSavingsAccount_amount, naSavingsAccount_credit, naSavingsAccount_cycle, naSavingsAccount_title, ⟨_, coAccount_KIND, ⟨_, rfl⟩, cgAccount_KIND, by decide +kernel⟩, ⟨_, coLimitedAccount_KIND, ⟨_, rfl⟩, cgLimitedAccount_KIND, by decide +kernel⟩, ⟨_, coSavingsAccount_KIND, ⟨_, rfl⟩, cgSavingsAccount_KIND, by decide +kernel⟩, ⟨PySem.W.mg_of X G aCAccount, _, _, ⟨rdAccount, gaAccount⟩, ⟨cvAccount_KIND, ⟨_, rfl⟩⟩⟩, ⟨PySem.W.mg_of X G aCLimitedAccount, _, _, ⟨rdLimitedAccount, gaLimitedAccount⟩, ⟨cvLimitedAccount_KIND, ⟨_, rfl⟩⟩⟩, ⟨PySem.W.mg_of X G aCSavingsAccount, _, _, ⟨rdSavingsAccount, gaSavingsAccount⟩, ⟨cvSavingsAccount_KIND, ⟨_, rfl⟩⟩⟩, PySem.W.mg_of X G aCDuplicateName, PySem.W.mg_of X G aCEndless, PySem.W.mg_of X G aCInvalidAmount, PySem.W.mg_of X G aCInvalidCount, PySem.W.mg_of X G aCInvalidName, PySem.W.mg_of X G aCInvalidOperation, PySem.W.mg_of X G aCInvalidOrder, PySem.W.mg_of X G aCInvalidText, PySem.W.mg_of X G aCLimitedAccount, PySem.W.mg_of X G aCNotEmpty, PySem.W.mg_of X G aCOrderError, PySem.W.mg_of X G aCOverdrawn, PySem.W.mg_of X G aCSameAccount, PySem.W.mg_of X G aCSavingsAccount, PySem.W.mg_of X G aCTooManyAccounts, PySem.W.mg_of X G aCTooManyOrders, PySem.W.mg_of X G aCUnknownAccount, PySem.W.mg_of X G aCUnknownKind, PySem.W.mg_of X G aCUnknownOrder, PySem.W.mg_of X G aCWrongDay, ⟨PySem.W.mg_of X G aCInvalidAmount, ⟨_, PySem.F.excBase_ValueError, xeInvalidAmount⟩, xkInvalidAmount, xsInvalidAmount, xtInvalidAmount⟩, ⟨PySem.W.mg_of X G aCUnknownKind, ⟨_, PySem.F.excBase_ValueError, xeUnknownKind⟩, xkUnknownKind, xsUnknownKind, xtUnknownKind⟩, ⟨kf0, kf1, kf2, kf3, kf4, kf5, kf6, kf7, kf8, kf9, kf10, kf11⟩⟩
  have tt_law := tab_at (st := s_law) T X tr_law (PySem.W.mg_of X G a21) (fun_mk (st := s_law) l21 c21 k21) rfl tb_law th_law
  refine ⟨PySem.W.fnOf "law" "law" (defArgs s_law) (defBody s_law) (defScope s_law) .none kV21 dc21 pm21 an21 (.ref c_law) ct21, [(c_law, P_law)], spLawT K ([(P_law, CO.tl ("law" ++ ".<locals>." ++ "<lambda>"))].map (·.1)), ?_, ?_, ?_, fun s v => .of_eq rfl, fun H a ns hl _ hH hS => ⟨a, ns, rfl, hS, hl, ?_, fun _ => rfl⟩, fun base _ _ TBs => ?_⟩
  · exact fun p hp => by
      simp only [List.mem_cons, List.not_mem_nil, or_false] at hp
      rcases hp with rfl
      · exact tt_law.1
  · exact fun p hp => by
      simp only [List.mem_cons, List.not_mem_nil, or_false] at hp
      rcases hp with rfl
      · exact tn_law
  · exact fun p hp => by
      simp only [List.mem_cons, List.not_mem_nil, or_false] at hp
      rcases hp with rfl
      · exact tt_law.2
  · intro p hp
    simp only [List.map_cons, List.map_nil, List.mem_cons, List.not_mem_nil, or_false] at hp
    rcases hp with rfl
    · exact hH (c_law, p) (by simp)
  have GX_InvalidName : Xc1 l.prog w K mg base "InvalidName" CInvalidName "name" := ⟨⟨⟨_, _, _, _, _, _, _, _, _, _, _, _, _, _, _, xlInvalidName, xmInvalidName⟩, xsaInvalidName, xsbInvalidName, xtyInvalidName, xkpInvalidName⟩, PySem.W.mg_of X G aCInvalidName, xnaInvalidName_name, _, _, a22, y22, fx_InvalidName (fun_mk (st := s_XInvalidName) l22 c22 k22) (PySem.W.mg_of X G aCOrderError) ⟨rdOrderError, gaOrderError⟩ oei, ⟨fun s us ws _ l1 l2 => match us, ws, l1, l2 with | [_], [_], _, _ => .of_eq rfl, fun r1 r2 => r1.append r2⟩⟩
  have GX_Overdrawn : Xc2 l.prog w K mg base "Overdrawn" COverdrawn "name" "day" := ⟨⟨⟨_, _, _, _, _, _, _, _, _, _, _, _, _, _, _, xlOverdrawn, xmOverdrawn⟩, xsaOverdrawn, xsbOverdrawn, xtyOverdrawn, xkpOverdrawn⟩, PySem.W.mg_of X G aCOverdrawn, xnaOverdrawn_name, xnaOverdrawn_day, _, _, a23, y23, fx_Overdrawn (fun_mk (st := s_XOverdrawn) l23 c23 k23) (PySem.W.mg_of X G aCOrderError) ⟨rdOrderError, gaOrderError⟩ oei, ⟨fun s us ws _ l1 l2 => match us, ws, l1, l2 with | [_], [_, _], _, _ => .of_eq rfl, fun r1 r2 => r1.append r2⟩⟩
  have O_is_integer := fo_is_integer (P := l.prog) (w := w) (base := base) (C := { Account := CAccount, LimitedAccount := CLimitedAccount, SavingsAccount := CSavingsAccount, InvalidName := CInvalidName, Overdrawn := COverdrawn, InvalidAmount := CInvalidAmount, UnknownKind := CUnknownKind, DuplicateName := CDuplicateName, Endless := CEndless, InvalidCount := CInvalidCount, InvalidOperation := CInvalidOperation, InvalidOrder := CInvalidOrder, InvalidText := CInvalidText, NotEmpty := CNotEmpty, OrderError := COrderError, SameAccount := CSameAccount, TooManyAccounts := CTooManyAccounts, TooManyOrders := CTooManyOrders, UnknownAccount := CUnknownAccount, UnknownOrder := CUnknownOrder, WrongDay := CWrongDay, T_law := P_law : CE }) (fun_mk (st := s_is_integer) l0 c0 k0) B 
  have G_is_integer : DOk l.prog w K mg base CX0 "is_integer" ["value"] 1 sp_is_integer := ⟨_, _, O_is_integer, PySem.W.mg_of X G a0, k0, ((fun_mk (st := s_is_integer) l0 c0 k0 : Fun K _ _ _ _ _).binds (ps := ["value"]) (fun _ _ _ _ _ _ us hl => match us, hl with | [_], _ => rfl))⟩
  have O_is_amount := fo_is_amount (P := l.prog) (w := w) (base := base) (C := { Account := CAccount, LimitedAccount := CLimitedAccount, SavingsAccount := CSavingsAccount, InvalidName := CInvalidName, Overdrawn := COverdrawn, InvalidAmount := CInvalidAmount, UnknownKind := CUnknownKind, DuplicateName := CDuplicateName, Endless := CEndless, InvalidCount := CInvalidCount, InvalidOperation := CInvalidOperation, InvalidOrder := CInvalidOrder, InvalidText := CInvalidText, NotEmpty := CNotEmpty, OrderError := COrderError, SameAccount := CSameAccount, TooManyAccounts := CTooManyAccounts, TooManyOrders := CTooManyOrders, UnknownAccount := CUnknownAccount, UnknownOrder := CUnknownOrder, WrongDay := CWrongDay, T_law := P_law : CE }) (fun_mk (st := s_is_amount) l1 c1 k1) B G_is_integer
  have G_is_amount : DOk l.prog w K mg base CX0 "is_amount" ["amount", "low", "high"] 2 (sp_is_amount { Account := CAccount, LimitedAccount := CLimitedAccount, SavingsAccount := CSavingsAccount, InvalidName := CInvalidName, Overdrawn := COverdrawn, InvalidAmount := CInvalidAmount, UnknownKind := CUnknownKind, DuplicateName := CDuplicateName, Endless := CEndless, InvalidCount := CInvalidCount, InvalidOperation := CInvalidOperation, InvalidOrder := CInvalidOrder, InvalidText := CInvalidText, NotEmpty := CNotEmpty, OrderError := COrderError, SameAccount := CSameAccount, TooManyAccounts := CTooManyAccounts, TooManyOrders := CTooManyOrders, UnknownAccount := CUnknownAccount, UnknownOrder := CUnknownOrder, WrongDay := CWrongDay, T_law := P_law : CE }) := ⟨_, _, O_is_amount, PySem.W.mg_of X G a1, k1, ((fun_mk (st := s_is_amount) l1 c1 k1 : Fun K _ _ _ _ _).binds (ps := ["amount", "low", "high"]) (fun _ _ _ _ _ _ us hl => match us, hl with | [_, _, _], _ => rfl))⟩
  have O_Account___init__ := fo_Account___init__ (P := l.prog) (w := w) (base := base) (C := { Account := CAccount, LimitedAccount := CLimitedAccount, SavingsAccount := CSavingsAccount, InvalidName := CInvalidName, Overdrawn := COverdrawn, InvalidAmount := CInvalidAmount, UnknownKind := CUnknownKind, DuplicateName := CDuplicateName, Endless := CEndless, InvalidCount := CInvalidCount, InvalidOperation := CInvalidOperation, InvalidOrder := CInvalidOrder, InvalidText := CInvalidText, NotEmpty := CNotEmpty, OrderError := COrderError, SameAccount := CSameAccount, TooManyAccounts := CTooManyAccounts, TooManyOrders := CTooManyOrders, UnknownAccount := CUnknownAccount, UnknownOrder := CUnknownOrder, WrongDay := CWrongDay, T_law := P_law : CE }) (fun_mk (st := s_Account___init__) l2 c2 k2) B 
  have G_LimitedAccount___init__ : DKok l.prog w K mg base CLimitedAccount "LimitedAccount" ["self", "name", "limit", "amount", "cycle"] 1 (sp_Account___init__ { Account := CAccount, LimitedAccount := CLimitedAccount, SavingsAccount := CSavingsAccount, InvalidName := CInvalidName, Overdrawn := COverdrawn, InvalidAmount := CInvalidAmount, UnknownKind := CUnknownKind, DuplicateName := CDuplicateName, Endless := CEndless, InvalidCount := CInvalidCount, InvalidOperation := CInvalidOperation, InvalidOrder := CInvalidOrder, InvalidText := CInvalidText, NotEmpty := CNotEmpty, OrderError := COrderError, SameAccount := CSameAccount, TooManyAccounts := CTooManyAccounts, TooManyOrders := CTooManyOrders, UnknownAccount := CUnknownAccount, UnknownOrder := CUnknownOrder, WrongDay := CWrongDay, T_law := P_law : CE }) := ⟨_, _, ⟨mkLimitedAccount, hLimitedAccount___init__, i2, kcLimitedAccount⟩, O_Account___init__, ((fun_mk (st := s_Account___init__) l2 c2 k2 : Fun K _ _ _ _ _).binds (ps := ["self", "name", "limit", "amount", "cycle"]) (fun _ _ _ _ _ _ us hl => match us, hl with | [_, _, _, _, _], _ => rfl)), PySem.W.mg_of X G aCLimitedAccount⟩
  have G_SavingsAccount___init__ : DKok l.prog w K mg base CSavingsAccount "SavingsAccount" ["self", "name", "limit", "amount", "cycle"] 1 (sp_Account___init__ { Account := CAccount, LimitedAccount := CLimitedAccount, SavingsAccount := CSavingsAccount, InvalidName := CInvalidName, Overdrawn := COverdrawn, InvalidAmount := CInvalidAmount, UnknownKind := CUnknownKind, DuplicateName := CDuplicateName, Endless := CEndless, InvalidCount := CInvalidCount, InvalidOperation := CInvalidOperation, InvalidOrder := CInvalidOrder, InvalidText := CInvalidText, NotEmpty := CNotEmpty, OrderError := COrderError, SameAccount := CSameAccount, TooManyAccounts := CTooManyAccounts, TooManyOrders := CTooManyOrders, UnknownAccount := CUnknownAccount, UnknownOrder := CUnknownOrder, WrongDay := CWrongDay, T_law := P_law : CE }) := ⟨_, _, ⟨mkSavingsAccount, hSavingsAccount___init__, i2, kcSavingsAccount⟩, O_Account___init__, ((fun_mk (st := s_Account___init__) l2 c2 k2 : Fun K _ _ _ _ _).binds (ps := ["self", "name", "limit", "amount", "cycle"]) (fun _ _ _ _ _ _ us hl => match us, hl with | [_, _, _, _, _], _ => rfl)), PySem.W.mg_of X G aCSavingsAccount⟩
  have G_Account___init__ : DKok l.prog w K mg base CAccount "Account" ["self", "name", "limit", "amount", "cycle"] 1 (sp_Account___init__ { Account := CAccount, LimitedAccount := CLimitedAccount, SavingsAccount := CSavingsAccount, InvalidName := CInvalidName, Overdrawn := COverdrawn, InvalidAmount := CInvalidAmount, UnknownKind := CUnknownKind, DuplicateName := CDuplicateName, Endless := CEndless, InvalidCount := CInvalidCount, InvalidOperation := CInvalidOperation, InvalidOrder := CInvalidOrder, InvalidText := CInvalidText, NotEmpty := CNotEmpty, OrderError := COrderError, SameAccount := CSameAccount, TooManyAccounts := CTooManyAccounts, TooManyOrders := CTooManyOrders, UnknownAccount := CUnknownAccount, UnknownOrder := CUnknownOrder, WrongDay := CWrongDay, T_law := P_law : CE }) := ⟨_, _, ⟨mkAccount, a2, i2, kcAccount⟩, O_Account___init__, ((fun_mk (st := s_Account___init__) l2 c2 k2 : Fun K _ _ _ _ _).binds (ps := ["self", "name", "limit", "amount", "cycle"]) (fun _ _ _ _ _ _ us hl => match us, hl with | [_, _, _, _, _], _ => rfl)), PySem.W.mg_of X G aCAccount⟩
  have O_Account_is_name := fo_Account_is_name (P := l.prog) (w := w) (base := base) (C := { Account := CAccount, LimitedAccount := CLimitedAccount, SavingsAccount := CSavingsAccount, InvalidName := CInvalidName, Overdrawn := COverdrawn, InvalidAmount := CInvalidAmount, UnknownKind := CUnknownKind, DuplicateName := CDuplicateName, Endless := CEndless, InvalidCount := CInvalidCount, InvalidOperation := CInvalidOperation, InvalidOrder := CInvalidOrder, InvalidText := CInvalidText, NotEmpty := CNotEmpty, OrderError := COrderError, SameAccount := CSameAccount, TooManyAccounts := CTooManyAccounts, TooManyOrders := CTooManyOrders, UnknownAccount := CUnknownAccount, UnknownOrder := CUnknownOrder, WrongDay := CWrongDay, T_law := P_law : CE }) (fun_mk (st := s_Account_is_name) l3 c3 k3) B 
  have G_Account_is_name : DStok l.prog w K mg base "Account" CAccount "is_name" ["name"] 1 (sp_Account_is_name { Account := CAccount, LimitedAccount := CLimitedAccount, SavingsAccount := CSavingsAccount, InvalidName := CInvalidName, Overdrawn := COverdrawn, InvalidAmount := CInvalidAmount, UnknownKind := CUnknownKind, DuplicateName := CDuplicateName, Endless := CEndless, InvalidCount := CInvalidCount, InvalidOperation := CInvalidOperation, InvalidOrder := CInvalidOrder, InvalidText := CInvalidText, NotEmpty := CNotEmpty, OrderError := COrderError, SameAccount := CSameAccount, TooManyAccounts := CTooManyAccounts, TooManyOrders := CTooManyOrders, UnknownAccount := CUnknownAccount, UnknownOrder := CUnknownOrder, WrongDay := CWrongDay, T_law := P_law : CE }) := ⟨p3, _, _, _, O_Account_is_name, PySem.W.mg_of X G aCAccount, ⟨rdAccount, gaAccount⟩, a3, ⟨_, r3⟩, k3, ((fun_mk (st := s_Account_is_name) l3 c3 k3 : Fun K _ _ _ _ _).binds (ps := ["name"]) (fun _ _ _ _ _ _ us hl => match us, hl with | [_], _ => rfl))⟩
  have O_Account_allows := fo_Account_allows (P := l.prog) (w := w) (base := base) (C := { Account := CAccount, LimitedAccount := CLimitedAccount, SavingsAccount := CSavingsAccount, InvalidName := CInvalidName, Overdrawn := COverdrawn, InvalidAmount := CInvalidAmount, UnknownKind := CUnknownKind, DuplicateName := CDuplicateName, Endless := CEndless, InvalidCount := CInvalidCount, InvalidOperation := CInvalidOperation, InvalidOrder := CInvalidOrder, InvalidText := CInvalidText, NotEmpty := CNotEmpty, OrderError := COrderError, SameAccount := CSameAccount, TooManyAccounts := CTooManyAccounts, TooManyOrders := CTooManyOrders, UnknownAccount := CUnknownAccount, UnknownOrder := CUnknownOrder, WrongDay := CWrongDay, T_law := P_law : CE }) (fun_mk (st := s_Account_allows) l4 c4 k4) B 
  have G_Account_allows : DMok l.prog w K mg base CAccount "allows" ["self", "amount"] 1 (sp_Account_allows { Account := CAccount, LimitedAccount := CLimitedAccount, SavingsAccount := CSavingsAccount, InvalidName := CInvalidName, Overdrawn := COverdrawn, InvalidAmount := CInvalidAmount, UnknownKind := CUnknownKind, DuplicateName := CDuplicateName, Endless := CEndless, InvalidCount := CInvalidCount, InvalidOperation := CInvalidOperation, InvalidOrder := CInvalidOrder, InvalidText := CInvalidText, NotEmpty := CNotEmpty, OrderError := COrderError, SameAccount := CSameAccount, TooManyAccounts := CTooManyAccounts, TooManyOrders := CTooManyOrders, UnknownAccount := CUnknownAccount, UnknownOrder := CUnknownOrder, WrongDay := CWrongDay, T_law := P_law : CE }) := ⟨_, _, O_Account_allows, ⟨pgAccount, hdAccount, poAccount, saAccount⟩, ⟨a4, i4, k4⟩, ((fun_mk (st := s_Account_allows) l4 c4 k4 : Fun K _ _ _ _ _).binds (ps := ["self", "amount"]) (fun _ _ _ _ _ _ us hl => match us, hl with | [_, _], _ => rfl))⟩
  have O_LimitedAccount_allows := fo_LimitedAccount_allows (P := l.prog) (w := w) (base := base) (C := { Account := CAccount, LimitedAccount := CLimitedAccount, SavingsAccount := CSavingsAccount, InvalidName := CInvalidName, Overdrawn := COverdrawn, InvalidAmount := CInvalidAmount, UnknownKind := CUnknownKind, DuplicateName := CDuplicateName, Endless := CEndless, InvalidCount := CInvalidCount, InvalidOperation := CInvalidOperation, InvalidOrder := CInvalidOrder, InvalidText := CInvalidText, NotEmpty := CNotEmpty, OrderError := COrderError, SameAccount := CSameAccount, TooManyAccounts := CTooManyAccounts, TooManyOrders := CTooManyOrders, UnknownAccount := CUnknownAccount, UnknownOrder := CUnknownOrder, WrongDay := CWrongDay, T_law := P_law : CE }) (fun_mk (st := s_LimitedAccount_allows) l5 c5 k5) B 
  have G_LimitedAccount_allows : DMok l.prog w K mg base CLimitedAccount "allows" ["self", "amount"] 1 (sp_LimitedAccount_allows { Account := CAccount, LimitedAccount := CLimitedAccount, SavingsAccount := CSavingsAccount, InvalidName := CInvalidName, Overdrawn := COverdrawn, InvalidAmount := CInvalidAmount, UnknownKind := CUnknownKind, DuplicateName := CDuplicateName, Endless := CEndless, InvalidCount := CInvalidCount, InvalidOperation := CInvalidOperation, InvalidOrder := CInvalidOrder, InvalidText := CInvalidText, NotEmpty := CNotEmpty, OrderError := COrderError, SameAccount := CSameAccount, TooManyAccounts := CTooManyAccounts, TooManyOrders := CTooManyOrders, UnknownAccount := CUnknownAccount, UnknownOrder := CUnknownOrder, WrongDay := CWrongDay, T_law := P_law : CE }) := ⟨_, _, O_LimitedAccount_allows, ⟨pgLimitedAccount, hdLimitedAccount, poLimitedAccount, saLimitedAccount⟩, ⟨a5, i5, k5⟩, ((fun_mk (st := s_LimitedAccount_allows) l5 c5 k5 : Fun K _ _ _ _ _).binds (ps := ["self", "amount"]) (fun _ _ _ _ _ _ us hl => match us, hl with | [_, _], _ => rfl))⟩
  have G_SavingsAccount_allows : DMok l.prog w K mg base CSavingsAccount "allows" ["self", "amount"] 1 (sp_LimitedAccount_allows { Account := CAccount, LimitedAccount := CLimitedAccount, SavingsAccount := CSavingsAccount, InvalidName := CInvalidName, Overdrawn := COverdrawn, InvalidAmount := CInvalidAmount, UnknownKind := CUnknownKind, DuplicateName := CDuplicateName, Endless := CEndless, InvalidCount := CInvalidCount, InvalidOperation := CInvalidOperation, InvalidOrder := CInvalidOrder, InvalidText := CInvalidText, NotEmpty := CNotEmpty, OrderError := COrderError, SameAccount := CSameAccount, TooManyAccounts := CTooManyAccounts, TooManyOrders := CTooManyOrders, UnknownAccount := CUnknownAccount, UnknownOrder := CUnknownOrder, WrongDay := CWrongDay, T_law := P_law : CE }) := ⟨_, _, O_LimitedAccount_allows, ⟨pgSavingsAccount, hdSavingsAccount, poSavingsAccount, saSavingsAccount⟩, ⟨hSavingsAccount_allows, i5, k5⟩, ((fun_mk (st := s_LimitedAccount_allows) l5 c5 k5 : Fun K _ _ _ _ _).binds (ps := ["self", "amount"]) (fun _ _ _ _ _ _ us hl => match us, hl with | [_, _], _ => rfl))⟩
  have O_Account_made := fo_Account_made (P := l.prog) (w := w) (base := base) (C := { Account := CAccount, LimitedAccount := CLimitedAccount, SavingsAccount := CSavingsAccount, InvalidName := CInvalidName, Overdrawn := COverdrawn, InvalidAmount := CInvalidAmount, UnknownKind := CUnknownKind, DuplicateName := CDuplicateName, Endless := CEndless, InvalidCount := CInvalidCount, InvalidOperation := CInvalidOperation, InvalidOrder := CInvalidOrder, InvalidText := CInvalidText, NotEmpty := CNotEmpty, OrderError := COrderError, SameAccount := CSameAccount, TooManyAccounts := CTooManyAccounts, TooManyOrders := CTooManyOrders, UnknownAccount := CUnknownAccount, UnknownOrder := CUnknownOrder, WrongDay := CWrongDay, T_law := P_law : CE }) (fun_mk (st := s_Account_made) l6 c6 k6) B G_Account_is_name GX_InvalidName G_is_amount G_LimitedAccount___init__ G_SavingsAccount___init__ G_Account___init__ G_Account_allows G_LimitedAccount_allows G_SavingsAccount_allows GX_Overdrawn
  have G_Account_made_2_limit_balance_cycle : DCok (L2.CX l.prog w) l.prog w K mg base "Account" CAccount "made" 2 ["limit", "balance", "cycle"] gd_Account_made_2_limit_balance_cycle 3 (sp_Account_made { Account := CAccount, LimitedAccount := CLimitedAccount, SavingsAccount := CSavingsAccount, InvalidName := CInvalidName, Overdrawn := COverdrawn, InvalidAmount := CInvalidAmount, UnknownKind := CUnknownKind, DuplicateName := CDuplicateName, Endless := CEndless, InvalidCount := CInvalidCount, InvalidOperation := CInvalidOperation, InvalidOrder := CInvalidOrder, InvalidText := CInvalidText, NotEmpty := CNotEmpty, OrderError := COrderError, SameAccount := CSameAccount, TooManyAccounts := CTooManyAccounts, TooManyOrders := CTooManyOrders, UnknownAccount := CUnknownAccount, UnknownOrder := CUnknownOrder, WrongDay := CWrongDay, T_law := P_law : CE }) := ⟨p6, _, _, _, _, _, _, O_Account_made, PySem.W.mg_of X G aCAccount, ⟨rdAccount, gaAccount⟩, ⟨a6, ⟨_, r6⟩, n6⟩, ⟨fun s us ws _ l1 l2 => match us, ws, l1, l2 with | [_, _, _], [_, _, _], _, _ => .of_eq rfl, fun r1 r2 => r1.append r2⟩, fun M vs xs zs ys h1 h2 _ _ => Paired.app h1 h2⟩
  have G_Account_made_2 : DCok (L2.CX l.prog w) l.prog w K mg base "Account" CAccount "made" 2 [] gd_Account_made_2 3 (sp_Account_made { Account := CAccount, LimitedAccount := CLimitedAccount, SavingsAccount := CSavingsAccount, InvalidName := CInvalidName, Overdrawn := COverdrawn, InvalidAmount := CInvalidAmount, UnknownKind := CUnknownKind, DuplicateName := CDuplicateName, Endless := CEndless, InvalidCount := CInvalidCount, InvalidOperation := CInvalidOperation, InvalidOrder := CInvalidOrder, InvalidText := CInvalidText, NotEmpty := CNotEmpty, OrderError := COrderError, SameAccount := CSameAccount, TooManyAccounts := CTooManyAccounts, TooManyOrders := CTooManyOrders, UnknownAccount := CUnknownAccount, UnknownOrder := CUnknownOrder, WrongDay := CWrongDay, T_law := P_law : CE }) := by
    obtain ⟨mv, kb⟩ := (⟨⟨_, _, _, _, _, _, _, _, _, _, rfl, l6, c6, .inl ⟨rfl, rfl⟩, .inr ⟨_, rfl, fun q hq => by
      simp only [List.mem_cons, List.not_mem_nil, or_false] at hq
      rcases hq with rfl | rfl | rfl
      · exact ⟨_, kw6_limit, ⟨_, rfl⟩⟩
      · exact ⟨_, kw6_balance, ⟨_, rfl⟩⟩
      · exact ⟨_, kw6_cycle, ⟨_, rfl⟩⟩⟩⟩, k6⟩ : FunD K "made" "Account.made" (defArgs s_Account_made) (defBody s_Account_made) (defScope s_Account_made) [] [("limit", .int 0), ("balance", .int 0), ("cycle", .int 1)] f6 _).kbinds0 (ps := ["cls", "kind", "name", "limit", "balance", "cycle"]) 3 [] [("limit", .int 0), ("balance", .int 0), ("cycle", .int 1)] (fun us mv ws => us ++ ((mv.drop 0).take 1 ++ ((mv.drop 1).take 1 ++ ((mv.drop 2).take 1)))) (by simp) (by simp) (fun r1 r2 r3 => r1.append (Vals.append (r2.drop 0 |>.take 1) (Vals.append (r2.drop 1 |>.take 1) (r2.drop 2 |>.take 1)))) (fun D doc pm an cdv ct us mv ws l1 l2 l3 => match us, mv, ws, l1, l2, l3 with | [_, _, _], [_, _, _], [], _, _, _ => ⟨_, _, _, _, _, _, rfl, rfl, ⟨_, _, _, _, _, _, rfl, rfl, ⟨_, _, _, _, _, _, rfl, rfl, rfl⟩⟩⟩)
    exact ⟨p6, _, _, _, _, _, _, O_Account_made, PySem.W.mg_of X G aCAccount, ⟨rdAccount, gaAccount⟩, ⟨a6, ⟨_, r6⟩, n6⟩, kb, fun M vs xs zs ys h1 h2 _ _ => Paired.app h1 (Paired.app (.cons (rv_dat (.int _)) .nil) (Paired.app (.cons (rv_dat (.int _)) .nil) (.cons (rv_dat (.int _)) .nil)))⟩
  have G_Account_made_2_balance : DCok (L2.CX l.prog w) l.prog w K mg base "Account" CAccount "made" 2 ["balance"] gd_Account_made_2_balance 3 (sp_Account_made { Account := CAccount, LimitedAccount := CLimitedAccount, SavingsAccount := CSavingsAccount, InvalidName := CInvalidName, Overdrawn := COverdrawn, InvalidAmount := CInvalidAmount, UnknownKind := CUnknownKind, DuplicateName := CDuplicateName, Endless := CEndless, InvalidCount := CInvalidCount, InvalidOperation := CInvalidOperation, InvalidOrder := CInvalidOrder, InvalidText := CInvalidText, NotEmpty := CNotEmpty, OrderError := COrderError, SameAccount := CSameAccount, TooManyAccounts := CTooManyAccounts, TooManyOrders := CTooManyOrders, UnknownAccount := CUnknownAccount, UnknownOrder := CUnknownOrder, WrongDay := CWrongDay, T_law := P_law : CE }) := by
    obtain ⟨mv, kb⟩ := (⟨⟨_, _, _, _, _, _, _, _, _, _, rfl, l6, c6, .inl ⟨rfl, rfl⟩, .inr ⟨_, rfl, fun q hq => by
      simp only [List.mem_cons, List.not_mem_nil, or_false] at hq
      rcases hq with rfl | rfl | rfl
      · exact ⟨_, kw6_limit, ⟨_, rfl⟩⟩
      · exact ⟨_, kw6_balance, ⟨_, rfl⟩⟩
      · exact ⟨_, kw6_cycle, ⟨_, rfl⟩⟩⟩⟩, k6⟩ : FunD K "made" "Account.made" (defArgs s_Account_made) (defBody s_Account_made) (defScope s_Account_made) [] [("limit", .int 0), ("balance", .int 0), ("cycle", .int 1)] f6 _).kbinds0 (ps := ["cls", "kind", "name", "limit", "balance", "cycle"]) 3 ["balance"] [("limit", .int 0), ("cycle", .int 1)] (fun us mv ws => us ++ ((mv.drop 0).take 1 ++ ((ws.drop 0).take 1 ++ ((mv.drop 1).take 1)))) (by simp) (by simp) (fun r1 r2 r3 => r1.append (Vals.append (r2.drop 0 |>.take 1) (Vals.append (r3.drop 0 |>.take 1) (r2.drop 1 |>.take 1)))) (fun D doc pm an cdv ct us mv ws l1 l2 l3 => match us, mv, ws, l1, l2, l3 with | [_, _, _], [_, _], [_], _, _, _ => ⟨_, _, _, _, _, _, rfl, rfl, ⟨_, _, _, _, _, _, rfl, rfl, rfl⟩⟩)
    exact ⟨p6, _, _, _, _, _, _, O_Account_made, PySem.W.mg_of X G aCAccount, ⟨rdAccount, gaAccount⟩, ⟨a6, ⟨_, r6⟩, n6⟩, kb, fun M vs xs zs ys h1 h2 _ _ => Paired.app h1 (Paired.app (.cons (rv_dat (.int _)) .nil) (Paired.app (paired_seg h2) (.cons (rv_dat (.int _)) .nil)))⟩
  have O_Account_account_name := fo_Account_account_name (P := l.prog) (w := w) (base := base) (C := { Account := CAccount, LimitedAccount := CLimitedAccount, SavingsAccount := CSavingsAccount, InvalidName := CInvalidName, Overdrawn := COverdrawn, InvalidAmount := CInvalidAmount, UnknownKind := CUnknownKind, DuplicateName := CDuplicateName, Endless := CEndless, InvalidCount := CInvalidCount, InvalidOperation := CInvalidOperation, InvalidOrder := CInvalidOrder, InvalidText := CInvalidText, NotEmpty := CNotEmpty, OrderError := COrderError, SameAccount := CSameAccount, TooManyAccounts := CTooManyAccounts, TooManyOrders := CTooManyOrders, UnknownAccount := CUnknownAccount, UnknownOrder := CUnknownOrder, WrongDay := CWrongDay, T_law := P_law : CE }) (fun_mk (st := s_Account_account_name) l7 c7 k7) B 
  have G_Account_account_name : DPok l.prog w K mg base CAccount "account_name" 1 (sp_Account_account_name { Account := CAccount, LimitedAccount := CLimitedAccount, SavingsAccount := CSavingsAccount, InvalidName := CInvalidName, Overdrawn := COverdrawn, InvalidAmount := CInvalidAmount, UnknownKind := CUnknownKind, DuplicateName := CDuplicateName, Endless := CEndless, InvalidCount := CInvalidCount, InvalidOperation := CInvalidOperation, InvalidOrder := CInvalidOrder, InvalidText := CInvalidText, NotEmpty := CNotEmpty, OrderError := COrderError, SameAccount := CSameAccount, TooManyAccounts := CTooManyAccounts, TooManyOrders := CTooManyOrders, UnknownAccount := CUnknownAccount, UnknownOrder := CUnknownOrder, WrongDay := CWrongDay, T_law := P_law : CE }) := ⟨_, _, p7, _, O_Account_account_name, ⟨pgAccount, hdAccount, poAccount, saAccount⟩, ⟨a7, g7, t7, _, r7⟩, ((fun_mk (st := s_Account_account_name) l7 c7 k7 : Fun K _ _ _ _ _).binds (ps := ["self"]) (fun _ _ _ _ _ _ us hl => match us, hl with | [_], _ => rfl))⟩
  have G_LimitedAccount_account_name : DPok l.prog w K mg base CLimitedAccount "account_name" 1 (sp_Account_account_name { Account := CAccount, LimitedAccount := CLimitedAccount, SavingsAccount := CSavingsAccount, InvalidName := CInvalidName, Overdrawn := COverdrawn, InvalidAmount := CInvalidAmount, UnknownKind := CUnknownKind, DuplicateName := CDuplicateName, Endless := CEndless, InvalidCount := CInvalidCount, InvalidOperation := CInvalidOperation, InvalidOrder := CInvalidOrder, InvalidText := CInvalidText, NotEmpty := CNotEmpty, OrderError := COrderError, SameAccount := CSameAccount, TooManyAccounts := CTooManyAccounts, TooManyOrders := CTooManyOrders, UnknownAccount := CUnknownAccount, UnknownOrder := CUnknownOrder, WrongDay := CWrongDay, T_law := P_law : CE }) := ⟨_, _, p7, _, O_Account_account_name, ⟨pgLimitedAccount, hdLimitedAccount, poLimitedAccount, saLimitedAccount⟩, ⟨hLimitedAccount_account_name, g7, t7, _, r7⟩, ((fun_mk (st := s_Account_account_name) l7 c7 k7 : Fun K _ _ _ _ _).binds (ps := ["self"]) (fun _ _ _ _ _ _ us hl => match us, hl with | [_], _ => rfl))⟩
  have G_SavingsAccount_account_name : DPok l.prog w K mg base CSavingsAccount "account_name" 1 (sp_Account_account_name { Account := CAccount, LimitedAccount := CLimitedAccount, SavingsAccount := CSavingsAccount, InvalidName := CInvalidName, Overdrawn := COverdrawn, InvalidAmount := CInvalidAmount, UnknownKind := CUnknownKind, DuplicateName := CDuplicateName, Endless := CEndless, InvalidCount := CInvalidCount, InvalidOperation := CInvalidOperation, InvalidOrder := CInvalidOrder, InvalidText := CInvalidText, NotEmpty := CNotEmpty, OrderError := COrderError, SameAccount := CSameAccount, TooManyAccounts := CTooManyAccounts, TooManyOrders := CTooManyOrders, UnknownAccount := CUnknownAccount, UnknownOrder := CUnknownOrder, WrongDay := CWrongDay, T_law := P_law : CE }) := ⟨_, _, p7, _, O_Account_account_name, ⟨pgSavingsAccount, hdSavingsAccount, poSavingsAccount, saSavingsAccount⟩, ⟨hSavingsAccount_account_name, g7, t7, _, r7⟩, ((fun_mk (st := s_Account_account_name) l7 c7 k7 : Fun K _ _ _ _ _).binds (ps := ["self"]) (fun _ _ _ _ _ _ us hl => match us, hl with | [_], _ => rfl))⟩
  have O_Account_kind := fo_Account_kind (P := l.prog) (w := w) (base := base) (C := { Account := CAccount, LimitedAccount := CLimitedAccount, SavingsAccount := CSavingsAccount, InvalidName := CInvalidName, Overdrawn := COverdrawn, InvalidAmount := CInvalidAmount, UnknownKind := CUnknownKind, DuplicateName := CDuplicateName, Endless := CEndless, InvalidCount := CInvalidCount, InvalidOperation := CInvalidOperation, InvalidOrder := CInvalidOrder, InvalidText := CInvalidText, NotEmpty := CNotEmpty, OrderError := COrderError, SameAccount := CSameAccount, TooManyAccounts := CTooManyAccounts, TooManyOrders := CTooManyOrders, UnknownAccount := CUnknownAccount, UnknownOrder := CUnknownOrder, WrongDay := CWrongDay, T_law := P_law : CE }) (fun_mk (st := s_Account_kind) l8 c8 k8) B 
  have G_Account_kind : DPok l.prog w K mg base CAccount "kind" 1 (sp_Account_kind { Account := CAccount, LimitedAccount := CLimitedAccount, SavingsAccount := CSavingsAccount, InvalidName := CInvalidName, Overdrawn := COverdrawn, InvalidAmount := CInvalidAmount, UnknownKind := CUnknownKind, DuplicateName := CDuplicateName, Endless := CEndless, InvalidCount := CInvalidCount, InvalidOperation := CInvalidOperation, InvalidOrder := CInvalidOrder, InvalidText := CInvalidText, NotEmpty := CNotEmpty, OrderError := COrderError, SameAccount := CSameAccount, TooManyAccounts := CTooManyAccounts, TooManyOrders := CTooManyOrders, UnknownAccount := CUnknownAccount, UnknownOrder := CUnknownOrder, WrongDay := CWrongDay, T_law := P_law : CE }) := ⟨_, _, p8, _, O_Account_kind, ⟨pgAccount, hdAccount, poAccount, saAccount⟩, ⟨a8, g8, t8, _, r8⟩, ((fun_mk (st := s_Account_kind) l8 c8 k8 : Fun K _ _ _ _ _).binds (ps := ["self"]) (fun _ _ _ _ _ _ us hl => match us, hl with | [_], _ => rfl))⟩
  have G_LimitedAccount_kind : DPok l.prog w K mg base CLimitedAccount "kind" 1 (sp_Account_kind { Account := CAccount, LimitedAccount := CLimitedAccount, SavingsAccount := CSavingsAccount, InvalidName := CInvalidName, Overdrawn := COverdrawn, InvalidAmount := CInvalidAmount, UnknownKind := CUnknownKind, DuplicateName := CDuplicateName, Endless := CEndless, InvalidCount := CInvalidCount, InvalidOperation := CInvalidOperation, InvalidOrder := CInvalidOrder, InvalidText := CInvalidText, NotEmpty := CNotEmpty, OrderError := COrderError, SameAccount := CSameAccount, TooManyAccounts := CTooManyAccounts, TooManyOrders := CTooManyOrders, UnknownAccount := CUnknownAccount, UnknownOrder := CUnknownOrder, WrongDay := CWrongDay, T_law := P_law : CE }) := ⟨_, _, p8, _, O_Account_kind, ⟨pgLimitedAccount, hdLimitedAccount, poLimitedAccount, saLimitedAccount⟩, ⟨hLimitedAccount_kind, g8, t8, _, r8⟩, ((fun_mk (st := s_Account_kind) l8 c8 k8 : Fun K _ _ _ _ _).binds (ps := ["self"]) (fun _ _ _ _ _ _ us hl => match us, hl with | [_], _ => rfl))⟩
  have G_SavingsAccount_kind : DPok l.prog w K mg base CSavingsAccount "kind" 1 (sp_Account_kind { Account := CAccount, LimitedAccount := CLimitedAccount, SavingsAccount := CSavingsAccount, InvalidName := CInvalidName, Overdrawn := COverdrawn, InvalidAmount := CInvalidAmount, UnknownKind := CUnknownKind, DuplicateName := CDuplicateName, Endless := CEndless, InvalidCount := CInvalidCount, InvalidOperation := CInvalidOperation, InvalidOrder := CInvalidOrder, InvalidText := CInvalidText, NotEmpty := CNotEmpty, OrderError := COrderError, SameAccount := CSameAccount, TooManyAccounts := CTooManyAccounts, TooManyOrders := CTooManyOrders, UnknownAccount := CUnknownAccount, UnknownOrder := CUnknownOrder, WrongDay := CWrongDay, T_law := P_law : CE }) := ⟨_, _, p8, _, O_Account_kind, ⟨pgSavingsAccount, hdSavingsAccount, poSavingsAccount, saSavingsAccount⟩, ⟨hSavingsAccount_kind, g8, t8, _, r8⟩, ((fun_mk (st := s_Account_kind) l8 c8 k8 : Fun K _ _ _ _ _).binds (ps := ["self"]) (fun _ _ _ _ _ _ us hl => match us, hl with | [_], _ => rfl))⟩
  have O_Account_limit := fo_Account_limit (P := l.prog) (w := w) (base := base) (C := { Account := CAccount, LimitedAccount := CLimitedAccount, SavingsAccount := CSavingsAccount, InvalidName := CInvalidName, Overdrawn := COverdrawn, InvalidAmount := CInvalidAmount, UnknownKind := CUnknownKind, DuplicateName := CDuplicateName, Endless := CEndless, InvalidCount := CInvalidCount, InvalidOperation := CInvalidOperation, InvalidOrder := CInvalidOrder, InvalidText := CInvalidText, NotEmpty := CNotEmpty, OrderError := COrderError, SameAccount := CSameAccount, TooManyAccounts := CTooManyAccounts, TooManyOrders := CTooManyOrders, UnknownAccount := CUnknownAccount, UnknownOrder := CUnknownOrder, WrongDay := CWrongDay, T_law := P_law : CE }) (fun_mk (st := s_Account_limit) l9 c9 k9) B 
  have G_Account_limit : DPok l.prog w K mg base CAccount "limit" 1 (sp_Account_limit { Account := CAccount, LimitedAccount := CLimitedAccount, SavingsAccount := CSavingsAccount, InvalidName := CInvalidName, Overdrawn := COverdrawn, InvalidAmount := CInvalidAmount, UnknownKind := CUnknownKind, DuplicateName := CDuplicateName, Endless := CEndless, InvalidCount := CInvalidCount, InvalidOperation := CInvalidOperation, InvalidOrder := CInvalidOrder, InvalidText := CInvalidText, NotEmpty := CNotEmpty, OrderError := COrderError, SameAccount := CSameAccount, TooManyAccounts := CTooManyAccounts, TooManyOrders := CTooManyOrders, UnknownAccount := CUnknownAccount, UnknownOrder := CUnknownOrder, WrongDay := CWrongDay, T_law := P_law : CE }) := ⟨_, _, p9, _, O_Account_limit, ⟨pgAccount, hdAccount, poAccount, saAccount⟩, ⟨a9, g9, t9, _, r9⟩, ((fun_mk (st := s_Account_limit) l9 c9 k9 : Fun K _ _ _ _ _).binds (ps := ["self"]) (fun _ _ _ _ _ _ us hl => match us, hl with | [_], _ => rfl))⟩
  have O_LimitedAccount_limit := fo_LimitedAccount_limit (P := l.prog) (w := w) (base := base) (C := { Account := CAccount, LimitedAccount := CLimitedAccount, SavingsAccount := CSavingsAccount, InvalidName := CInvalidName, Overdrawn := COverdrawn, InvalidAmount := CInvalidAmount, UnknownKind := CUnknownKind, DuplicateName := CDuplicateName, Endless := CEndless, InvalidCount := CInvalidCount, InvalidOperation := CInvalidOperation, InvalidOrder := CInvalidOrder, InvalidText := CInvalidText, NotEmpty := CNotEmpty, OrderError := COrderError, SameAccount := CSameAccount, TooManyAccounts := CTooManyAccounts, TooManyOrders := CTooManyOrders, UnknownAccount := CUnknownAccount, UnknownOrder := CUnknownOrder, WrongDay := CWrongDay, T_law := P_law : CE }) (fun_mk (st := s_LimitedAccount_limit) l10 c10 k10) B 
  have G_LimitedAccount_limit : DPok l.prog w K mg base CLimitedAccount "limit" 1 (sp_LimitedAccount_limit { Account := CAccount, LimitedAccount := CLimitedAccount, SavingsAccount := CSavingsAccount, InvalidName := CInvalidName, Overdrawn := COverdrawn, InvalidAmount := CInvalidAmount, UnknownKind := CUnknownKind, DuplicateName := CDuplicateName, Endless := CEndless, InvalidCount := CInvalidCount, InvalidOperation := CInvalidOperation, InvalidOrder := CInvalidOrder, InvalidText := CInvalidText, NotEmpty := CNotEmpty, OrderError := COrderError, SameAccount := CSameAccount, TooManyAccounts := CTooManyAccounts, TooManyOrders := CTooManyOrders, UnknownAccount := CUnknownAccount, UnknownOrder := CUnknownOrder, WrongDay := CWrongDay, T_law := P_law : CE }) := ⟨_, _, p10, _, O_LimitedAccount_limit, ⟨pgLimitedAccount, hdLimitedAccount, poLimitedAccount, saLimitedAccount⟩, ⟨a10, g10, t10, _, r10⟩, ((fun_mk (st := s_LimitedAccount_limit) l10 c10 k10 : Fun K _ _ _ _ _).binds (ps := ["self"]) (fun _ _ _ _ _ _ us hl => match us, hl with | [_], _ => rfl))⟩
  have O_SavingsAccount_limit := fo_SavingsAccount_limit (P := l.prog) (w := w) (base := base) (C := { Account := CAccount, LimitedAccount := CLimitedAccount, SavingsAccount := CSavingsAccount, InvalidName := CInvalidName, Overdrawn := COverdrawn, InvalidAmount := CInvalidAmount, UnknownKind := CUnknownKind, DuplicateName := CDuplicateName, Endless := CEndless, InvalidCount := CInvalidCount, InvalidOperation := CInvalidOperation, InvalidOrder := CInvalidOrder, InvalidText := CInvalidText, NotEmpty := CNotEmpty, OrderError := COrderError, SameAccount := CSameAccount, TooManyAccounts := CTooManyAccounts, TooManyOrders := CTooManyOrders, UnknownAccount := CUnknownAccount, UnknownOrder := CUnknownOrder, WrongDay := CWrongDay, T_law := P_law : CE }) (fun_mk (st := s_SavingsAccount_limit) l11 c11 k11) B 
  have G_SavingsAccount_limit : DPok l.prog w K mg base CSavingsAccount "limit" 1 (sp_SavingsAccount_limit { Account := CAccount, LimitedAccount := CLimitedAccount, SavingsAccount := CSavingsAccount, InvalidName := CInvalidName, Overdrawn := COverdrawn, InvalidAmount := CInvalidAmount, UnknownKind := CUnknownKind, DuplicateName := CDuplicateName, Endless := CEndless, InvalidCount := CInvalidCount, InvalidOperation := CInvalidOperation, InvalidOrder := CInvalidOrder, InvalidText := CInvalidText, NotEmpty := CNotEmpty, OrderError := COrderError, SameAccount := CSameAccount, TooManyAccounts := CTooManyAccounts, TooManyOrders := CTooManyOrders, UnknownAccount := CUnknownAccount, UnknownOrder := CUnknownOrder, WrongDay := CWrongDay, T_law := P_law : CE }) := ⟨_, _, p11, _, O_SavingsAccount_limit, ⟨pgSavingsAccount, hdSavingsAccount, poSavingsAccount, saSavingsAccount⟩, ⟨a11, g11, t11, _, r11⟩, ((fun_mk (st := s_SavingsAccount_limit) l11 c11 k11 : Fun K _ _ _ _ _).binds (ps := ["self"]) (fun _ _ _ _ _ _ us hl => match us, hl with | [_], _ => rfl))⟩
  have O_Account_floor := fo_Account_floor (P := l.prog) (w := w) (base := base) (C := { Account := CAccount, LimitedAccount := CLimitedAccount, SavingsAccount := CSavingsAccount, InvalidName := CInvalidName, Overdrawn := COverdrawn, InvalidAmount := CInvalidAmount, UnknownKind := CUnknownKind, DuplicateName := CDuplicateName, Endless := CEndless, InvalidCount := CInvalidCount, InvalidOperation := CInvalidOperation, InvalidOrder := CInvalidOrder, InvalidText := CInvalidText, NotEmpty := CNotEmpty, OrderError := COrderError, SameAccount := CSameAccount, TooManyAccounts := CTooManyAccounts, TooManyOrders := CTooManyOrders, UnknownAccount := CUnknownAccount, UnknownOrder := CUnknownOrder, WrongDay := CWrongDay, T_law := P_law : CE }) (fun_mk (st := s_Account_floor) l12 c12 k12) B 
  have G_Account_floor : DPok l.prog w K mg base CAccount "floor" 1 (sp_Account_floor { Account := CAccount, LimitedAccount := CLimitedAccount, SavingsAccount := CSavingsAccount, InvalidName := CInvalidName, Overdrawn := COverdrawn, InvalidAmount := CInvalidAmount, UnknownKind := CUnknownKind, DuplicateName := CDuplicateName, Endless := CEndless, InvalidCount := CInvalidCount, InvalidOperation := CInvalidOperation, InvalidOrder := CInvalidOrder, InvalidText := CInvalidText, NotEmpty := CNotEmpty, OrderError := COrderError, SameAccount := CSameAccount, TooManyAccounts := CTooManyAccounts, TooManyOrders := CTooManyOrders, UnknownAccount := CUnknownAccount, UnknownOrder := CUnknownOrder, WrongDay := CWrongDay, T_law := P_law : CE }) := ⟨_, _, p12, _, O_Account_floor, ⟨pgAccount, hdAccount, poAccount, saAccount⟩, ⟨a12, g12, t12, _, r12⟩, ((fun_mk (st := s_Account_floor) l12 c12 k12 : Fun K _ _ _ _ _).binds (ps := ["self"]) (fun _ _ _ _ _ _ us hl => match us, hl with | [_], _ => rfl))⟩
  have O_LimitedAccount_floor := fo_LimitedAccount_floor (P := l.prog) (w := w) (base := base) (C := { Account := CAccount, LimitedAccount := CLimitedAccount, SavingsAccount := CSavingsAccount, InvalidName := CInvalidName, Overdrawn := COverdrawn, InvalidAmount := CInvalidAmount, UnknownKind := CUnknownKind, DuplicateName := CDuplicateName, Endless := CEndless, InvalidCount := CInvalidCount, InvalidOperation := CInvalidOperation, InvalidOrder := CInvalidOrder, InvalidText := CInvalidText, NotEmpty := CNotEmpty, OrderError := COrderError, SameAccount := CSameAccount, TooManyAccounts := CTooManyAccounts, TooManyOrders := CTooManyOrders, UnknownAccount := CUnknownAccount, UnknownOrder := CUnknownOrder, WrongDay := CWrongDay, T_law := P_law : CE }) (fun_mk (st := s_LimitedAccount_floor) l13 c13 k13) B 
  have G_LimitedAccount_floor : DPok l.prog w K mg base CLimitedAccount "floor" 1 (sp_LimitedAccount_floor { Account := CAccount, LimitedAccount := CLimitedAccount, SavingsAccount := CSavingsAccount, InvalidName := CInvalidName, Overdrawn := COverdrawn, InvalidAmount := CInvalidAmount, UnknownKind := CUnknownKind, DuplicateName := CDuplicateName, Endless := CEndless, InvalidCount := CInvalidCount, InvalidOperation := CInvalidOperation, InvalidOrder := CInvalidOrder, InvalidText := CInvalidText, NotEmpty := CNotEmpty, OrderError := COrderError, SameAccount := CSameAccount, TooManyAccounts := CTooManyAccounts, TooManyOrders := CTooManyOrders, UnknownAccount := CUnknownAccount, UnknownOrder := CUnknownOrder, WrongDay := CWrongDay, T_law := P_law : CE }) := ⟨_, _, p13, _, O_LimitedAccount_floor, ⟨pgLimitedAccount, hdLimitedAccount, poLimitedAccount, saLimitedAccount⟩, ⟨a13, g13, t13, _, r13⟩, ((fun_mk (st := s_LimitedAccount_floor) l13 c13 k13 : Fun K _ _ _ _ _).binds (ps := ["self"]) (fun _ _ _ _ _ _ us hl => match us, hl with | [_], _ => rfl))⟩
  have G_SavingsAccount_floor : DPok l.prog w K mg base CSavingsAccount "floor" 1 (sp_LimitedAccount_floor { Account := CAccount, LimitedAccount := CLimitedAccount, SavingsAccount := CSavingsAccount, InvalidName := CInvalidName, Overdrawn := COverdrawn, InvalidAmount := CInvalidAmount, UnknownKind := CUnknownKind, DuplicateName := CDuplicateName, Endless := CEndless, InvalidCount := CInvalidCount, InvalidOperation := CInvalidOperation, InvalidOrder := CInvalidOrder, InvalidText := CInvalidText, NotEmpty := CNotEmpty, OrderError := COrderError, SameAccount := CSameAccount, TooManyAccounts := CTooManyAccounts, TooManyOrders := CTooManyOrders, UnknownAccount := CUnknownAccount, UnknownOrder := CUnknownOrder, WrongDay := CWrongDay, T_law := P_law : CE }) := ⟨_, _, p13, _, O_LimitedAccount_floor, ⟨pgSavingsAccount, hdSavingsAccount, poSavingsAccount, saSavingsAccount⟩, ⟨hSavingsAccount_floor, g13, t13, _, r13⟩, ((fun_mk (st := s_LimitedAccount_floor) l13 c13 k13 : Fun K _ _ _ _ _).binds (ps := ["self"]) (fun _ _ _ _ _ _ us hl => match us, hl with | [_], _ => rfl))⟩
  have O_Account_balance := fo_Account_balance (P := l.prog) (w := w) (base := base) (C := { Account := CAccount, LimitedAccount := CLimitedAccount, SavingsAccount := CSavingsAccount, InvalidName := CInvalidName, Overdrawn := COverdrawn, InvalidAmount := CInvalidAmount, UnknownKind := CUnknownKind, DuplicateName := CDuplicateName, Endless := CEndless, InvalidCount := CInvalidCount, InvalidOperation := CInvalidOperation, InvalidOrder := CInvalidOrder, InvalidText := CInvalidText, NotEmpty := CNotEmpty, OrderError := COrderError, SameAccount := CSameAccount, TooManyAccounts := CTooManyAccounts, TooManyOrders := CTooManyOrders, UnknownAccount := CUnknownAccount, UnknownOrder := CUnknownOrder, WrongDay := CWrongDay, T_law := P_law : CE }) (fun_mk (st := s_Account_balance) l14 c14 k14) B 
  have G_Account_balance : DPok l.prog w K mg base CAccount "balance" 1 (sp_Account_balance { Account := CAccount, LimitedAccount := CLimitedAccount, SavingsAccount := CSavingsAccount, InvalidName := CInvalidName, Overdrawn := COverdrawn, InvalidAmount := CInvalidAmount, UnknownKind := CUnknownKind, DuplicateName := CDuplicateName, Endless := CEndless, InvalidCount := CInvalidCount, InvalidOperation := CInvalidOperation, InvalidOrder := CInvalidOrder, InvalidText := CInvalidText, NotEmpty := CNotEmpty, OrderError := COrderError, SameAccount := CSameAccount, TooManyAccounts := CTooManyAccounts, TooManyOrders := CTooManyOrders, UnknownAccount := CUnknownAccount, UnknownOrder := CUnknownOrder, WrongDay := CWrongDay, T_law := P_law : CE }) := ⟨_, _, p14, _, O_Account_balance, ⟨pgAccount, hdAccount, poAccount, saAccount⟩, ⟨a14, g14, t14, _, r14⟩, ((fun_mk (st := s_Account_balance) l14 c14 k14 : Fun K _ _ _ _ _).binds (ps := ["self"]) (fun _ _ _ _ _ _ us hl => match us, hl with | [_], _ => rfl))⟩
  have G_LimitedAccount_balance : DPok l.prog w K mg base CLimitedAccount "balance" 1 (sp_Account_balance { Account := CAccount, LimitedAccount := CLimitedAccount, SavingsAccount := CSavingsAccount, InvalidName := CInvalidName, Overdrawn := COverdrawn, InvalidAmount := CInvalidAmount, UnknownKind := CUnknownKind, DuplicateName := CDuplicateName, Endless := CEndless, InvalidCount := CInvalidCount, InvalidOperation := CInvalidOperation, InvalidOrder := CInvalidOrder, InvalidText := CInvalidText, NotEmpty := CNotEmpty, OrderError := COrderError, SameAccount := CSameAccount, TooManyAccounts := CTooManyAccounts, TooManyOrders := CTooManyOrders, UnknownAccount := CUnknownAccount, UnknownOrder := CUnknownOrder, WrongDay := CWrongDay, T_law := P_law : CE }) := ⟨_, _, p14, _, O_Account_balance, ⟨pgLimitedAccount, hdLimitedAccount, poLimitedAccount, saLimitedAccount⟩, ⟨hLimitedAccount_balance, g14, t14, _, r14⟩, ((fun_mk (st := s_Account_balance) l14 c14 k14 : Fun K _ _ _ _ _).binds (ps := ["self"]) (fun _ _ _ _ _ _ us hl => match us, hl with | [_], _ => rfl))⟩
  have G_SavingsAccount_balance : DPok l.prog w K mg base CSavingsAccount "balance" 1 (sp_Account_balance { Account := CAccount, LimitedAccount := CLimitedAccount, SavingsAccount := CSavingsAccount, InvalidName := CInvalidName, Overdrawn := COverdrawn, InvalidAmount := CInvalidAmount, UnknownKind := CUnknownKind, DuplicateName := CDuplicateName, Endless := CEndless, InvalidCount := CInvalidCount, InvalidOperation := CInvalidOperation, InvalidOrder := CInvalidOrder, InvalidText := CInvalidText, NotEmpty := CNotEmpty, OrderError := COrderError, SameAccount := CSameAccount, TooManyAccounts := CTooManyAccounts, TooManyOrders := CTooManyOrders, UnknownAccount := CUnknownAccount, UnknownOrder := CUnknownOrder, WrongDay := CWrongDay, T_law := P_law : CE }) := ⟨_, _, p14, _, O_Account_balance, ⟨pgSavingsAccount, hdSavingsAccount, poSavingsAccount, saSavingsAccount⟩, ⟨hSavingsAccount_balance, g14, t14, _, r14⟩, ((fun_mk (st := s_Account_balance) l14 c14 k14 : Fun K _ _ _ _ _).binds (ps := ["self"]) (fun _ _ _ _ _ _ us hl => match us, hl with | [_], _ => rfl))⟩
  have O_Account_may_withdraw := fo_Account_may_withdraw (P := l.prog) (w := w) (base := base) (C := { Account := CAccount, LimitedAccount := CLimitedAccount, SavingsAccount := CSavingsAccount, InvalidName := CInvalidName, Overdrawn := COverdrawn, InvalidAmount := CInvalidAmount, UnknownKind := CUnknownKind, DuplicateName := CDuplicateName, Endless := CEndless, InvalidCount := CInvalidCount, InvalidOperation := CInvalidOperation, InvalidOrder := CInvalidOrder, InvalidText := CInvalidText, NotEmpty := CNotEmpty, OrderError := COrderError, SameAccount := CSameAccount, TooManyAccounts := CTooManyAccounts, TooManyOrders := CTooManyOrders, UnknownAccount := CUnknownAccount, UnknownOrder := CUnknownOrder, WrongDay := CWrongDay, T_law := P_law : CE }) (fun_mk (st := s_Account_may_withdraw) l15 c15 k15) B 
  have O_SavingsAccount_may_withdraw := SupD.fn_super (P := l.prog) (w := w) (base := base) (mg := mg) (k := 1) (D := CSavingsAccount) (dsp := sp_SavingsAccount_may_withdraw { Account := CAccount, LimitedAccount := CLimitedAccount, SavingsAccount := CSavingsAccount, InvalidName := CInvalidName, Overdrawn := COverdrawn, InvalidAmount := CInvalidAmount, UnknownKind := CUnknownKind, DuplicateName := CDuplicateName, Endless := CEndless, InvalidCount := CInvalidCount, InvalidOperation := CInvalidOperation, InvalidOrder := CInvalidOrder, InvalidText := CInvalidText, NotEmpty := CNotEmpty, OrderError := COrderError, SameAccount := CSameAccount, TooManyAccounts := CTooManyAccounts, TooManyOrders := CTooManyOrders, UnknownAccount := CUnknownAccount, UnknownOrder := CUnknownOrder, WrongDay := CWrongDay, T_law := P_law : CE }) (dsp2 := (sp_Account_may_withdraw { Account := CAccount, LimitedAccount := CLimitedAccount, SavingsAccount := CSavingsAccount, InvalidName := CInvalidName, Overdrawn := COverdrawn, InvalidAmount := CInvalidAmount, UnknownKind := CUnknownKind, DuplicateName := CDuplicateName, Endless := CEndless, InvalidCount := CInvalidCount, InvalidOperation := CInvalidOperation, InvalidOrder := CInvalidOrder, InvalidText := CInvalidText, NotEmpty := CNotEmpty, OrderError := COrderError, SameAccount := CSameAccount, TooManyAccounts := CTooManyAccounts, TooManyOrders := CTooManyOrders, UnknownAccount := CUnknownAccount, UnknownOrder := CUnknownOrder, WrongDay := CWrongDay, T_law := P_law : CE })) (we := wOp (wEqD false) (wOp wMod (wVar 1) (wFldI CSavingsAccount "cycle" (wVar 0))) (wC (.int 0))) (y := "day") suL suC ⟨rfl, by decide +kernel, by decide +kernel, by decide +kernel, by decide +kernel⟩ rfl rfl rfl rfl suD suV suF suE suG suM (PySem.W.mg_none_of X G suZ) (by decide) (by decide) (by decide) rfl rfl suT SupD.boot_super suO rfl suS suY suN O_Account_may_withdraw ((fun_mk (st := s_Account_may_withdraw) l15 c15 k15 : Fun K _ _ _ _ _).binds (ps := ["self", "day"]) (fun _ _ _ _ _ _ us hl => match us, hl with | [_, _], _ => rfl)) len_SavingsAccount_may_withdraw (fun A outer s H hr => de_cmpD (c_eq hr.units) (de_mod (de_var 1) (de_fldI B.cl_SavingsAccount B.na_SavingsAccount_cycle (de_var 0))) de_int) (pure_SavingsAccount_may_withdraw K { Account := CAccount, LimitedAccount := CLimitedAccount, SavingsAccount := CSavingsAccount, InvalidName := CInvalidName, Overdrawn := COverdrawn, InvalidAmount := CInvalidAmount, UnknownKind := CUnknownKind, DuplicateName := CDuplicateName, Endless := CEndless, InvalidCount := CInvalidCount, InvalidOperation := CInvalidOperation, InvalidOrder := CInvalidOrder, InvalidText := CInvalidText, NotEmpty := CNotEmpty, OrderError := COrderError, SameAccount := CSameAccount, TooManyAccounts := CTooManyAccounts, TooManyOrders := CTooManyOrders, UnknownAccount := CUnknownAccount, UnknownOrder := CUnknownOrder, WrongDay := CWrongDay, T_law := P_law : CE })
  have G_SavingsAccount_may_withdraw : DMok l.prog w K mg base CSavingsAccount "may_withdraw" ["self", "day"] 2 (sp_SavingsAccount_may_withdraw { Account := CAccount, LimitedAccount := CLimitedAccount, SavingsAccount := CSavingsAccount, InvalidName := CInvalidName, Overdrawn := COverdrawn, InvalidAmount := CInvalidAmount, UnknownKind := CUnknownKind, DuplicateName := CDuplicateName, Endless := CEndless, InvalidCount := CInvalidCount, InvalidOperation := CInvalidOperation, InvalidOrder := CInvalidOrder, InvalidText := CInvalidText, NotEmpty := CNotEmpty, OrderError := COrderError, SameAccount := CSameAccount, TooManyAccounts := CTooManyAccounts, TooManyOrders := CTooManyOrders, UnknownAccount := CUnknownAccount, UnknownOrder := CUnknownOrder, WrongDay := CWrongDay, T_law := P_law : CE }) := ⟨_, _, O_SavingsAccount_may_withdraw, ⟨pgSavingsAccount, hdSavingsAccount, poSavingsAccount, saSavingsAccount⟩, ⟨suA, suI, suK⟩, .all (fun us hl => match us, hl with | [_, _], _ => rfl)⟩
  have G_Account_may_withdraw : DMok l.prog w K mg base CAccount "may_withdraw" ["self", "day"] 1 (sp_Account_may_withdraw { Account := CAccount, LimitedAccount := CLimitedAccount, SavingsAccount := CSavingsAccount, InvalidName := CInvalidName, Overdrawn := COverdrawn, InvalidAmount := CInvalidAmount, UnknownKind := CUnknownKind, DuplicateName := CDuplicateName, Endless := CEndless, InvalidCount := CInvalidCount, InvalidOperation := CInvalidOperation, InvalidOrder := CInvalidOrder, InvalidText := CInvalidText, NotEmpty := CNotEmpty, OrderError := COrderError, SameAccount := CSameAccount, TooManyAccounts := CTooManyAccounts, TooManyOrders := CTooManyOrders, UnknownAccount := CUnknownAccount, UnknownOrder := CUnknownOrder, WrongDay := CWrongDay, T_law := P_law : CE }) := ⟨_, _, O_Account_may_withdraw, ⟨pgAccount, hdAccount, poAccount, saAccount⟩, ⟨a15, i15, k15⟩, ((fun_mk (st := s_Account_may_withdraw) l15 c15 k15 : Fun K _ _ _ _ _).binds (ps := ["self", "day"]) (fun _ _ _ _ _ _ us hl => match us, hl with | [_, _], _ => rfl))⟩
  have G_LimitedAccount_may_withdraw : DMok l.prog w K mg base CLimitedAccount "may_withdraw" ["self", "day"] 1 (sp_Account_may_withdraw { Account := CAccount, LimitedAccount := CLimitedAccount, SavingsAccount := CSavingsAccount, InvalidName := CInvalidName, Overdrawn := COverdrawn, InvalidAmount := CInvalidAmount, UnknownKind := CUnknownKind, DuplicateName := CDuplicateName, Endless := CEndless, InvalidCount := CInvalidCount, InvalidOperation := CInvalidOperation, InvalidOrder := CInvalidOrder, InvalidText := CInvalidText, NotEmpty := CNotEmpty, OrderError := COrderError, SameAccount := CSameAccount, TooManyAccounts := CTooManyAccounts, TooManyOrders := CTooManyOrders, UnknownAccount := CUnknownAccount, UnknownOrder := CUnknownOrder, WrongDay := CWrongDay, T_law := P_law : CE }) := ⟨_, _, O_Account_may_withdraw, ⟨pgLimitedAccount, hdLimitedAccount, poLimitedAccount, saLimitedAccount⟩, ⟨hLimitedAccount_may_withdraw, i15, k15⟩, ((fun_mk (st := s_Account_may_withdraw) l15 c15 k15 : Fun K _ _ _ _ _).binds (ps := ["self", "day"]) (fun _ _ _ _ _ _ us hl => match us, hl with | [_, _], _ => rfl))⟩
  have O_law_mix := fo_law_mix (P := l.prog) (w := w) (base := base) (C := { Account := CAccount, LimitedAccount := CLimitedAccount, SavingsAccount := CSavingsAccount, InvalidName := CInvalidName, Overdrawn := COverdrawn, InvalidAmount := CInvalidAmount, UnknownKind := CUnknownKind, DuplicateName := CDuplicateName, Endless := CEndless, InvalidCount := CInvalidCount, InvalidOperation := CInvalidOperation, InvalidOrder := CInvalidOrder, InvalidText := CInvalidText, NotEmpty := CNotEmpty, OrderError := COrderError, SameAccount := CSameAccount, TooManyAccounts := CTooManyAccounts, TooManyOrders := CTooManyOrders, UnknownAccount := CUnknownAccount, UnknownOrder := CUnknownOrder, WrongDay := CWrongDay, T_law := P_law : CE }) (fun_mk (st := s_law_mix) l16 c16 k16) B 
  have G_law_mix : DOk l.prog w K mg base CX0 "_law_mix" ["_law_script", "_law_seed"] 1 (sp_law_mix { Account := CAccount, LimitedAccount := CLimitedAccount, SavingsAccount := CSavingsAccount, InvalidName := CInvalidName, Overdrawn := COverdrawn, InvalidAmount := CInvalidAmount, UnknownKind := CUnknownKind, DuplicateName := CDuplicateName, Endless := CEndless, InvalidCount := CInvalidCount, InvalidOperation := CInvalidOperation, InvalidOrder := CInvalidOrder, InvalidText := CInvalidText, NotEmpty := CNotEmpty, OrderError := COrderError, SameAccount := CSameAccount, TooManyAccounts := CTooManyAccounts, TooManyOrders := CTooManyOrders, UnknownAccount := CUnknownAccount, UnknownOrder := CUnknownOrder, WrongDay := CWrongDay, T_law := P_law : CE }) := ⟨_, _, O_law_mix, PySem.W.mg_of X G a16, k16, ((fun_mk (st := s_law_mix) l16 c16 k16 : Fun K _ _ _ _ _).binds (ps := ["_law_script", "_law_seed"]) (fun _ _ _ _ _ _ us hl => match us, hl with | [_, _], _ => rfl))⟩
  have O_law_next := fo_law_next (P := l.prog) (w := w) (base := base) (C := { Account := CAccount, LimitedAccount := CLimitedAccount, SavingsAccount := CSavingsAccount, InvalidName := CInvalidName, Overdrawn := COverdrawn, InvalidAmount := CInvalidAmount, UnknownKind := CUnknownKind, DuplicateName := CDuplicateName, Endless := CEndless, InvalidCount := CInvalidCount, InvalidOperation := CInvalidOperation, InvalidOrder := CInvalidOrder, InvalidText := CInvalidText, NotEmpty := CNotEmpty, OrderError := COrderError, SameAccount := CSameAccount, TooManyAccounts := CTooManyAccounts, TooManyOrders := CTooManyOrders, UnknownAccount := CUnknownAccount, UnknownOrder := CUnknownOrder, WrongDay := CWrongDay, T_law := P_law : CE }) (fun_mk (st := s_law_next) l17 c17 k17) B 
  have G_law_next : DOk l.prog w K mg base CX0 "_law_next" ["_law_h", "_law_bound"] 1 (sp_law_next { Account := CAccount, LimitedAccount := CLimitedAccount, SavingsAccount := CSavingsAccount, InvalidName := CInvalidName, Overdrawn := COverdrawn, InvalidAmount := CInvalidAmount, UnknownKind := CUnknownKind, DuplicateName := CDuplicateName, Endless := CEndless, InvalidCount := CInvalidCount, InvalidOperation := CInvalidOperation, InvalidOrder := CInvalidOrder, InvalidText := CInvalidText, NotEmpty := CNotEmpty, OrderError := COrderError, SameAccount := CSameAccount, TooManyAccounts := CTooManyAccounts, TooManyOrders := CTooManyOrders, UnknownAccount := CUnknownAccount, UnknownOrder := CUnknownOrder, WrongDay := CWrongDay, T_law := P_law : CE }) := ⟨_, _, O_law_next, PySem.W.mg_of X G a17, k17, ((fun_mk (st := s_law_next) l17 c17 k17 : Fun K _ _ _ _ _).binds (ps := ["_law_h", "_law_bound"]) (fun _ _ _ _ _ _ us hl => match us, hl with | [_, _], _ => rfl))⟩
  have G_law_alike := ok_law_alike (P := l.prog) (w := w) (base := base) (C := { Account := CAccount, LimitedAccount := CLimitedAccount, SavingsAccount := CSavingsAccount, InvalidName := CInvalidName, Overdrawn := COverdrawn, InvalidAmount := CInvalidAmount, UnknownKind := CUnknownKind, DuplicateName := CDuplicateName, Endless := CEndless, InvalidCount := CInvalidCount, InvalidOperation := CInvalidOperation, InvalidOrder := CInvalidOrder, InvalidText := CInvalidText, NotEmpty := CNotEmpty, OrderError := COrderError, SameAccount := CSameAccount, TooManyAccounts := CTooManyAccounts, TooManyOrders := CTooManyOrders, UnknownAccount := CUnknownAccount, UnknownOrder := CUnknownOrder, WrongDay := CWrongDay, T_law := P_law : CE }) (fun_mk (st := s_law_alike) l18 c18 k18) (PySem.W.mg_of X G a18) B 
  have G_law_outcome := ok_law_outcome (P := l.prog) (w := w) (base := base) (C := { Account := CAccount, LimitedAccount := CLimitedAccount, SavingsAccount := CSavingsAccount, InvalidName := CInvalidName, Overdrawn := COverdrawn, InvalidAmount := CInvalidAmount, UnknownKind := CUnknownKind, DuplicateName := CDuplicateName, Endless := CEndless, InvalidCount := CInvalidCount, InvalidOperation := CInvalidOperation, InvalidOrder := CInvalidOrder, InvalidText := CInvalidText, NotEmpty := CNotEmpty, OrderError := COrderError, SameAccount := CSameAccount, TooManyAccounts := CTooManyAccounts, TooManyOrders := CTooManyOrders, UnknownAccount := CUnknownAccount, UnknownOrder := CUnknownOrder, WrongDay := CWrongDay, T_law := P_law : CE }) (fun_mk (st := s_law_outcome) l19 c19 k19) (PySem.W.mg_of X G a19) B 
  have O_law_account_right := fo_law_account_right (P := l.prog) (w := w) (base := base) (C := { Account := CAccount, LimitedAccount := CLimitedAccount, SavingsAccount := CSavingsAccount, InvalidName := CInvalidName, Overdrawn := COverdrawn, InvalidAmount := CInvalidAmount, UnknownKind := CUnknownKind, DuplicateName := CDuplicateName, Endless := CEndless, InvalidCount := CInvalidCount, InvalidOperation := CInvalidOperation, InvalidOrder := CInvalidOrder, InvalidText := CInvalidText, NotEmpty := CNotEmpty, OrderError := COrderError, SameAccount := CSameAccount, TooManyAccounts := CTooManyAccounts, TooManyOrders := CTooManyOrders, UnknownAccount := CUnknownAccount, UnknownOrder := CUnknownOrder, WrongDay := CWrongDay, T_law := P_law : CE }) (fun_mk (st := s_law_account_right) l20 c20 k20) B G_law_next G_Account_balance G_LimitedAccount_balance G_SavingsAccount_balance G_Account_floor G_LimitedAccount_floor G_SavingsAccount_floor G_Account_limit G_LimitedAccount_limit G_SavingsAccount_limit G_Account_kind G_LimitedAccount_kind G_SavingsAccount_kind G_Account_account_name G_LimitedAccount_account_name G_SavingsAccount_account_name G_law_alike G_Account_may_withdraw G_LimitedAccount_may_withdraw G_SavingsAccount_may_withdraw
  have G_law_account_right : DOk l.prog w K mg base CX0 "_law_account_right" ["_law_h", "_law_account", "_law_due", "_law_wheel"] 5 (sp_law_account_right { Account := CAccount, LimitedAccount := CLimitedAccount, SavingsAccount := CSavingsAccount, InvalidName := CInvalidName, Overdrawn := COverdrawn, InvalidAmount := CInvalidAmount, UnknownKind := CUnknownKind, DuplicateName := CDuplicateName, Endless := CEndless, InvalidCount := CInvalidCount, InvalidOperation := CInvalidOperation, InvalidOrder := CInvalidOrder, InvalidText := CInvalidText, NotEmpty := CNotEmpty, OrderError := COrderError, SameAccount := CSameAccount, TooManyAccounts := CTooManyAccounts, TooManyOrders := CTooManyOrders, UnknownAccount := CUnknownAccount, UnknownOrder := CUnknownOrder, WrongDay := CWrongDay, T_law := P_law : CE }) := ⟨_, _, O_law_account_right, PySem.W.mg_of X G a20, k20, ((fun_mk (st := s_law_account_right) l20 c20 k20 : Fun K _ _ _ _ _).binds (ps := ["_law_h", "_law_account", "_law_due", "_law_wheel"]) (fun _ _ _ _ _ _ us hl => match us, hl with | [_, _, _, _], _ => rfl))⟩
  have TB_law := TBs (c_law, P_law) (by simp)
  · exact (fo_law (C := { Account := CAccount, LimitedAccount := CLimitedAccount, SavingsAccount := CSavingsAccount, InvalidName := CInvalidName, Overdrawn := COverdrawn, InvalidAmount := CInvalidAmount, UnknownKind := CUnknownKind, DuplicateName := CDuplicateName, Endless := CEndless, InvalidCount := CInvalidCount, InvalidOperation := CInvalidOperation, InvalidOrder := CInvalidOrder, InvalidText := CInvalidText, NotEmpty := CNotEmpty, OrderError := COrderError, SameAccount := CSameAccount, TooManyAccounts := CTooManyAccounts, TooManyOrders := CTooManyOrders, UnknownAccount := CUnknownAccount, UnknownOrder := CUnknownOrder, WrongDay := CWrongDay, T_law := P_law : CE }) (fun_mk (st := s_law) l21 c21 k21) rfl ⟨TB_law.code, TB_law.bm, TB_law.gP⟩ B G_law_mix G_law_next G_Account_is_name G_law_alike G_Account_made_2_limit_balance_cycle G_law_outcome G_law_account_right G_Account_made_2 G_SavingsAccount_balance G_LimitedAccount_floor G_LimitedAccount_limit G_Account_limit G_Account_balance G_Account_made_2_balance G_SavingsAccount_may_withdraw).imp (law_impT (cs0 := tabsC [(P_law, CO.tl ("law" ++ ".<locals>." ++ "<lambda>"))]) (tabs_ok _ (by simp)) fun ns Q XP hl q => law_start _ ns _ Q XP hl (by simp [tabsC]) q)
theorem walk {l : PySem.W.OpenLaw} {q : Program} {loose : List Str} {XP : (Str → Option Value) → Heap → Prop} {YP : World → Heap → Prop} {d : DefRec} {K : Params → PySem.W.Frag} (hn : l.most = some 63) (hdf : d.params.defaults = [])
    (hY : ∀ (w : World) (h : Heap), YP w h → (K w.params).In h)
    (F : ∀ (w : World) (mg : Str → Option Value) (fa : Addr) (h : Heap), (K w.params).In h → h.Ns mainGlobals mg → mg d.name = some (.ref fa) → TabsOf (K w.params) q mg h → LamX.LawAtS l w (K w.params) CX0 6 63 "_law_script" mg fa h) :
    PySem.W.WalkO q loose XP YP l.row.toRowW d [] (fun f vs => PySem.call f vs) :=
  DL.walk_tabs (n := 63) (k := 6) (x := "_law_script") (CX := fun _ => CX0) hn (by decide) hdf ⟨rfl, by decide, by decide⟩ hY (fun w mg fa h _ KX G hm T => F w mg fa h KX G hm T) fun _ _ _ _ _ z => z
end Law
open PySem PySem.W PyProof.Rows
set_option maxRecDepth 100000 in
set_option maxHeartbeats 0 in
theorem PySem.Challenge.cw_standingorders_k41_accounts_of_all_kinds_holds : PySem.Challenge.rw_standingorders_k41_accounts_of_all_kinds.Holds := by
  w_on; o_law; k_head; (case hw => w_witness2)
  k_fill
  refine Law.walk (l := PySem.Challenge.rw_standingorders_k41_accounts_of_all_kinds) rfl rfl (fun w h Y => PySem.W.km_in_of Y) ?F
  case F =>
    intro w mg fa h KX G hmg T
    refine' Law.all_mk KX G hmg T ?aCAccount ?aCLimitedAccount ?aCSavingsAccount ?aCInvalidName ?aCOverdrawn ?aCInvalidAmount ?aCUnknownKind ?aCDuplicateName ?aCEndless ?aCInvalidCount ?aCInvalidOperation ?aCInvalidOrder ?aCInvalidText ?aCNotEmpty ?aCOrderError ?aCSameAccount ?aCTooManyAccounts ?aCTooManyOrders ?aCUnknownAccount ?aCUnknownOrder ?aCWrongDay ?pgAccount ?hdAccount ?poAccount ?saAccount ?mkAccount ?kcAccount ?pgLimitedAccount ?hdLimitedAccount ?poLimitedAccount ?saLimitedAccount ?mkLimitedAccount ?kcLimitedAccount ?pgSavingsAccount ?hdSavingsAccount ?poSavingsAccount ?saSavingsAccount ?mkSavingsAccount ?kcSavingsAccount ?naAccount_amount ?naAccount_credit ?naAccount_cycle ?naAccount_title ?naLimitedAccount_amount ?naLimitedAccount_credit ?naLimitedAccount_cycle ?naLimitedAccount_title ?naSavingsAccount_amount ?naSavingsAccount_credit ?naSavingsAccount_cycle ?naSavingsAccount_title ?coAccount_KIND ?cgAccount_KIND ?coLimitedAccount_KIND ?cgLimitedAccount_KIND ?coSavingsAccount_KIND ?cgSavingsAccount_KIND ?rdAccount ?gaAccount ?rdLimitedAccount ?gaLimitedAccount ?rdOrderError ?gaOrderError ?rdSavingsAccount ?gaSavingsAccount ?cvAccount_KIND ?cvLimitedAccount_KIND ?cvSavingsAccount_KIND ?xeInvalidAmount ?xkInvalidAmount ?xsInvalidAmount ?xtInvalidAmount ?xeUnknownKind ?xkUnknownKind ?xsUnknownKind ?xtUnknownKind ?a0 ?l0 ?c0 ?k0 ?a1 ?l1 ?c1 ?k1 ?a2 ?i2 ?l2 ?c2 ?k2 ?a3 ?r3 ?l3 ?c3 ?k3 ?a4 ?i4 ?l4 ?c4 ?k4 ?a5 ?i5 ?l5 ?c5 ?k5 ?a6 ?r6 ?n6 ?l6 ?kw6_limit ?kw6_balance ?kw6_cycle ?c6 ?k6 ?a7 ?g7 ?t7 ?r7 ?l7 ?c7 ?k7 ?a8 ?g8 ?t8 ?r8 ?l8 ?c8 ?k8 ?a9 ?g9 ?t9 ?r9 ?l9 ?c9 ?k9 ?a10 ?g10 ?t10 ?r10 ?l10 ?c10 ?k10 ?a11 ?g11 ?t11 ?r11 ?l11 ?c11 ?k11 ?a12 ?g12 ?t12 ?r12 ?l12 ?c12 ?k12 ?a13 ?g13 ?t13 ?r13 ?l13 ?c13 ?k13 ?a14 ?g14 ?t14 ?r14 ?l14 ?c14 ?k14 ?a15 ?i15 ?l15 ?c15 ?k15 ?a16 ?l16 ?c16 ?k16 ?a17 ?l17 ?c17 ?k17 ?a18 ?l18 ?c18 ?k18 ?a19 ?l19 ?c19 ?k19 ?a20 ?l20 ?c20 ?k20 ?a21 ?l21 ?c21 ?k21 ?hLimitedAccount___init__ ?hSavingsAccount___init__ ?hSavingsAccount_allows ?hLimitedAccount_balance ?hSavingsAccount_balance ?hSavingsAccount_floor ?hLimitedAccount_kind ?hSavingsAccount_kind ?hLimitedAccount_account_name ?hSavingsAccount_account_name ?hLimitedAccount_may_withdraw ?xlInvalidName ?xmInvalidName ?xsaInvalidName ?xsbInvalidName ?xtyInvalidName ?xkpInvalidName ?xnaInvalidName_name ?a22 ?y22 ?l22 ?c22 ?k22 ?xlOverdrawn ?xmOverdrawn ?xsaOverdrawn ?xsbOverdrawn ?xtyOverdrawn ?xkpOverdrawn ?xnaOverdrawn_name ?xnaOverdrawn_day ?a23 ?y23 ?l23 ?c23 ?k23 ?oei ?z_ValueError ?z_all ?z_bool ?z_dict ?z_int ?z_isinstance ?z_len ?z_list ?z_max ?z_range ?z_str ?z_tuple ?y_LETTERS ?y_MAX_AMOUNT ?y_MAX_LETTERS ?tb_law ?tp_law ?th_law ?tn_law ?tr_law ?suA ?suL ?suC ?suI ?suK ?suD ?suV ?suF ?suE ?suG ?suM ?suZ ?suT ?suO ?suS ?suY ?suN ?kf0 ?kf1 ?kf2 ?kf3 ?kf4 ?kf5 ?kf6 ?kf7 ?kf8 ?kf9 ?kf10 ?kf11
    (case aCAccount => k_is); (case aCLimitedAccount => k_is); (case aCSavingsAccount => k_is); (case aCInvalidName => k_is); (case aCOverdrawn => k_is); (case aCInvalidAmount => k_is); (case aCUnknownKind => k_is); (case aCDuplicateName => k_is); (case aCEndless => k_is); (case aCInvalidCount => k_is); (case aCInvalidOperation => k_is); (case aCInvalidOrder => k_is); (case aCInvalidText => k_is); (case aCNotEmpty => k_is); (case aCOrderError => k_is); (case aCSameAccount => k_is); (case aCTooManyAccounts => k_is); (case aCTooManyOrders => k_is); (case aCUnknownAccount => k_is); (case aCUnknownOrder => k_is); (case aCWrongDay => k_is); (case pgAccount => k_is); (case hdAccount => k_is); (case poAccount => k_is); (case saAccount => k_is); (case mkAccount => k_is); (case kcAccount => k_is); (case pgLimitedAccount => k_is); (case hdLimitedAccount => k_is); (case poLimitedAccount => k_is); (case saLimitedAccount => k_is); (case mkLimitedAccount => k_is); (case kcLimitedAccount => k_is); (case pgSavingsAccount => k_is); (case hdSavingsAccount => k_is); (case poSavingsAccount => k_is); (case saSavingsAccount => k_is); (case mkSavingsAccount => k_is); (case kcSavingsAccount => k_is); (case naAccount_amount => k_is); (case naAccount_credit => k_is); (case naAccount_cycle => k_is); (case naAccount_title => k_is); (case naLimitedAccount_amount => k_is); (case naLimitedAccount_credit => k_is); (case naLimitedAccount_cycle => k_is); (case naLimitedAccount_title => k_is); (case naSavingsAccount_amount => k_is); (case naSavingsAccount_credit => k_is); (case naSavingsAccount_cycle => k_is); (case naSavingsAccount_title => k_is); (case coAccount_KIND => k_is); (case cgAccount_KIND => k_is); (case coLimitedAccount_KIND => k_is); (case cgLimitedAccount_KIND => k_is); (case coSavingsAccount_KIND => k_is); (case cgSavingsAccount_KIND => k_is); (case rdAccount => k_is); (case gaAccount => k_is); (case rdLimitedAccount => k_is); (case gaLimitedAccount => k_is); (case rdOrderError => k_is); (case gaOrderError => k_is); (case rdSavingsAccount => k_is); (case gaSavingsAccount => k_is); (case cvAccount_KIND => k_is); (case cvLimitedAccount_KIND => k_is); (case cvSavingsAccount_KIND => k_is); (case xeInvalidAmount => kernel_rfl); (case xkInvalidAmount => k_is); (case xsInvalidAmount => k_is); (case xtInvalidAmount => k_is); (case xeUnknownKind => kernel_rfl); (case xkUnknownKind => k_is); (case xsUnknownKind => k_is); (case xtUnknownKind => k_is); (case a0 => k_is); (case l0 => k_is); (case c0 => k_is); (case k0 => k_is); (case a1 => k_is); (case l1 => k_is); (case c1 => k_is); (case k1 => k_is); (case a2 => k_is); (case i2 => k_is); (case l2 => k_is); (case c2 => k_is); (case k2 => k_is); (case a3 => k_is); (case r3 => k_is); (case l3 => k_is); (case c3 => k_is); (case k3 => k_is); (case a4 => k_is); (case i4 => k_is); (case l4 => k_is); (case c4 => k_is); (case k4 => k_is); (case a5 => k_is); (case i5 => k_is); (case l5 => k_is); (case c5 => k_is); (case k5 => k_is); (case a6 => k_is); (case r6 => k_is); (case n6 => k_is); (case l6 => k_is); (case kw6_limit => k_is); (case kw6_balance => k_is); (case kw6_cycle => k_is); (case c6 => k_is); (case k6 => k_is); (case a7 => k_is); (case g7 => k_is); (case t7 => k_is); (case r7 => k_is); (case l7 => k_is); (case c7 => k_is); (case k7 => k_is); (case a8 => k_is); (case g8 => k_is); (case t8 => k_is); (case r8 => k_is); (case l8 => k_is); (case c8 => k_is); (case k8 => k_is); (case a9 => k_is); (case g9 => k_is); (case t9 => k_is); (case r9 => k_is); (case l9 => k_is); (case c9 => k_is); (case k9 => k_is); (case a10 => k_is); (case g10 => k_is); (case t10 => k_is); (case r10 => k_is); (case l10 => k_is); (case c10 => k_is); (case k10 => k_is); (case a11 => k_is); (case g11 => k_is); (case t11 => k_is); (case r11 => k_is); (case l11 => k_is); (case c11 => k_is); (case k11 => k_is); (case a12 => k_is); (case g12 => k_is); (case t12 => k_is); (case r12 => k_is); (case l12 => k_is); (case c12 => k_is); (case k12 => k_is); (case a13 => k_is); (case g13 => k_is); (case t13 => k_is); (case r13 => k_is); (case l13 => k_is); (case c13 => k_is); (case k13 => k_is); (case a14 => k_is); (case g14 => k_is); (case t14 => k_is); (case r14 => k_is); (case l14 => k_is); (case c14 => k_is); (case k14 => k_is); (case a15 => k_is); (case i15 => k_is); (case l15 => k_is); (case c15 => k_is); (case k15 => k_is); (case a16 => k_is); (case l16 => k_is); (case c16 => k_is); (case k16 => k_is); (case a17 => k_is); (case l17 => k_is); (case c17 => k_is); (case k17 => k_is); (case a18 => k_is); (case l18 => k_is); (case c18 => k_is); (case k18 => k_is); (case a19 => k_is); (case l19 => k_is); (case c19 => k_is); (case k19 => k_is); (case a20 => k_is); (case l20 => k_is); (case c20 => k_is); (case k20 => k_is); (case a21 => k_is); (case l21 => k_is); (case c21 => k_is); (case k21 => k_is); (case hLimitedAccount___init__ => k_is); (case hSavingsAccount___init__ => k_is); (case hSavingsAccount_allows => k_is); (case hLimitedAccount_balance => k_is); (case hSavingsAccount_balance => k_is); (case hSavingsAccount_floor => k_is); (case hLimitedAccount_kind => k_is); (case hSavingsAccount_kind => k_is); (case hLimitedAccount_account_name => k_is); (case hSavingsAccount_account_name => k_is); (case hLimitedAccount_may_withdraw => k_is); (case xlInvalidName => k_is); (case xmInvalidName => kernel_rfl); (case xsaInvalidName => k_is); (case xsbInvalidName => k_is); (case xtyInvalidName => k_is); (case xkpInvalidName => k_is); (case xnaInvalidName_name => k_is); (case a22 => k_is); (case y22 => k_is); (case l22 => k_is); (case c22 => k_is); (case k22 => k_is); (case xlOverdrawn => k_is); (case xmOverdrawn => kernel_rfl); (case xsaOverdrawn => k_is); (case xsbOverdrawn => k_is); (case xtyOverdrawn => k_is); (case xkpOverdrawn => k_is); (case xnaOverdrawn_name => k_is); (case xnaOverdrawn_day => k_is); (case a23 => k_is); (case y23 => k_is); (case l23 => k_is); (case c23 => k_is); (case k23 => k_is); (case oei => k_is); (case z_ValueError => k_is); (case z_all => k_is); (case z_bool => k_is); (case z_dict => k_is); (case z_int => k_is); (case z_isinstance => k_is); (case z_len => k_is); (case z_list => k_is); (case z_max => k_is); (case z_range => k_is); (case z_str => k_is); (case z_tuple => k_is); (case y_LETTERS => k_is); (case y_MAX_AMOUNT => k_is); (case y_MAX_LETTERS => k_is); (case tb_law => k_is); (case tp_law => exact rfl); (case th_law => exact rfl); (case tn_law => exact rfl); (case tr_law => exact rfl); (case suA => k_is); (case suL => k_is); (case suC => k_is); (case suI => k_is); (case suK => k_is); (case suD => k_is); (case suV => exact rfl); (case suF => first | exact rfl | decide +kernel); (case suE => k_is); (case suG => k_is); (case suM => k_is); (case suZ => k_is); (case suT => first | exact rfl | decide +kernel); (case suO => k_is); (case suS => first | ks_is | k_is | kernel_rfl); (case suY => k_is); (case suN => k_is); (case kf0 => kernel_rfl); (case kf1 => kernel_rfl); (case kf2 => kernel_rfl); (case kf3 => kernel_rfl); (case kf4 => kernel_rfl); (case kf5 => kernel_rfl); (case kf6 => kernel_rfl); (case kf7 => kernel_rfl); (case kf8 => kernel_rfl); (case kf9 => kernel_rfl); (case kf10 => kernel_rfl); (case kf11 => kernel_rfl)
