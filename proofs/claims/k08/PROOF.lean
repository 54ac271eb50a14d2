import PyProof.Rows.All
import Wide.All
import OpenK.AllK
import Wide.FinOn
import HandS.ForMost
import HandS.IsInst
import HandS.Wide
import HandS.Flow
import HandS.Walk
import KE.GoesMore
import KE.GoesEnum
import KE.SortData
import HandS.Style
import HandS.TupAny
import HandS.TupSets
import HandS.GenList
import HandS.Dict
import HandS.Iter
import HandS.Sort
import HandS.SortInts
import PyProof.MinMaxWalk
import PyProof.WalkInts
import PyProof.AutoSeq1
import KE.BitLaws
import PySem.Challenge.RW_standingorders_k08_fewest_by_search
set_option Elab.async false
set_option linter.all false
set_option maxRecDepth 100000
set_option maxHeartbeats 4000000
/-! The data layer: a def's body read over plain data; mutable objects are cells. -/
namespace DL
open PySem L2
abbrev Frag := PySem.W.Frag
/-- what a Python value is worth, whatever its addresses -/
inductive Dat where
  | non
  | bl (b : Bool)
  | int (i : Int)
  | str (x : Str)
  | lst (xs : List Dat)
  | tup (xs : List Dat)
  | obj (C : Addr) (fs : List (Str × Dat))
mutual
inductive Dr (K : Frag) (M : Hp) : V → Dat → Prop
  | non : Dr K M .non .non
  | bl (b : Bool) : Dr K M (.bl b) (.bl b)
  | int (i : Int) : Dr K M (.int i) (.int i)
  | str (x : Str) : Dr K M (.str x) (.str x)
  | lst {a : Addr} {xs : List V} {ds : List Dat} : SqL K M a xs → DrAll K M xs ds → Dr K M (.ref a) (.lst ds)
  | tup {a : Addr} {xs : List V} {ds : List Dat} : SqT K M a xs → DrAll K M xs ds → Dr K M (.ref a) (.tup ds)
  | obj {a C dx : Addr} {fs : List (Str × V)} {ds : List (Str × Dat)} : M a = some (.ins C dx fs) → DrF K M fs ds → Dr K M (.ref a) (.obj C ds)
inductive DrAll (K : Frag) (M : Hp) : List V → List Dat → Prop
  | nil : DrAll K M [] []
  | cons {v : V} {vs : List V} {d : Dat} {ds : List Dat} : Dr K M v d → DrAll K M vs ds → DrAll K M (v :: vs) (d :: ds)
inductive DrF (K : Frag) (M : Hp) : List (Str × V) → List (Str × Dat) → Prop
  | nil : DrF K M [] []
  | cons {f : Str} {v : V} {vs : List (Str × V)} {d : Dat} {ds : List (Str × Dat)} : Dr K M v d → DrF K M vs ds → DrF K M ((f, v) :: vs) ((f, d) :: ds)
end
theorem sqL_mono {K : Frag} {M M' : Hp} (s : Same M M') {a : Addr} {xs : List V} (h : SqL K M a xs) : SqL K M' a xs := s.seq h
theorem sqT_mono {K : Frag} {M M' : Hp} (s : Same M M') {a : Addr} {xs : List V} (h : SqT K M a xs) : SqT K M' a xs := by
  rcases h with (h | ⟨o, h⟩) | h
  · exact .inl (.inl (s _ _ h))
  · exact .inl (.inr ⟨o, s _ _ h⟩)
  · exact .inr h
section
variable {K : Frag} {M M' : Hp}
mutual
theorem Dr.mono (s : Same M M') : ∀ {v : V} {d : Dat}, Dr K M v d → Dr K M' v d
  | _, _, .non => .non
  | _, _, .bl b => .bl b
  | _, _, .int i => .int i
  | _, _, .str x => .str x
  | _, _, .lst h k => .lst (sqL_mono s h) (DrAll.mono s k)
  | _, _, .tup h k => .tup (sqT_mono s h) (DrAll.mono s k)
  | _, _, .obj h k => .obj (s _ _ h) (DrF.mono s k)
theorem DrAll.mono (s : Same M M') : ∀ {v : List V} {d : List Dat}, DrAll K M v d → DrAll K M' v d
  | _, _, .nil => .nil
  | _, _, .cons h k => .cons (Dr.mono s h) (DrAll.mono s k)
theorem DrF.mono (s : Same M M') : ∀ {v : List (Str × V)} {d : List (Str × Dat)}, DrF K M v d → DrF K M' v d
  | _, _, .nil => .nil
  | _, _, .cons h k => .cons (Dr.mono s h) (DrF.mono s k)
end
theorem DrAll.length : ∀ {vs : List V} {ds : List Dat}, DrAll K M vs ds → vs.length = ds.length
  | _, _, .nil => rfl
  | _, _, .cons _ k => congrArg Nat.succ k.length
theorem DrAll.get : ∀ {vs : List V} {ds : List Dat} {i : Nat} {d : Dat}, DrAll K M vs ds → ds[i]? = some d → ∃ v, vs[i]? = some v ∧ Dr K M v d
  | _, _, 0, _, .cons h _, e => by cases e; exact ⟨_, rfl, h⟩
  | _, _, n + 1, _, .cons _ k, e => k.get (i := n) e
  | _, _, _, _, .nil, e => by cases e
theorem DrAll.getV : ∀ {vs : List V} {ds : List Dat} {i : Nat} {v : V}, DrAll K M vs ds → vs[i]? = some v → ∃ d, ds[i]? = some d ∧ Dr K M v d
  | _, _, 0, _, .cons h _, e => by cases e; exact ⟨_, rfl, h⟩
  | _, _, n + 1, _, .cons _ k, e => k.getV (i := n) e
  | _, _, _, _, .nil, e => by cases e
end
/-- a value at hand: plain data, or the value itself (a cell's address, a class ..) -/
inductive Vl where
  | dat (d : Dat)
  | raw (v : V)
abbrev Vl.cell (a : Addr) : Vl := .raw (.ref a)
abbrev Vl.int (i : Int) : Vl := .dat (.int i)
abbrev Vl.bl (b : Bool) : Vl := .dat (.bl b)
abbrev Vl.non : Vl := .dat .non
def RV (K : Frag) (M : Hp) (v : V) : Vl → Prop
  | .dat d => Dr K M v d
  | .raw u => v = u
theorem RV.mono {K : Frag} {M M' : Hp} (s : Same M M') {v : V} {x : Vl} (h : RV K M v x) : RV K M' v x := by
  cases x with
  | dat d => exact Dr.mono s h
  | raw u => exact h
/-- what a mutable object holds -/
inductive CO where
  | lst (xs : List Vl)
  | dk (kvs : List (Key × Vl))
  | dt (kvs : List (List Key × Vl))
  | ins (C : Addr) (fs : List (Str × Vl))
  | lk (o : Obj) (u : HO) (kvs : List (Key × Vl))
abbrev Cells := Addr → Option CO
def Cells.put (cs : Cells) (a : Addr) (c : CO) : Cells := fun b => if b = a then some c else cs b
def Cells.del (cs : Cells) (a : Addr) : Cells := fun b => if b = a then none else cs b
theorem Cells.put_same {cs : Cells} {a : Addr} {c : CO} : cs.put a c a = some c := by simp [Cells.put]
theorem Cells.put_ne {cs : Cells} {a b : Addr} {c : CO} (h : b ≠ a) : cs.put a c b = cs b := by simp [Cells.put, h]
theorem Cells.put_put {cs : Cells} {a : Addr} {c c' : CO} : (cs.put a c).put a c' = cs.put a c' := by
  funext b; simp only [Cells.put]; split <;> rfl
theorem Cells.del_put {cs : Cells} {a : Addr} {c : CO} (h : cs a = none) : (cs.put a c).del a = cs := by
  funext b; simp only [Cells.put, Cells.del]; split
  · rename_i e; rw [e, h]
  · rfl
theorem Cells.put_comm {cs : Cells} {a b : Addr} {c d : CO} (h : a ≠ b) : (cs.put a c).put b d = (cs.put b d).put a c := by
  funext x; simp only [Cells.put]
  by_cases e : x = a
  · subst e; simp [h]
  · by_cases e2 : x = b
    · subst e2; simp [e]
    · simp [e, e2]
theorem Cells.put_self {cs : Cells} {a : Addr} {c : CO} (h : cs a = some c) : cs.put a c = cs := by
  funext b; simp only [Cells.put]; split
  · rename_i e; rw [e, h]
  · rfl
def LkRep (K : Frag) (M : Hp) (ys : List (Key × Vl)) : HO → Prop
  | .dK xs => Paired (fun (p : Key × V) (q : Key × Vl) => p.1 = q.1 ∧ RV K M p.2 q.2) xs ys
  | _ => False
def CRep (K : Frag) (M : Hp) (a : Addr) : HO → CO → Prop
  | .lst xs, .lst ys => Paired (RV K M) xs ys
  | .dK xs, .dk ys => Paired (fun (p : Key × V) (q : Key × Vl) => p.1 = q.1 ∧ RV K M p.2 q.2) xs ys
  | .dT xs, .dt ys => Paired (fun (p : List Key × V) (q : List Key × Vl) => p.1 = q.1 ∧ RV K M p.2 q.2) xs ys
  | .frz o u, .lk o' u' ys => o = o' ∧ u = u' ∧ LkRep K M ys u
  | .ins C dx fs, .ins C' gs => C = C' ∧ Paired (fun (p : Str × V) (q : Str × Vl) => p.1 = q.1 ∧ RV K M p.2 q.2) fs gs
  | _, _ => False
theorem paired_mono {α β : Type} {R R' : α → β → Prop} (h : ∀ a b, R a b → R' a b) : ∀ {xs : List α} {ys : List β}, Paired R xs ys → Paired R' xs ys
  | _, _, .nil => .nil
  | _, _, .cons a k => .cons (h _ _ a) (paired_mono h k)
theorem CRep.mono {K : Frag} {M M' : Hp} {a : Addr} (s : Same M M') : ∀ {o : HO} {c : CO}, CRep K M a o c → CRep K M' a o c := by
  intro o c h
  cases o <;> cases c <;> try exact h.elim
  · exact paired_mono (fun _ _ q => q.mono s) h
  · exact paired_mono (fun _ _ q => ⟨q.1, q.2.mono s⟩) h
  · exact paired_mono (fun _ _ q => ⟨q.1, q.2.mono s⟩) h
  · exact ⟨h.1, paired_mono (fun _ _ q => ⟨q.1, q.2.mono s⟩) h.2⟩
  · rename_i u _ _ _
    refine ⟨h.1, h.2.1, ?_⟩
    have h2 := h.2.2
    cases u <;> first | exact (show False from h2).elim | exact paired_mono (fun _ _ q => ⟨q.1, q.2.mono s⟩) h2
/-- M: what never changes; cs: the cells -/
structure Ok (K : Frag) (M H : Hp) (cs : Cells) : Prop where
  ex : Same M H
  cell : ∀ a c, cs a = some c → M a = none ∧ ∃ o, H a = some o ∧ CRep K M a o c
abbrev DEnv := List (Option Vl)
structure Rho (K : Frag) (M : Hp) (σ : St) (ρ : DEnv) : Prop where
  len : σ.length = ρ.length
  at_ : ∀ (i : Nat) (x : Vl), ρ[i]? = some (some x) → ∃ v, σ[i]? = some (some v) ∧ RV K M v x
theorem Rho.mono {K : Frag} {M M' : Hp} {σ : St} {ρ : DEnv} (s : Same M M') (h : Rho K M σ ρ) : Rho K M' σ ρ :=
  ⟨h.len, fun i x e => let ⟨v, q, r⟩ := h.at_ i x e; ⟨v, q, r.mono s⟩⟩
theorem Rho.set {K : Frag} {M : Hp} {σ : St} {ρ : DEnv} (h : Rho K M σ ρ) {i : Nat} {v : V} {x : Vl} (r : RV K M v x) : Rho K M (σ.set i (some v)) (ρ.set i (some x)) := by
  refine ⟨by rw [List.length_set, List.length_set, h.len], fun j y e => ?_⟩
  by_cases hj : i = j
  · subst hj
    by_cases hl : i < ρ.length
    · rw [List.getElem?_set_self hl] at e
      cases e
      exact ⟨v, by rw [List.getElem?_set_self (by rw [h.len]; exact hl)], r⟩
    · rw [List.getElem?_eq_none (by rw [List.length_set]; omega)] at e
      cases e
  · rw [List.getElem?_set_ne hj] at e
    obtain ⟨u, q, s⟩ := h.at_ j y e
    exact ⟨u, by rw [List.getElem?_set_ne hj]; exact q, s⟩
/-- the continuation at the level of data is one at the level of heaps -/
def Kont (K : Frag) (M : Hp) (P : Vl → Cells → Prop) (Q : VK) : Prop := ∀ v x M' H' cs', Same M M' → Ok K M' H' cs' → RV K M' v x → P x cs' → Q v H'
theorem Kont.mono {K : Frag} {M M' : Hp} {P : Vl → Cells → Prop} {Q : VK} (s : Same M M') (k : Kont K M P Q) : Kont K M' P Q := fun v x M2 H2 cs2 s2 o r p => k v x M2 H2 cs2 (s.trans s2) o r p
def KontT (K : Frag) (M : Hp) (P : Bool → Cells → Prop) (Q : Bool → Hp → Prop) : Prop := ∀ b M' H' cs', Same M M' → Ok K M' H' cs' → P b cs' → Q b H'
def KontA (K : Frag) (M : Hp) (P : List Vl → Cells → Prop) (Q : List V → Hp → Prop) : Prop := ∀ vs xs M' H' cs', Same M M' → Ok K M' H' cs' → Paired (RV K M') vs xs → P xs cs' → Q vs H'
def KontS (K : Frag) (M : Hp) (P : DEnv → Cells → Prop) (Q : St → Hp → Prop) : Prop := ∀ σ' ρ' M' H' cs', Same M M' → Ok K M' H' cs' → Rho K M' σ' ρ' → P ρ' cs' → Q σ' H'
theorem KontT.mono {K : Frag} {M M' : Hp} {P : Bool → Cells → Prop} {Q : Bool → Hp → Prop} (s : Same M M') (k : KontT K M P Q) : KontT K M' P Q := fun b M2 H2 cs2 s2 o p => k b M2 H2 cs2 (s.trans s2) o p
theorem KontA.mono {K : Frag} {M M' : Hp} {P : List Vl → Cells → Prop} {Q : List V → Hp → Prop} (s : Same M M') (k : KontA K M P Q) : KontA K M' P Q := fun v x M2 H2 cs2 s2 o r p => k v x M2 H2 cs2 (s.trans s2) o r p
theorem KontS.mono {K : Frag} {M M' : Hp} {P : DEnv → Cells → Prop} {Q : St → Hp → Prop} (s : Same M M') (k : KontS K M P Q) : KontS K M' P Q := fun v x M2 H2 cs2 s2 o r p => k v x M2 H2 cs2 (s.trans s2) o r p
abbrev WE := DEnv → Cells → (Vl → Cells → Prop) → Prop
abbrev WT := DEnv → Cells → (Bool → Cells → Prop) → Prop
abbrev WA := DEnv → Cells → (List Vl → Cells → Prop) → Prop
structure DEnds where
  nx : DEnv → Cells → Prop
  rt : Vl → Cells → Prop
  bk : DEnv → Cells → Prop := fun _ _ => False
  ct : DEnv → Cells → Prop := fun _ _ => False
abbrev WS := DEnds → DEnv → Cells → Prop
structure EndsOk (K : Frag) (M : Hp) (D : DEnds) (E : Ends) : Prop where
  nx : KontS K M D.nx E.nx
  rt : Kont K M D.rt E.rt
  bk : KontS K M D.bk E.bk
  ct : KontS K M D.ct E.ct
theorem EndsOk.mono {K : Frag} {M M' : Hp} {D : DEnds} {E : Ends} (s : Same M M') (k : EndsOk K M D E) : EndsOk K M' D E := ⟨k.nx.mono s, k.rt.mono s, k.bk.mono s, k.ct.mono s⟩
def lift (K : Frag) (w : WE) : TE := fun σ H Q => ∃ M ρ cs P, Ok K M H cs ∧ Rho K M σ ρ ∧ w ρ cs P ∧ Kont K M P Q
def liftT (K : Frag) (w : WT) : TT := fun σ H Q => ∃ M ρ cs P, Ok K M H cs ∧ Rho K M σ ρ ∧ w ρ cs P ∧ KontT K M P Q
def liftA (K : Frag) (w : WA) : TA := fun σ H Q => ∃ M ρ cs P, Ok K M H cs ∧ Rho K M σ ρ ∧ w ρ cs P ∧ KontA K M P Q
def liftS (K : Frag) (w : WS) : TS := fun E σ H => ∃ M ρ cs D, Ok K M H cs ∧ Rho K M σ ρ ∧ w D ρ cs ∧ EndsOk K M D E
def DE (X : Cx) (e : Expr) (w : WE) : Prop := PE X e (lift X.K w)
def DT (X : Cx) (e : Expr) (w : WT) : Prop := PT X e (liftT X.K w)
def DW (X : Cx) (e : Expr) (w : WT) : Prop := PW X e (liftT X.K w)
def DA (X : Cx) (es : List Expr) (w : WA) : Prop := PA X es (liftA X.K w)
def DS (X : Cx) (st : Stmt) (w : WS) : Prop := PS X st (liftS X.K w)
def DSs (X : Cx) (st : List Stmt) (w : WS) : Prop := PSs X st (liftS X.K w)
section
variable {X : Cx}
theorem pe_imp {e : Expr} {t t' : TE} (h : PE X e t) (m : ∀ σ H Q, t' σ H Q → t σ H Q) : PE X e t' := ⟨fun pins s σ H Q I q => h.run pins s σ H Q I (m σ H Q q)⟩
theorem pt_imp {e : Expr} {t t' : TT} (h : PT X e t) (m : ∀ σ H Q, t' σ H Q → t σ H Q) : PT X e t' := ⟨fun pins s σ H Q I q => h.run pins s σ H Q I (m σ H Q q)⟩
theorem pw_imp {e : Expr} {t t' : TT} (h : PW X e t) (m : ∀ σ H Q, t' σ H Q → t σ H Q) : PW X e t' := ⟨fun w pins s σ H Q I q => h.run w pins s σ H Q I (m σ H Q q)⟩
theorem pa_imp {e : List Expr} {t t' : TA} (h : PA X e t) (m : ∀ σ H Q, t' σ H Q → t σ H Q) : PA X e t' := ⟨fun pos pins s σ H Q I q => h.run pos pins s σ H Q I (m σ H Q q)⟩
theorem ps_imp {e : Stmt} {t t' : TS} (h : PS X e t) (m : ∀ D σ H, t' D σ H → t D σ H) : PS X e t' := ⟨fun pins s σ H D I q => h.run pins s σ H D I (m D σ H q)⟩
theorem pss_imp {e : List Stmt} {t t' : TS} (h : PSs X e t) (m : ∀ D σ H, t' D σ H → t D σ H) : PSs X e t' := ⟨fun pins s σ H D I q => h.run pins s σ H D I (m D σ H q)⟩
end
end DL
set_option maxRecDepth 100000
set_option maxHeartbeats 4000000
namespace DL
open PySem L2
/-! ### heaps -/
section
variable {K : Frag} {M H : Hp} {cs : Cells}
theorem Ok.free (o : Ok K M H cs) {p : Addr} (h : H p = none) : M p = none := o.ex.free h
theorem Ok.freeC (o : Ok K M H cs) {p : Addr} (h : H p = none) : cs p = none := by
  cases e : cs p with
  | none => rfl
  | some c =>
    obtain ⟨_, u, q, _⟩ := o.cell p c e
    rw [q] at h; cases h
theorem same_upd {p : Addr} {u : HO} (h : M p = none) : Same M (upd M p u) := fun b o e => by
  rw [upd_ne (ne_of_none e h)]; exact e
/-- a new object that will never change -/
theorem Ok.newM (o : Ok K M H cs) {p : Addr} (h : H p = none) (u : HO) : Same M (upd M p u) ∧ Ok K (upd M p u) (upd H p u) cs := by
  have s := same_upd (M := M) (u := u) (o.free h)
  refine ⟨s, fun b ob e => ?_, fun a c e => ?_⟩
  · by_cases hb : b = p
    · rw [hb] at e ⊢; rw [upd_same] at e ⊢; exact e
    · rw [upd_ne hb] at e ⊢; exact o.ex b ob e
  · obtain ⟨m, ob, q, r⟩ := o.cell a c e
    have na : a ≠ p := ne_of_none q h
    exact ⟨by rw [upd_ne na]; exact m, ob, by rw [upd_ne na]; exact q, r.mono s⟩
/-- a new cell -/
theorem Ok.newC (o : Ok K M H cs) {p : Addr} (h : H p = none) {u : HO} {c : CO} (r : CRep K M p u c) : Ok K M (upd H p u) (cs.put p c) := by
  refine ⟨fun b ob e => ?_, fun a c' e => ?_⟩
  · rw [upd_ne (ne_of_none (o.ex b ob e) h)]; exact o.ex b ob e
  · by_cases ha : a = p
    · subst ha
      rw [Cells.put_same] at e; cases e
      exact ⟨o.free h, u, upd_same, r⟩
    · rw [Cells.put_ne ha] at e
      obtain ⟨m, ob, q, z⟩ := o.cell a c' e
      exact ⟨m, ob, by rw [upd_ne ha]; exact q, z⟩
/-- a cell is changed -/
theorem Ok.setC (o : Ok K M H cs) {p : Addr} {c0 : CO} (h : cs p = some c0) {u : HO} {c : CO} (r : CRep K M p u c) : Ok K M (upd H p u) (cs.put p c) := by
  obtain ⟨m0, _⟩ := o.cell p c0 h
  refine ⟨fun b ob e => ?_, fun a c' e => ?_⟩
  · rw [upd_ne (ne_of_none e m0)]; exact o.ex b ob e
  · by_cases ha : a = p
    · subst ha
      rw [Cells.put_same] at e; cases e
      exact ⟨m0, u, upd_same, r⟩
    · rw [Cells.put_ne ha] at e
      obtain ⟨m, ob, q, z⟩ := o.cell a c' e
      exact ⟨m, ob, by rw [upd_ne ha]; exact q, z⟩
theorem Ok.sub (o : Ok K M H cs) {cs' : Cells} (h : ∀ a c, cs' a = some c → cs a = some c) : Ok K M H cs' := ⟨o.ex, fun a c e => o.cell a c (h a c e)⟩
theorem Ok.seqL (o : Ok K M H cs) {a : Addr} {xs : List V} (h : SqL K M a xs) : SqL K H a xs := sqL_mono o.ex h
theorem Ok.seqT (o : Ok K M H cs) {a : Addr} {xs : List V} (h : SqT K M a xs) : SqT K H a xs := sqT_mono o.ex h
theorem DrAll.paired : ∀ {vs : List V} {ds : List Dat}, DrAll K M vs ds → Paired (RV K M) vs (ds.map .dat)
  | _, _, .nil => .nil
  | _, _, .cons h k => .cons h k.paired
theorem DrAll.of_paired : ∀ {vs : List V} {ds : List Dat}, Paired (RV K M) vs (ds.map .dat) → DrAll K M vs ds
  | [], [], .nil => .nil
  | _ :: _, _ :: _, .cons h k => .cons h (DrAll.of_paired k)
theorem Paired.len {α β : Type} {R : α → β → Prop} : ∀ {xs : List α} {ys : List β}, Paired R xs ys → xs.length = ys.length
  | _, _, .nil => rfl
  | _, _, .cons _ k => congrArg Nat.succ (Paired.len k)
theorem Paired.getR {α β : Type} {R : α → β → Prop} : ∀ {xs : List α} {ys : List β} {i : Nat} {y : β}, Paired R xs ys → ys[i]? = some y → ∃ x, xs[i]? = some x ∧ R x y
  | _, _, 0, _, .cons h _, e => by cases e; exact ⟨_, rfl, h⟩
  | _, _, n + 1, _, .cons _ k, e => Paired.getR (i := n) k e
  | _, _, _, _, .nil, e => by cases e
theorem Paired.getL {α β : Type} {R : α → β → Prop} : ∀ {xs : List α} {ys : List β} {i : Nat} {x : α}, Paired R xs ys → xs[i]? = some x → ∃ y, ys[i]? = some y ∧ R x y
  | _, _, 0, _, .cons h _, e => by cases e; exact ⟨_, rfl, h⟩
  | _, _, n + 1, _, .cons _ k, e => Paired.getL (i := n) k e
  | _, _, _, _, .nil, e => by cases e
theorem Paired.app {α β : Type} {R : α → β → Prop} : ∀ {xs : List α} {ys : List β} {xs' : List α} {ys' : List β}, Paired R xs ys → Paired R xs' ys' → Paired R (xs ++ xs') (ys ++ ys')
  | _, _, _, _, .nil, k => k
  | _, _, _, _, .cons h t, k => .cons h (Paired.app t k)
theorem Paired.set {α β : Type} {R : α → β → Prop} : ∀ {xs : List α} {ys : List β} {i : Nat} {x : α} {y : β}, Paired R xs ys → R x y → Paired R (xs.set i x) (ys.set i y)
  | _, _, 0, _, _, .cons _ k, r => .cons r k
  | _, _, n + 1, _, _, .cons h k, r => .cons h (Paired.set (i := n) k r)
  | _, _, _, _, _, .nil, _ => .nil
end
/-! ### the values that a sequence holds: list (true) or tuple (false) -/
def coSeq : Option CO → Option (Bool × List Vl)
  | some (.lst xs) => some (true, xs)
  | _ => none
def seqD (cs : Cells) : Vl → Option (Bool × List Vl)
  | .dat (.lst ds) => some (true, ds.map .dat)
  | .dat (.tup ds) => some (false, ds.map .dat)
  | .raw (.ref a) => coSeq (cs a)
  | _ => none
theorem rv_dat {K : Frag} {M : Hp} {v : V} {d : Dat} (h : Dr K M v d) : RV K M v (.dat d) := h
theorem rv_raw {K : Frag} {M : Hp} {v : V} : RV K M v (.raw v) := rfl
section
variable {K : Frag} {M H : Hp} {cs : Cells} {v : V} {x : Vl} {xs : List Vl}
theorem seqD_list (o : Ok K M H cs) (r : RV K M v x) (h : seqD cs x = some (true, xs)) : ∃ a vs, v = .ref a ∧ SqL K H a vs ∧ Paired (RV K M) vs xs := by
  match x, r, h with
  | .dat (.lst ds), r, h =>
    cases h
    cases (show Dr K M v (.lst ds) from r) with
    | lst q k => exact ⟨_, _, rfl, o.seqL q, k.paired⟩
  | .dat (.tup ds), r, h => exact nomatch (show some (false, _) = some (true, _) from h)
  | .raw (.ref a), r, h =>
    cases (show v = .ref a from r)
    have h : coSeq (cs a) = some _ := h
    cases e : cs a with
    | none => rw [e] at h; cases h
    | some c =>
      rw [e] at h
      cases c with
      | lst ys =>
        cases h
        obtain ⟨_, u, q, z⟩ := o.cell a _ e
        cases u <;> try exact (show False from z).elim
        exact ⟨a, _, rfl, .inl (.inl q), z⟩
      | _ => cases h
theorem seqD_tup (o : Ok K M H cs) (r : RV K M v x) (h : seqD cs x = some (false, xs)) : ∃ a vs, v = .ref a ∧ SqT K H a vs ∧ Paired (RV K M) vs xs := by
  match x, r, h with
  | .dat (.lst ds), r, h => exact nomatch (show some (true, _) = some (false, _) from h)
  | .dat (.tup ds), r, h =>
    cases h
    cases (show Dr K M v (.tup ds) from r) with
    | tup q k => exact ⟨_, _, rfl, o.seqT q, k.paired⟩
  | .raw (.ref a), r, h =>
    have h : coSeq (cs a) = some _ := h
    cases e : cs a with
    | none => rw [e] at h; cases h
    | some c =>
      rw [e] at h
      cases c <;> cases h
theorem seqD_any (o : Ok K M H cs) (r : RV K M v x) {b : Bool} (h : seqD cs x = some (b, xs)) : ∃ a vs, v = .ref a ∧ (SqL K H a vs ∨ SqT K H a vs) ∧ Paired (RV K M) vs xs := by
  cases b with
  | true => obtain ⟨a, vs, e, q, p⟩ := seqD_list o r h; exact ⟨a, vs, e, .inl q, p⟩
  | false => obtain ⟨a, vs, e, q, p⟩ := seqD_tup o r h; exact ⟨a, vs, e, .inr q, p⟩
end
/-! ### expressions -/
abbrev W2 := Vl → Vl → Cells → (Vl → Cells → Prop) → Prop
abbrev W1 := Vl → Cells → (Vl → Cells → Prop) → Prop
abbrev WN := List Vl → Cells → (Vl → Cells → Prop) → Prop
def wVar (i : Nat) : WE := fun ρ cs P => ∃ x, ρ[i]? = some (some x) ∧ P x cs
def wC (d : Dat) : WE := fun _ cs P => P (.dat d) cs
def wRaw (v : V) : WE := fun _ cs P => P (.raw v) cs
def wOp (r : W2) (wa wb : WE) : WE := fun ρ cs P => wa ρ cs fun x cs1 => wb ρ cs1 fun y cs2 => r x y cs2 P
def wUn (r : W1) (wa : WE) : WE := fun ρ cs P => wa ρ cs fun x cs1 => r x cs1 P
def wNil : WA := fun _ cs P => P [] cs
def wCons (wa : WE) (wr : WA) : WA := fun ρ cs P => wa ρ cs fun x cs1 => wr ρ cs1 fun xs cs2 => P (x :: xs) cs2
def wFn (r : WN) (wa : WA) : WE := fun ρ cs P => wa ρ cs fun xs cs1 => r xs cs1 P
def wTest (we : WE) : WT := fun ρ cs P => we ρ cs fun x cs1 => ∃ k, x = .dat (.bl k) ∧ P k cs1
def wNot (w : WT) : WT := fun ρ cs P => w ρ cs fun b cs1 => P (!b) cs1
def wAnd (w u : WT) : WT := fun ρ cs P => w ρ cs fun b cs1 => if b = true then u ρ cs1 P else P false cs1
def wOr (w u : WT) : WT := fun ρ cs P => w ρ cs fun b cs1 => if b = true then P true cs1 else u ρ cs1 P
def wAndV (w u : WE) : WE := fun ρ cs P => w ρ cs fun x cs1 => ∃ b, x = .dat (.bl b) ∧ if b = true then u ρ cs1 P else P (.dat (.bl false)) cs1
def wOrV (w u : WE) : WE := fun ρ cs P => w ρ cs fun x cs1 => ∃ b, x = .dat (.bl b) ∧ if b = true then P (.dat (.bl true)) cs1 else u ρ cs1 P
def wNotV (w : WE) : WE := fun ρ cs P => w ρ cs fun x cs1 => ∃ b, x = .dat (.bl b) ∧ P (.dat (.bl (!b))) cs1
def wIf (w : WT) (wa wb : WE) : WE := fun ρ cs P => w ρ cs fun b cs1 => if b = true then wa ρ cs1 P else wb ρ cs1 P
def wChain (r r' : W2) (wa wb wc : WE) : WE := fun ρ cs P => wa ρ cs fun x cs1 => wb ρ cs1 fun y cs2 => r x y cs2 fun z cs3 => ∃ k, z = .dat (.bl k) ∧
  if k = true then wc ρ cs3 fun u cs4 => r' y u cs4 P else P (.dat (.bl false)) cs3
def R2Ok (K : Frag) (r : R2) (w : W2) : Prop := ∀ M H cs x y a b P Q, Ok K M H cs → RV K M x a → RV K M y b → w a b cs P → Kont K M P Q → r x y H Q
def R1Ok (K : Frag) (r : V → Hp → VK → Prop) (w : W1) : Prop := ∀ M H cs x a P Q, Ok K M H cs → RV K M x a → w a cs P → Kont K M P Q → r x H Q
def RNOk (K : Frag) (r : List V → Hp → VK → Prop) (w : WN) : Prop := ∀ M H cs xs as P Q, Ok K M H cs → Paired (RV K M) xs as → w as cs P → Kont K M P Q → r xs H Q
theorem inv_int {K : Frag} {M : Hp} {v : V} {i : Int} (h : RV K M v (.dat (.int i))) : v = .int i := by
  cases (show Dr K M v (.int i) from h); rfl
theorem inv_bl {K : Frag} {M : Hp} {v : V} {i : Bool} (h : RV K M v (.dat (.bl i))) : v = .bl i := by
  cases (show Dr K M v (.bl i) from h); rfl
theorem inv_non {K : Frag} {M : Hp} {v : V} (h : RV K M v (.dat .non)) : v = .non := by
  cases (show Dr K M v .non from h); rfl
theorem inv_str {K : Frag} {M : Hp} {v : V} {x : Str} (h : RV K M v (.dat (.str x))) : v = .str x := by
  cases (show Dr K M v (.str x) from h); rfl
section
variable {X : Cx} {a b c e : Expr} {es : List Expr} {wa wb wc we : WE} {w u : WT} {wr : WA} {pos : Pos}
theorem de_var (i : Nat) {x : Str} (hN : X.N[i]? = some x := by rfl) (hv : Vis X.env.scope x := by first | exact Or.inl rfl | exact Or.inr (Or.inl rfl) | exact Or.inr (Or.inr rfl)) (hd : (x == ("__debug__" : Str)) = false := by decide)
    (hcd : (x == ("__classdict__" : Str)) = false := by decide) : DE X (.Name x pos) (wVar i) :=
  pe_imp (pv i hN hv hd hcd) fun σ H Q ⟨M, ρ, cs, P, o, r, ⟨x, ex, p⟩, k⟩ => let ⟨v, ev, rv⟩ := r.at_ i x ex; ⟨v, ev, k v x M H cs (Same.refl _) o rv p⟩
theorem de_c {v : V} {d : Dat} (h : PE X e (tC v)) (hd : ∀ M, Dr X.K M v d) : DE X e (wC d) :=
  pe_imp h fun σ H Q ⟨M, ρ, cs, P, o, r, p, k⟩ => k _ _ M H cs (Same.refl _) o (rv_dat (hd M)) p
theorem de_raw {v : V} (h : PE X e (tC v)) : DE X e (wRaw v) :=
  pe_imp h fun σ H Q ⟨M, ρ, cs, P, o, r, p, k⟩ => k _ _ M H cs (Same.refl _) o rv_raw p
theorem de_int {i : Int} {j : Nat} : DE X (.Constant (.int i) j pos) (wC (.int i)) := de_c pe_int fun _ => .int i
theorem de_bl {b : Bool} {j : Nat} : DE X (.Constant (.bool b) j pos) (wC (.bl b)) := de_c pe_bl fun _ => .bl b
theorem de_non {j : Nat} : DE X (.Constant .none j pos) (wC .non) := de_c pe_non fun _ => .non
theorem de_str {x : Str} {j : Nat} : DE X (.Constant (.str x) j pos) (wC (.str x)) := de_c pe_str fun _ => .str x
theorem de_gint {x : Str} {i : Int} {t : Tok} (hm : X.mg x = some (.int i t)) (hg : Gl X x := by rfl) (hd : (x == ("__debug__" : Str)) = false := by decide) : DE X (.Name x pos) (wC (.int i)) :=
  de_c (v := .int i) (pe_glob hg hm ⟨t, rfl⟩ hd) fun _ => .int i
/-- two parts, from the left -/
theorem lift2 {K : Frag} {r : R2} {w2 : W2} (hr : R2Ok K r w2) {σ : St} {H : Hp} {Q : VK} (h : lift K (wOp w2 wa wb) σ H Q) : tOp r (lift K wa) (lift K wb) σ H Q := by
  obtain ⟨M, ρ, cs, P, o, r0, p, k⟩ := h
  refine ⟨M, ρ, cs, _, o, r0, p, fun v x M1 H1 cs1 s1 o1 r1 p1 => ?_⟩
  refine ⟨M1, ρ, cs1, _, o1, r0.mono s1, p1, fun v2 y M2 H2 cs2 s2 o2 r2 p2 => ?_⟩
  exact hr M2 H2 cs2 v v2 x y P Q o2 (r1.mono s2) r2 p2 (k.mono (s1.trans s2))
theorem de_op {op : Operator} {r : R2} {w2 : W2} (ho : OpR X (binaryOp op) r) (hr : R2Ok X.K r w2) (ha : DE X a wa) (hb : DE X b wb) : DE X (.BinOp a op b pos) (wOp w2 wa wb) := pe_imp (pe_op ho ha hb) fun _ _ _ h => lift2 hr h
theorem de_un {op : UnaryOp} {r : V → Hp → VK → Prop} {w1 : W1} (ho : UnR X (unaryOp op) r) (hr : R1Ok X.K r w1) (ha : DE X a wa) : DE X (.UnaryOp op a pos) (wUn w1 wa) :=
  pe_imp (pe_un ho ha) fun σ H Q ⟨M, ρ, cs, P, o, r0, p, k⟩ => ⟨M, ρ, cs, _, o, r0, p, fun v x M1 H1 cs1 s1 o1 r1 p1 => hr M1 H1 cs1 v x P Q o1 r1 p1 (k.mono s1)⟩
theorem de_cmp {op : CmpOp} {r : R2} {w2 : W2} (ho : OpR X (compareOp op) r) (hr : R2Ok X.K r w2) (ha : DE X a wa) (hb : DE X b wb) (hm : behindInMarks op b = false) : DE X (.Compare a [op] [b] pos) (wOp w2 wa wb) := pe_imp (pe_cmpR ho ha hb hm) fun _ _ _ h => lift2 hr h
theorem dt_cmp {op : CmpOp} {r : R2} {w2 : W2} (ho : OpR X (compareOp op) r) (hr : R2Ok X.K r w2) (ha : DE X a wa) (hb : DE X b wb) (hm : behindInMarks op b = false) : DT X (.Compare a [op] [b] pos) (wTest (wOp w2 wa wb)) :=
  pt_imp (pt_cmpR ho ha hb hm) fun σ H Q ⟨M, ρ, cs, P, o, r0, p, k⟩ => lift2 hr ⟨M, ρ, cs, _, o, r0, p, fun v x M1 H1 cs1 s1 o1 r1 ⟨q, ex, p1⟩ => by
    subst ex
    exact ⟨q, inv_bl r1, k q M1 H1 cs1 s1 o1 p1⟩⟩
theorem liftChain {K : Frag} {r r' : R2} {w2 w2' : W2} (hr : R2Ok K r w2) (hr' : R2Ok K r' w2') {σ : St} {H : Hp} {Q : VK} (h : lift K (wChain w2 w2' wa wb wc) σ H Q) : tChain r r' (lift K wa) (lift K wb) (lift K wc) σ H Q := by
  obtain ⟨M, ρ, cs, P, o, r0, p, k⟩ := h
  refine ⟨M, ρ, cs, _, o, r0, p, fun v x M1 H1 cs1 s1 o1 r1 p1 => ?_⟩
  refine ⟨M1, ρ, cs1, _, o1, r0.mono s1, p1, fun v2 y M2 H2 cs2 s2 o2 r2 p2 => ?_⟩
  refine hr M2 H2 cs2 v v2 x y _ _ o2 (r1.mono s2) r2 p2 fun z zz M3 H3 cs3 s3 o3 r3 ⟨kk, ez, p3⟩ => ?_
  subst ez
  refine ⟨kk, inv_bl r3, ?_⟩
  have s123 := s1.trans (s2.trans s3)
  cases kk with
  | true =>
    refine iteT ?_
    have p3' : wc ρ cs3 fun u cs4 => w2' y u cs4 P := by simpa using p3
    exact ⟨M3, ρ, cs3, _, o3, r0.mono s123, p3', fun v4 y4 M4 H4 cs4 s4 o4 r4 p4 => hr' M4 H4 cs4 v2 v4 y y4 P Q o4 (r2.mono (s3.trans s4)) r4 p4 (k.mono (s123.trans s4))⟩
  | false =>
    refine iteF ?_
    exact k _ _ M3 H3 cs3 s123 o3 (rv_dat (.bl false)) (by simpa using p3)
theorem de_chain {op op' : CmpOp} {r r' : R2} {w2 w2' : W2} (ho : OpR X (compareOp op) r) (hr : R2Ok X.K r w2) (ho' : OpR X (compareOp op') r') (hr' : R2Ok X.K r' w2') (ha : DE X a wa) (hb : DE X b wb) (hc : DE X c wc)
    (hm : lastMarks [op, op'] [b, c] = false := by with_unfolding_all rfl) : DE X (.Compare a [op, op'] [b, c] pos) (wChain w2 w2' wa wb wc) := pe_imp (pe_chain ho ho' ha hb hc hm) fun _ _ _ h => liftChain hr hr' h
theorem dt_chain {op op' : CmpOp} {r r' : R2} {w2 w2' : W2} (ho : OpR X (compareOp op) r) (hr : R2Ok X.K r w2) (ho' : OpR X (compareOp op') r') (hr' : R2Ok X.K r' w2') (ha : DE X a wa) (hb : DE X b wb) (hc : DE X c wc)
    (hm : lastMarks [op, op'] [b, c] = false := by with_unfolding_all rfl) : DT X (.Compare a [op, op'] [b, c] pos) (wTest (wChain w2 w2' wa wb wc)) :=
  pt_imp (pt_chain ho ho' ha hb hc hm) fun σ H Q ⟨M, ρ, cs, P, o, r0, p, k⟩ => liftChain hr hr' ⟨M, ρ, cs, _, o, r0, p, fun v x M1 H1 cs1 s1 o1 r1 ⟨q, ex, p1⟩ => by
    subst ex
    exact ⟨q, inv_bl r1, k q M1 H1 cs1 s1 o1 p1⟩⟩
theorem dt_val (h : DE X e we) (he : ∀ whole, isTrue e X.env whole = (do let v ← whole; standAt e.pos; holding [v] (truthy v)) := by intro _; rfl) : DT X e (wTest we) :=
  pt_imp (pt_val h he) fun σ H Q ⟨M, ρ, cs, P, o, r0, p, k⟩ => ⟨M, ρ, cs, _, o, r0, p, fun v x M1 H1 cs1 s1 o1 r1 ⟨q, ex, p1⟩ => by
    subst ex
    exact ⟨q, inv_bl r1, k q M1 H1 cs1 s1 o1 p1⟩⟩
theorem dt_not (h : DT X a w) : DT X (.UnaryOp .Not a pos) (wNot w) :=
  pt_imp (pt_not h) fun σ H Q ⟨M, ρ, cs, P, o, r0, p, k⟩ => ⟨M, ρ, cs, _, o, r0, p, fun b M1 H1 cs1 s1 o1 p1 => k (!b) M1 H1 cs1 s1 o1 p1⟩
theorem dw_and1 (h : DT X a w) : DW X (.BoolOp .And [a] pos) w := pw_and1 h
theorem dw_or1 (h : DT X a w) : DW X (.BoolOp .Or [a] pos) w := pw_or1 h
theorem DW.dt (h : DW X e w) : DT X e w := PW.pt h
theorem dw_and {rest : List Expr} (ha : DT X a w) (hb : DW X (.BoolOp .And (b :: rest) pos) u) : DW X (.BoolOp .And (a :: b :: rest) pos) (wAnd w u) :=
  pw_imp (pw_and ha hb) fun σ H Q ⟨M, ρ, cs, P, o, r0, p, k⟩ => ⟨M, ρ, cs, _, o, r0, p, fun b M1 H1 cs1 s1 o1 p1 => by
    cases b with
    | true => exact iteT ⟨M1, ρ, cs1, P, o1, r0.mono s1, by simpa using p1, k.mono s1⟩
    | false => exact iteF (k false M1 H1 cs1 s1 o1 (by simpa using p1))⟩
theorem dw_or {rest : List Expr} (ha : DT X a w) (hb : DW X (.BoolOp .Or (b :: rest) pos) u) : DW X (.BoolOp .Or (a :: b :: rest) pos) (wOr w u) :=
  pw_imp (pw_or ha hb) fun σ H Q ⟨M, ρ, cs, P, o, r0, p, k⟩ => ⟨M, ρ, cs, _, o, r0, p, fun b M1 H1 cs1 s1 o1 p1 => by
    cases b with
    | true => exact iteT (k true M1 H1 cs1 s1 o1 (by simpa using p1))
    | false => exact iteF ⟨M1, ρ, cs1, P, o1, r0.mono s1, by simpa using p1, k.mono s1⟩⟩
theorem de_one {op : BoolOp} (h : DE X a wa) : DE X (.BoolOp op [a] pos) wa := pe_one h
theorem de_and {rest : List Expr} (ha : DE X a wa) (hb : DE X (.BoolOp .And (b :: rest) pos) wb) : DE X (.BoolOp .And (a :: b :: rest) pos) (wAndV wa wb) :=
  pe_imp (pe_and ha hb) fun σ H Q ⟨M, ρ, cs, P, o, r0, p, k⟩ => ⟨M, ρ, cs, _, o, r0, p, fun v x M1 H1 cs1 s1 o1 r1 ⟨q, ex, p1⟩ => by
    subst ex
    refine ⟨q, inv_bl r1, ?_⟩
    cases q with
    | true => exact iteT ⟨M1, ρ, cs1, P, o1, r0.mono s1, by simpa using p1, k.mono s1⟩
    | false => exact iteF (k _ _ M1 H1 cs1 s1 o1 (rv_dat (.bl false)) (by simpa using p1))⟩
theorem de_or {rest : List Expr} (ha : DE X a wa) (hb : DE X (.BoolOp .Or (b :: rest) pos) wb) : DE X (.BoolOp .Or (a :: b :: rest) pos) (wOrV wa wb) :=
  pe_imp (pe_or ha hb) fun σ H Q ⟨M, ρ, cs, P, o, r0, p, k⟩ => ⟨M, ρ, cs, _, o, r0, p, fun v x M1 H1 cs1 s1 o1 r1 ⟨q, ex, p1⟩ => by
    subst ex
    refine ⟨q, inv_bl r1, ?_⟩
    cases q with
    | true => exact iteT (k _ _ M1 H1 cs1 s1 o1 (rv_dat (.bl true)) (by simpa using p1))
    | false => exact iteF ⟨M1, ρ, cs1, P, o1, r0.mono s1, by simpa using p1, k.mono s1⟩⟩
theorem de_not (ha : DE X a wa) : DE X (.UnaryOp .Not a pos) (wNotV wa) :=
  pe_imp (pe_not ha) fun σ H Q ⟨M, ρ, cs, P, o, r0, p, k⟩ => ⟨M, ρ, cs, _, o, r0, p, fun v x M1 H1 cs1 s1 o1 r1 ⟨q, ex, p1⟩ => by
    subst ex
    exact ⟨q, inv_bl r1, k _ _ M1 H1 cs1 s1 o1 (rv_dat (.bl _)) p1⟩⟩
theorem de_if (hc : DT X c w) (ha : DE X a wa) (hb : DE X b wb) : DE X (.IfExp c a b pos) (wIf w wa wb) :=
  pe_imp (pe_ifExp hc ha hb) fun σ H Q ⟨M, ρ, cs, P, o, r0, p, k⟩ => ⟨M, ρ, cs, _, o, r0, p, fun b M1 H1 cs1 s1 o1 p1 => by
    cases b with
    | true => exact iteT ⟨M1, ρ, cs1, P, o1, r0.mono s1, by simpa using p1, k.mono s1⟩
    | false => exact iteF ⟨M1, ρ, cs1, P, o1, r0.mono s1, by simpa using p1, k.mono s1⟩⟩
theorem da_nil : DA X [] wNil := pa_imp pa_nil fun σ H Q ⟨M, ρ, cs, P, o, r0, p, k⟩ => k [] [] M H cs (Same.refl _) o .nil p
end
end DL
set_option maxRecDepth 100000
set_option maxHeartbeats 4000000
namespace DL
open PySem L2
/-! ### operators on ints -/
def wI (C : Int → Int → Prop) (g : Int → Int → Dat) : W2 := fun x y cs P => ∃ i j, x = .dat (.int i) ∧ y = .dat (.int j) ∧ C i j ∧ P (.dat (g i j)) cs
def wI0 (g : Int → Int → Dat) : W2 := fun x y cs P => ∃ i j, x = .dat (.int i) ∧ y = .dat (.int j) ∧ P (.dat (g i j)) cs
theorem r2_I {K : Frag} {C : Int → Int → Prop} {f : Int → Int → V} {g : Int → Int → Dat} (h : ∀ M i j, Dr K M (f i j) (g i j)) : R2Ok K (rI C f) (wI C g) :=
  fun M H cs x y a b P Q o rx ry ⟨i, j, ea, eb, c, p⟩ k => by
    subst ea eb
    exact ⟨i, j, inv_int rx, inv_int ry, c, k _ _ M H cs (Same.refl _) o (rv_dat (h M i j)) p⟩
theorem r2_I0 {K : Frag} {f : Int → Int → V} {g : Int → Int → Dat} (h : ∀ M i j, Dr K M (f i j) (g i j)) : R2Ok K (rI0 f) (wI0 g) :=
  fun M H cs x y a b P Q o rx ry ⟨i, j, ea, eb, p⟩ k => by
    subst ea eb
    exact ⟨i, j, inv_int rx, inv_int ry, k _ _ M H cs (Same.refl _) o (rv_dat (h M i j)) p⟩
abbrev wAdd : W2 := wI0 fun i j => .int (i + j)
abbrev wSub : W2 := wI0 fun i j => .int (i - j)
abbrev wMul : W2 := wI CMul fun i j => .int (i * j)
abbrev wDiv : W2 := wI CDivW fun i j => .int (i / j)
abbrev wMod : W2 := wI (fun _ j => 0 < j) fun i j => .int (i % j)
abbrev wPow : W2 := wI CPow fun i j => .int (i ^ j.toNat)
abbrev wLt : W2 := wI0 fun i j => .bl (decide (i < j))
abbrev wLe : W2 := wI0 fun i j => .bl (decide (i ≤ j))
abbrev wGt : W2 := wI0 fun i j => .bl (decide (j < i))
abbrev wGe : W2 := wI0 fun i j => .bl (decide (j ≤ i))
def wNeg : W1 := fun x cs P => ∃ i, x = .dat (.int i) ∧ P (.dat (.int (-i))) cs
section
variable {X : Cx} {a b c e : Expr} {es : List Expr} {wa wb wc we : WE} {w u : WT} {wr : WA} {pos : Pos}
theorem de_add (ha : DE X a wa) (hb : DE X b wb) : DE X (.BinOp a .Add b pos) (wOp wAdd wa wb) := de_op op_add (r2_I0 fun _ _ _ => .int _) ha hb
theorem de_sub (ha : DE X a wa) (hb : DE X b wb) : DE X (.BinOp a .Sub b pos) (wOp wSub wa wb) := de_op op_sub (r2_I0 fun _ _ _ => .int _) ha hb
theorem de_mul (ha : DE X a wa) (hb : DE X b wb) : DE X (.BinOp a .Mult b pos) (wOp wMul wa wb) := de_op op_mul (r2_I fun _ _ _ => .int _) ha hb
theorem de_div (ha : DE X a wa) (hb : DE X b wb) : DE X (.BinOp a .FloorDiv b pos) (wOp wDiv wa wb) := de_op op_fdivW (r2_I fun _ _ _ => .int _) ha hb
theorem de_mod (ha : DE X a wa) (hb : DE X b wb) : DE X (.BinOp a .Mod b pos) (wOp wMod wa wb) := de_op op_mod (r2_I fun _ _ _ => .int _) ha hb
theorem de_pow (ha : DE X a wa) (hb : DE X b wb) : DE X (.BinOp a .Pow b pos) (wOp wPow wa wb) := de_op op_pow (r2_I fun _ _ _ => .int _) ha hb
theorem de_neg (ha : DE X a wa) : DE X (.UnaryOp .USub a pos) (wUn wNeg wa) := de_un un_neg (fun M H cs x a P Q o rx ⟨i, ea, p⟩ k => by
  subst ea
  exact ⟨i, inv_int rx, k _ _ M H cs (Same.refl _) o (rv_dat (.int _)) p⟩) ha
/-- the four comparisons of ints: the operator's rule with its data -/
structure CmpD (X : Cx) (op : CmpOp) (w2 : W2) : Prop where
  ex : ∃ r, OpR X (compareOp op) r ∧ R2Ok X.K r w2
  nm : op ≠ .In ∧ op ≠ .NotIn
theorem c_lt : CmpD X .Lt wLt := ⟨⟨_, op_lt, r2_I0 fun _ _ _ => .bl _⟩, by decide⟩
theorem c_le : CmpD X .LtE wLe := ⟨⟨_, op_le, r2_I0 fun _ _ _ => .bl _⟩, by decide⟩
theorem c_gt : CmpD X .Gt wGt := ⟨⟨_, op_gt, r2_I0 fun _ _ _ => .bl _⟩, by decide⟩
theorem c_ge : CmpD X .GtE wGe := ⟨⟨_, op_ge, r2_I0 fun _ _ _ => .bl _⟩, by decide⟩
theorem de_cmpD {op : CmpOp} {w2 : W2} (h : CmpD X op w2) (ha : DE X a wa) (hb : DE X b wb) : DE X (.Compare a [op] [b] pos) (wOp w2 wa wb) := by
  obtain ⟨⟨r, ho, hr⟩, m1, m2⟩ := h
  exact de_cmp ho hr ha hb (nomark b m1 m2)
theorem dt_cmpD {op : CmpOp} {w2 : W2} (h : CmpD X op w2) (ha : DE X a wa) (hb : DE X b wb) : DT X (.Compare a [op] [b] pos) (wTest (wOp w2 wa wb)) := by
  obtain ⟨⟨r, ho, hr⟩, m1, m2⟩ := h
  exact dt_cmp ho hr ha hb (nomark b m1 m2)
theorem dt_chainD {op op' : CmpOp} {w2 w2' : W2} (h : CmpD X op w2) (h' : CmpD X op' w2') (ha : DE X a wa) (hb : DE X b wb) (hc : DE X c wc) (hm : lastMarks [op, op'] [b, c] = false := by with_unfolding_all rfl) : DT X (.Compare a [op, op'] [b, c] pos) (wTest (wChain w2 w2' wa wb wc)) := by
  obtain ⟨⟨r, ho, hr⟩, _⟩ := h
  obtain ⟨⟨r', ho', hr'⟩, _⟩ := h'
  exact dt_chain ho hr ho' hr' ha hb hc hm
theorem de_chainD {op op' : CmpOp} {w2 w2' : W2} (h : CmpD X op w2) (h' : CmpD X op' w2') (ha : DE X a wa) (hb : DE X b wb) (hc : DE X c wc) (hm : lastMarks [op, op'] [b, c] = false := by with_unfolding_all rfl) : DE X (.Compare a [op, op'] [b, c] pos) (wChain w2 w2' wa wb wc) := by
  obtain ⟨⟨r, ho, hr⟩, _⟩ := h
  obtain ⟨⟨r', ho', hr'⟩, _⟩ := h'
  exact de_chain ho hr ho' hr' ha hb hc hm
/-! ### is None -/
def isNon : Vl → Bool
  | .dat .non => true
  | .raw .non => true
  | _ => false
theorem isNon_ok {K : Frag} {M : Hp} {v : V} {x : Vl} (r : RV K M v x) : decide (v = .non) = isNon x := by
  cases x with
  | dat d => cases (show Dr K M v d from r) <;> rfl
  | raw u =>
    cases (show v = u from r)
    cases v <;> rfl
def wIsN : W2 := fun x y cs P => y = .dat .non ∧ P (.dat (.bl (isNon x))) cs
def wNotN : W2 := fun x y cs P => y = .dat .non ∧ P (.dat (.bl (!isNon x))) cs
theorem c_isN : CmpD X .Is wIsN := ⟨⟨_, op_isN, fun M H cs x y a b P Q o rx ry ⟨e, p⟩ k => by
  subst e
  refine ⟨inv_non ry, ?_⟩
  rw [isNon_ok rx]
  exact k _ _ M H cs (Same.refl _) o (rv_dat (.bl _)) p⟩, by decide⟩
theorem c_notN : CmpD X .IsNot wNotN := ⟨⟨_, op_notN, fun M H cs x y a b P Q o rx ry ⟨e, p⟩ k => by
  subst e
  refine ⟨inv_non ry, ?_⟩
  rw [isNon_ok rx]
  exact k _ _ M H cs (Same.refl _) o (rv_dat (.bl _)) p⟩, by decide⟩
/-! ### == and != of data -/
mutual
def Dat.py : Dat → Option PyData
  | .non => some .none
  | .bl b => some (.bool b)
  | .int i => some (.int i)
  | .str x => some (.str x)
  | .lst xs => (Dat.pys xs).map .list
  | .tup xs => (Dat.pys xs).map .tuple
  | .obj _ _ => none
def Dat.pys : List Dat → Option (List PyData)
  | [] => some []
  | d :: ds => match Dat.py d, Dat.pys ds with
    | some p, some ps => some (p :: ps)
    | _, _ => none
end
mutual
theorem Dr.dp {K : Frag} {M : Hp} : ∀ (d : Dat) {v : V} {p : PyData}, Dr K M v d → d.py = some p → Dp K M v p
  | .non, _, _, h, e => by cases h; cases e; exact .non
  | .bl b, _, _, h, e => by cases h; cases e; exact .bl b
  | .int i, _, _, h, e => by cases h; cases e; exact .int i
  | .str x, _, _, h, e => by cases h; cases e; exact .str x
  | .lst xs, _, _, h, e => by
    cases h with
    | lst q k =>
      unfold Dat.py at e
      obtain ⟨ps, e1, rfl⟩ := Option.map_eq_some_iff.mp e
      exact .lst q (DrAll.dp xs k e1)
  | .tup xs, _, _, h, e => by
    cases h with
    | tup q k =>
      unfold Dat.py at e
      obtain ⟨ps, e1, rfl⟩ := Option.map_eq_some_iff.mp e
      exact .tup q (DrAll.dp xs k e1)
  | .obj _ _, _, _, _, e => by cases e
theorem DrAll.dp {K : Frag} {M : Hp} : ∀ (ds : List Dat) {vs : List V} {ps : List PyData}, DrAll K M vs ds → Dat.pys ds = some ps → DpAll K M vs ps
  | [], _, _, h, e => by cases h; cases e; exact .nil
  | d :: ds, _, _, h, e => by
    cases h with
    | cons h k =>
      unfold Dat.pys at e
      split at e
      · rename_i p ps e1 e2
        cases e
        exact .cons (Dr.dp d h e1) (DrAll.dp ds k e2)
      · cases e
end
mutual
theorem dp_mono {K : Frag} {M M' : Hp} (s : Same M M') : ∀ {v : V} {d : PyData}, Dp K M v d → Dp K M' v d
  | _, _, .non => .non
  | _, _, .bl b => .bl b
  | _, _, .int i => .int i
  | _, _, .str x => .str x
  | _, _, .lst h k => .lst (sqL_mono s h) (dpAll_mono s k)
  | _, _, .tup h k => .tup (sqT_mono s h) (dpAll_mono s k)
theorem dpAll_mono {K : Frag} {M M' : Hp} (s : Same M M') : ∀ {v : List V} {d : List PyData}, DpAll K M v d → DpAll K M' v d
  | _, _, .nil => .nil
  | _, _, .cons h k => .cons (dp_mono s h) (dpAll_mono s k)
end
/-- the data that stands behind a value, a cell's list too -/
def allDat : List Vl → Option (List Dat)
  | [] => some []
  | .dat d :: r => (allDat r).map (d :: ·)
  | _ => none
def coDat : Option CO → Option Dat
  | some (.lst xs) => (allDat xs).map .lst
  | _ => none
def seen (cs : Cells) : Vl → Option Dat
  | .dat d => some d
  | .raw (.ref a) => coDat (cs a)
  | _ => none
theorem allDat_eq : ∀ {xs : List Vl} {ds : List Dat}, allDat xs = some ds → xs = ds.map .dat
  | [], _, h => by cases h; rfl
  | .dat d :: r, _, h => by
    unfold allDat at h
    obtain ⟨es, e1, rfl⟩ := Option.map_eq_some_iff.mp h
    rw [allDat_eq e1]; rfl
  | .raw _ :: _, _, h => by cases h
theorem allDat_map : ∀ (ds : List Dat), allDat (ds.map .dat) = some ds
  | [] => rfl
  | d :: ds => by show (allDat (ds.map .dat)).map (d :: ·) = _; rw [allDat_map ds]; rfl
theorem seen_dp {K : Frag} {M H : Hp} {cs : Cells} {v : V} {x : Vl} {d : Dat} {p : PyData} (o : Ok K M H cs) (r : RV K M v x) (h : seen cs x = some d) (e : d.py = some p) : Dp K H v p := by
  match x, r, h with
  | .dat d', r, h =>
    cases h
    exact dp_mono o.ex (Dr.dp _ r e)
  | .raw (.ref a), r, h =>
    cases (show v = .ref a from r)
    have h : coDat (cs a) = some d := h
    cases q : cs a with
    | none => rw [q] at h; cases h
    | some c =>
      rw [q] at h
      cases c with
      | lst ys =>
        obtain ⟨es, e1, rfl⟩ := Option.map_eq_some_iff.mp (show (allDat ys).map Dat.lst = some d from h)
        obtain ⟨_, u, hu, z⟩ := o.cell a _ q
        cases u <;> try exact (show False from z).elim
        rw [allDat_eq e1] at z
        unfold Dat.py at e
        obtain ⟨ps, e2, rfl⟩ := Option.map_eq_some_iff.mp e
        exact .lst (.inl (.inl hu)) (dpAll_mono o.ex (DrAll.dp _ (DrAll.of_paired z) e2))
      | _ => cases h
def wEqD (neg : Bool) : W2 := fun x y cs P => ∃ d e p q, seen cs x = some d ∧ seen cs y = some e ∧ d.py = some p ∧ e.py = some q ∧ SeqAt.shaped p = true ∧ SeqAt.shaped q = true ∧ P (.dat (.bl (if neg then !PyData.eqv p q else PyData.eqv p q))) cs
theorem c_eq (hu : X.A.units + 64 < cLine) : CmpD X .Eq (wEqD false) := ⟨⟨_, op_eqD hu, fun M H cs x y a b P Q o rx ry ⟨d, e, p, q, h1, h2, h3, h4, s1, s2, h⟩ k =>
  ⟨p, q, seen_dp o rx h1 h3, seen_dp o ry h2 h4, s1, s2, k _ _ M H cs (Same.refl _) o (rv_dat (.bl _)) (by simpa using h)⟩⟩, by decide⟩
theorem c_ne (hu : X.A.units + 64 < cLine) : CmpD X .NotEq (wEqD true) := ⟨⟨_, op_neD hu, fun M H cs x y a b P Q o rx ry ⟨d, e, p, q, h1, h2, h3, h4, s1, s2, h⟩ k =>
  ⟨p, q, seen_dp o rx h1 h3, seen_dp o ry h2 h4, s1, s2, k _ _ M H cs (Same.refl _) o (rv_dat (.bl _)) (by simpa using h)⟩⟩, by decide⟩
/-! ### x in a sequence of flat things -/
def flatD : Vl → Option V
  | .dat .non => some .non
  | .dat (.bl b) => some (.bl b)
  | .dat (.int i) => some (.int i)
  | .dat (.str x) => some (.str x)
  | _ => none
def flatsD : List Vl → Option (List V)
  | [] => some []
  | x :: r => match flatD x, flatsD r with
    | some v, some vs => some (v :: vs)
    | _, _ => none
theorem flatD_ok {K : Frag} {M : Hp} {v u : V} {x : Vl} (r : RV K M v x) (h : flatD x = some u) : v = u ∧ flatV u = true := by
  match x, r, h with
  | .dat .non, r, h => cases h; exact ⟨inv_non r, rfl⟩
  | .dat (.bl b), r, h => cases h; exact ⟨inv_bl r, rfl⟩
  | .dat (.int i), r, h => cases h; exact ⟨inv_int r, rfl⟩
  | .dat (.str s), r, h => cases h; exact ⟨inv_str r, rfl⟩
theorem flatsD_ok {K : Frag} {M : Hp} : ∀ {vs us : List V} {xs : List Vl}, Paired (RV K M) vs xs → flatsD xs = some us → vs = us ∧ us.all flatV = true
  | _, _, _, .nil, h => by cases h; exact ⟨rfl, rfl⟩
  | _, _, _, .cons r k, h => by
    unfold flatsD at h
    split at h
    · rename_i v vs e1 e2
      cases h
      obtain ⟨h1, h2⟩ := flatD_ok r e1
      obtain ⟨h3, h4⟩ := flatsD_ok k e2
      exact ⟨by rw [h1, h3], by rw [List.all_cons, h2, h4]; rfl⟩
    · cases h
def wIn (neg : Bool) : W2 := fun x y cs P => ∃ b ys u us, seqD cs y = some (b, ys) ∧ flatD x = some u ∧ flatsD ys = some us ∧ P (.dat (.bl (if neg then !inV u us else inV u us))) cs
theorem r2_in {K : Frag} {neg : Bool} : R2Ok K (rIn K neg) (wIn neg) := fun M H cs x y a b P Q o rx ry ⟨bb, ys, u, us, h1, h2, h3, p⟩ k => by
  obtain ⟨ad, vs, e, q, pr⟩ := seqD_any o ry h1
  obtain ⟨e2, f2⟩ := flatD_ok rx h2
  obtain ⟨e3, f3⟩ := flatsD_ok pr h3
  subst e e2 e3
  exact ⟨ad, vs, rfl, q, f2, f3, k _ _ M H cs (Same.refl _) o (rv_dat (.bl _)) p⟩
theorem de_in (ha : DE X a wa) (hb : DE X b wb) (hm : behindInMarks .In b = false := by rfl) : DE X (.Compare a [.In] [b] pos) (wOp (wIn false) wa wb) := de_cmp op_in_seq r2_in ha hb hm
theorem dt_in (ha : DE X a wa) (hb : DE X b wb) (hm : behindInMarks .In b = false := by rfl) : DT X (.Compare a [.In] [b] pos) (wTest (wOp (wIn false) wa wb)) := dt_cmp op_in_seq r2_in ha hb hm
theorem de_notin (ha : DE X a wa) (hb : DE X b wb) (hm : behindInMarks .NotIn b = false := by rfl) : DE X (.Compare a [.NotIn] [b] pos) (wOp (wIn true) wa wb) := de_cmp op_notIn_seq r2_in ha hb hm
theorem dt_notin (ha : DE X a wa) (hb : DE X b wb) (hm : behindInMarks .NotIn b = false := by rfl) : DT X (.Compare a [.NotIn] [b] pos) (wTest (wOp (wIn true) wa wb)) := dt_cmp op_notIn_seq r2_in ha hb hm
/-! ### arguments, tuples, lists -/
theorem da_cons (ha : DE X e we) (hr : DA X es wr) (hs : starEach (e :: es) X.env = (false, eval e X.env) :: starEach es X.env := by rfl) : DA X (e :: es) (wCons we wr) :=
  pa_imp (pa_cons ha hr hs) fun σ H Q ⟨M, ρ, cs, P, o, r0, p, k⟩ => ⟨M, ρ, cs, _, o, r0, p, fun v x M1 H1 cs1 s1 o1 r1 p1 =>
    ⟨M1, ρ, cs1, _, o1, r0.mono s1, p1, fun vs xs M2 H2 cs2 s2 o2 r2 p2 => k _ _ M2 H2 cs2 (s1.trans s2) o2 (.cons (r1.mono s2) r2) p2⟩⟩
/-- a new tuple: data alone -/
def wTup (wa : WA) : WE := fun ρ cs P => wa ρ cs fun xs cs1 => ∃ ds, allDat xs = some ds ∧ ds.length ≤ 16777216 ∧ P (.dat (.tup ds)) cs1
/-- a new list: a cell, or data for ever -/
def newL (xs : List Vl) (cs : Cells) (P : Vl → Cells → Prop) : Prop := (∀ p, cs p = none → P (.cell p) (cs.put p (.lst xs))) ∨ ∃ ds, allDat xs = some ds ∧ P (.dat (.lst ds)) cs
def wLst (wa : WA) : WE := fun ρ cs P => wa ρ cs fun xs cs1 => xs.length ≤ 16777216 ∧ newL xs cs1 P
theorem size_line {n : Nat} (h : n ≤ 16777216) : n ≤ sizeLine := by rw [sizeLine_eq]; exact h
theorem newT_ok {K : Frag} {M H : Hp} {cs : Cells} {P : Vl → Cells → Prop} {Q : VK} {vs : List V} {ds : List Dat} (o : Ok K M H cs) (r : Paired (RV K M) vs (ds.map .dat)) (p : P (.dat (.tup ds)) cs) (k : Kont K M P Q) : ∀ q, H q = none → Q (.ref q) (upd H q (.tup vs)) := fun q hq => by
  obtain ⟨s, o'⟩ := o.newM hq (.tup vs)
  exact k _ _ _ _ cs s o' (rv_dat (.tup (.inl (.inl upd_same)) ((DrAll.of_paired r).mono s))) p
theorem newL_ok {K : Frag} {M H : Hp} {cs : Cells} {P : Vl → Cells → Prop} {Q : VK} {vs : List V} {xs : List Vl} (o : Ok K M H cs) (r : Paired (RV K M) vs xs) (p : newL xs cs P) (k : Kont K M P Q) : ∀ q, H q = none → Q (.ref q) (upd H q (.lst vs)) := fun q hq => by
  rcases p with p | ⟨ds, e, p⟩
  · exact k _ _ M _ _ (Same.refl _) (o.newC hq (c := .lst xs) r) rv_raw (p q (o.freeC hq))
  · obtain ⟨s, o'⟩ := o.newM hq (.lst vs)
    rw [allDat_eq e] at r
    exact k _ _ _ _ cs s o' (rv_dat (.lst (.inl (.inl upd_same)) ((DrAll.of_paired r).mono s))) p
theorem de_tup {x1 : Nat} (h : DA X es wr) : DE X (.Tuple es x1 pos) (wTup wr) :=
  pe_imp (pe_tup h) fun σ H Q ⟨M, ρ, cs, P, o, r0, p, k⟩ => ⟨M, ρ, cs, _, o, r0, p, fun vs xs M1 H1 cs1 s1 o1 r1 ⟨ds, e, hz, p1⟩ => by
    have e' := allDat_eq e
    subst e'
    exact ⟨by rw [Paired.len r1, List.length_map]; exact size_line hz, newT_ok o1 r1 p1 (k.mono s1)⟩⟩
theorem de_lst (h : DA X es wr) : DE X (.List es pos) (wLst wr) :=
  pe_imp (pe_lst h) fun σ H Q ⟨M, ρ, cs, P, o, r0, p, k⟩ => ⟨M, ρ, cs, _, o, r0, p, fun vs xs M1 H1 cs1 s1 o1 r1 ⟨hz, p1⟩ =>
    ⟨by rw [Paired.len r1]; exact size_line hz, newL_ok o1 r1 p1 (k.mono s1)⟩⟩
/-! ### items -/
theorem paired_atI {K : Frag} {M : Hp} {vs : List V} {xs : List Vl} {i : Int} {x : Vl} (r : Paired (RV K M) vs xs) (h : atI xs i = some x) : ∃ v, atI vs i = some v ∧ RV K M v x := by
  unfold atI at h ⊢
  rw [Paired.len r]
  cases e : ixN xs.length i with
  | none => rw [e] at h; cases h
  | some j =>
    rw [e] at h
    exact Paired.getR r h
/-- x[i] of a list or a tuple -/
def wIx : W2 := fun x y cs P => ∃ b xs i z, seqD cs x = some (b, xs) ∧ y = .dat (.int i) ∧ atI xs i = some z ∧ P z cs
theorem r2_ix {K : Frag} : R2Ok K (rIx K) wIx := fun M H cs x y a b P Q o rx ry ⟨bb, xs, i, z, h1, ey, h2, p⟩ k => by
  subst ey
  cases bb with
  | true =>
    obtain ⟨ad, vs, e, q, pr⟩ := seqD_list o rx h1
    obtain ⟨v, hv, rv⟩ := paired_atI pr h2
    exact .inl ⟨ad, vs, i, v, e, inv_int ry, q, hv, k _ _ M H cs (Same.refl _) o rv p⟩
  | false =>
    obtain ⟨ad, vs, e, q, pr⟩ := seqD_tup o rx h1
    obtain ⟨v, hv, rv⟩ := paired_atI pr h2
    exact .inr (.inl ⟨ad, vs, i, v, e, inv_int ry, q, hv, k _ _ M H cs (Same.refl _) o rv p⟩)
theorem de_ix (ha : DE X a wa) (hb : DE X b wb) (hs : PlainIx b := by exact fun _ _ => rfl) : DE X (.Subscript a b pos) (wOp wIx wa wb) := pe_imp (pe_ix ix_seq ha hb hs) fun _ _ _ h => lift2 r2_ix h
/-! ### built-ins by name -/
theorem liftN {K : Frag} {r : List V → Hp → VK → Prop} {wn : WN} (hr : RNOk K r wn) {σ : St} {H : Hp} {Q : VK} (h : lift K (wFn wn wr) σ H Q) : tCB r (liftA K wr) σ H Q := by
  obtain ⟨M, ρ, cs, P, o, r0, p, k⟩ := h
  exact ⟨M, ρ, cs, _, o, r0, p, fun vs xs M1 H1 cs1 s1 o1 r1 p1 => hr M1 H1 cs1 vs xs P Q o1 r1 p1 (k.mono s1)⟩
theorem de_callB {x : Str} {id : String} {r : List V → Hp → VK → Prop} {wn : WN} {p : Pos} (hc : CallR X (.builtin id) r) (hr : RNOk X.K r wn) (hm : X.mg x = none) (hv : bootBuiltins x = some (.builtin id)) (ha : DA X (e :: es) wr) (hg : Gl X x := by rfl) (hn : x ≠ "__name__" := by decide) (hdb : (x == ("__debug__" : Str)) = false := by decide)
    (he : starEach (e :: es) X.env = (false, eval e X.env) :: starEach es X.env := by rfl) (hpl : (backTo pos (starEach es X.env)).any (·.1) = false := by rfl) : DE X (.Call (.Name x p) (e :: es) [] pos) (wFn wn wr) :=
  pe_imp (pe_callB hc hg hm hv ha hn hdb he hpl) fun _ _ _ h => liftN hr h
theorem de_callTy {x : Str} {T : String} {r : List V → Hp → VK → Prop} {wn : WN} {p : Pos} (hc : CallR X (.type T) r) (hr : RNOk X.K r wn) (hm : X.mg x = none) (hv : bootBuiltins x = some (.type T)) (ha : DA X (e :: es) wr) (hg : Gl X x := by rfl) (hn : x ≠ "__name__" := by decide) (hdb : (x == ("__debug__" : Str)) = false := by decide)
    (he : starEach (e :: es) X.env = (false, eval e X.env) :: starEach es X.env := by rfl) (hpl : (backTo pos (starEach es X.env)).any (·.1) = false := by rfl) : DE X (.Call (.Name x p) (e :: es) [] pos) (wFn wn wr) :=
  pe_imp (pe_callTy hc hg hm hv ha hn hdb he hpl) fun _ _ _ h => liftN hr h
def wLen : WN := fun xs cs P => ∃ x b ys, xs = [x] ∧ seqD cs x = some (b, ys) ∧ P (.dat (.int (ys.length : Int))) cs
theorem rn_len {K : Frag} : RNOk K (fun xs H Q => ∃ p ys, xs = [.ref p] ∧ (SqL K H p ys ∨ SqT K H p ys) ∧ Q (.int ys.length) H) wLen := fun M H cs xs as P Q o r ⟨x, b, ys, e, h, p⟩ k => by
  subst e
  cases r with
  | cons r1 rr =>
    cases rr
    obtain ⟨ad, vs, e, q, pr⟩ := seqD_any o r1 h
    subst e
    exact ⟨ad, vs, rfl, q, by rw [Paired.len pr]; exact k _ _ M H cs (Same.refl _) o (rv_dat (.int _)) p⟩
theorem de_len {p : Pos} (hm : X.mg "len" = none) (ha : DA X [e] wr) (hg : Gl X "len" := by rfl) (he : starEach [e] X.env = (false, eval e X.env) :: starEach [] X.env := by rfl) (hpl : (backTo pos (starEach [] X.env)).any (·.1) = false := by rfl) :
    DE X (.Call (.Name "len" p) [e] [] pos) (wFn wLen wr) := de_callB call_len_seq rn_len hm PySem.boot_len ha hg (by decide) (by decide) he hpl
def wMax2 : WN := fun xs cs P => ∃ i j, xs = [.dat (.int i), .dat (.int j)] ∧ P (.dat (.int (if j > i then j else i))) cs
def wMin2 : WN := fun xs cs P => ∃ i j, xs = [.dat (.int i), .dat (.int j)] ∧ P (.dat (.int (if j < i then j else i))) cs
theorem rn_II {K : Frag} {f : Int → Int → Int} : RNOk K (fun xs H Q => ∃ i j, xs = [.int i, .int j] ∧ Q (.int (f i j)) H) (fun xs cs P => ∃ i j, xs = [.dat (.int i), .dat (.int j)] ∧ P (.dat (.int (f i j))) cs) := fun M H cs xs as P Q o r ⟨i, j, e, p⟩ k => by
  subst e
  cases r with
  | cons r1 rr =>
    cases rr with
    | cons r2 rr =>
      cases rr
      exact ⟨i, j, by rw [inv_int r1, inv_int r2], k _ _ M H cs (Same.refl _) o (rv_dat (.int _)) p⟩
theorem de_max2 {p : Pos} {a b : Expr} (hc : X.calm = true) (hm : X.mg "max" = none) (ha : DA X [a, b] wr) (hg : Gl X "max" := by rfl) (he : starEach [a, b] X.env = (false, eval a X.env) :: starEach [b] X.env := by rfl) (hpl : (backTo pos (starEach [b] X.env)).any (·.1) = false := by rfl) :
    DE X (.Call (.Name "max" p) [a, b] [] pos) (wFn wMax2 wr) := de_callB (call_max2 hc) rn_II hm (by decide +kernel) ha hg (by decide) (by decide) he hpl
theorem de_min2 {p : Pos} {a b : Expr} (hc : X.calm = true) (hm : X.mg "min" = none) (ha : DA X [a, b] wr) (hg : Gl X "min" := by rfl) (he : starEach [a, b] X.env = (false, eval a X.env) :: starEach [b] X.env := by rfl) (hpl : (backTo pos (starEach [b] X.env)).any (·.1) = false := by rfl) :
    DE X (.Call (.Name "min" p) [a, b] [] pos) (wFn wMin2 wr) := de_callB (call_min2 hc) rn_II hm (by decide +kernel) ha hg (by decide) (by decide) he hpl
/-- tuple(x) -/
def wTuple : WN := fun xs cs P => ∃ x b ys ds, xs = [x] ∧ seqD cs x = some (b, ys) ∧ allDat ys = some ds ∧ P (.dat (.tup ds)) cs
theorem rn_tuple {K : Frag} : RNOk K (fun xs H Q => ∃ p ys, xs = [.ref p] ∧ ((SqL K H p ys ∧ ∀ l, H l = none → Q (.ref l) (upd H l (.tup ys))) ∨ (SqT K H p ys ∧ Q (.ref p) H))) wTuple := fun M H cs xs as P Q o r ⟨x, b, ys, ds, e, h, hd, p⟩ k => by
  subst e
  cases r with
  | cons r1 rr =>
    cases rr
    have hy := allDat_eq hd
    subst hy
    cases b with
    | true =>
      obtain ⟨ad, vs, e, q, pr⟩ := seqD_list o r1 h
      subst e
      exact ⟨ad, vs, rfl, .inl ⟨q, newT_ok o pr p k⟩⟩
    | false =>
      obtain ⟨ad, vs, e, q, pr⟩ := seqD_tup o r1 h
      subst e
      refine ⟨ad, vs, rfl, .inr ⟨q, ?_⟩⟩
      have hx : x = .dat (.tup ds) := by
        match x, h with
        | .dat (.tup es), h =>
          have h' : es.map Vl.dat = ds.map Vl.dat := by
            have := (Option.some.inj h)
            exact (Prod.mk.inj this).2
          have : es = ds := by
            have z := allDat_map es
            rw [h', allDat_map] at z
            exact (Option.some.inj z).symm
          rw [this]
        | .dat (.lst es), h => exact nomatch (show some (true, _) = some (false, _) from h)
        | .raw (.ref a), h =>
          have h : coSeq (cs a) = some (false, ds.map Vl.dat) := h
          cases q : cs a with
          | none => rw [q] at h; cases h
          | some c => rw [q] at h; cases c <;> cases h
      subst hx
      exact k _ _ M H cs (Same.refl _) o r1 p
theorem de_tuple {p : Pos} (hm : X.mg "tuple" = none) (ha : DA X [e] wr) (hg : Gl X "tuple" := by rfl) (he : starEach [e] X.env = (false, eval e X.env) :: starEach [] X.env := by rfl) (hpl : (backTo pos (starEach [] X.env)).any (·.1) = false := by rfl) :
    DE X (.Call (.Name "tuple" p) [e] [] pos) (wFn wTuple wr) := de_callTy call_tuple_of rn_tuple hm (by decide +kernel) ha hg (by decide) (by decide) he hpl
/-- list(x) -/
def wListOf : WN := fun xs cs P => ∃ x b ys, xs = [x] ∧ seqD cs x = some (b, ys) ∧ newL ys cs P
theorem rn_list {K : Frag} : RNOk K (fun xs H Q => ∃ p ys, xs = [.ref p] ∧ (SqL K H p ys ∨ SqT K H p ys) ∧ ∀ l, H l = none → Q (.ref l) (upd H l (.lst ys))) wListOf := fun M H cs xs as P Q o r ⟨x, b, ys, e, h, p⟩ k => by
  subst e
  cases r with
  | cons r1 rr =>
    cases rr
    obtain ⟨ad, vs, e, q, pr⟩ := seqD_any o r1 h
    subst e
    exact ⟨ad, vs, rfl, q, newL_ok o pr p k⟩
theorem de_list {p : Pos} (hm : X.mg "list" = none) (ha : DA X [e] wr) (hg : Gl X "list" := by rfl) (he : starEach [e] X.env = (false, eval e X.env) :: starEach [] X.env := by rfl) (hpl : (backTo pos (starEach [] X.env)).any (·.1) = false := by rfl) :
    DE X (.Call (.Name "list" p) [e] [] pos) (wFn wListOf wr) := de_callTy call_list_of rn_list hm (by decide +kernel) ha hg (by decide) (by decide) he hpl
end
end DL
set_option maxRecDepth 100000
set_option maxHeartbeats 4000000
namespace DL
open PySem L2
/-! ### statements -/
def wNext : WS := fun D ρ cs => D.nx ρ cs
def wSeq (w u : WS) : WS := fun D ρ cs => w { D with nx := u D } ρ cs
def wRet (we : WE) : WS := fun D ρ cs => we ρ cs D.rt
def wRetN : WS := fun D _ cs => D.rt (.dat .non) cs
def wDrop (we : WE) : WS := fun D ρ cs => we ρ cs fun _ cs1 => D.nx ρ cs1
def wIfS (c : WT) (w u : WS) : WS := fun D ρ cs => c ρ cs fun b cs1 => if b = true then w D ρ cs1 else u D ρ cs1
def wBrk : WS := fun D ρ cs => D.bk ρ cs
def wCont : WS := fun D ρ cs => D.ct ρ cs
def wNever : WS := fun _ _ _ => False
abbrev WG := Vl → DEnv → Cells → (DEnv → Cells → Prop) → Prop
abbrev WGs := List Vl → DEnv → Cells → (DEnv → Cells → Prop) → Prop
/-- js: the slots that a target may set -/
def KontG (K : Frag) (M : Hp) (js : List Nat) (σ : St) (P : DEnv → Cells → Prop) (Q : St → Hp → Prop) : Prop :=
  ∀ σ' ρ' M' H' cs', Same M M' → Ok K M' H' cs' → Rho K M' σ' ρ' → σ'.length = σ.length → (∀ i, i ∉ js → σ'[i]? = σ[i]?) → P ρ' cs' → Q σ' H'
def liftG (K : Frag) (js : List Nat) (g : WG) : TG := fun v σ H Q => ∃ M ρ cs x P, Ok K M H cs ∧ Rho K M σ ρ ∧ RV K M v x ∧ g x ρ cs P ∧ KontG K M js σ P Q
def liftGs (K : Frag) (js : List Nat) (g : WGs) : TGs := fun vs σ H Q => ∃ M ρ cs xs P, Ok K M H cs ∧ Rho K M σ ρ ∧ Paired (RV K M) vs xs ∧ g xs ρ cs P ∧ KontG K M js σ P Q
def DG (X : Cx) (js : List Nat) (tg : Expr) (g : WG) : Prop := PG X tg (liftG X.K js g)
def DGs (X : Cx) (js : List Nat) (tg : List Expr) (g : WGs) : Prop := PGs X tg (liftGs X.K js g)
def gN (i : Nat) : WG := fun x ρ cs P => P (ρ.set i (some x)) cs
def gNil : WGs := fun xs ρ cs P => xs = [] ∧ P ρ cs
def gCons (g : WG) (gs : WGs) : WGs := fun xs ρ cs P => ∃ x r, xs = x :: r ∧ g x ρ cs fun ρ1 cs1 => gs r ρ1 cs1 P
def gT (n : Nat) (gs : WGs) : WG := fun x ρ cs P => ∃ xs, seqD cs x = some (false, xs) ∧ xs.length = n ∧ gs xs ρ cs P
/-- xs[i] = v, a cell's list -/
def gIx (wo wi : WE) : WG := fun v ρ cs P => wo ρ cs fun o cs1 => wi ρ cs1 fun i cs2 => ∃ a xs k j, o = .cell a ∧ i = .dat (.int k) ∧ cs2 a = some (.lst xs) ∧ ixN xs.length k = some j ∧ P ρ (cs2.put a (.lst (xs.set j v)))
def wAsg (we : WE) (g : WG) : WS := fun D ρ cs => we ρ cs fun x cs1 => g x ρ cs1 D.nx
def wAug (i : Nat) (we : WE) (f : Int → Int → Int) : WS := fun D ρ cs => ∃ a, ρ[i]? = some (some (.dat (.int a))) ∧ we ρ cs fun y cs1 => ∃ b, y = .dat (.int b) ∧ D.nx (ρ.set i (some (.dat (.int (f a b))))) cs1
def wPar (i j : Nat) (wa : WA) : WS := fun D ρ cs => wa ρ cs fun xs cs1 => ∃ x y, xs = [x, y] ∧ D.nx ((ρ.set i (some x)).set j (some y)) cs1
theorem pg_imp {X : Cx} {e : Expr} {t t' : TG} (h : PG X e t) (m : ∀ v σ H Q, t' v σ H Q → t v σ H Q) : PG X e t' := ⟨fun pins s σ H v u Q I r q => h.run pins s σ H v u Q I r (m v σ H Q q)⟩
theorem pgs_imp {X : Cx} {e : List Expr} {t t' : TGs} (h : PGs X e t) (m : ∀ v σ H Q, t' v σ H Q → t v σ H Q) : PGs X e t' := ⟨fun pins s σ H v u Q I r q => h.run pins s σ H v u Q I r (m v σ H Q q)⟩
theorem pi_imp {X : Cx} {tg e : Expr} {t t' : TI} (h : PI X tg e t) (m : ∀ σ H R, t' σ H R → t σ H R) : PI X tg e t' := ⟨fun pins s σ H R I q => h.run pins s σ H R I (m σ H R q)⟩
theorem pi_or {X : Cx} {tg e : Expr} {t t' : TI} (h : PI X tg e t) (h' : PI X tg e t') : PI X tg e (fun σ H R => t σ H R ∨ t' σ H R) := ⟨fun pins s σ H R I q => by
  rcases q with q | q
  · exact h.run pins s σ H R I q
  · exact h'.run pins s σ H R I q⟩
section
variable {X : Cx} {a b c e : Expr} {es : List Expr} {wa wb wc we : WE} {w u : WT} {wr : WA} {pos : Pos} {st : Stmt} {sts : List Stmt} {ws wt : WS}
theorem dss_nil : DSs X [] wNext := pss_imp pss_nil fun E σ H ⟨M, ρ, cs, D, o, r, h, e⟩ => e.nx σ ρ M H cs (Same.refl _) o r h
theorem dss_cons (h1 : DS X st ws) (h2 : DSs X sts wt) : DSs X (st :: sts) (wSeq ws wt) :=
  pss_imp (pss_cons h1 h2) fun E σ H ⟨M, ρ, cs, D, o, r, h, e⟩ => ⟨M, ρ, cs, _, o, r, h, ⟨fun σ' ρ' M' H' cs' s o' r' p => ⟨M', ρ', cs', D, o', r', p, e.mono s⟩, e.rt, e.bk, e.ct⟩⟩
theorem dss_one (h1 : DS X st ws) : DSs X [st] ws := pss_one h1
theorem ds_pass : DS X (.Pass pos) wNext := ps_imp ps_pass fun E σ H ⟨M, ρ, cs, D, o, r, h, e⟩ => e.nx σ ρ M H cs (Same.refl _) o r h
theorem ds_brk : DS X (.Break pos) wBrk := ps_imp ps_break fun E σ H ⟨M, ρ, cs, D, o, r, h, e⟩ => e.bk σ ρ M H cs (Same.refl _) o r h
theorem ds_cont : DS X (.Continue pos) wCont := ps_imp ps_continue fun E σ H ⟨M, ρ, cs, D, o, r, h, e⟩ => e.ct σ ρ M H cs (Same.refl _) o r h
theorem ds_never : DS X st wNever := ps_imp ps_never fun E σ H ⟨M, ρ, cs, D, o, r, h, e⟩ => h
theorem dss_never : DSs X sts wNever := pss_imp pss_never fun E σ H ⟨M, ρ, cs, D, o, r, h, e⟩ => h
theorem ds_ret (h : DE X e we) : DS X (.Return (some e) pos) (wRet we) := ps_imp (ps_ret h) fun E σ H ⟨M, ρ, cs, D, o, r, h, e⟩ => ⟨M, ρ, cs, _, o, r, h, e.rt⟩
theorem ds_retN : DS X (.Return none pos) wRetN := ps_imp ps_retN fun E σ H ⟨M, ρ, cs, D, o, r, h, e⟩ => e.rt _ _ M H cs (Same.refl _) o (rv_dat .non) h
theorem ds_expr (h : DE X e we) (hs : swapsWith e none pos.line X.env = pure false := by rfl) : DS X (.Expr e pos) (wDrop we) :=
  ps_imp (ps_expr h hs) fun E σ H ⟨M, ρ, cs, D, o, r, h, e⟩ => ⟨M, ρ, cs, _, o, r, h, fun v x M' H' cs' s o' _ p => e.nx σ ρ M' H' cs' s o' (r.mono s) p⟩
theorem ds_if {sa sb : List Stmt} (hc : DT X c w) (ha : DSs X sa ws) (hb : DSs X sb wt) : DS X (.If c sa sb pos) (wIfS w ws wt) :=
  ps_imp (ps_if hc ha hb) fun E σ H ⟨M, ρ, cs, D, o, r, h, e⟩ => ⟨M, ρ, cs, _, o, r, h, fun b M' H' cs' s o' p => by
    cases b with
    | true => exact iteT ⟨M', ρ, cs', D, o', r.mono s, by simpa using p, e.mono s⟩
    | false => exact iteF ⟨M', ρ, cs', D, o', r.mono s, by simpa using p, e.mono s⟩⟩
theorem dg_name {i : Nat} {x : Str} (hN : X.N.Nodup) (hi : X.N[i]? = some x := by rfl) (hx : Loc X.env.scope x := by first | exact Or.inl rfl | exact Or.inr rfl) (hf : X.fn x = true ∨ X.env.scope.names.lookup x = some .local := by first | exact .inl rfl | exact .inr rfl | assumption) : DG X [i] (.Name x pos) (gN i) :=
  pg_imp (pg_name hN hi hx hf) fun v σ H Q ⟨M, ρ, cs, x, P, o, r, rv, p, k⟩ => k _ _ M H cs (Same.refl _) o (r.set rv) (by rw [List.length_set]) (fun j hj => by rw [List.getElem?_set_ne (by intro z; exact hj (by simp [z]))]) p
theorem dgs_nil : DGs X [] [] gNil := pgs_imp pgs_nil fun v σ H Q ⟨M, ρ, cs, xs, P, o, r, rv, ⟨e, p⟩, k⟩ => by
  subst e
  cases rv
  exact ⟨rfl, k _ _ M H cs (Same.refl _) o r rfl (fun _ _ => rfl) p⟩
theorem dgs_cons {js js' : List Nat} {g : WG} {gs : WGs} (h1 : DG X js e g) (h2 : DGs X js' es gs) (hs : (assignEach (e :: es) X.env).map (·.2) = assign e X.env :: (assignEach es X.env).map (·.2) := by rfl) : DGs X (js ++ js') (e :: es) (gCons g gs) :=
  pgs_imp (pgs_cons h1 h2 hs) fun vs σ H Q ⟨M, ρ, cs, xs, P, o, r, rv, ⟨x, rest, ex, p⟩, k⟩ => by
    subst ex
    cases rv with
    | cons r1 rr =>
      refine ⟨_, _, rfl, M, ρ, cs, x, _, o, r, r1, p, fun σ' ρ' M' H' cs' s o' r' hl hj p' => ?_⟩
      refine ⟨M', ρ', cs', rest, _, o', r', paired_mono (fun _ _ q => q.mono s) rr, p', fun σ2 ρ2 M2 H2 cs2 s2 o2 r2 hl2 hj2 p2 => ?_⟩
      exact k σ2 ρ2 M2 H2 cs2 (s.trans s2) o2 r2 (hl2.trans hl) (fun i hi => by rw [hj2 i (fun z => hi (List.mem_append.mpr (.inr z))), hj i (fun z => hi (List.mem_append.mpr (.inl z)))]) p2
theorem dg_tup {js : List Nat} {gs : WGs} {n k : Nat} (hc : X.calm = true) (h : DGs X js es gs) (hn : (assignEach es X.env).length = n := by rfl) (hst : (assignEach es X.env).findIdx? (·.1) = none := by rfl) : DG X js (.Tuple es k pos) (gT n gs) :=
  pg_imp (pg_tup hc h hn hst) fun v σ H Q ⟨M, ρ, cs, x, P, o, r, rv, ⟨xs, hx, hl, p⟩, k⟩ => by
    obtain ⟨ad, vs, ev, q, pr⟩ := seqD_tup o rv hx
    exact ⟨ad, vs, ev, q, (Paired.len pr).trans hl, M, ρ, cs, xs, P, o, r, pr, p, k⟩
theorem paired_set {K : Frag} {M : Hp} {vs : List V} {xs : List Vl} {j : Nat} {v : V} {x : Vl} (h : Paired (RV K M) vs xs) (r : RV K M v x) : Paired (RV K M) (vs.set j v) (xs.set j x) := Paired.set h r
theorem dg_ix (ho : DE X a wa) (hi : DE X b wb)
    (ha : ∀ v, assign (.Subscript a b pos) X.env v = (do
      let ov ← holding [v] (eval a X.env)
      let iv ← holding [v, ov] (eval b X.env)
      standAt pos
      holding [v, ov, iv] (setItem ov iv v)
      release [v, ov, iv] []) := by intros; rfl) : DG X [] (.Subscript a b pos) (gIx wa wb) :=
  pg_imp (pg_sub ho hi set_list ha) fun v σ H Q ⟨M, ρ, cs, x, P, o, r, rv, p, k⟩ => by
    refine ⟨M, ρ, cs, _, o, r, p, fun v1 x1 M1 H1 cs1 s1 o1 r1 p1 => ?_⟩
    refine ⟨M1, ρ, cs1, _, o1, r.mono s1, p1, fun v2 x2 M2 H2 cs2 s2 o2 r2 ⟨ad, xs, kk, j, e1, e2, hc, hj, p2⟩ => ?_⟩
    subst e1 e2
    obtain ⟨m0, ob, hob, cr⟩ := o2.cell ad _ hc
    cases ob <;> try exact (show False from cr).elim
    rename_i ys
    have cr : Paired (RV X.K M2) ys xs := cr
    have e1 : v1 = .ref ad := r1
    refine ⟨ad, ys, kk, j, e1, inv_int r2, hob, by rw [Paired.len cr]; exact hj, ?_⟩
    exact k σ ρ M2 _ _ (s1.trans s2) (o2.setC hc (c := .lst (xs.set j x)) (paired_set cr (rv.mono (s1.trans s2)))) (r.mono (s1.trans s2)) rfl (fun _ _ => rfl) p2
theorem ds_asg {js : List Nat} {tg : Expr} {g : WG} (he : DE X e we) (hg : DG X js tg g) (hs : swapsWithSole [tg] e pos.line X.env = pure false := by rfl) (hw : swappedStores [tg] e X.env = pure none := by rfl)
    (h1 : (assignEach [tg] X.env).map (·.2) = [assign tg X.env] := by rfl) : DS X (.Assign [tg] e pos) (wAsg we g) :=
  ps_imp (ps_asg he hg hs hw h1) fun E σ H ⟨M, ρ, cs, D, o, r, h, e⟩ => ⟨M, ρ, cs, _, o, r, h, fun v x M' H' cs' s o' rv p =>
    ⟨M', ρ, cs', x, _, o', r.mono s, rv, p, fun σ2 ρ2 M2 H2 cs2 s2 o2 r2 _ _ p2 => e.nx σ2 ρ2 M2 H2 cs2 (s.trans s2) o2 r2 p2⟩⟩
theorem ds_set {i : Nat} {x : Str} {pos' : Pos} (hN : X.N.Nodup) (he : DE X e we) (hi : X.N[i]? = some x := by rfl) (hx : Loc X.env.scope x := by first | exact Or.inl rfl | exact Or.inr rfl) (hs : swapsWith e (some (.Name x pos')) pos.line X.env = pure false := by rfl) (hf : X.fn x = true ∨ X.env.scope.names.lookup x = some .local := by first | exact .inl rfl | exact .inr rfl | assumption) :
    DS X (.Assign [.Name x pos'] e pos) (wAsg we (gN i)) :=
  ps_imp (ps_set hN hi hx he hs hf) fun E σ H ⟨M, ρ, cs, D, o, r, h, e⟩ => ⟨M, ρ, cs, _, o, r, h, fun v x M' H' cs' s o' rv p => e.nx _ _ M' H' cs' s o' ((r.mono s).set rv) p⟩
theorem ds_aug {i : Nat} {x : Str} {pos' : Pos} {op : Operator} {f : Int → Int → Int} (hN : X.N.Nodup) (he : DE X e we) (ho : PIp X op (ipI f)) (hi : X.N[i]? = some x := by rfl) (hx : Loc X.env.scope x := by first | exact Or.inl rfl | exact Or.inr rfl) (hf : X.fn x = true ∨ X.env.scope.names.lookup x = some .local := by first | exact .inl rfl | exact .inr rfl | assumption) :
    DS X (.AugAssign (.Name x pos') op e pos) (wAug i we f) :=
  ps_imp (ps_aug hN hi hx he ho hf) fun E σ H ⟨M, ρ, cs, D, o, r, ⟨n, hn, h⟩, e⟩ => by
    obtain ⟨v, hv, rv⟩ := r.at_ i _ hn
    rw [inv_int rv] at hv
    refine ⟨_, hv, M, ρ, cs, _, o, r, h, fun y yy M' H' cs' s o' ry ⟨m, em, p⟩ => ?_⟩
    subst em
    exact ⟨n, m, rfl, inv_int ry, e.nx _ _ M' H' cs' s o' ((r.mono s).set (rv_dat (.int _))) p⟩
theorem ds_par {i j : Nat} {x y : Str} {px py pt pt2 : Pos} {kt k2 : Nat} (hc : X.calm = true) (hN : X.N.Nodup) (ha : DA X [a, b] wr) (hi : X.N[i]? = some x := by rfl) (hj : X.N[j]? = some y := by rfl) (hij : i ≠ j := by decide)
    (hx : X.env.scope.names.lookup x = some .local := by rfl) (hy : X.env.scope.names.lookup y = some .local := by rfl)
    (hw : swappedStores [.Tuple [.Name x px, .Name y py] kt pt] (.Tuple [a, b] k2 pt2) X.env = pure (some [x, y]) := by rfl)
    (hs : swapsWithSole [.Tuple [.Name x px, .Name y py] kt pt] (.Tuple [a, b] k2 pt2) pos.line X.env = pure false := by rfl) :
    DS X (.Assign [.Tuple [.Name x px, .Name y py] kt pt] (.Tuple [a, b] k2 pt2) pos) (wPar i j wr) :=
  ps_imp (ps_par hc hN hi hj hij hx hy ha hw hs) fun E σ H ⟨M, ρ, cs, D, o, r, h, e⟩ => ⟨M, ρ, cs, _, o, r, h, fun vs xs M' H' cs' s o' rv ⟨x1, y1, ex, p⟩ => by
    subst ex
    cases rv with
    | cons r1 rr =>
      cases rr with
      | cons r2 rr =>
        cases rr
        exact ⟨_, _, rfl, e.nx _ _ M' H' cs' s o' (((r.mono s).set r1).set r2) p⟩⟩
end
/-! ### what is walked -/
structure ItOk (K : Frag) (M0 : Hp) (J : It) (items : List Vl) (G : Cells → Prop) : Prop where
  go : ∀ i M H cs, Same M0 M → Ok K M H cs → G cs → i < items.length → J.go i H
  stop : ∀ M H cs, Same M0 M → Ok K M H cs → G cs → J.stop items.length H
  yld : ∀ i M H cs v H', Same M0 M → Ok K M H cs → G cs → J.yld i H v H' → i < items.length → ∃ M' x, items[i]? = some x ∧ Same M M' ∧ Ok K M' H' cs ∧ RV K M' v x
abbrev WI := DEnv → Cells → (List Vl → (Cells → Prop) → Cells → Prop) → Prop
def liftI (K : Frag) (wi : WI) : TI := fun σ H R => ∃ M ρ cs P, Ok K M H cs ∧ Rho K M σ ρ ∧ wi ρ cs P ∧ ∀ J items G M' H' cs', Same M M' → Ok K M' H' cs' → ItOk K M' J items G → P items G cs' → R J H'
def DI (X : Cx) (tg e : Expr) (wi : WI) : Prop := PI X tg e (liftI X.K wi)
def wFor (wi : WI) (g : WG) (wb : WS) : WS := fun D ρ cs => wi ρ cs fun items G cs1 => ∃ Inv : Nat → DEnv → Cells → Prop, Inv 0 ρ cs1 ∧ (∀ i ρ' cs', i ≤ items.length → Inv i ρ' cs' → G cs') ∧
  (∀ i x ρ' cs', items[i]? = some x → Inv i ρ' cs' → g x ρ' cs' fun ρ2 cs2 => wb { D with nx := Inv (i + 1), ct := Inv (i + 1), bk := D.nx } ρ2 cs2) ∧ ∀ ρ' cs', Inv items.length ρ' cs' → D.nx ρ' cs'
theorem ds_for {X : Cx} {tg iter : Expr} {body : List Stmt} {pos : Pos} {js : List Nat} {wi : WI} {g : WG} {wb : WS} (hi : DI X tg iter wi) (hg : DG X js tg g) (hb : DSs X body wb) (hc : X.calm = true := by rfl) (hp : PassesOwn (model X.prog X.w) X.A X.env X.xe := by exact PassesOwn.never)
    (hs : ∀ x, foldedSetIterable iter X.env x = pure x := by intro _; rfl) : DS X (.For tg iter body [] pos) (wFor wi g wb) :=
  ps_imp (ps_for hp hc hi hg hb hs) fun E σ H ⟨M, ρ, cs, D, o, r, h, e⟩ => by
    refine ⟨M, ρ, cs, _, o, r, h, fun J items G M1 H1 cs1 s1 o1 it ⟨Iv, i0, iG, turn, fin⟩ => ?_⟩
    refine ⟨fun i m σ' H' => m = items.length - i ∧ i ≤ items.length ∧ ∃ M' ρ' cs', Same M1 M' ∧ Ok X.K M' H' cs' ∧ Rho X.K M' σ' ρ' ∧ Iv i ρ' cs', ⟨items.length, by simp, Nat.zero_le _, M1, ρ, cs1, Same.refl _, o1, r.mono s1, i0⟩, ?_⟩
    rintro i m σ' H' ⟨rfl, hi, M', ρ', cs', s', o', r', inv⟩
    have g' := iG i ρ' cs' hi inv
    by_cases hlt : i < items.length
    · refine .inr ⟨it.go i M' H' cs' s' o' g' hlt, fun σ2 H2 => i + 1 ≤ items.length ∧ ∃ M2 ρ2 cs2, Same M1 M2 ∧ Ok X.K M2 H2 cs2 ∧ Rho X.K M2 σ2 ρ2 ∧ Iv (i + 1) ρ2 cs2, fun σ2 H2 q => ⟨_, by omega, rfl, q.1, q.2⟩, fun v H2 y => ?_⟩
      obtain ⟨M2, x, ex, s2, o2, rv⟩ := it.yld i M' H' cs' v H2 s' o' g' y hlt
      refine ⟨M2, ρ', cs', x, _, o2, r'.mono s2, rv, turn i x ρ' cs' ex inv, fun σ3 ρ3 M3 H3 cs3 s3 o3 r3 _ _ p3 => ?_⟩
      refine ⟨M3, ρ3, cs3, _, o3, r3, p3, ⟨fun σ4 ρ4 M4 H4 cs4 s4 o4 r4 p4 => ?_, e.rt.mono (s1.trans (s'.trans (s2.trans s3))), ?_, fun σ4 ρ4 M4 H4 cs4 s4 o4 r4 p4 => ?_⟩⟩
      · exact ⟨hlt, M4, ρ4, cs4, s'.trans (s2.trans (s3.trans s4)), o4, r4, p4⟩
      · exact e.nx.mono (s1.trans (s'.trans (s2.trans s3)))
      · exact ⟨hlt, M4, ρ4, cs4, s'.trans (s2.trans (s3.trans s4)), o4, r4, p4⟩
    · have ei : i = items.length := by omega
      subst ei
      exact .inl ⟨it.stop M' H' cs' s' o' g', e.nx σ' ρ' M' H' cs' (s1.trans s') o' r' (fin ρ' cs' inv)⟩
/-- a list or a tuple -/
def iSeq (K : Frag) (tl : TE) : TI := fun σ H R => tl σ H fun x H1 => (∃ a, x = .ref a ∧ (∃ xs, SqL K H1 a xs) ∧ R (Itl K a) H1) ∨ ∃ a, x = .ref a ∧ (∃ xs, SqT K H1 a xs) ∧ R (Itt K a) H1
theorem pi_seq {X : Cx} {tg l : Expr} {tl : TE} (hl : PE X l tl) : PI X tg l (iSeq X.K tl) := by
  refine ⟨fun pins s σ H R I h => ?_⟩
  refine thn (hl.run pins s σ H _ I h) fun v s1 ⟨x, H1, I1, r1, q1⟩ => ?_
  rcases q1 with ⟨a, e, ⟨xs, hq⟩, q⟩ | ⟨a, e, ⟨xs, hq⟩, q⟩
  · subst e
    cases r1
    obtain ⟨its, rv, p, hz⟩ := I1.list hq
    refine wpAny_pyIter_list p.isList ?_
    refine ⟨s1.heap.objs.size, [s1.heap.objs.size], _, _, H1, rfl, I1.kept (t' := s1.toks) fun b o e => Heap.get?_push_of_some _ e, turn_list a _, ⟨_, Heap.get?_push_size _ rfl, rfl, rfl⟩, fun b hb => ?_, q⟩
    have e : b = s1.heap.objs.size := by simpa using hb
    subst e
    exact I1.fpOk (Nat.le_refl _) (I1.hok.fresh (Nat.le_refl _))
  · subst e
    cases r1
    obtain ⟨its, rv, p, hz⟩ := I1.tuple hq
    refine wpAny_pyIter_tuple (show s1.heap.IsTuple a its.toArray from p) ?_
    refine ⟨s1.heap.objs.size, [s1.heap.objs.size], _, _, H1, rfl, I1.kept (t' := s1.toks) fun b o e => Heap.get?_push_of_some _ e, turn_tuple a _, ⟨_, Heap.get?_push_size _ rfl, rfl, rfl⟩, fun b hb => ?_, q⟩
    have e : b = s1.heap.objs.size := by simpa using hb
    subst e
    exact I1.fpOk (Nat.le_refl _) (I1.hok.fresh (Nat.le_refl _))
def wiSeq (we : WE) : WI := fun ρ cs P => we ρ cs fun x cs1 => ∃ b xs, seqD cs1 x = some (b, xs) ∧ P xs (fun cs' => seqD cs' x = some (b, xs)) cs1
section
variable {K : Frag} {M0 : Hp} {x : Vl} {xs : List Vl} {a : Addr}
theorem it_list (r : RV K M0 (.ref a) x) : ItOk K M0 (Itl K a) xs (fun cs' => seqD cs' x = some (true, xs)) := by
  refine ⟨fun i M2 H2 cs2 s2 o2 g2 hi => ?_, fun M2 H2 cs2 s2 o2 g2 => ?_, fun i M2 H2 cs2 v2 H3 s2 o2 g2 y hi => ?_⟩
  all_goals
    obtain ⟨a2, vs2, ea2, q2, pr2⟩ := seqD_list o2 (r.mono s2) g2
    cases ea2
  · have hl := Paired.len pr2
    exact ⟨vs2, vs2[i]'(by omega), q2, by simp [show i < vs2.length by omega]⟩
  · exact ⟨vs2, q2, by rw [Paired.len pr2]; exact Nat.le_refl _⟩
  · obtain ⟨e1, e2⟩ := y
    subst e1
    obtain ⟨x2, hx2, rx2⟩ := Paired.getL pr2 (e2 vs2 q2)
    exact ⟨M2, x2, hx2, Same.refl _, o2, rx2⟩
theorem it_tup (r : RV K M0 (.ref a) x) : ItOk K M0 (Itt K a) xs (fun cs' => seqD cs' x = some (false, xs)) := by
  refine ⟨fun i M2 H2 cs2 s2 o2 g2 hi => ?_, fun M2 H2 cs2 s2 o2 g2 => ?_, fun i M2 H2 cs2 v2 H3 s2 o2 g2 y hi => ?_⟩
  all_goals
    obtain ⟨a2, vs2, ea2, q2, pr2⟩ := seqD_tup o2 (r.mono s2) g2
    cases ea2
  · have hl := Paired.len pr2
    exact ⟨vs2, vs2[i]'(by omega), q2, by simp [show i < vs2.length by omega]⟩
  · exact ⟨vs2, q2, by rw [Paired.len pr2]; exact Nat.le_refl _⟩
  · obtain ⟨e1, e2⟩ := y
    subst e1
    obtain ⟨x2, hx2, rx2⟩ := Paired.getL pr2 (e2 vs2 q2)
    exact ⟨M2, x2, hx2, Same.refl _, o2, rx2⟩
end
theorem di_seq {X : Cx} {tg e : Expr} {we : WE} (h : DE X e we) : DI X tg e (wiSeq we) :=
  pi_imp (pi_seq h) fun σ H R ⟨M, ρ, cs, P, o, r, p, k⟩ => by
    refine ⟨M, ρ, cs, _, o, r, p, fun v x M1 H1 cs1 s1 o1 r1 ⟨b, xs, hx, p1⟩ => ?_⟩
    cases b with
    | true =>
      obtain ⟨a, vs, ea, q, pr⟩ := seqD_list o1 r1 hx
      subst ea
      exact .inl ⟨a, rfl, ⟨vs, q⟩, k _ xs _ M1 H1 cs1 s1 o1 (it_list r1) p1⟩
    | false =>
      obtain ⟨a, vs, ea, q, pr⟩ := seqD_tup o1 r1 hx
      subst ea
      exact .inr ⟨a, rfl, ⟨vs, q⟩, k _ xs _ M1 H1 cs1 s1 o1 (it_tup r1) p1⟩
/-! ### ranges -/
def rangeD (lo c : Int) (n : Nat) : List Vl := (List.range n).map fun (i : Nat) => .dat (.int (lo + (i : Int) * c))
theorem rangeD_len {lo c : Int} {n : Nat} : (rangeD lo c n).length = n := by simp [rangeD]
theorem rangeD_get {lo c : Int} {n i : Nat} (h : i < n) : (rangeD lo c n)[i]? = some (.dat (.int (lo + (i : Int) * c))) := by
  simp [rangeD, h]
theorem rangeD_at {lo c : Int} {n i : Nat} {x : Vl} (h : (rangeD lo c n)[i]? = some x) : i < n ∧ x = .dat (.int (lo + (i : Int) * c)) := by
  have hl := (List.getElem?_eq_some_iff.mp h).1
  rw [rangeD_len] at hl
  rw [rangeD_get hl] at h
  cases h
  exact ⟨hl, rfl⟩
theorem it_range {K : Frag} {M0 : Hp} {lo : Int} {n : Nat} : ItOk K M0 (Itr lo n) (rangeD lo 1 n) (fun _ => True) := by
  refine ⟨fun i M2 H2 cs2 s2 o2 g2 hi => ?_, fun M2 H2 cs2 s2 o2 g2 => ?_, fun i M2 H2 cs2 v2 H3 s2 o2 g2 y hi => ?_⟩
  · rw [rangeD_len] at hi; exact hi
  · rw [rangeD_len]; exact Nat.le_refl _
  · rw [rangeD_len] at hi
    obtain ⟨e1, e2⟩ := y
    subst e1 e2
    exact ⟨M2, _, rangeD_get hi, Same.refl _, o2, by rw [Int.mul_one]; exact rv_dat (.int _)⟩
theorem it_rangeC {K : Frag} {M0 : Hp} {lo c : Int} {n : Nat} : ItOk K M0 (Itc lo c n) (rangeD lo c n) (fun _ => True) := by
  refine ⟨fun i M2 H2 cs2 s2 o2 g2 hi => ?_, fun M2 H2 cs2 s2 o2 g2 => ?_, fun i M2 H2 cs2 v2 H3 s2 o2 g2 y hi => ?_⟩
  · rw [rangeD_len] at hi; exact hi
  · rw [rangeD_len]; exact Nat.le_refl _
  · rw [rangeD_len] at hi
    obtain ⟨e1, e2⟩ := y
    subst e1 e2
    exact ⟨M2, _, rangeD_get hi, Same.refl _, o2, rv_dat (.int _)⟩
def wiRng1 (wa : WA) : WI := fun ρ cs P => wa ρ cs fun xs cs1 => ∃ j : Int, xs = [.dat (.int j)] ∧ -(2 ^ 62) ≤ j ∧ j < 2 ^ 62 ∧ P (rangeD 0 1 j.toNat) (fun _ => True) cs1
def wiRng2 (wa : WA) : WI := fun ρ cs P => wa ρ cs fun xs cs1 => ∃ i j : Int, xs = [.dat (.int i), .dat (.int j)] ∧ (-(2 ^ 62) ≤ i ∧ i < 2 ^ 62 ∧ -(2 ^ 62) ≤ j ∧ j < 2 ^ 62) ∧ P (rangeD i 1 (j - i).toNat) (fun _ => True) cs1
def wiRng3 (wa : WA) : WI := fun ρ cs P => wa ρ cs fun xs cs1 => ∃ (i j c : Int) (n : Nat), xs = [.dat (.int i), .dat (.int j), .dat (.int c)] ∧ RgC i j c n ∧ P (rangeD i c n) (fun _ => True) cs1
section
variable {X : Cx} {tg a b c : Expr} {wa : WA} {p pos : Pos}
theorem di_range1 (hm : X.mg "range" = none) (ha : DA X [a] wa) (hg : Gl X "range" := by rfl) (hs : starEach [a] X.env = [(false, eval a X.env)] := by rfl) : DI X tg (.Call (.Name "range" p) [a] [] pos) (wiRng1 wa) :=
  pi_imp (pi_range1 hg hm ha hs) fun σ H R ⟨M, ρ, cs, P, o, r, p, k⟩ => ⟨M, ρ, cs, _, o, r, p, fun v x M1 H1 cs1 s1 o1 r1 ⟨j, ej, h1, h2, p1⟩ => by
    subst ej
    cases r1 with
    | cons r1 rr =>
      cases rr
      exact ⟨j, by rw [inv_int r1], h1, h2, k _ _ _ M1 H1 cs1 s1 o1 it_range p1⟩⟩
theorem di_range2 (hm : X.mg "range" = none) (ha : DA X [a, b] wa) (hg : Gl X "range" := by rfl) (hs : starEach [a, b] X.env = [(false, eval a X.env), (false, eval b X.env)] := by rfl) (hs2 : starEach [b] X.env = [(false, eval b X.env)] := by rfl) : DI X tg (.Call (.Name "range" p) [a, b] [] pos) (wiRng2 wa) :=
  pi_imp (pi_range2 hg hm ha hs hs2) fun σ H R ⟨M, ρ, cs, P, o, r, p, k⟩ => ⟨M, ρ, cs, _, o, r, p, fun v x M1 H1 cs1 s1 o1 r1 ⟨i, j, ej, h1, p1⟩ => by
    subst ej
    cases r1 with
    | cons r1 rr =>
      cases rr with
      | cons r2 rr =>
        cases rr
        exact ⟨i, j, by rw [inv_int r1, inv_int r2], h1, k _ _ _ M1 H1 cs1 s1 o1 it_range p1⟩⟩
theorem di_range3 (hm : X.mg "range" = none) (ha : DA X [a, b, c] wa) (hg : Gl X "range" := by rfl) (hs : starEach [a, b, c] X.env = (false, eval a X.env) :: starEach [b, c] X.env := by rfl) (hpl : (backTo pos (starEach [b, c] X.env)).any (·.1) = false := by rfl) : DI X tg (.Call (.Name "range" p) [a, b, c] [] pos) (wiRng3 wa) :=
  pi_imp (pi_range3 hg hm ha hs hpl) fun σ H R ⟨M, ρ, cs, P, o, r, p, k⟩ => ⟨M, ρ, cs, _, o, r, p, fun v x M1 H1 cs1 s1 o1 r1 ⟨i, j, cc, n, ej, h1, p1⟩ => by
    subst ej
    cases r1 with
    | cons r1 rr =>
      cases rr with
      | cons r2 rr =>
        cases rr with
        | cons r3 rr =>
          cases rr
          exact ⟨i, j, cc, n, by rw [inv_int r1, inv_int r2, inv_int r3], h1, k _ _ _ M1 H1 cs1 s1 o1 it_rangeC p1⟩⟩
end
end DL
set_option maxRecDepth 100000
set_option maxHeartbeats 4000000
namespace PySem
set_option maxHeartbeats 4000000 in
theorem dl_enum_newB {v : Value} {o : Obj} {H : Heap → Prop} (B : Begins v o H) :
    Meets (Builtin.«enumerate.__new__» ⟨[.type "enumerate", v], []⟩) (fun _ R s => H s.heap ∧
      R (.ok (.ret (.ref (s.heap.push o).objs.size))) { s with heap := (s.heap.push o).push { cls := .type "enumerate", data := .fields #[.none, .bool false, .ref s.heap.objs.size, rawInt 0, .none, .none] } }) :=
  .of_wp fun prog w A R s h => by
    obtain ⟨hp, g, d, tk, os⟩ := s; obtain ⟨h1, h⟩ := h
    have hsub := sub_enumerate
    have q1 : ∀ {A' : Around} {E : Value → Shared → Prop} {Q : Value → Shared → Prop}, Q (.ref hp.objs.size) ⟨hp.push o, g, d, tk, os⟩ → wpAny (model prog w) A' (pyIter v) Q E ⟨hp, g, d, tk, os⟩ :=
      fun q => B.iter prog w _ _ ⟨hp, g, d, tk, os⟩ _ h1 q
    wp_walk using q1
    refine wpAny_stack_any fun st => wpAny_pure ?_
    split
    · rename_i c _ _ _ _ _
      cases (c == Value.type "enumerate")
      · wp_walk using q1
        exact ⟨_, rfl, h⟩
      · wp_walk using q1
        exact ⟨_, rfl, h⟩
    · wp_walk using q1
      exact ⟨_, rfl, h⟩
theorem dl_enum_begins {prog : Program} {w : World} {A : Around} {E : Value → Shared → Prop} {s : Shared} {v : Value} {o : Obj} {H : Heap → Prop} {Q : Value → Shared → Prop} (B : Begins v o H) (h1 : H s.heap)
    (h : ∀ h', IsEnum h' (s.heap.objs.size + 1) s.heap.objs.size 0 .none → h'.get? s.heap.objs.size = some o → h'.objs.size = s.heap.objs.size + 2 →
      (∀ b o, s.heap.get? b = some o → h'.get? b = some o) → Q (.ref (s.heap.objs.size + 1)) { s with heap := h' }) :
    wpAny (model prog w) A (call (.type "enumerate") [v]) Q E s := by
  refine callType_new F.called_enumerate (by decide) (F.typeCall_enumerate_1 _) (F.newCall_enumerate_1 _) (fun obj => F.args_object_init_2 obj _) F.entry_enumerate_new
    (dl_enum_newB B) ⟨h1, ?_⟩
  have hz : (s.heap.push o).objs.size = s.heap.objs.size + 1 := Heap.size_push ..
  show _ ∧ _
  rw [hz]
  have he : IsEnum ((s.heap.push o).push { cls := .type "enumerate", data := .fields #[.none, .bool false, .ref s.heap.objs.size, rawInt 0, .none, .none] }) (s.heap.objs.size + 1) s.heap.objs.size 0 .none := by
    have := Heap.get?_push_size (s.heap.push o) (o := { cls := .type "enumerate", data := .fields #[.none, .bool false, .ref s.heap.objs.size, rawInt 0, .none, .none] }) rfl
    rw [hz] at this; exact this
  refine ⟨⟨_, he, rfl⟩, h _ he (Heap.get?_push_of_some _ (Heap.get?_push_size _ B.free)) (by rw [Heap.size_push, hz]) fun b o x => Heap.get?_push_of_some _ (Heap.get?_push_of_some _ x)⟩
end PySem
namespace DL
open PySem L2
/-- the tuple at a, each item in a new pair -/
def IteT (K : Frag) (a : Addr) : It :=
  ⟨fun i H => ∃ (xs : List V) (x : V), SqT K H a xs ∧ xs[i]? = some x, fun i H v H' => ∃ T x, v = .ref T ∧ H T = none ∧ H' = upd H T (.tup [.int (i : Nat), x]) ∧ ∀ xs, SqT K H a xs → xs[i]? = some x, fun i H => ∃ xs : List V, SqT K H a xs ∧ xs.length ≤ i⟩
theorem dl_tuple_inj {X : Cx} {pins : List (Addr × Obj)} {σ : St} {H : Hp} {s : Shared} (I : L2.Inv X pins σ H s) {a : Addr} {xs ys : List V} (h1 : SqT X.K H a xs) (h2 : SqT X.K H a ys) : xs = ys := by
  exact I.tuple_inj h1 h2
theorem turn_enumT {P : Program} {w : World} {K : Frag} {elts : List Expr} {kk : Nat} {tpos : Pos} (a e it : Addr) :
    Turn P w K (.Tuple elts kk tpos) (IteT K a) [e, it] e (fun i h => (∃ old, IsEnum h e it ((i : Nat) : Int) old) ∧ h.IsTupleIter it a i ∧ e ≠ it) where
  mem := by simp
  obj := fun i h st b hb => by
    obtain ⟨⟨old, he⟩, ⟨o, ho, hc, hd⟩, _⟩ := st
    have e' : b = e ∨ b = it := by simpa using hb
    rcases e' with z | z
    · rw [z]; exact ⟨_, he, fun v q => nomatch q⟩
    · rw [z]; exact ⟨o, ho, fun v q => by rw [hd] at q; cases q⟩
  keep := fun i h h' st k => let ⟨⟨old, he⟩, hi, hne⟩ := st; ⟨⟨old, k e (by simp) _ he⟩, hi.at fun o q => k it (by simp) o q, hne⟩
  item := by
    intro X hP hw hK hc i pins s σ H E I hf st hg
    subst hP hw hK
    obtain ⟨⟨old, he⟩, hit, hne⟩ := st
    obtain ⟨xs, x, hq, hx⟩ := hg
    obtain ⟨its, rv, p, hz⟩ := I.tuple hq
    obtain ⟨u, hu, ru⟩ := rv.get hx
    have p' : s.heap.IsTuple a its.toArray := p
    have hel : e < s.heap.objs.size := Heap.lt_size he
    have hil : it < s.heap.objs.size := by obtain ⟨_, q, _⟩ := hit; exact Heap.lt_size q
    have hai : a ≠ it := fun z => by
      obtain ⟨o1, q1, c1, _⟩ := p'
      obtain ⟨o2, q2, c2, _⟩ := hit
      rw [z, q2] at q1; cases q1; rw [c2] at c1; exact absurd (Value.type.inj c1) (by decide)
    have hae : e ≠ a := fun z => by
      obtain ⟨o1, q1, c1, _⟩ := p'
      have he' : s.heap.get? e = some _ := he
      rw [← z, he'] at q1; cases q1; exact absurd (Value.type.inj c1) (by decide)
    have hisz : i < its.toArray.size := by
      have := (List.getElem?_eq_some_iff.mp hu).1
      simpa using this
    have D := Draws.tuple (prog := X.prog) (w := X.w) (A := X.A.in1) (show X.A.in1.handled = none from I.ok.hd hc) it a hai its.toArray
    refine wpAny_pyNext_enum_itemD D he ⟨hit, p'⟩ hisz hne (by simp [hne, hae]) fun x' h' tk hP ho hst' hT hsz hk => ?_
    have hxu : x' = u := by
      have h1 : its.toArray[i]? = some x' := hP
      have h2 : its.toArray[i]? = some u := by simpa using hu
      rw [h1] at h2; exact Option.some.inj h2
    subst hxu
    refine ⟨_, rfl, wpAny_letOwnedTupleGo_enum (s := { s with heap := h', toks := tk + 1 }) ho fun h'' he' sb => ?_⟩
    have hT2 : h''.get? s.heap.objs.size = some { cls := .type "tuple", data := .seq #[.int i tk, x'] } := (sb.2 _ (Nat.ne_of_gt hel)).trans hT
    have new : ObjOk X.prog X.w (upd H s.heap.objs.size (.tup [.int (i : Nat), x])) h'' s.heap.objs.size (.tup [.int (i : Nat), x]) :=
      ⟨by show 2 ≤ sizeLine; decide, [.int i tk, x'], .cons ⟨_, rfl⟩ (.cons ru .nil), ⟨_, hT2, rfl, _, rfl⟩⟩
    have I1 : L2.Inv X pins σ (upd H s.heap.objs.size (.tup [.int (i : Nat), x])) { s with heap := h'', toks := tk + 1 } :=
      I.turnedNew (ch := [e, it]) (fun b ob hb q => (sb.2 b (fun z => hb (by simp [z]))).trans (hk b ob (fun z => hb (by simp [z])) (fun z => hb (by simp [z])) q)) hf (Nat.le_refl _) new
    refine ⟨.ref s.heap.objs.size, _, I1, rfl, ⟨_, x, rfl, I.hok.fresh (Nat.le_refl _), rfl, fun ys hy => by rw [dl_tuple_inj I hy hq]; exact hx⟩, ⟨⟨x', ?_⟩, hst'.1.at fun o q => (sb.2 it (Ne.symm hne)).trans q, hne⟩, fun b hb => ?_⟩
    · have e1 : ((i + 1 : Nat) : Int) = (i : Int) + 1 := by omega
      rw [e1]; exact he'
    · have hb' : b < s.heap.objs.size := by
        have e' : b = e ∨ b = it := by simpa using hb
        rcases e' with z | z
        · rw [z]; exact hel
        · rw [z]; exact hil
      rw [upd_ne (Nat.ne_of_lt hb')]
      exact (hf b hb).1
  done := by
    intro X hP hw hK hc i pins s σ H E I hf st hg
    subst hP hw hK
    obtain ⟨⟨old, he⟩, hit, hne⟩ := st
    obtain ⟨xs, hq, hx⟩ := hg
    obtain ⟨its, rv, p, hz⟩ := I.tuple hq
    have p' : s.heap.IsTuple a its.toArray := p
    have hai : a ≠ it := fun z => by
      obtain ⟨o1, q1, c1, _⟩ := p'
      obtain ⟨o2, q2, c2, _⟩ := hit
      rw [z, q2] at q1; cases q1; rw [c2] at c1; exact absurd (Value.type.inj c1) (by decide)
    obtain ⟨f0, f1, f2, f3, f4, f5⟩ := hf it (by simp)
    have hl := rv.length
    have D : Draws X.prog X.w X.A.in1 it [it, a] i (fun _ _ => False) (fun j h => j = i ∧ h.IsTupleIter it a j ∧ h.IsTuple a its.toArray) := {
      live := fun _ _ st => let ⟨o, ho, _⟩ := st.2.1; ⟨o, ho⟩
      frame := fun _ _ _ st hk => ⟨st.1, st.2.1.at fun o e => hk it (by simp) o e, st.2.2.at fun o e => hk a (by simp) o e⟩
      item := fun j s' Q E hj st hQ => absurd st.1 (by omega)
      done := fun s' Q E st hE => wpAny_nextOf_tuple_end (show X.A.in1.handled = none from I.ok.hd hc) st.2.1 st.2.2 (by simp; omega) hE }
    exact wpAny_pyNext_enum_endD D he ⟨rfl, hit, p'⟩ fun h' eb => ⟨rfl, I.turned (t' := s.toks) (fun b o hb q => eb b o hb q) f0 f1 f3 f4 f5⟩
  self := fun A i s Q E st h => let ⟨⟨_, he⟩, _⟩ := st; wpAny_pyIter_enum he h
def iEnumS (K : Frag) (ta : TA) : TI := fun σ H R => ta σ H fun vs H1 => ∃ a, vs = [.ref a] ∧ ((∃ xs, SqL K H1 a xs) ∧ R (Ite K a) H1 ∨ (∃ xs, SqT K H1 a xs) ∧ R (IteT K a) H1)
theorem pi_enumS {X : Cx} {e : Expr} {ta : TA} {p pos tpos : Pos} {elts : List Expr} {kk : Nat} (hg : Gl X "enumerate") (hm : X.mg "enumerate" = none) (ha : PA X [e] ta) (hs : starEach [e] X.env = [(false, eval e X.env)] := by rfl) :
    PI X (.Tuple elts kk tpos) (.Call (.Name "enumerate" p) [e] [] pos) (iEnumS X.K ta) := by
  refine ⟨fun pins s σ H R I h => ?_⟩
  refine PyProof.Rows.Call_ (ld_blt I hg hm PyProof.Rows.boot_enumerate (PyProof.Rows.callWith_type1 (thn (ha.run pos pins s σ H _ I h) fun us s1 ⟨vs, H1, I1, r1, q1⟩ => ?_) hs rfl))
  obtain ⟨a, ex, q⟩ := q1
  subst ex
  cases r1 with
  | cons r rr =>
    cases rr
    cases r
    rcases q with ⟨⟨xs, hq⟩, q⟩ | ⟨⟨xs, hq⟩, q⟩
    · obtain ⟨its, rv, p', hz⟩ := I1.list hq
      refine call_enumerate_list p'.isList fun h' he hit hsz hk => wpAny_pyIter_enum he ?_
      have I2 : L2.Inv X pins σ H1 { s1 with heap := h' } := I1.kept (t' := s1.toks) hk
      refine ⟨s1.heap.objs.size + 1, [s1.heap.objs.size + 1, s1.heap.objs.size], _, _, H1, rfl, I2, turn_enum a (s1.heap.objs.size + 1) s1.heap.objs.size, ⟨⟨.none, he⟩, hit, Nat.succ_ne_self _⟩, fun b hb => ?_, q⟩
      have e' : b = s1.heap.objs.size + 1 ∨ b = s1.heap.objs.size := by simpa using hb
      have hle : s1.heap.objs.size ≤ b := by
        rcases e' with z | z
        · rw [z]; exact Nat.le_add_right _ _
        · rw [z]; exact Nat.le_refl _
      exact I1.fpOk hle (I1.hok.fresh hle)
    · obtain ⟨its, rv, p', hz⟩ := I1.tuple hq
      refine dl_enum_begins (begins_tuple a its.toArray) p' fun h' he hit hsz hk => wpAny_pyIter_enum he ?_
      have I2 : L2.Inv X pins σ H1 { s1 with heap := h' } := I1.kept (t' := s1.toks) hk
      refine ⟨s1.heap.objs.size + 1, [s1.heap.objs.size + 1, s1.heap.objs.size], _, _, H1, rfl, I2, turn_enumT a (s1.heap.objs.size + 1) s1.heap.objs.size, ⟨⟨.none, he⟩, ⟨_, hit, rfl, rfl⟩, Nat.succ_ne_self _⟩, fun b hb => ?_, q⟩
      have e' : b = s1.heap.objs.size + 1 ∨ b = s1.heap.objs.size := by simpa using hb
      have hle : s1.heap.objs.size ≤ b := by
        rcases e' with z | z
        · rw [z]; exact Nat.le_add_right _ _
        · rw [z]; exact Nat.le_refl _
      exact I1.fpOk hle (I1.hok.fresh hle)
/-- the pairs of enumerate -/
def enumF (n : Nat) : List Dat → List Vl
  | [] => []
  | d :: ds => .dat (.tup [.int (n : Int), d]) :: enumF (n + 1) ds
theorem enumF_len : ∀ (ds : List Dat) (n : Nat), (enumF n ds).length = ds.length
  | [], _ => rfl
  | _ :: ds, n => congrArg Nat.succ (enumF_len ds (n + 1))
theorem enumF_get : ∀ (ds : List Dat) (n i : Nat) (d : Dat), ds[i]? = some d → (enumF n ds)[i]? = some (.dat (.tup [.int ((n + i : Nat) : Int), d]))
  | _ :: ds, n, 0, _, h => by cases h; rfl
  | _ :: ds, n, i + 1, d, h => by
    have := enumF_get ds (n + 1) i d h
    rw [show n + 1 + i = n + (i + 1) by omega] at this
    exact this
theorem enumF_at {ds : List Dat} {i : Nat} {x : Vl} (h : (enumF 0 ds)[i]? = some x) : ∃ d, ds[i]? = some d ∧ x = .dat (.tup [.int (i : Int), d]) := by
  have hl := (List.getElem?_eq_some_iff.mp h).1
  rw [enumF_len] at hl
  have hd : ds[i]? = some ds[i] := List.getElem?_eq_getElem hl
  refine ⟨_, hd, ?_⟩
  rw [enumF_get ds 0 i _ hd] at h
  cases h
  simp
def wiEnum (wa : WA) : WI := fun ρ cs P => wa ρ cs fun xs cs1 => ∃ x b ys ds, xs = [x] ∧ seqD cs1 x = some (b, ys) ∧ allDat ys = some ds ∧ P (enumF 0 ds) (fun cs' => seqD cs' x = some (b, ys)) cs1
section
variable {K : Frag} {M0 : Hp} {x : Vl} {a : Addr} {ds : List Dat}
theorem enum_yield {M H : Hp} {cs : Cells} {v : V} {d : Dat} {T : Addr} {i : Nat} (o : Ok K M H cs) (hT : H T = none) (r : Dr K M v d) :
    ∃ M', Same M M' ∧ Ok K M' (upd H T (.tup [.int (i : Nat), v])) cs ∧ RV K M' (.ref T) (.dat (.tup [.int (i : Int), d])) := by
  obtain ⟨s, o'⟩ := o.newM hT (.tup [.int (i : Nat), v])
  exact ⟨_, s, o', rv_dat (.tup (.inl (.inl upd_same)) (.cons (.int _) (.cons (r.mono s) .nil)))⟩
theorem it_enumL (r : RV K M0 (.ref a) x) : ItOk K M0 (Ite K a) (enumF 0 ds) (fun cs' => seqD cs' x = some (true, ds.map .dat)) := by
  refine ⟨fun i M2 H2 cs2 s2 o2 g2 hi => ?_, fun M2 H2 cs2 s2 o2 g2 => ?_, fun i M2 H2 cs2 v2 H3 s2 o2 g2 y hi => ?_⟩
  all_goals
    obtain ⟨a2, vs2, ea2, q2, pr2⟩ := seqD_list o2 (r.mono s2) g2
    cases ea2
    have hl := Paired.len pr2
    rw [List.length_map] at hl
    have da := DrAll.of_paired pr2
  · rw [enumF_len] at hi
    exact ⟨vs2, vs2[i]'(by omega), q2, by simp [show i < vs2.length by omega]⟩
  · exact ⟨vs2, q2, by rw [enumF_len, hl]; exact Nat.le_refl _⟩
  · obtain ⟨T, x1, e1, hT, e2, hx⟩ := y
    subst e1 e2
    obtain ⟨d, hd, rd⟩ := da.getV (hx vs2 q2)
    obtain ⟨M', s', o', r'⟩ := enum_yield (i := i) o2 hT rd
    exact ⟨M', _, by have := enumF_get ds 0 i d hd; rw [Nat.zero_add] at this; exact this, s', o', r'⟩
theorem it_enumT (r : RV K M0 (.ref a) x) : ItOk K M0 (IteT K a) (enumF 0 ds) (fun cs' => seqD cs' x = some (false, ds.map .dat)) := by
  refine ⟨fun i M2 H2 cs2 s2 o2 g2 hi => ?_, fun M2 H2 cs2 s2 o2 g2 => ?_, fun i M2 H2 cs2 v2 H3 s2 o2 g2 y hi => ?_⟩
  all_goals
    obtain ⟨a2, vs2, ea2, q2, pr2⟩ := seqD_tup o2 (r.mono s2) g2
    cases ea2
    have hl := Paired.len pr2
    rw [List.length_map] at hl
    have da := DrAll.of_paired pr2
  · rw [enumF_len] at hi
    exact ⟨vs2, vs2[i]'(by omega), q2, by simp [show i < vs2.length by omega]⟩
  · exact ⟨vs2, q2, by rw [enumF_len, hl]; exact Nat.le_refl _⟩
  · obtain ⟨T, x1, e1, hT, e2, hx⟩ := y
    subst e1 e2
    obtain ⟨d, hd, rd⟩ := da.getV (hx vs2 q2)
    obtain ⟨M', s', o', r'⟩ := enum_yield (i := i) o2 hT rd
    exact ⟨M', _, by have := enumF_get ds 0 i d hd; rw [Nat.zero_add] at this; exact this, s', o', r'⟩
end
theorem di_enum {X : Cx} {e : Expr} {wa : WA} {p pos tpos : Pos} {elts : List Expr} {kk : Nat} (hm : X.mg "enumerate" = none) (ha : DA X [e] wa) (hg : Gl X "enumerate" := by rfl) (hs : starEach [e] X.env = [(false, eval e X.env)] := by rfl) :
    DI X (.Tuple elts kk tpos) (.Call (.Name "enumerate" p) [e] [] pos) (wiEnum wa) :=
  pi_imp (pi_enumS hg hm ha hs) fun σ H R ⟨M, ρ, cs, P, o, r, p, k⟩ => by
    refine ⟨M, ρ, cs, _, o, r, p, fun vs xs M1 H1 cs1 s1 o1 r1 ⟨x, b, ys, ds, ex, hx, hd, p1⟩ => ?_⟩
    subst ex
    cases r1 with
    | cons r1 rr =>
      cases rr
      have hy := allDat_eq hd
      subst hy
      cases b with
      | true =>
        obtain ⟨a, vs, ea, q, pr⟩ := seqD_list o1 r1 hx
        subst ea
        exact ⟨a, rfl, .inl ⟨⟨vs, q⟩, k _ _ _ M1 H1 cs1 s1 o1 (it_enumL r1) p1⟩⟩
      | false =>
        obtain ⟨a, vs, ea, q, pr⟩ := seqD_tup o1 r1 hx
        subst ea
        exact ⟨a, rfl, .inr ⟨⟨vs, q⟩, k _ _ _ M1 H1 cs1 s1 o1 (it_enumT r1) p1⟩⟩
end DL
set_option maxRecDepth 100000
set_option maxHeartbeats 4000000
namespace DL
open PySem L2
/-! ### xs[i] += e -/
theorem get_list {X : Cx} : PGet X (rIxL X.K) := by
  intro pins s σ H x y v u Q I rx ry h
  obtain ⟨p, xs, i, z, rfl, rfl, hq, he, q⟩ := h
  cases rx
  obtain ⟨t, rfl⟩ := ry
  obtain ⟨its, r, pl, hz⟩ := I.list hq
  obtain ⟨j, h1, h2, h3, h4, h5⟩ := atI_get he
  obtain ⟨w, ew, rw'⟩ := r.get h2
  have hl := r.length
  have hn := line63
  have fin : EP X pins σ Q w s := ⟨z, H, I, rw', q⟩
  by_cases h0 : 0 ≤ i
  · have hj : i.toNat = j := by
      rw [seqIndex_of h0 h5] at h1
      exact Option.some.inj h1
    exact wpAny_getItem_list pl.isList h0 (by omega) (by rw [hj]; simpa using ew) fin
  · have hj : (i + (its.toArray.size : Int)).toNat = j := by
      rw [seqIndex_neg (by omega) h4] at h1
      rw [List.size_toArray, ← hl]
      exact Option.some.inj h1
    exact wpAny_getItem_list_neg pl.isList (by omega) (by rw [List.size_toArray] <;> omega) (by omega) (by rw [hj]; simpa using ew) fin
def wAugIx (wo wi we : WE) (f : Int → Int → Int) : WS := fun D ρ cs => wo ρ cs fun o cs1 => wi ρ cs1 fun i cs2 => ∃ a xs k j n, o = .cell a ∧ i = .dat (.int k) ∧ cs2 a = some (.lst xs) ∧ ixN xs.length k = some j ∧ xs[j]? = some (.dat (.int n)) ∧
  we ρ cs2 fun y cs3 => ∃ m, y = .dat (.int m) ∧ cs3 a = some (.lst xs) ∧ D.nx ρ (cs3.put a (.lst (xs.set j (.dat (.int (f n m))))))
section
variable {X : Cx} {a b c e o : Expr} {es : List Expr} {wa wb wc we wo : WE} {w u : WT} {wr : WA} {pos : Pos}
theorem ds_augIx {tpos : Pos} {op : Operator} {f : Int → Int → Int} (ho : DE X a wa) (hi : DE X b wb) (he : DE X e we) (hp : PIp X op (ipI f))
    (ha : ∀ ov iv new, augStore b ov iv new = (do holding [new, ov, iv] (setItem ov iv new); release [new, ov, iv] []; pure .next) := by intros; rfl) : DS X (.AugAssign (.Subscript a b tpos) op e pos) (wAugIx wa wb we f) :=
  ps_imp (ps_augS ho hi get_list he hp set_list ha) fun E σ H ⟨M, ρ, cs, D, o, r, h, e⟩ => by
    refine ⟨M, ρ, cs, _, o, r, h, fun v1 x1 M1 H1 cs1 s1 o1 r1 p1 => ?_⟩
    refine ⟨M1, ρ, cs1, _, o1, r.mono s1, p1, fun v2 x2 M2 H2 cs2 s2 o2 r2 ⟨ad, xs, k, j, n, e1, e2, hc, hj, hn, p2⟩ => ?_⟩
    subst e1 e2
    have e1 : v1 = .ref ad := r1
    obtain ⟨m0, ob, hob, cr⟩ := o2.cell ad _ hc
    cases ob <;> try exact (show False from cr).elim
    rename_i ys
    have cr : Paired (RV X.K M2) ys xs := cr
    obtain ⟨vn, hvn, rvn⟩ := Paired.getR cr hn
    rw [inv_int rvn] at hvn
    refine ⟨ad, ys, k, .int n, e1, inv_int r2, .inl (.inl hob), by unfold atI; rw [Paired.len cr, hj]; exact hvn, ?_⟩
    refine ⟨M2, ρ, cs2, _, o2, r.mono (s1.trans s2), p2, fun v3 x3 M3 H3 cs3 s3 o3 r3 ⟨m, e3, hc3, p3⟩ => ?_⟩
    subst e3
    obtain ⟨m3, ob3, hob3, cr3⟩ := o3.cell ad _ hc3
    cases ob3 <;> try exact (show False from cr3).elim
    rename_i ys3
    have cr3 : Paired (RV X.K M3) ys3 xs := cr3
    refine ⟨n, m, rfl, inv_int r3, ad, ys3, k, j, e1, inv_int r2, hob3, by rw [Paired.len cr3]; exact hj, ?_⟩
    have s123 := s1.trans (s2.trans s3)
    exact e.nx σ ρ M3 _ _ s123 (o3.setC hc3 (c := .lst (xs.set j (.dat (.int (f n m))))) (paired_set cr3 (rv_dat (.int _)))) (r.mono s123) p3
/-! ### methods of lists -/
def wApp (wo we : WE) : WE := fun ρ cs P => wo ρ cs fun o cs1 => ∃ a xs0, o = .cell a ∧ cs1 a = some (.lst xs0) ∧ we ρ cs1 fun y cs2 => ∃ xs, cs2 a = some (.lst xs) ∧ xs.length < 16777216 ∧ P (.dat .non) (cs2.put a (.lst (xs ++ [y])))
theorem size_lt {n : Nat} (h : n < 16777216) : n < sizeLine := by rw [sizeLine_eq]; exact h
theorem cell_lst {K : Frag} {M H : Hp} {cs : Cells} {a : Addr} {xs : List Vl} (o : Ok K M H cs) (h : cs a = some (.lst xs)) : ∃ ys, H a = some (.lst ys) ∧ Paired (RV K M) ys xs := by
  obtain ⟨m3, ob3, hob3, cr3⟩ := o.cell a _ h
  cases ob3 <;> try exact (show False from cr3).elim
  exact ⟨_, hob3, cr3⟩
theorem de_append {apos cpos : Pos} (ho : DE X o wo) (he : DE X e we) (hbase : attributeBase o "append" X.env (eval o X.env) = eval o X.env := by rfl)
    (hfew : ((backTo cpos (starEach [e] X.env)).all (fun x => !x.1) && (backToKw cpos (keywordEach [] X.env)).all (fun x => x.1.isSome)
      && decide ([e].length + ([] : List Keyword).length + (if ([] : List Keyword).isEmpty then 0 else 1) < 30)) = true := by rfl)
    (hline : (apos.endLine == cpos.line) = true := by rfl) (hs : starEach [e] X.env = (false, eval e X.env) :: starEach [] X.env := by rfl) (hplain : (backTo cpos (starEach [] X.env)).any (·.1) = false := by rfl) :
    DE X (.Call (.Attribute o "append" apos) [e] [] cpos) (wApp wo we) :=
  pe_imp (pe_bm PySem.F.plainAttrs_list PySem.F.slot_list_append PySem.F.type_list_append mt_append ho (pa_cons he pa_nil hs) hbase hfew hline hs hplain) fun σ H Q ⟨M, ρ, cs, P, o, r0, p, k⟩ => by
    refine ⟨M, ρ, cs, _, o, r0, p, fun v x M1 H1 cs1 s1 o1 r1 ⟨a, xs0, ea, hc, p1⟩ => ?_⟩
    subst ea
    have e1 : v = .ref a := r1
    subst e1
    obtain ⟨ys, hy, py⟩ := cell_lst o1 hc
    refine ⟨.inl ⟨rfl, _, .inl (.inl hy)⟩, M1, ρ, cs1, _, o1, r0.mono s1, p1, fun v2 x2 M2 H2 cs2 s2 o2 r2 ⟨xs, hc2, hz, p2⟩ => ?_⟩
    obtain ⟨ys2, hy2, py2⟩ := cell_lst o2 hc2
    refine ⟨a, ys2, v2, rfl, rfl, hy2, by rw [Paired.len py2]; exact size_lt hz, ?_⟩
    exact k _ _ M2 _ _ (s1.trans s2) (o2.setC hc2 (c := .lst (xs ++ [x2])) (Paired.app py2 (.cons r2 .nil))) (rv_dat .non) p2
def wExt (wo we : WE) : WE := fun ρ cs P => wo ρ cs fun o cs1 => ∃ a xs0, o = .cell a ∧ cs1 a = some (.lst xs0) ∧ we ρ cs1 fun y cs2 => ∃ b xs zs, y = .cell b ∧ cs2 a = some (.lst xs) ∧ cs2 b = some (.lst zs) ∧ xs.length + zs.length ≤ 16777216 ∧ P (.dat .non) (cs2.put a (.lst (xs ++ zs)))
theorem de_extend {apos cpos : Pos} (ho : DE X o wo) (he : DE X e we) (hbase : attributeBase o "extend" X.env (eval o X.env) = eval o X.env := by rfl)
    (hfew : ((backTo cpos (starEach [e] X.env)).all (fun x => !x.1) && (backToKw cpos (keywordEach [] X.env)).all (fun x => x.1.isSome)
      && decide ([e].length + ([] : List Keyword).length + (if ([] : List Keyword).isEmpty then 0 else 1) < 30)) = true := by rfl)
    (hline : (apos.endLine == cpos.line) = true := by rfl) (hs : starEach [e] X.env = (false, eval e X.env) :: starEach [] X.env := by rfl) (hplain : (backTo cpos (starEach [] X.env)).any (·.1) = false := by rfl) :
    DE X (.Call (.Attribute o "extend" apos) [e] [] cpos) (wExt wo we) :=
  pe_imp (pe_bm PySem.F.plainAttrs_list PySem.F.slot_list_extend PySem.F.type_list_extend mt_extend ho (pa_cons he pa_nil hs) hbase hfew hline hs hplain) fun σ H Q ⟨M, ρ, cs, P, o, r0, p, k⟩ => by
    refine ⟨M, ρ, cs, _, o, r0, p, fun v x M1 H1 cs1 s1 o1 r1 ⟨a, xs0, ea, hc, p1⟩ => ?_⟩
    subst ea
    have e1 : v = .ref a := r1
    subst e1
    obtain ⟨ys, hy, py⟩ := cell_lst o1 hc
    refine ⟨.inl ⟨rfl, _, .inl (.inl hy)⟩, M1, ρ, cs1, _, o1, r0.mono s1, p1, fun v2 x2 M2 H2 cs2 s2 o2 r2 ⟨b, xs, zs, eb, hc2, hc3, hz, p2⟩ => ?_⟩
    subst eb
    have e2 : v2 = .ref b := r2
    subst e2
    obtain ⟨ys2, hy2, py2⟩ := cell_lst o2 hc2
    obtain ⟨ys3, hy3, py3⟩ := cell_lst o2 hc3
    refine ⟨a, b, ys2, ys3, rfl, rfl, hy2, hy3, by rw [Paired.len py2, Paired.len py3]; exact size_line hz, ?_⟩
    exact k _ _ M2 _ _ (s1.trans s2) (o2.setC hc2 (c := .lst (xs ++ zs)) (Paired.app py2 py3)) (rv_dat .non) p2
/-! ### + and * of lists: new lists; what is not needed any more may be dropped -/
def SubC (cs' cs : Cells) : Prop := ∀ a c, cs' a = some c → cs a = some c
theorem SubC.refl (cs : Cells) : SubC cs cs := fun _ _ h => h
theorem SubC.put {cs : Cells} {p : Addr} {c : CO} (h : cs p = none) : SubC cs (cs.put p c) := fun a d e => by
  rw [Cells.put_ne (by intro z; rw [z, h] at e; cases e)]; exact e
theorem SubC.trans {a b c : Cells} (h : SubC a b) (h' : SubC b c) : SubC a c := fun x d e => h' x d (h x d e)
def wCat : W2 := fun x y cs P => ∃ a b xs ys cs', x = .cell a ∧ y = .cell b ∧ cs a = some (.lst xs) ∧ cs b = some (.lst ys) ∧ xs.length + ys.length ≤ 16777216 ∧ SubC cs' cs ∧ newL (xs ++ ys) cs' P
def wRep : W2 := fun x y cs P => ∃ a k xs cs', x = .cell a ∧ y = .dat (.int k) ∧ cs a = some (.lst xs) ∧ -(2 ^ 63) ≤ k ∧ k < 2 ^ 63 ∧ xs.length * k.toNat ≤ 16777216 ∧ SubC cs' cs ∧ newL (List.replicate k.toNat xs).flatten cs' P
theorem paired_rep {α β : Type} {R : α → β → Prop} {xs : List α} {ys : List β} (h : Paired R xs ys) : ∀ n, Paired R (List.replicate n xs).flatten (List.replicate n ys).flatten
  | 0 => .nil
  | n + 1 => by
    rw [List.replicate_succ, List.replicate_succ, List.flatten_cons, List.flatten_cons]
    exact Paired.app h (paired_rep h n)
theorem de_cat (ha : DE X a wa) (hb : DE X b wb) : DE X (.BinOp a .Add b pos) (wOp wCat wa wb) := de_op op_cat (fun M H cs x y a b P Q o rx ry ⟨p, q, xs, ys, cs', ea, eb, h1, h2, hz, hs, hn⟩ k => by
  subst ea eb
  obtain ⟨us, hu, pu⟩ := cell_lst o h1
  obtain ⟨vs, hv, pv⟩ := cell_lst o h2
  exact ⟨p, q, us, vs, rx, ry, hu, hv, by rw [Paired.len pu, Paired.len pv]; exact size_line hz, newL_ok (o.sub hs) (Paired.app pu pv) hn k⟩) ha hb
theorem de_rep (ha : DE X a wa) (hb : DE X b wb) : DE X (.BinOp a .Mult b pos) (wOp wRep wa wb) := de_op op_rep (fun M H cs x y a b P Q o rx ry ⟨p, k, xs, cs', ea, eb, h1, h2, h3, hz, hs, hn⟩ kk => by
  subst ea eb
  obtain ⟨us, hu, pu⟩ := cell_lst o h1
  exact ⟨p, k, us, rx, inv_int ry, hu, h2, h3, by rw [Paired.len pu]; exact size_line hz, newL_ok (o.sub hs) (paired_rep pu _) hn kk⟩) ha hb
end
/-! ### isinstance -/
inductive Ty where
  | non | bool | int | str | list | tuple | dict
  deriving DecidableEq
def Ty.nm : Ty → String
  | .non => "NoneType"
  | .bool => "bool"
  | .int => "int"
  | .str => "str"
  | .list => "list"
  | .tuple => "tuple"
  | .dict => "dict"
def isiT : Ty → Ty → Bool
  | .bool, .int => true
  | a, b => decide (a = b)
theorem kit_isi (a b : Ty) : kitB a.nm b.nm = some (isiT a b) := by cases a <;> cases b <;> decide +kernel
def coTy : Option CO → Option Ty
  | some (.lst _) => some .list
  | some (.dk _) => some .dict
  | some (.dt _) => some .dict
  | _ => none
def tyD (cs : Cells) : Vl → Option Ty
  | .dat .non => some .non
  | .dat (.bl _) => some .bool
  | .dat (.int _) => some .int
  | .dat (.str _) => some .str
  | .dat (.lst _) => some .list
  | .dat (.tup _) => some .tuple
  | .dat (.obj _ _) => none
  | .raw (.ref a) => coTy (cs a)
  | .raw _ => none
theorem tyX_list {K : Frag} {H : Hp} {a : Addr} {xs : List V} (h : SqL K H a xs) : TyX K H (.ref a) (.type "list") := by
  rcases h with (h | ⟨o, h⟩) | ⟨o, its, n, hk, hc, _⟩
  · exact .base (.lst h)
  · exact .base (.frz h)
  · exact .kList hk hc
theorem tyX_tup {K : Frag} {H : Hp} {a : Addr} {xs : List V} (h : SqT K H a xs) : TyX K H (.ref a) (.type "tuple") := by
  rcases h with (h | ⟨o, h⟩) | ⟨o, its, n, hk, hc, _⟩
  · exact .base (.tup h)
  · exact .fTuple h
  · exact .kTuple hk hc
theorem tyD_ok {K : Frag} {M H : Hp} {cs : Cells} {v : V} {x : Vl} {t : Ty} (o : Ok K M H cs) (r : RV K M v x) (h : tyD cs x = some t) : TyX K H v (.type t.nm) := by
  match x, r, h with
  | .dat .non, r, h => cases h; rw [inv_non r]; exact .base .non
  | .dat (.bl b), r, h => cases h; rw [inv_bl r]; exact .base (.bl b)
  | .dat (.int b), r, h => cases h; rw [inv_int r]; exact .base (.int b)
  | .dat (.str b), r, h => cases h; rw [inv_str r]; exact .base (.str b)
  | .dat (.lst ds), r, h =>
    cases h
    cases (show Dr K M v (.lst ds) from r) with
    | lst q k => exact tyX_list (o.seqL q)
  | .dat (.tup ds), r, h =>
    cases h
    cases (show Dr K M v (.tup ds) from r) with
    | tup q k => exact tyX_tup (o.seqT q)
  | .raw (.ref a), r, h =>
    cases (show v = .ref a from r)
    have h : coTy (cs a) = some t := h
    cases q : cs a with
    | none => rw [q] at h; cases h
    | some c =>
      rw [q] at h
      obtain ⟨_, u, hu, z⟩ := o.cell a _ q
      cases c with
      | lst ys =>
        cases h
        cases u <;> try exact (show False from z).elim
        exact .base (.lst hu)
      | dk ys =>
        cases h
        cases u <;> try exact (show False from z).elim
        exact .base (.dK hu)
      | dt ys =>
        cases h
        cases u <;> try exact (show False from z).elim
        exact .base (.dT hu)
      | ins C fs => cases h
      | lk o' u' ys => cases h
def wIsi (T : Ty) (we : WE) : WE := fun ρ cs P => we ρ cs fun x cs1 => ∃ t, tyD cs1 x = some t ∧ P (.dat (.bl (isiT t T))) cs1
def wIsi2 (T U : Ty) (we : WE) : WE := fun ρ cs P => we ρ cs fun x cs1 => ∃ t, tyD cs1 x = some t ∧ P (.dat (.bl (isiT t T || isiT t U))) cs1
section
variable {X : Cx} {a b c e o : Expr} {es : List Expr} {wa wb wc we wo : WE} {w u : WT} {wr : WA} {pos : Pos}
theorem de_isi (T : Ty) {tn : Str} {p pt : Pos} (hm : X.mg "isinstance" = none) (ht : X.mg tn = none) (hv : bootBuiltins tn = some (.type T.nm)) (h : DE X e we) (hg : Gl X "isinstance" := by rfl) (hgt : Gl X tn := by rfl) (hn : tn ≠ "__name__" := by decide) (hd : (tn == ("__debug__" : Str)) = false := by decide)
    (h1 : starEach [e, .Name tn pt] X.env = (false, eval e X.env) :: starEach [.Name tn pt] X.env := by rfl) (h2 : starEach [.Name tn pt] X.env = (false, eval (.Name tn pt) X.env) :: starEach [] X.env := by rfl)
    (hpl : (backTo pos (starEach [.Name tn pt] X.env)).any (·.1) = false := by rfl) :
    DE X (.Call (.Name "isinstance" p) [e, .Name tn pt] [] pos) (wIsi T we) :=
  pe_imp (pe_callB call_isi hg hm (by decide +kernel) (pa_cons h (pa_cons (pe_bltn (v := .ty T.nm) hgt ht hv rfl hn hd) pa_nil h2) h1) (by decide) (by decide) h1 hpl) fun σ H Q ⟨M, ρ, cs, P, o, r0, p, k⟩ => by
    refine ⟨M, ρ, cs, _, o, r0, p, fun v x M1 H1 cs1 s1 o1 r1 ⟨t, htt, p1⟩ => ?_⟩
    exact ⟨v, .ty T.nm, .type t.nm, .type T.nm, _, rfl, .ty _, tyD_ok o1 r1 htt, kit_ty (kit_isi t T), k _ _ M1 H1 cs1 s1 o1 (rv_dat (.bl _)) p1⟩
theorem de_isi2 (T U : Ty) {tn un : Str} {p pt pu ptt : Pos} {kk : Nat} (hm : X.mg "isinstance" = none) (ht : X.mg tn = none) (hu : X.mg un = none) (hv : bootBuiltins tn = some (.type T.nm)) (hvu : bootBuiltins un = some (.type U.nm)) (h : DE X e we)
    (hg : Gl X "isinstance" := by rfl) (hgt : Gl X tn := by rfl) (hgu : Gl X un := by rfl) (hn : tn ≠ "__name__" := by decide) (hd : (tn == ("__debug__" : Str)) = false := by decide) (hnu : un ≠ "__name__" := by decide) (hdu : (un == ("__debug__" : Str)) = false := by decide)
    (h1 : starEach [e, .Tuple [.Name tn pt, .Name un pu] kk ptt] X.env = (false, eval e X.env) :: starEach [.Tuple [.Name tn pt, .Name un pu] kk ptt] X.env := by rfl)
    (h2 : starEach [.Tuple [.Name tn pt, .Name un pu] kk ptt] X.env = (false, eval (.Tuple [.Name tn pt, .Name un pu] kk ptt) X.env) :: starEach [] X.env := by rfl)
    (h3 : starEach [.Name tn pt, .Name un pu] X.env = (false, eval (.Name tn pt) X.env) :: starEach [.Name un pu] X.env := by rfl) (h4 : starEach [.Name un pu] X.env = (false, eval (.Name un pu) X.env) :: starEach [] X.env := by rfl)
    (hpl : (backTo pos (starEach [.Tuple [.Name tn pt, .Name un pu] kk ptt] X.env)).any (·.1) = false := by rfl) :
    DE X (.Call (.Name "isinstance" p) [e, .Tuple [.Name tn pt, .Name un pu] kk ptt] [] pos) (wIsi2 T U we) :=
  pe_imp (pe_callB call_isiT hg hm (by decide +kernel) (pa_cons h (pa_cons (pe_tup (pa_cons (pe_bltn (v := .ty T.nm) hgt ht hv rfl hn hd) (pa_cons (pe_bltn (v := .ty U.nm) hgu hu hvu rfl hnu hdu) pa_nil h4) h3)) pa_nil h2) h1) (by decide) (by decide) h1 hpl) fun σ H Q ⟨M, ρ, cs, P, o, r0, p, k⟩ => by
    refine ⟨M, ρ, cs, _, o, r0, p, fun v x M1 H1 cs1 s1 o1 r1 ⟨t, htt, p1⟩ => ?_⟩
    refine ⟨by show 2 ≤ sizeLine; decide, fun q hq => ?_⟩
    obtain ⟨s2, o2⟩ := o1.newM hq (.tup [.ty T.nm, .ty U.nm])
    refine ⟨v, q, [.ty T.nm, .ty U.nm], .type t.nm, [.type T.nm, .type U.nm], _, rfl, upd_same, .cons (.ty _) (.cons (.ty _) .nil), tyD_ok o2 (r1.mono s2) htt, ?_, k _ _ _ _ cs1 (s1.trans s2) o2 (rv_dat (.bl (isiT t T || isiT t U))) p1⟩
    refine kitAny_cons (kit_ty (kit_isi t T)) (fun hf => ?_) (fun hf => by rw [hf]; rfl)
    refine kitAny_cons (kit_ty (kit_isi t U)) (fun hg => ?_) (fun hg => by rw [hg, Bool.or_true])
    rw [hf, hg]; rfl
end
end DL
set_option maxRecDepth 100000
set_option maxHeartbeats 4000000
namespace DL
open PySem L2
/-! ### list comprehensions -/
def wYes : WT := fun _ cs P => P true cs
def DTs (X : Cx) (ifs : List Expr) (w : WT) : Prop := PTs X ifs (liftT X.K w)
theorem pts_imp {X : Cx} {ifs : List Expr} {t t' : TT} (h : PTs X ifs t) (m : ∀ σ H Q, t' σ H Q → t σ H Q) : PTs X ifs t' := ⟨fun pins s σ H Q I q => h.run pins s σ H Q I (m σ H Q q)⟩
theorem dts_nil {X : Cx} : DTs X [] wYes := pts_imp pts_nil fun σ H Q ⟨M, ρ, cs, P, o, r, p, k⟩ => k true M H cs (Same.refl _) o p
theorem dts_one {X : Cx} {c : Expr} {w : WT} (h : DT X c w) : DTs X [c] w := pts_one h
def wipeD (ρ : DEnv) : List Nat → DEnv
  | [] => ρ
  | v :: vs => (wipeD ρ vs).set v none
theorem wipeD_len (ρ : DEnv) : ∀ vs, (wipeD ρ vs).length = ρ.length
  | [] => rfl
  | v :: vs => by unfold wipeD; rw [List.length_set, wipeD_len ρ vs]
theorem Rho.wipe {K : Frag} {M : Hp} {σ : St} {ρ : DEnv} (r : Rho K M σ ρ) : ∀ vs, Rho K M (L2.wipe σ vs) (wipeD ρ vs)
  | [] => r
  | v :: vs => by
    have ih := Rho.wipe r vs
    unfold L2.wipe wipeD
    refine ⟨by rw [List.length_set, List.length_set]; exact ih.len, fun i x e => ?_⟩
    by_cases h : v = i
    · subst h
      by_cases hl : v < (wipeD ρ vs).length
      · rw [List.getElem?_set_self hl] at e; cases e
      · rw [List.getElem?_eq_none (by rw [List.length_set]; omega)] at e; cases e
    · rw [List.getElem?_set_ne h] at e
      obtain ⟨u, hu, ru⟩ := ih.at_ i x e
      exact ⟨u, by rw [List.getElem?_set_ne h]; exact hu, ru⟩
theorem wipe_get {σ : St} {i : Nat} : ∀ vs : List Nat, i ∉ vs → (L2.wipe σ vs)[i]? = σ[i]?
  | [], _ => rfl
  | v :: vs, h => by
    unfold L2.wipe
    rw [List.getElem?_set_ne (by intro z; exact h (by simp [z])), wipe_get vs (fun z => h (by simp [z]))]
theorem wipe_in {σ : St} {i : Nat} (hi : i < σ.length) : ∀ vs : List Nat, i ∈ vs → (L2.wipe σ vs)[i]? = some none
  | v :: vs, h => by
    unfold L2.wipe
    by_cases hv : v = i
    · subst hv
      rw [List.getElem?_set_self (by rw [wipe_length]; exact hi)]
    · rw [List.getElem?_set_ne hv]
      exact wipe_in hi vs (by
        rcases List.mem_cons.mp h with z | z
        · exact absurd z.symm hv
        · exact z)
theorem wipe_eq {σ σ2 : St} {vs js : List Nat} (hl : σ2.length = (L2.wipe σ vs).length) (hj : ∀ i, i ∉ js → σ2[i]? = (L2.wipe σ vs)[i]?) (hs : ∀ i ∈ js, i ∈ vs) : L2.wipe σ2 vs = L2.wipe σ vs := by
  rw [wipe_length] at hl
  refine List.ext_getElem? fun i => ?_
  by_cases hi : i < σ.length
  · by_cases hv : i ∈ vs
    · rw [wipe_in (by omega) vs hv, wipe_in hi vs hv]
    · rw [wipe_get vs hv, hj i (fun z => hv (hs i z))]
  · rw [List.getElem?_eq_none (by rw [wipe_length]; omega), List.getElem?_eq_none (by rw [wipe_length]; omega)]
/-- the new list: a cell, or data for ever -/
def doneL (D : Addr) (acc : List Vl) (cs : Cells) (P : Vl → Cells → Prop) : Prop := P (.cell D) cs ∨ ∃ ds, allDat acc = some ds ∧ P (.dat (.lst ds)) (cs.del D)
theorem Ok.frz {K : Frag} {M H : Hp} {cs : Cells} {a : Addr} {ds : List Dat} (o : Ok K M H cs) (h : cs a = some (.lst (ds.map .dat))) : ∃ M', Same M M' ∧ Ok K M' H (cs.del a) ∧ Dr K M' (.ref a) (.lst ds) := by
  obtain ⟨ys, hy, py⟩ := cell_lst o h
  obtain ⟨m0, _⟩ := o.cell a _ h
  have s : Same M (upd M a (.lst ys)) := same_upd m0
  refine ⟨_, s, ⟨fun b ob e => ?_, fun b c e => ?_⟩, .lst (.inl (.inl upd_same)) ((DrAll.of_paired py).mono s)⟩
  · by_cases hb : b = a
    · rw [hb] at e ⊢; rw [upd_same] at e; cases e; exact hy
    · rw [upd_ne hb] at e; exact o.ex b ob e
  · have hb : b ≠ a := by intro z; simp [Cells.del, z] at e
    have e' : cs b = some c := by simpa [Cells.del, hb] using e
    obtain ⟨m, ob, q, r⟩ := o.cell b c e'
    exact ⟨by rw [upd_ne hb]; exact m, ob, q, r.mono s⟩
def wLc (wi : WI) (g : WG) (wt : WT) (we : WE) (vs : List Nat) : WE := fun ρ cs P => wi ρ cs fun items G cs1 => ∀ D, cs1 D = none → ∃ Inv : Nat → Cells → Prop, Inv 0 (cs1.put D (.lst [])) ∧ (∀ i cs', i ≤ items.length → Inv i cs' → G cs') ∧
  (∀ i x cs', items[i]? = some x → Inv i cs' → g x (wipeD ρ vs) cs' fun ρ2 cs2 => wt ρ2 cs2 fun b cs3 => if b = true then we ρ2 cs3 fun y cs4 => ∃ acc, cs4 D = some (.lst acc) ∧ acc.length < 16777216 ∧ Inv (i + 1) (cs4.put D (.lst (acc ++ [y]))) else Inv (i + 1) cs3) ∧
  ∀ cs', Inv items.length cs' → ∃ acc, cs' D = some (.lst acc) ∧ doneL D acc cs' P
theorem liftLc {K : Frag} {wi : WI} {g : WG} {wt : WT} {we : WE} {vs js : List Nat} (hs : ∀ i ∈ js, i ∈ vs) {σ : St} {H : Hp} {Q : VK} (h : lift K (wLc wi g wt we vs) σ H Q) : tLc (liftI K wi) (liftG K js g) (liftT K wt) (lift K we) vs σ H Q := by
  obtain ⟨M, ρ, cs, P, o, r, p, k⟩ := h
  refine ⟨M, ρ, cs, _, o, r, p, fun J items G M1 H1 cs1 s1 o1 it p1 => ?_⟩
  intro D hD
  obtain ⟨Iv, i0, iG, turn, fin⟩ := p1 D (o1.freeC hD)
  refine ⟨fun i m H' => m = items.length - i ∧ i ≤ items.length ∧ ∃ M' cs', Same M1 M' ∧ Ok K M' H' cs' ∧ Iv i cs', ⟨items.length, by simp, Nat.zero_le _, M1, _, Same.refl _, o1.newC hD (u := .lst []) (c := .lst []) .nil, i0⟩, ?_⟩
  rintro i m H' ⟨rfl, hi, M', cs', s', o', inv⟩
  have g' := iG i cs' hi inv
  by_cases hlt : i < items.length
  · refine .inr ⟨it.go i M' H' cs' s' o' g' hlt, fun H2 => ∃ M2 cs2, Same M1 M2 ∧ Ok K M2 H2 cs2 ∧ Iv (i + 1) cs2, fun H2 q => ⟨_, by omega, rfl, hlt, q⟩, fun v H2 y => ?_⟩
    obtain ⟨M2, x, ex, s2, o2, rv⟩ := it.yld i M' H' cs' v H2 s' o' g' y hlt
    refine ⟨M2, wipeD ρ vs, cs', x, _, o2, ((r.mono (s1.trans (s'.trans s2))).wipe vs), rv, turn i x cs' ex inv, fun σ3 ρ3 M3 H3 cs3 s3 o3 r3 hl3 hj3 p3 => ?_⟩
    refine ⟨wipe_eq hl3 hj3 hs, M3, ρ3, cs3, _, o3, r3, p3, fun b M4 H4 cs4 s4 o4 p4 => ?_⟩
    cases b with
    | true =>
      refine iteT ?_
      refine ⟨M4, ρ3, cs4, _, o4, r3.mono s4, (show we ρ3 cs4 fun y cs4 => ∃ acc, cs4 D = some (.lst acc) ∧ acc.length < 16777216 ∧ Iv (i + 1) (cs4.put D (.lst (acc ++ [y]))) by simpa using p4), fun v5 y5 M5 H5 cs5 s5 o5 r5 ⟨acc, hacc, hz, p5⟩ => ?_⟩
      obtain ⟨ys, hy, py⟩ := cell_lst o5 hacc
      exact ⟨ys, hy, by rw [Paired.len py]; exact size_lt hz, M5, _, s'.trans (s2.trans (s3.trans (s4.trans s5))), o5.setC hacc (c := .lst (acc ++ [y5])) (Paired.app py (.cons r5 .nil)), p5⟩
    | false =>
      refine iteF ?_
      exact ⟨M4, cs4, s'.trans (s2.trans (s3.trans s4)), o4, by simpa using p4⟩
  · have ei : i = items.length := by omega
    subst ei
    refine .inl ⟨it.stop M' H' cs' s' o' g', ?_⟩
    obtain ⟨acc, hacc, q⟩ := fin cs' inv
    rcases q with q | ⟨ds, hd, q⟩
    · exact k _ _ M' H' cs' (s1.trans s') o' rv_raw q
    · rw [allDat_eq hd] at hacc
      obtain ⟨M2, s2, o2, rd⟩ := o'.frz hacc
      exact k _ _ M2 H' _ (s1.trans (s'.trans s2)) o2 (rv_dat rd) q
section
variable {X : Cx} {elt tg iter : Expr} {ifs : List Expr} {scope : Scope} {own : List (Str × Nat)} {pos : Pos} {wi : WI} {g : WG} {wt : WT} {we : WE} {js : List Nat}
theorem de_lc (hN : X.N.Nodup) (hi : DI X tg iter wi) (ok : BlkOk X.N X.env.scope scope own)
    (hg : ∀ (s : Shared) (H : Hp) (C : Addr) (cl : List (Str × Addr)) (fp : List Addr), DG (X.blk s H scope (compEnvC scope cl C X.env) fp) js tg g) (ht : ∀ (s : Shared) (H : Hp) (C : Addr) (cl : List (Str × Addr)) (fp : List Addr), DTs (X.blk s H scope (compEnvC scope cl C X.env) fp) ifs wt)
    (he : ∀ (s : Shared) (H : Hp) (C : Addr) (cl : List (Str × Addr)) (fp : List Addr), DE (X.blk s H scope (compEnvC scope cl C X.env) fp) elt we) (hj : ∀ i ∈ js, i ∈ own.map (·.2)) (hc : X.calm = true := by rfl) (hs : ∀ x, foldedSetIterable iter X.env x = pure x := by intro _; rfl) :
    DE X (.ListComp elt [⟨tg, iter, ifs, 0⟩] scope pos) (wLc wi g wt we (own.map (·.2))) := pe_imp (pe_lc (wi := liftI X.K wi) (g := liftG X.K js g) (tt := liftT X.K wt) (te := lift X.K we) hc hN hi ok hg ht he hs) fun _ _ _ h => liftLc hj h
theorem ds_setLc {i : Nat} {y : Str} {py spos : Pos} (hN : X.N.Nodup) (hi : DI X tg iter wi) (ok : BlkOk X.N X.env.scope scope own)
    (hg : ∀ (s : Shared) (H : Hp) (C : Addr) (cl : List (Str × Addr)) (fp : List Addr), DG (X.blk s H scope (compEnvC scope cl C X.env) fp) js tg g) (ht : ∀ (s : Shared) (H : Hp) (C : Addr) (cl : List (Str × Addr)) (fp : List Addr), DTs (X.blk s H scope (compEnvC scope cl C X.env) fp) ifs wt)
    (he : ∀ (s : Shared) (H : Hp) (C : Addr) (cl : List (Str × Addr)) (fp : List Addr), DE (X.blk s H scope (compEnvC scope cl C X.env) fp) elt we) (hj : ∀ i ∈ js, i ∈ own.map (·.2))
    (hsw : swapsWith (.ListComp elt [⟨tg, iter, ifs, 0⟩] scope pos) (some (.Name y py)) spos.line X.env = pure true) (hy : X.N[i]? = some y := by rfl) (hyl : X.env.scope.names.lookup y = some .local := by rfl) (hc : X.calm = true := by rfl) (hs : ∀ x, foldedSetIterable iter X.env x = pure x := by intro _; rfl) :
    DS X (.Assign [.Name y py] (.ListComp elt [⟨tg, iter, ifs, 0⟩] scope pos) spos) (wAsg (wLc wi g wt we (own.map (·.2))) (gN i)) :=
  ps_imp (ps_setLc (wi := liftI X.K wi) (g := liftG X.K js g) (tt := liftT X.K wt) (te := lift X.K we) hc hN hy hyl hsw hi ok hg ht he hs) fun E σ H ⟨M, ρ, cs, D, o, r, h, e⟩ => liftLc hj ⟨M, ρ, cs, _, o, r, h, fun v x M' H' cs' s o' rv p => e.nx _ _ M' H' cs' s o' ((r.mono s).set rv) p⟩
end
/-! ### defs -/
abbrev DXP := Value → List (Str × Vl) → Cells → Prop
abbrev DSp := List Vl → Cells → (Vl → Cells → Prop) → DXP → Prop
def XRep (K : Frag) (M : Hp) : Option Addr → List (Str × Vl) → Prop
  | none, fs => fs = []
  | some d, fs => ∃ gs, M d = some (.xd gs) ∧ Paired (fun (p : Str × V) (q : Str × Vl) => p.1 = q.1 ∧ RV K M p.2 q.2) gs fs
def KontX (K : Frag) (M : Hp) (XP : DXP) (E : XK) : Prop := ∀ cls od fs M' H' cs', Same M M' → Ok K M' H' cs' → XRep K M' od fs → XP cls fs cs' → E cls od H'
theorem KontX.mono {K : Frag} {M M' : Hp} {P : DXP} {E : XK} (s : Same M M') (k : KontX K M P E) : KontX K M' P E := fun v x fs M2 H2 cs2 s2 o r p => k v x fs M2 H2 cs2 (s.trans s2) o r p
abbrev X0 : DXP := fun _ _ _ => False
def liftSp (K : Frag) (dsp : DSp) : Sp := fun vs H Q E => ∃ M xs cs P XP, Ok K M H cs ∧ Paired (RV K M) vs xs ∧ dsp xs cs P XP ∧ Kont K M P Q ∧ KontX K M XP E
/-- what stands may be seen otherwise: cells dropped, a list of data frozen -/
def Gh (K : Frag) (v : Vl) (cs : Cells) (v' : Vl) (cs' : Cells) : Prop := ∀ M H x, Ok K M H cs → RV K M x v → ∃ M', Same M M' ∧ Ok K M' H cs' ∧ RV K M' x v'
theorem Gh.refl (K : Frag) (v : Vl) (cs : Cells) : Gh K v cs v cs := fun M _ _ o r => ⟨M, Same.refl _, o, r⟩
theorem Gh.sub {K : Frag} {v : Vl} {cs cs' : Cells} (h : SubC cs' cs) : Gh K v cs v cs' := fun M _ _ o r => ⟨M, Same.refl _, o.sub h, r⟩
theorem Gh.frz {K : Frag} {a : Addr} {cs : Cells} {ds : List Dat} (h : cs a = some (.lst (ds.map .dat))) : Gh K (.cell a) cs (.dat (.lst ds)) (cs.del a) := fun M H x o r => by
  obtain ⟨M', s, o', rd⟩ := o.frz h
  have e : x = .ref a := r
  rw [e]
  exact ⟨M', s, o', rv_dat rd⟩
theorem Gh.trans {K : Frag} {v v' v'' : Vl} {cs cs' cs'' : Cells} (h : Gh K v cs v' cs') (h' : Gh K v' cs' v'' cs'') : Gh K v cs v'' cs'' := fun M H x o r => by
  obtain ⟨M', s, o', r'⟩ := h M H x o r
  obtain ⟨M2, s2, o2, r2⟩ := h' M' H x o' r'
  exact ⟨M2, s.trans s2, o2, r2⟩
def GhK (K : Frag) (P : Vl → Cells → Prop) : Vl → Cells → Prop := fun v cs => ∃ v' cs', Gh K v cs v' cs' ∧ P v' cs'
theorem GhK.now {K : Frag} {P : Vl → Cells → Prop} {v : Vl} {cs : Cells} (h : P v cs) : GhK K P v cs := ⟨v, cs, .refl K v cs, h⟩
theorem GhK.drop {K : Frag} {P : Vl → Cells → Prop} {v : Vl} {cs cs' : Cells} (hs : SubC cs' cs) (h : P v cs') : GhK K P v cs := ⟨v, cs', .sub hs, h⟩
theorem Kont.gh {K : Frag} {M : Hp} {P : Vl → Cells → Prop} {Q : VK} (k : Kont K M P Q) : Kont K M (GhK K P) Q := fun v x M' H' cs' s o r ⟨x2, cs2, gh, p⟩ => by
  obtain ⟨M2, s2, o2, r2⟩ := gh M' H' v o r
  exact k v x2 M2 H' cs2 (s.trans s2) o2 r2 p
def retE (K : Frag) (P : Vl → Cells → Prop) : DEnds := { nx := fun _ cs => GhK K P (.dat .non) cs, rt := GhK K P }
def startD (n : Nat) (xs : List Vl) : DEnv := xs.map some ++ List.replicate (n - xs.length) none
theorem start_rho {K : Frag} {M : Hp} {N : List Str} {vs : List V} {xs : List Vl} (h : Paired (RV K M) vs xs) : Rho K M (L2.start N vs) (startD N.length xs) := by
  unfold L2.start startD
  have hl := Paired.len h
  refine ⟨by rw [List.length_append, List.length_append, List.length_map, List.length_map, List.length_replicate, List.length_replicate, hl], fun i x e => ?_⟩
  by_cases hi : i < xs.length
  · rw [List.getElem?_append_left (by rw [List.length_map]; exact hi), List.getElem?_map] at e
    cases q : xs[i]? with
    | none => rw [q] at e; cases e
    | some y =>
      rw [q] at e
      cases e
      obtain ⟨v, hv, rv⟩ := Paired.getR h q
      exact ⟨v, by rw [List.getElem?_append_left (by rw [List.length_map]; omega), List.getElem?_map, hv]; rfl, rv⟩
  · rw [List.getElem?_append_right (by rw [List.length_map]; omega), List.getElem?_replicate] at e
    split at e <;> cases e
/-- a def of the text, called by its name -/
structure DOk (P : Program) (w : World) (K : Frag) (mg : Str → Option Value) (base : Heap) (CX : CXT) (x : Str) (ps : List Str) (k : Nat) (dsp : DSp) : Prop where
  ex : ∃ f fd, FnOk P w K mg base CX k f fd ps (liftSp K dsp) ∧ mg x = some (.ref f) ∧ PySem.W.keepIn K (.ref f) = true ∧ Binds K fd ps []
theorem fn_dataF {P : Program} {w : World} {K : Frag} {mg : Str → Option Value} {base : Heap} {x : Str} {st : Stmt} {f : Addr} {fd : FuncData} {N ps : List Str} {k : Nat} {dsp : DSp} {ws : WS} (F : Fun K x x st f fd) (S : FnScope N ps (defScope st))
    (len : ∀ xs cs Q XP, dsp xs cs Q XP → xs.length = ps.length)
    (body : ∀ (cdv : Value) (A : Around) (outer : List Env) (s : Shared) (H : Hp) (E : XK), Room k (A.deeper (PyProof.Rows.envOfC x (defScope st) s.heap.objs.size f cdv)) → DSs (cxOf CX0 P w K mg base N x (defScope st) f cdv A outer s H E).nox (defBody st) ws)
    (pure : ∀ xs cs Q XP, dsp xs cs Q XP → ws (retE K Q) (startD N.length xs) cs) : FnOk P w K mg base CX0 (k + 1) f fd ps (liftSp K dsp) := by
  refine F.ok S (fun vs H Q E ⟨M, xs, cs, P', XP, o, r, d, _⟩ => (Paired.len r).trans (len xs cs P' XP d)) (fun cdv A outer s H vs Q E hr ⟨M, xs, cs, P', XP, o, r, d, kk, _⟩ => ⟨_, body cdv A outer s H E hr, ?_⟩)
  exact ⟨M, startD N.length xs, cs, retE K P', o, start_rho r, pure xs cs P' XP d, ⟨fun σ' ρ' M' H' cs' s o' _ p => kk.gh _ _ M' H' cs' s o' (rv_dat .non) p, kk.gh, fun _ _ _ _ _ _ _ _ p => p.elim, fun _ _ _ _ _ _ _ _ p => p.elim⟩⟩
theorem fn_dataQ {P : Program} {w : World} {K : Frag} {mg : Str → Option Value} {base : Heap} {x qual : Str} {st : Stmt} {f : Addr} {fd : FuncData} {N ps : List Str} {k : Nat} {dsp : DSp} {ws : WS} (F : Fun K x qual st f fd) (S : FnScope N ps (defScope st))
    (len : ∀ xs cs Q XP, dsp xs cs Q XP → xs.length = ps.length)
    (body : ∀ (cdv : Value) (A : Around) (outer : List Env) (s : Shared) (H : Hp) (E : XK), Room k (A.deeper (PyProof.Rows.envOfC qual (defScope st) s.heap.objs.size f cdv)) → DSs (cxOf CX0 P w K mg base N qual (defScope st) f cdv A outer s H E).nox (defBody st) ws)
    (pure : ∀ xs cs Q XP, dsp xs cs Q XP → ws (retE K Q) (startD N.length xs) cs) : FnOk P w K mg base CX0 (k + 1) f fd ps (liftSp K dsp) := by
  refine F.ok S (fun vs H Q E ⟨M, xs, cs, P', XP, o, r, d, _⟩ => (Paired.len r).trans (len xs cs P' XP d)) (fun cdv A outer s H vs Q E hr ⟨M, xs, cs, P', XP, o, r, d, kk, _⟩ => ⟨_, body cdv A outer s H E hr, ?_⟩)
  exact ⟨M, startD N.length xs, cs, retE K P', o, start_rho r, pure xs cs P' XP d, ⟨fun σ' ρ' M' H' cs' s o' _ p => kk.gh _ _ M' H' cs' s o' (rv_dat .non) p, kk.gh, fun _ _ _ _ _ _ _ _ p => p.elim, fun _ _ _ _ _ _ _ _ p => p.elim⟩⟩
theorem fn_data {P : Program} {w : World} {K : Frag} {mg : Str → Option Value} {base : Heap} {x : Str} {st : Stmt} {f : Addr} {fd : FuncData} {N ps : List Str} {k : Nat} {dsp : DSp} {ws : WS} (F : Fun K x x st f fd) (S : FnScope N ps (defScope st)) (hm : mg x = some (.ref f)) (hb : Binds K fd ps [])
    (len : ∀ xs cs Q XP, dsp xs cs Q XP → xs.length = ps.length)
    (body : ∀ (cdv : Value) (A : Around) (outer : List Env) (s : Shared) (H : Hp) (E : XK), Room k (A.deeper (PyProof.Rows.envOfC x (defScope st) s.heap.objs.size f cdv)) → DSs (cxOf CX0 P w K mg base N x (defScope st) f cdv A outer s H E).nox (defBody st) ws)
    (pure : ∀ xs cs Q XP, dsp xs cs Q XP → ws (retE K Q) (startD N.length xs) cs) : DOk P w K mg base CX0 x ps (k + 1) dsp := ⟨f, fd, fn_dataF F S len body pure, hm, F.kp, hb⟩
theorem never_data {P : Program} {w : World} {K : Frag} {mg : Str → Option Value} {base : Heap} {x : Str} {st : Stmt} {f : Addr} {fd : FuncData} {ps : List Str} {k : Nat} (F : Fun K x x st f fd) (hm : mg x = some (.ref f)) (hb : Binds K fd ps []) : DOk P w K mg base CX0 x ps k (fun _ _ _ _ => False) :=
  ⟨f, fd, ⟨fun _ _ _ _ ⟨_, _, _, _, _, _, _, h, _⟩ => h.elim, fun _ _ _ _ _ _ _ _ _ _ _ _ _ ⟨_, _, _, _, _, _, _, h, _⟩ => h.elim⟩, hm, F.kp, hb⟩
/-- the law's own promise -/
def spLaw (K : Frag) : Sp := fun vs H Q _ => ∃ (a : Addr) (ns : List Int), vs = [.ref a] ∧ SqL K H a (ns.map V.int) ∧ ns.length ≤ 63 ∧ ∀ H', Q (.bl true) H'
theorem law_imp {K : Frag} {dsp : DSp} (h : ∀ (ns : List Int) cs Q XP, ns.length ≤ 63 → (∀ cs', Q (.dat (.bl true)) cs') → dsp [.dat (.lst (ns.map .int))] cs Q XP) : ∀ vs H Q E, spLaw K vs H Q E → liftSp K dsp vs H Q E := by
  rintro vs H Q E ⟨a, ns, rfl, hS, hl, k⟩
  have hd : DrAll K H (ns.map V.int) (ns.map Dat.int) := by
    clear hS hl
    induction ns with
    | nil => exact .nil
    | cons n r ih => exact .cons (.int n) ih
  refine ⟨H, [.dat (.lst (ns.map .int))], fun _ => none, fun v _ => v = .dat (.bl true), X0, ⟨Same.refl _, fun _ _ e => by cases e⟩, .cons (.lst hS hd) .nil, h ns _ _ _ hl (fun _ => rfl), ?_, fun _ _ _ _ _ _ _ _ _ z => z.elim⟩
  intro v x M' H' cs' _ _ r p
  subst p
  rw [inv_bl r]
  exact k H'
def wCall (dsp : DSp) (wr : WA) : WE := fun ρ cs P => wr ρ cs fun xs cs1 => dsp xs cs1 P X0
theorem de_call {X : Cx} {x : Str} {ps : List Str} {k : Nat} {dsp : DSp} {p pos : Pos} {e : Expr} {es : List Expr} {wr : WA} (G : DOk X.prog X.w X.K X.mg X.base CX0 x ps k dsp) (hr : Room k X.A) (ha : DA X (e :: es) wr) (hg : Gl X x := by rfl)
    (hdb : (x == ("__debug__" : Str)) = false := by decide) (he : starEach (e :: es) X.env = (false, eval e X.env) :: starEach es X.env := by rfl) (hpl : (backTo pos (starEach es X.env)).any (·.1) = false := by rfl) :
    DE X (.Call (.Name x p) (e :: es) [] pos) (wCall dsp wr) := by
  obtain ⟨f, fd, F, hm, hk, hb⟩ := G.ex
  refine pe_imp (pe_call F hr hg hm hk hb .nil pass0 ha hdb he hpl) fun σ H Q ⟨M, ρ, cs, P, o, r0, p, kk⟩ => ?_
  refine ⟨M, ρ, cs, _, o, r0, p, fun vs xs M1 H1 cs1 s1 o1 r1 p1 => ?_⟩
  show liftSp X.K dsp (vs ++ []) H1 Q E0
  rw [List.append_nil]
  exact ⟨M1, xs, cs1, P, X0, o1, r1, p1, kk.mono s1, fun _ _ _ _ _ _ _ _ _ z => z.elim⟩
theorem de_gintE {X : Cx} {x : Str} {i : Int} {pos : Pos} (hm : ∃ t, X.mg x = some (.int i t)) (hg : Gl X x := by rfl) (hd : (x == ("__debug__" : Str)) = false := by decide) : DE X (.Name x pos) (wC (.int i)) := by
  obtain ⟨t, ht⟩ := hm
  exact de_gint ht hg hd
end DL
set_option maxRecDepth 100000
set_option maxHeartbeats 4000000
namespace DL
open PySem L2
/-! ### == over data: plain data of bounded depth -/
def Dat.lv : Nat → Dat → Prop
  | _, .non => True
  | _, .bl _ => False
  | _, .int _ => True
  | _, .str x => PyData.strOk x = true
  | 0, .lst _ => False
  | 0, .tup _ => False
  | n + 1, .lst xs => xs.length ≤ 16777216 ∧ ∀ x ∈ xs, Dat.lv n x
  | n + 1, .tup xs => xs.length ≤ 16777216 ∧ ∀ x ∈ xs, Dat.lv n x
  | _, .obj _ _ => False
theorem pys_lv {n : Nat} (ih : ∀ d : Dat, d.lv n → ∃ p, d.py = some p ∧ p.canLay0 = true ∧ p.depth ≤ n + 1) : ∀ xs : List Dat, (∀ x ∈ xs, x.lv n) → ∃ ps, Dat.pys xs = some ps ∧ PyData.canLayAll0 ps = true ∧ PyData.depthAll ps ≤ n + 1
  | [], _ => ⟨[], rfl, rfl, Nat.zero_le _⟩
  | x :: xs, h => by
    obtain ⟨p, e1, c1, d1⟩ := ih x (h x (by simp))
    obtain ⟨ps, e2, c2, d2⟩ := pys_lv ih xs (fun y hy => h y (by simp [hy]))
    refine ⟨p :: ps, ?_, ?_, ?_⟩
    · unfold Dat.pys; rw [e1, e2]
    · unfold PyData.canLayAll0; rw [c1, c2]; rfl
    · unfold PyData.depthAll; exact Nat.max_le.mpr ⟨d1, d2⟩
theorem py_lv : ∀ (n : Nat) (d : Dat), d.lv n → ∃ p, d.py = some p ∧ p.canLay0 = true ∧ p.depth ≤ n + 1 := by
  intro n
  induction n with
  | zero =>
    intro d h
    cases d with
    | non => exact ⟨_, rfl, rfl, by decide⟩
    | int i => exact ⟨_, rfl, rfl, by unfold PyData.depth; omega⟩
    | str x => exact ⟨_, rfl, h, by unfold PyData.depth; omega⟩
    | _ => exact (show False from h).elim
  | succ n ih =>
    intro d h
    cases d with
    | non => exact ⟨_, rfl, rfl, by unfold PyData.depth; omega⟩
    | int i => exact ⟨_, rfl, rfl, by unfold PyData.depth; omega⟩
    | str x => exact ⟨_, rfl, h, by unfold PyData.depth; omega⟩
    | bl b => exact (show False from h).elim
    | obj C fs => exact (show False from h).elim
    | lst xs =>
      obtain ⟨ps, e, c, dd⟩ := pys_lv ih xs h.2
      exact ⟨.list ps, by unfold Dat.py; rw [e]; rfl, by unfold PyData.canLay0; exact c, by unfold PyData.depth; omega⟩
    | tup xs =>
      obtain ⟨ps, e, c, dd⟩ := pys_lv ih xs h.2
      exact ⟨.tuple ps, by unfold Dat.py; rw [e]; rfl, by unfold PyData.canLay0; exact c, by unfold PyData.depth; omega⟩
theorem shaped_lv {n : Nat} (hn : n ≤ 60) {d : Dat} (h : d.lv n) : ∃ p, d.py = some p ∧ SeqAt.shaped p = true := by
  obtain ⟨p, e, c, dd⟩ := py_lv n d h
  exact ⟨p, e, by unfold SeqAt.shaped; rw [c, decide_eq_true (by omega)]; rfl⟩
mutual
theorem eqv_py : ∀ (n : Nat) (d e : Dat) (p q : PyData), d.lv n → e.lv n → d.py = some p → e.py = some q → (PyData.eqv p q = true ↔ d = e)
  | _, .non, e, p, q, _, he, hp, hq => by
    cases hp
    cases e with
    | non => cases hq; simp [PyData.eqv]
    | bl b => exact (by cases ‹Nat› <;> exact he.elim)
    | int i => cases hq; simp [PyData.eqv]
    | str x => cases hq; simp [PyData.eqv]
    | lst xs => unfold Dat.py at hq; obtain ⟨ps, e1, rfl⟩ := Option.map_eq_some_iff.mp hq; simp [PyData.eqv]
    | tup xs => unfold Dat.py at hq; obtain ⟨ps, e1, rfl⟩ := Option.map_eq_some_iff.mp hq; simp [PyData.eqv]
    | obj C fs => cases hq
  | n, .bl b, _, _, _, hd, _, _, _ => by cases n <;> exact (show False from hd).elim
  | n, .int i, e, p, q, _, he, hp, hq => by
    cases hp
    cases e with
    | non => cases hq; simp [PyData.eqv]
    | bl b => cases n <;> exact (show False from he).elim
    | int i => cases hq; simp [PyData.eqv]
    | str x => cases hq; simp [PyData.eqv]
    | lst xs => unfold Dat.py at hq; obtain ⟨ps, e1, rfl⟩ := Option.map_eq_some_iff.mp hq; simp [PyData.eqv]
    | tup xs => unfold Dat.py at hq; obtain ⟨ps, e1, rfl⟩ := Option.map_eq_some_iff.mp hq; simp [PyData.eqv]
    | obj C fs => cases hq
  | n, .str x, e, p, q, _, he, hp, hq => by
    cases hp
    cases e with
    | non => cases hq; simp [PyData.eqv]
    | bl b => cases n <;> exact (show False from he).elim
    | int i => cases hq; simp [PyData.eqv]
    | str x => cases hq; simp [PyData.eqv]
    | lst xs => unfold Dat.py at hq; obtain ⟨ps, e1, rfl⟩ := Option.map_eq_some_iff.mp hq; simp [PyData.eqv]
    | tup xs => unfold Dat.py at hq; obtain ⟨ps, e1, rfl⟩ := Option.map_eq_some_iff.mp hq; simp [PyData.eqv]
    | obj C fs => cases hq
  | n, .lst xs, e, p, q, hd, he, hp, hq => by
    cases n with
    | zero => exact (show False from hd).elim
    | succ n =>
      unfold Dat.py at hp
      obtain ⟨ps, e0, rfl⟩ := Option.map_eq_some_iff.mp hp
      cases e with
      | non => cases hq; simp [PyData.eqv]
      | bl b => exact (show False from he).elim
      | int i => cases hq; simp [PyData.eqv]
      | str x => cases hq; simp [PyData.eqv]
      | lst ys =>
        unfold Dat.py at hq
        obtain ⟨qs, e1, rfl⟩ := Option.map_eq_some_iff.mp hq
        have := eqvs_py n xs ys ps qs hd.2 he.2 e0 e1
        simp only [PyData.eqv, Dat.lst.injEq]
        exact this
      | tup ys => unfold Dat.py at hq; obtain ⟨ps, e1, rfl⟩ := Option.map_eq_some_iff.mp hq; simp [PyData.eqv]
      | obj C fs => cases hq
  | n, .tup xs, e, p, q, hd, he, hp, hq => by
    cases n with
    | zero => exact (show False from hd).elim
    | succ n =>
      unfold Dat.py at hp
      obtain ⟨ps, e0, rfl⟩ := Option.map_eq_some_iff.mp hp
      cases e with
      | non => cases hq; simp [PyData.eqv]
      | bl b => exact (show False from he).elim
      | int i => cases hq; simp [PyData.eqv]
      | str x => cases hq; simp [PyData.eqv]
      | tup ys =>
        unfold Dat.py at hq
        obtain ⟨qs, e1, rfl⟩ := Option.map_eq_some_iff.mp hq
        have := eqvs_py n xs ys ps qs hd.2 he.2 e0 e1
        simp only [PyData.eqv, Dat.tup.injEq]
        exact this
      | lst ys => unfold Dat.py at hq; obtain ⟨ps, e1, rfl⟩ := Option.map_eq_some_iff.mp hq; simp [PyData.eqv]
      | obj C fs => cases hq
  | _, .obj _ _, _, _, _, _, _, hp, _ => by cases hp
theorem eqvs_py : ∀ (n : Nat) (xs ys : List Dat) (ps qs : List PyData), (∀ x ∈ xs, x.lv n) → (∀ x ∈ ys, x.lv n) → Dat.pys xs = some ps → Dat.pys ys = some qs → (PyData.eqvAll ps qs = true ↔ xs = ys)
  | _, [], ys, ps, qs, _, _, hp, hq => by
    cases hp
    cases ys with
    | nil => cases hq; simp [PyData.eqvAll]
    | cons y ys =>
      unfold Dat.pys at hq
      split at hq
      · cases hq; simp [PyData.eqvAll]
      · cases hq
  | n, x :: xs, ys, ps, qs, hd, he, hp, hq => by
    unfold Dat.pys at hp
    split at hp
    · rename_i p ps' e1 e2
      cases hp
      cases ys with
      | nil => cases hq; simp [PyData.eqvAll]
      | cons y ys =>
        unfold Dat.pys at hq
        split at hq
        · rename_i q qs' f1 f2
          cases hq
          simp only [PyData.eqvAll, Bool.and_eq_true, List.cons.injEq]
          rw [eqv_py n x y p q (hd x (by simp)) (he y (by simp)) e1 f1, eqvs_py n xs ys ps' qs' (fun z hz => hd z (by simp [hz])) (fun z hz => he z (by simp [hz])) e2 f2]
        · cases hq
    · cases hp
end
/-- the answer of == told by equality -/
theorem wEq_of {neg : Bool} {x y : Vl} {cs : Cells} {P : Vl → Cells → Prop} {d e : Dat} (n : Nat) (hn : n ≤ 60) (h1 : seen cs x = some d) (h2 : seen cs y = some e) (l1 : d.lv n) (l2 : e.lv n) (hy : d = e → P (.dat (.bl (!neg))) cs) (hno : d ≠ e → P (.dat (.bl neg)) cs) : wEqD neg x y cs P := by
  obtain ⟨p, e1, s1⟩ := shaped_lv hn l1
  obtain ⟨q, e2, s2⟩ := shaped_lv hn l2
  refine ⟨d, e, p, q, h1, h2, e1, e2, s1, s2, ?_⟩
  have key := eqv_py n d e p q l1 l2 e1 e2
  by_cases h : d = e
  · rw [key.mpr h]
    have := hy h
    cases neg <;> simpa using this
  · have : PyData.eqv p q = false := by
      cases q1 : PyData.eqv p q with
      | false => rfl
      | true => exact absurd (key.mp q1) h
    rw [this]
    have := hno h
    cases neg <;> simpa using this
theorem wEq_int {neg : Bool} {i j : Int} {cs : Cells} {P : Vl → Cells → Prop} : wEqD neg (.dat (.int i)) (.dat (.int j)) cs P ↔ P (.dat (.bl (if neg then !(i == j) else (i == j)))) cs := by
  constructor
  · rintro ⟨d, e, p, q, h1, h2, h3, h4, _, _, h⟩
    cases h1; cases h2; cases h3; cases h4
    simpa only [PyData.eqv] using h
  · intro h
    exact ⟨_, _, _, _, rfl, rfl, rfl, rfl, rfl, rfl, by simpa only [PyData.eqv] using h⟩
theorem wEq_bl {neg : Bool} {i j : Bool} {cs : Cells} {P : Vl → Cells → Prop} : wEqD neg (.dat (.bl i)) (.dat (.bl j)) cs P ↔ P (.dat (.bl (if neg then !(i == j) else (i == j)))) cs := by
  constructor
  · rintro ⟨d, e, p, q, h1, h2, h3, h4, _, _, h⟩
    cases h1; cases h2; cases h3; cases h4
    simpa only [PyData.eqv] using h
  · intro h
    exact ⟨_, _, _, _, rfl, rfl, rfl, rfl, rfl, rfl, by simpa only [PyData.eqv] using h⟩
/-! ### small facts for readings -/
theorem divOk {i j : Int} (h : 0 < j) (h2 : j ≤ 1000000000000000000000000000000) : CDivW i j := by
  refine wide_div (b := 100) h ?_ (by decide) (by decide)
  have : j.natAbs ≤ 1000000000000000000000000000000 := by omega
  exact Nat.lt_of_le_of_lt this (by decide)
theorem mulR {i j : Int} (h : -18446744073709551616 < j) (h2 : j < 18446744073709551616) : CMul i j := .inr ⟨by omega, by omega⟩
theorem mulL {i j : Int} (h : -18446744073709551616 < i) (h2 : i < 18446744073709551616) : CMul i j := .inl ⟨by omega, by omega⟩
theorem atI_nat {α : Type} {xs : List α} {i : Nat} {x : α} (h : xs[i]? = some x) : atI xs (i : Int) = some x := by
  have hl := (List.getElem?_eq_some_iff.mp h).1
  unfold atI ixN
  rw [if_pos (by omega), if_pos (by omega)]
  simpa using h
theorem atI_int {α : Type} {xs : List α} {i : Int} {x : α} (h0 : 0 ≤ i) (h : xs[i.toNat]? = some x) : atI xs i = some x := by
  have := atI_nat h
  rwa [Int.toNat_of_nonneg h0] at this
theorem atI_last {α : Type} {xs : List α} {x : α} (h : xs.getLast? = some x) : atI xs (-1) = some x := by
  have h0 : xs ≠ [] := by intro z; subst z; cases h
  have hl : 0 < xs.length := List.length_pos_iff.mpr h0
  unfold atI ixN
  rw [if_neg (by omega), if_pos (by omega)]
  rw [List.getLast?_eq_getElem?] at h
  show xs[((-1 : Int) + xs.length).toNat]? = some x
  rw [show ((-1 : Int) + xs.length).toNat = xs.length - 1 by omega]
  exact h
theorem ixN_nat {n i : Nat} (h : i < n) : ixN n (i : Int) = some i := by
  unfold ixN
  rw [if_pos (by omega), if_pos (by omega)]
  simp
theorem ixN_int {n : Nat} {i : Int} (h0 : 0 ≤ i) (h : i < n) : ixN n i = some i.toNat := by
  unfold ixN
  rw [if_pos h0, if_pos h]
/-! ### equations for the walk -/
section
variable {α : Type} {a b c d e f : α} {l : List α}
theorem at_0 : atI (a :: l) (0 : Int) = some a := atI_nat (i := 0) rfl
theorem at_1 : atI (a :: b :: l) (1 : Int) = some b := atI_nat (i := 1) rfl
theorem at_2 : atI (a :: b :: c :: l) (2 : Int) = some c := atI_nat (i := 2) rfl
theorem at_3 : atI (a :: b :: c :: d :: l) (3 : Int) = some d := atI_nat (i := 3) rfl
theorem at_4 : atI (a :: b :: c :: d :: e :: l) (4 : Int) = some e := atI_nat (i := 4) rfl
theorem at_5 : atI (a :: b :: c :: d :: e :: f :: l) (5 : Int) = some f := atI_nat (i := 5) rfl
theorem ix_0 {n : Nat} (h : 0 < n) : ixN n (0 : Int) = some 0 := ixN_nat (i := 0) h
theorem ix_1 {n : Nat} (h : 1 < n) : ixN n (1 : Int) = some 1 := ixN_nat (i := 1) h
theorem ix_2 {n : Nat} (h : 2 < n) : ixN n (2 : Int) = some 2 := ixN_nat (i := 2) h
theorem ix_3 {n : Nat} (h : 3 < n) : ixN n (3 : Int) = some 3 := ixN_nat (i := 3) h
end
section
variable {cs : Cells} {ds : List Dat} {d : Dat} {a : Addr} {xs : List Vl} {i : Int} {b : Bool} {z : Str} {x : Vl}
theorem seqD_lst : seqD cs (.dat (.lst ds)) = some (true, ds.map .dat) := rfl
theorem seqD_tp : seqD cs (.dat (.tup ds)) = some (false, ds.map .dat) := rfl
theorem seqD_cell : seqD cs (.raw (.ref a)) = coSeq (cs a) := rfl
theorem coSeq_lst : coSeq (some (.lst xs)) = some (true, xs) := rfl
theorem allDat_nil : allDat [] = some [] := rfl
theorem allDat_cons : allDat (.dat d :: xs) = (allDat xs).map (d :: ·) := rfl
theorem tyD_non : tyD cs (.dat .non) = some .non := rfl
theorem tyD_bl : tyD cs (.dat (.bl b)) = some .bool := rfl
theorem tyD_int : tyD cs (.dat (.int i)) = some .int := rfl
theorem tyD_str : tyD cs (.dat (.str z)) = some .str := rfl
theorem tyD_lst : tyD cs (.dat (.lst ds)) = some .list := rfl
theorem tyD_tup : tyD cs (.dat (.tup ds)) = some .tuple := rfl
theorem tyD_cell : tyD cs (.raw (.ref a)) = coTy (cs a) := rfl
theorem coTy_lst : coTy (some (.lst xs)) = some .list := rfl
theorem seen_dat : seen cs (.dat d) = some d := rfl
theorem seen_cell : seen cs (.raw (.ref a)) = coDat (cs a) := rfl
theorem coDat_lst : coDat (some (.lst xs)) = (allDat xs).map .lst := rfl
theorem isNon_non : isNon (.dat .non) = true := rfl
theorem isNon_bl : isNon (.dat (.bl b)) = false := rfl
theorem isNon_int : isNon (.dat (.int i)) = false := rfl
theorem isNon_str : isNon (.dat (.str z)) = false := rfl
theorem isNon_lst : isNon (.dat (.lst ds)) = false := rfl
theorem isNon_tup : isNon (.dat (.tup ds)) = false := rfl
theorem isNon_cell : isNon (.raw (.ref a)) = false := rfl
end
end DL
set_option maxRecDepth 100000
set_option maxHeartbeats 4000000
namespace DL
open PySem L2
/-! ### three at once -/
def wPar3 (i j l : Nat) (wa : WA) : WS := fun D ρ cs => wa ρ cs fun xs cs1 => ∃ x y z, xs = [x, y, z] ∧ D.nx (((ρ.set i (some x)).set j (some y)).set l (some z)) cs1
section
variable {X : Cx} {a b c e o : Expr} {es : List Expr} {wa wb wc we wo : WE} {w u : WT} {wr : WA} {pos : Pos}
theorem ds_par3 {i j l : Nat} {x y z : Str} {px py pz pt pt2 : Pos} {kt k2 : Nat} (hc : X.calm = true) (hN : X.N.Nodup) (ha : DA X [a, b, c] wr) (hi : X.N[i]? = some x := by rfl) (hj : X.N[j]? = some y := by rfl) (hl : X.N[l]? = some z := by rfl) (hij : i ≠ j := by decide) (hil : i ≠ l := by decide) (hjl : j ≠ l := by decide)
    (hx : X.env.scope.names.lookup x = some .local := by rfl) (hy : X.env.scope.names.lookup y = some .local := by rfl) (hz : X.env.scope.names.lookup z = some .local := by rfl)
    (hw : swappedStores [.Tuple [.Name x px, .Name y py, .Name z pz] kt pt] (.Tuple [a, b, c] k2 pt2) X.env = pure (some [x, y, z]) := by rfl)
    (hs : swapsWithSole [.Tuple [.Name x px, .Name y py, .Name z pz] kt pt] (.Tuple [a, b, c] k2 pt2) pos.line X.env = pure false := by rfl) :
    DS X (.Assign [.Tuple [.Name x px, .Name y py, .Name z pz] kt pt] (.Tuple [a, b, c] k2 pt2) pos) (wPar3 i j l wr) :=
  ps_imp (ps_par3 hc hN hi hj hl hij hil hjl hx hy hz ha hw hs) fun E σ H ⟨M, ρ, cs, D, o, r, h, e⟩ => ⟨M, ρ, cs, _, o, r, h, fun vs xs M' H' cs' s o' rv ⟨x1, y1, z1, ex, p⟩ => by
    subst ex
    cases rv with
    | cons r1 rr =>
      cases rr with
      | cons r2 rr =>
        cases rr with
        | cons r3 rr =>
          cases rr
          exact ⟨_, _, _, rfl, e.nx _ _ M' H' cs' s o' ((((r.mono s).set r1).set r2).set r3) p⟩⟩
/-! ### slices -/
abbrev WO := DEnv → Cells → (Option Int → Cells → Prop) → Prop
def KontO (K : Frag) (M : Hp) (P : Option Int → Cells → Prop) (Q : Option Int → Hp → Prop) : Prop := ∀ b M' H' cs', Same M M' → Ok K M' H' cs' → P b cs' → Q b H'
def liftO (K : Frag) (w : WO) : TO := fun σ H Q => ∃ M ρ cs P, Ok K M H cs ∧ Rho K M σ ρ ∧ w ρ cs P ∧ KontO K M P Q
def DOp (X : Cx) (e : Option Expr) (w : WO) : Prop := PO X e (liftO X.K w)
theorem po_imp {e : Option Expr} {t t' : TO} (h : PO X e t) (m : ∀ σ H Q, t' σ H Q → t σ H Q) : PO X e t' := ⟨fun pins s σ H Q I q => h.run pins s σ H Q I (m σ H Q q)⟩
def wNoPart : WO := fun _ cs P => P none cs
def wPart (we : WE) : WO := fun ρ cs P => we ρ cs fun x cs1 => ∃ i, x = .dat (.int i) ∧ P (some i) cs1
theorem do_none : DOp X none wNoPart := po_imp po_none fun σ H Q ⟨M, ρ, cs, P, o, r, p, k⟩ => k none M H cs (Same.refl _) o p
theorem do_some (h : DE X e we) : DOp X (some e) (wPart we) := po_imp (po_some h) fun σ H Q ⟨M, ρ, cs, P, o, r, p, k⟩ => ⟨M, ρ, cs, _, o, r, p, fun v x M' H' cs' s o' rv ⟨i, ex, p1⟩ => by
  subst ex
  exact ⟨i, inv_int rv, k _ M' H' cs' s o' p1⟩⟩
def cutD {α : Type} (xs : List α) (lo hi : Option Int) : List α := (xs.drop (HT.sIx xs.length 0 lo)).take (HT.sIx xs.length xs.length hi - HT.sIx xs.length 0 lo)
theorem Paired.drop {α β : Type} {R : α → β → Prop} : ∀ {xs : List α} {ys : List β} (n : Nat), Paired R xs ys → Paired R (xs.drop n) (ys.drop n)
  | _, _, 0, h => h
  | _, _, _ + 1, .nil => .nil
  | _, _, n + 1, .cons _ k => Paired.drop n k
theorem Paired.take {α β : Type} {R : α → β → Prop} : ∀ {xs : List α} {ys : List β} (n : Nat), Paired R xs ys → Paired R (xs.take n) (ys.take n)
  | _, _, 0, _ => by rw [List.take_zero, List.take_zero]; exact .nil
  | _, _, _ + 1, .nil => .nil
  | _, _, n + 1, .cons h k => .cons h (Paired.take n k)
theorem paired_cut {K : Frag} {M : Hp} {vs : List V} {xs : List Vl} {lo hi : Option Int} (h : Paired (RV K M) vs xs) : Paired (RV K M) (cutV vs lo hi) (cutD xs lo hi) := by
  unfold cutV cutD
  rw [Paired.len h]
  exact Paired.take _ (Paired.drop _ h)
theorem cutD_map {α β : Type} (f : α → β) (xs : List α) (lo hi : Option Int) : cutD (xs.map f) lo hi = (cutD xs lo hi).map f := by
  unfold cutD
  rw [List.length_map, List.map_take, List.map_drop]
/-- xs[lo:hi] of a list: a new list -/
def wSlL (we : WE) (wl wh : WO) : WE := fun ρ cs P => we ρ cs fun x cs1 => wl ρ cs1 fun lo cs2 => wh ρ cs2 fun hi cs3 => ∃ xs, seqD cs3 x = some (true, xs) ∧ newL (cutD xs lo hi) cs3 P
theorem de_slL {lo hi : Option Expr} {wl wh : WO} {p2 : Pos} (he : DE X e we) (hl : DOp X lo wl) (hh : DOp X hi wh) : DE X (.Subscript e (.Slice lo hi none p2) pos) (wSlL we wl wh) :=
  pe_imp (pe_slice sl_list he hl hh) fun σ H Q ⟨M, ρ, cs, P, o, r, p, k⟩ => ⟨M, ρ, cs, _, o, r, p, fun v x M1 H1 cs1 s1 o1 r1 p1 =>
    ⟨M1, ρ, cs1, _, o1, r.mono s1, p1, fun lo M2 H2 cs2 s2 o2 p2 => ⟨M2, ρ, cs2, _, o2, r.mono (s1.trans s2), p2, fun hi M3 H3 cs3 s3 o3 ⟨xs, hx, p3⟩ => by
      obtain ⟨ad, vs, ev, q, pr⟩ := seqD_list o3 (r1.mono (s2.trans s3)) hx
      exact ⟨ad, vs, ev, q, newL_ok o3 (paired_cut pr) p3 (k.mono (s1.trans (s2.trans s3)))⟩⟩⟩⟩
/-- t[lo:hi] of a tuple: data -/
def wSlT (we : WE) (wl wh : WO) : WE := fun ρ cs P => we ρ cs fun x cs1 => wl ρ cs1 fun lo cs2 => wh ρ cs2 fun hi cs3 => ∃ ds, x = .dat (.tup ds) ∧ P (.dat (.tup (cutD ds lo hi))) cs3
theorem de_slT {lo hi : Option Expr} {wl wh : WO} {p2 : Pos} (he : DE X e we) (hl : DOp X lo wl) (hh : DOp X hi wh) : DE X (.Subscript e (.Slice lo hi none p2) pos) (wSlT we wl wh) :=
  pe_imp (pe_slice sl_tupA he hl hh) fun σ H Q ⟨M, ρ, cs, P, o, r, p, k⟩ => ⟨M, ρ, cs, _, o, r, p, fun v x M1 H1 cs1 s1 o1 r1 p1 =>
    ⟨M1, ρ, cs1, _, o1, r.mono s1, p1, fun lo M2 H2 cs2 s2 o2 p2 => ⟨M2, ρ, cs2, _, o2, r.mono (s1.trans s2), p2, fun hi M3 H3 cs3 s3 o3 ⟨ds, hx, p3⟩ => by
      subst hx
      have s23 := s2.trans s3
      have k3 := k.mono (s1.trans s23)
      have r3 := r1.mono s23
      obtain ⟨ad, vs, ev, q, pr⟩ := seqD_tup o3 r3 (xs := ds.map .dat) rfl
      refine ⟨ad, vs, ev, q, fun hw => ?_, fun _ => newT_ok o3 (by rw [← cutD_map]; exact paired_cut pr) p3 k3⟩
      have hl : vs.length = ds.length := (Paired.len pr).trans (List.length_map _)
      rw [hl] at hw
      have hc : cutD ds lo hi = ds := by
        unfold cutD
        rw [hw.1, hw.2, List.drop_zero, Nat.sub_zero, List.take_length]
      rw [hc] at p3
      rw [← ev]
      exact k3 _ _ M3 H3 cs3 (Same.refl _) o3 r3 p3⟩⟩⟩
/-! ### t + u of tuples -/
def wCatT : W2 := fun x y cs P => ∃ ds es, x = .dat (.tup ds) ∧ y = .dat (.tup es) ∧ ds.length + es.length ≤ 16777216 ∧ P (.dat (.tup (ds ++ es))) cs
theorem de_catT (ha : DE X a wa) (hb : DE X b wb) : DE X (.BinOp a .Add b pos) (wOp wCatT wa wb) := de_op op_catA (fun M H cs x y a b P Q o rx ry ⟨ds, es, ea, eb, hz, hn⟩ k => by
  subst ea eb
  obtain ⟨ad, vs, ev, q, pr⟩ := seqD_tup o rx (xs := ds.map .dat) rfl
  obtain ⟨bd, us, eu, q2, pr2⟩ := seqD_tup o ry (xs := es.map .dat) rfl
  have l1 : vs.length = ds.length := (Paired.len pr).trans (List.length_map _)
  have l2 : us.length = es.length := (Paired.len pr2).trans (List.length_map _)
  refine ⟨ad, bd, vs, us, ev, eu, q, q2, by rw [l1, l2]; exact size_line hz, fun h0 => ?_, fun _ h0 => ?_, fun _ _ => newT_ok o (by rw [List.map_append]; exact Paired.app pr pr2) hn k⟩
  · rw [h0] at l1
    have : ds = [] := List.length_eq_zero_iff.mp l1.symm
    subst this
    rw [← eu]
    exact k _ _ M H cs (Same.refl _) o ry hn
  · rw [h0] at l2
    have : es = [] := List.length_eq_zero_iff.mp l2.symm
    subst this
    rw [← ev]
    rw [List.append_nil] at hn
    exact k _ _ M H cs (Same.refl _) o rx hn) ha hb
/-! ### int(b), max(xs), min(xs), sum(xs) -/
def wInt : WN := fun xs cs P => (∃ i, xs = [.dat (.int i)] ∧ P (.dat (.int i)) cs) ∨ ∃ b, xs = [.dat (.bl b)] ∧ P (.dat (.int (if b then 1 else 0))) cs
theorem rn_int {K : Frag} : RNOk K (fun xs H Q => (∃ i, xs = [.int i] ∧ Q (.int i) H) ∨ ∃ k, xs = [.bl k] ∧ Q (.int (if k then 1 else 0)) H) wInt := fun M H cs xs as P Q o r h k => by
  rcases h with ⟨i, e, p⟩ | ⟨b, e, p⟩
  · subst e
    cases r with
    | cons r1 rr =>
      cases rr
      exact .inl ⟨i, by rw [inv_int r1], k _ _ M H cs (Same.refl _) o (rv_dat (.int _)) p⟩
  · subst e
    cases r with
    | cons r1 rr =>
      cases rr
      exact .inr ⟨b, by rw [inv_bl r1], k _ _ M H cs (Same.refl _) o (rv_dat (.int _)) p⟩
theorem de_int1 {p : Pos} (hm : X.mg "int" = none) (ha : DA X [e] wr) (hg : Gl X "int" := by rfl) (he : starEach [e] X.env = (false, eval e X.env) :: starEach [] X.env := by rfl) (hpl : (backTo pos (starEach [] X.env)).any (·.1) = false := by rfl) :
    DE X (.Call (.Name "int" p) [e] [] pos) (wFn wInt wr) := de_callTy call_int1 rn_int hm (by decide +kernel) ha hg (by decide) (by decide) he hpl
theorem paired_ints {K : Frag} {M : Hp} : ∀ {ns : List Int} {vs : List V}, Paired (RV K M) vs (ns.map fun i => Vl.dat (.int i)) → vs = ns.map V.int
  | [], _, .nil => rfl
  | n :: ns, _, .cons r k => by rw [inv_int r, paired_ints k]; rfl
def wMax : WN := fun xs cs P => ∃ (x : Vl) (ns : List Int), xs = [x] ∧ seqD cs x = some (true, ns.map fun i => Vl.dat (.int i)) ∧ 0 < ns.length ∧ ∀ m, m ∈ ns → (∀ y ∈ ns, y ≤ m) → P (.dat (.int m)) cs
def wMin : WN := fun xs cs P => ∃ (x : Vl) (ns : List Int), xs = [x] ∧ seqD cs x = some (true, ns.map fun i => Vl.dat (.int i)) ∧ 0 < ns.length ∧ ∀ m, m ∈ ns → (∀ y ∈ ns, m ≤ y) → P (.dat (.int m)) cs
def wSum : WN := fun xs cs P => ∃ (x : Vl) (ns : List Int), xs = [x] ∧ seqD cs x = some (true, ns.map fun i => Vl.dat (.int i)) ∧ P (.dat (.int ns.sum)) cs
theorem rn_max {K : Frag} : RNOk K (rMax K) wMax := fun M H cs xs as P Q o r ⟨x, ns, e, h, h0, p⟩ k => by
  subst e
  cases r with
  | cons r1 rr =>
    cases rr
    obtain ⟨ad, vs, ev, q, pr⟩ := seqD_list o r1 h
    rw [paired_ints pr] at q
    exact ⟨ad, ns, by rw [ev], q, h0, fun m hm hle => k _ _ M H cs (Same.refl _) o (rv_dat (.int _)) (p m hm hle)⟩
theorem rn_min {K : Frag} : RNOk K (rMin K) wMin := fun M H cs xs as P Q o r ⟨x, ns, e, h, h0, p⟩ k => by
  subst e
  cases r with
  | cons r1 rr =>
    cases rr
    obtain ⟨ad, vs, ev, q, pr⟩ := seqD_list o r1 h
    rw [paired_ints pr] at q
    exact ⟨ad, ns, by rw [ev], q, h0, fun m hm hle => k _ _ M H cs (Same.refl _) o (rv_dat (.int _)) (p m hm hle)⟩
theorem de_max {p : Pos} (hc : X.calm = true) (hm : X.mg "max" = none) (ha : DA X [e] wr) (hg : Gl X "max" := by rfl) (he : starEach [e] X.env = (false, eval e X.env) :: starEach [] X.env := by rfl) (hpl : (backTo pos (starEach [] X.env)).any (·.1) = false := by rfl) :
    DE X (.Call (.Name "max" p) [e] [] pos) (wFn wMax wr) := de_callB (cr_max hc) rn_max hm (by decide +kernel) ha hg (by decide) (by decide) he hpl
theorem de_min {p : Pos} (hc : X.calm = true) (hm : X.mg "min" = none) (ha : DA X [e] wr) (hg : Gl X "min" := by rfl) (he : starEach [e] X.env = (false, eval e X.env) :: starEach [] X.env := by rfl) (hpl : (backTo pos (starEach [] X.env)).any (·.1) = false := by rfl) :
    DE X (.Call (.Name "min" p) [e] [] pos) (wFn wMin wr) := de_callB (cr_min hc) rn_min hm (by decide +kernel) ha hg (by decide) (by decide) he hpl
end
/-! ### sorted(xs), len(set(xs)): tuples of ints -/
def tupI (ns : List Int) : Dat := .tup (ns.map .int)
theorem dr_tupI {K : Frag} {M : Hp} {v : V} {ns : List Int} (h : Dr K M v (tupI ns)) : TupI K M v ns := by
  unfold tupI at h
  cases h with
  | tup q k =>
    refine ⟨_, rfl, ?_⟩
    have := paired_ints (ns := ns) (by have := k.paired; rwa [List.map_map] at this)
    rwa [this] at q
theorem dr_tupI' {K : Frag} {M H : Hp} {cs : Cells} {v : V} {ns : List Int} (o : Ok K M H cs) (h : Dr K M v (tupI ns)) : TupI K H v ns := by
  obtain ⟨t, e, q⟩ := dr_tupI h
  exact ⟨t, e, o.seqT q⟩
def leI (x y : List Int) : Bool := decide (x ≤ y)
def rSortT (K : PySem.W.Frag) : List V → Hp → VK → Prop := fun vs H Q => ∃ (a : Addr) (xs : List V) (nss : List (List Int)), vs = [V.ref a] ∧ SqL K H a xs ∧ Paired (TupI K H) xs nss ∧ (∀ n ∈ nss, n ≠ []) ∧
  ∀ (bs : List (V × List Int)) (p : Addr), bs.Perm (xs.zip nss) → bs.map (·.2) = nss.mergeSort leI → H p = none → Q (.ref p) (upd H p (.lst (bs.map (·.1))))
theorem pair_zip {α β : Type} {R : α → β → Prop} : ∀ {xs : List α} {ys : List β}, Paired R xs ys → ∀ q ∈ xs.zip ys, R q.1 q.2
  | _, _, .nil, q, h => absurd h (by simp)
  | _, _, .cons r k, q, h => by
    rw [List.zip_cons_cons] at h
    rcases List.mem_cons.mp h with e | h
    · rw [e]; exact r
    · exact pair_zip k q h
theorem zip_fst {α β : Type} : ∀ {xs : List α} {ys : List β}, xs.length = ys.length → (xs.zip ys).map (·.1) = xs ∧ (xs.zip ys).map (·.2) = ys
  | [], [], _ => ⟨rfl, rfl⟩
  | x :: xs, y :: ys, h => by
    obtain ⟨h1, h2⟩ := zip_fst (xs := xs) (ys := ys) (by simpa using h)
    exact ⟨by simp [h1], by simp [h2]⟩
  | [], _ :: _, h => by simp at h
  | _ :: _, [], h => by simp at h
section
open PySem.W
theorem each_vals {α : Type} {R : Value → V × α → Prop} (hR : ∀ v b, R v b → RelV b.1 v) : ∀ {vs : List Value} {bs : List (V × α)}, EachIs R vs bs → Vals (bs.map (·.1)) vs
  | _, _, .nil => .nil
  | _, _, .cons h t => .cons (hR _ _ h) (each_vals hR t)
theorem vals_each {α : Type} {xs : List V} {us : List Value} (r : Vals xs us) : ∀ {ys : List α}, xs.length = ys.length → EachIs (fun v (b : V × α) => RelV b.1 v ∧ b ∈ xs.zip ys) us (xs.zip ys) := by
  induction r with
  | nil => intro ys h; exact .nil
  | cons a k ih =>
    intro ys h
    cases ys with
    | nil => cases h
    | cons y ys =>
      rw [List.zip_cons_cons]
      refine .cons ⟨a, by simp⟩ ((ih (ys := ys) (by simpa using h)).mono fun v b q => ⟨q.1, by simp [q.2]⟩)
end
section
variable {X : Cx}
theorem cr_sortTup (hu : X.A.units + 64 < cLine) : CallR X (.builtin "sorted") (rSortT X.K) := by
  intro pins s σ H vs us Q I r h
  obtain ⟨a, xs, nss, rfl, hs, hx, hne, q⟩ := h
  obtain ⟨its, rv, hl, hz⟩ := I.list hs
  rw [Vals.ref1 r]
  have hlen := Paired.len hx
  have er : PySem.W.EachIs (fun v (b : V × List Int) => RelV b.1 v ∧ b ∈ xs.zip nss) its (xs.zip nss) := vals_each rv hlen
  have key : ∀ b ∈ xs.zip nss, TupI X.K H b.1 b.2 := pair_zip hx
  have dpOf : ∀ b ∈ xs.zip nss, Dp X.K H b.1 (.tuple (b.2.map .int)) := fun b hb => by
    obtain ⟨t, e, ht⟩ := key b hb
    rw [e]
    refine .tup ht ?_
    generalize b.2 = ns
    induction ns with
    | nil => exact .nil
    | cons n ns ih => exact .cons (.int n) ih
  have hle : PySem.W.dataLe false (fun b : V × List Int => PyData.tuple (b.2.map .int)) = fun p q => leI p.2 q.2 := by
    funext p q
    show (!PySem.W.dataLt (.tuple (q.2.map .int)) (.tuple (p.2.map .int))) = _
    rw [PySem.W.dataLt_tuple]
    show (!PySem.W.rowLt (q.2.map .int) (p.2.map .int)) = _
    rw [PySem.W.dataLt_ints]
    unfold leI
    by_cases h : q.2 < p.2
    · have h' : ¬ p.2 ≤ q.2 := fun r => List.not_lt.mpr r h
      simp [h, h']
    · have h' : p.2 ≤ q.2 := List.not_lt.mp h
      simp [h, h']
  refine PySem.W.sorted_data (enc := fun b : V × List Int => PyData.tuple (b.2.map .int)) (R := fun v b => RelV b.1 v) (bs := xs.zip nss) hl.isList (er.mono fun _ _ q => q.1)
    (er.mono fun v b q => Dp.reads I _ _ _ (dpOf b q.2) q.1) (PySem.W.AllAlike.of fun b b' => by simp only [PySem.W.alike]; exact PySem.W.alike_ints _ _) (.inl fun d hd => ?_) ?_ (fun b hb => ?_) fun out ho eo => ?_
  · obtain ⟨b, hb, e⟩ := List.mem_map.mp hd
    have := hne b.2 (List.of_mem_zip (show (b.1, b.2) ∈ _ from hb)).2
    cases e2 : b.2 with
    | nil => exact absurd e2 this
    | cons n ns => exact ⟨.int n, ns.map .int, by rw [← e, e2]; rfl⟩
  · rw [List.length_zip, hlen, Nat.min_self, ← hlen]; exact hz
  · show _ + 2 + PyData.depth (.tuple (b.2.map .int)) < cLine
    unfold PyData.depth
    rw [PySem.W.depth_ints]
    omega
  · rw [hle] at eo
    obtain ⟨ep, he'⟩ := PyProof.Rows.sortedAll_at s.heap its out.toArray
    have hv := each_vals (R := fun v (b : V × List Int) => RelV b.1 v) (fun _ _ q => q) eo
    have pm : ((xs.zip nss).mergeSort fun p q => leI p.2 q.2).Perm (xs.zip nss) := List.mergeSort_perm _ _
    have hll : (((xs.zip nss).mergeSort fun p q => leI p.2 q.2).map (·.1)).length ≤ sizeLine := by
      rw [List.length_map, pm.length_eq, List.length_zip, hlen, Nat.min_self, ← hlen]; exact hz
    refine ⟨.ref _, upd H (s.heap.objs.size + 1) (.lst (((xs.zip nss).mergeSort fun p q => leI p.2 q.2).map (·.1))), I.laid (t' := s.toks) (fun _ _ => PyProof.Rows.sortedAll_old) (Nat.le_succ _) ⟨hll, out, ep, hv, he'⟩, rfl, q _ _ pm ?_ (I.hok.fresh (Nat.le_succ _))⟩
    rw [List.map_mergeSort (s := leI) (fun _ _ _ _ => rfl), (zip_fst hlen).2]
def wSortT : WN := fun xs cs P => ∃ (x : Vl) (nss : List (List Int)), xs = [x] ∧ seqD cs x = some (true, nss.map fun ns => Vl.dat (tupI ns)) ∧ (∀ n ∈ nss, n ≠ []) ∧ newL ((nss.mergeSort leI).map fun ns => Vl.dat (tupI ns)) cs P
theorem zip_paired {α β : Type} {R : α → β → Prop} : ∀ {bs : List (α × β)}, (∀ q ∈ bs, R q.1 q.2) → Paired R (bs.map (·.1)) (bs.map (·.2))
  | [], _ => .nil
  | b :: bs, h => .cons (h b (by simp)) (zip_paired fun q hq => h q (by simp [hq]))
theorem paired_mapR {α β γ : Type} {R : α → γ → Prop} (f : β → γ) : ∀ {xs : List α} {ys : List β}, Paired (fun a b => R a (f b)) xs ys → Paired R xs (ys.map f)
  | _, _, .nil => .nil
  | _, _, .cons h k => .cons h (paired_mapR f k)
theorem paired_mapR' {α β γ : Type} {R : α → γ → Prop} (f : β → γ) : ∀ {xs : List α} {ys : List β}, Paired R xs (ys.map f) → Paired (fun a b => R a (f b)) xs ys
  | _, [], .nil => .nil
  | _, _ :: _, .cons h k => .cons h (paired_mapR' f k)
theorem rn_sortT {K : Frag} : RNOk K (rSortT K) wSortT := fun M H cs xs as P Q o r ⟨x, nss, e, h, hne, p⟩ k => by
  subst e
  cases r with
  | cons r1 rr =>
    cases rr
    obtain ⟨ad, vs, ev, q, pr⟩ := seqD_list o r1 h
    have pr' := paired_mapR' _ pr
    refine ⟨ad, vs, nss, by rw [ev], q, paired_mono (fun v ns h => dr_tupI' o h) pr', hne, fun bs pp pm hs hp => ?_⟩
    refine newL_ok o (xs := (nss.mergeSort leI).map fun ns => Vl.dat (tupI ns)) ?_ p k pp hp
    rw [← hs]
    refine paired_mapR _ (zip_paired fun b hb => ?_)
    exact pair_zip pr' b (pm.mem_iff.mp hb)
end
section
variable {X : Cx} {a b c e o : Expr} {es : List Expr} {wa wb wc we wo : WE} {w u : WT} {wr : WA} {pos : Pos}
theorem de_sortT {p : Pos} (hu : X.A.units + 64 < cLine) (hm : X.mg "sorted" = none) (ha : DA X [e] wr) (hg : Gl X "sorted" := by rfl) (he : starEach [e] X.env = (false, eval e X.env) :: starEach [] X.env := by rfl) (hpl : (backTo pos (starEach [] X.env)).any (·.1) = false := by rfl) :
    DE X (.Call (.Name "sorted" p) [e] [] pos) (wFn wSortT wr) := de_callB (cr_sortTup hu) rn_sortT hm (by decide +kernel) ha hg (by decide) (by decide) he hpl
def tLenSetT (K : PySem.W.Frag) (ta : TE) : TE := fun σ H Q => ta σ H fun x H1 => ∃ (l : Addr) (ks : List (Addr × List Int)), x = V.ref l ∧ SqL K H1 l (ks.map fun p => V.ref p.1) ∧ (∀ p ∈ ks, SqT K H1 p.1 (p.2.map V.int)) ∧ ks.length < 64 ∧ (ks.map (·.2)).Nodup ∧ Q (.int ks.length) H1
theorem nodup_len {α : Type} [DecidableEq α] : ∀ {l m : List α}, l.Nodup → (∀ x ∈ l, x ∈ m) → l.length ≤ m.length
  | [], _, _, _ => Nat.zero_le _
  | x :: l, m, hn, hs => by
    have hx : x ∈ m := hs x (by simp)
    obtain ⟨h1, h2⟩ := List.nodup_cons.mp hn
    have := nodup_len (l := l) (m := m.erase x) h2 fun y hy => (List.mem_erase_of_ne (by intro z; exact h1 (z ▸ hy))).mpr (hs y (by simp [hy]))
    rw [List.length_erase_of_mem hx] at this
    have : 0 < m.length := List.length_pos_of_mem hx
    simp only [List.length_cons]
    omega
open PySem.Spec PyProof.Rows in
theorem pe_lenSetT {ta : TE} {p p2 q : Pos} (hc : X.calm = true) (hu : X.A.units + 64 < cLine) (hm : X.mg "len" = none) (hm2 : X.mg "set" = none) (ha : PE X a ta) (hg : Gl X "len" := by rfl) (hg2 : Gl X "set" := by rfl)
    (na : starEach [a] X.env = (false, eval a X.env) :: starEach [] X.env := by rfl) : PE X (.Call (.Name "len" p) [.Call (.Name "set" p2) [a] [] q] [] pos) (tLenSetT X.K ta) := by
  refine ⟨fun pins s σ H Q I h => Call_ (ld_blt I hg hm PySem.boot_len ?_)⟩
  refine PyProof.Rows.callWith_builtin1 (PyProof.Rows.args_cons (Call_ (ld_blt I hg2 hm2 PyProof.Rows.boot_set ?_)) rfl) rfl rfl
  refine PyProof.Rows.callWith_type1 (PyProof.Rows.args_cons (thn (ha.run pins s σ H _ I h) fun v s1 ⟨x, H1, I1, r1, q1⟩ => PyProof.Rows.args_nil ?_) na) na rfl
  obtain ⟨l, ks, rfl, hq, hk, h64, hnd, q1⟩ := q1
  cases r1
  obtain ⟨its, rv, pl, hz⟩ := I1.list hq
  refine call_set_tups (P := X.prog) (w := X.w) ks (I1.ok.hd hc) pl.isList (by simpa using refs_of_vals rv) (fun p hp => I1.isT (hk p hp)) h64 (by omega) fun h' tk L es ep t R g kp => ?_
  have hL : L.length = ks.length := by
    have h1 : (L.map (·.2)).length ≤ (ks.map (·.2)).length := nodup_len R.nd fun y hy => by
      obtain ⟨p, hp, e⟩ := List.mem_map.mp hy
      exact List.mem_map.mpr ⟨p, List.mem_of_mem_take (g.sub p hp), e⟩
    have h2 : (ks.map (·.2)).length ≤ (L.map (·.2)).length := nodup_len hnd fun y hy => by
      obtain ⟨p, hp, e⟩ := List.mem_map.mp hy
      rw [← e]
      exact g.all p (by rw [List.take_length]; exact hp)
    simp only [List.length_map] at h1 h2
    omega
  obtain ⟨o, ho, hex, hd⟩ := R.ob
  have hes : es.size = ks.length := by
    rw [← Array.length_toList, R.rows]
    unfold rowsOf
    rw [List.length_map]; exact hL
  refine PyProof.Rows.args_nil ?_
  have I2 : Inv X pins σ H1 { s1 with heap := h', toks := tk } := I1.kept fun b o e => kp b o e
  exact call_len_set ho hex hd (SetTR.fits (s := { s1 with heap := h', toks := tk }) R) (by rw [hes]; omega) ⟨.int ks.length, H1, I2.tok _, ⟨_, by rw [hes]⟩, q1⟩
theorem seq_refs {K : Frag} {H : Hp} : ∀ {vs : List V} {nss : List (List Int)}, Paired (TupI K H) vs nss → ∃ ks : List (Addr × List Int), vs = ks.map (fun p => V.ref p.1) ∧ nss = ks.map (·.2) ∧ ∀ p ∈ ks, SqT K H p.1 (p.2.map V.int)
  | _, _, .nil => ⟨[], rfl, rfl, fun _ h => absurd h (by simp)⟩
  | _, _, .cons ⟨t, e, h⟩ k => by
    obtain ⟨ks, e1, e2, h2⟩ := seq_refs k
    refine ⟨(t, _) :: ks, by rw [e, e1]; rfl, by rw [e2]; rfl, fun p hp => ?_⟩
    rcases List.mem_cons.mp hp with z | z
    · rw [z]; exact h
    · exact h2 p z
def wLenSet (we : WE) : WE := fun ρ cs P => we ρ cs fun x cs1 => ∃ nss : List (List Int), seqD cs1 x = some (true, nss.map fun ns => Vl.dat (tupI ns)) ∧ nss.length < 64 ∧ nss.Nodup ∧ P (.dat (.int nss.length)) cs1
theorem de_lenSet {p p2 q : Pos} (hc : X.calm = true) (hu : X.A.units + 64 < cLine) (hm : X.mg "len" = none) (hm2 : X.mg "set" = none) (ha : DE X a wa) (hg : Gl X "len" := by rfl) (hg2 : Gl X "set" := by rfl)
    (na : starEach [a] X.env = (false, eval a X.env) :: starEach [] X.env := by rfl) : DE X (.Call (.Name "len" p) [.Call (.Name "set" p2) [a] [] q] [] pos) (wLenSet wa) :=
  pe_imp (pe_lenSetT hc hu hm hm2 ha hg hg2 na) fun σ H Q ⟨M, ρ, cs, P, o, r, p, k⟩ => ⟨M, ρ, cs, _, o, r, p, fun v x M1 H1 cs1 s1 o1 r1 ⟨nss, hx, h64, hnd, p1⟩ => by
    obtain ⟨ad, vs, ev, q, pr⟩ := seqD_list o1 r1 hx
    have pr' := paired_mapR' _ pr
    obtain ⟨ks, e1, e2, h2⟩ := seq_refs (paired_mono (fun v ns h => dr_tupI' o1 h) pr')
    rw [e1] at q
    have hl : ks.length = nss.length := by rw [e2, List.length_map]
    exact ⟨ad, ks, ev, q, h2, by rw [hl]; exact h64, by rw [← e2]; exact hnd, by rw [hl]; exact k _ _ M1 H1 cs1 s1 o1 (rv_dat (.int _)) p1⟩⟩
end
end DL
set_option maxRecDepth 100000
set_option maxHeartbeats 4000000
/-! What runs can't wake a generator that is never woken: its state in the table stays, whatever it is. -/
namespace GT
open PySem
open Sem (wp)
def isR : Frame → Bool
  | .ret .. => true
  | .gen .. => false
theorem split_isR : ∀ {fs : List Frame}, fs.all isR = true → splitAtGen fs = none
  | [], _ => rfl
  | .ret .. :: fs, h => by
    have : fs.all isR = true := by simpa [isR] using h
    unfold splitAtGen
    rw [split_isR this]; rfl
  | .gen .. :: fs, h => by simp [isR] at h
def susp : GenState → Bool
  | .suspended .. => true
  | _ => false
def deaf : GenState → GenState
  | .suspended _ l c p fs cl => .suspended (fun _ => .unsupported "") l c p fs cl
  | x => x
def wfG : GenState → Bool
  | .suspended _ _ _ _ fs _ => fs.all isR
  | _ => true
def wfE : End → Bool
  | .ret _ => true
  | .susp _ _ _ _ _ _ fs => fs.all isR
theorem deaf_seen (x : GenState) : (deaf x).seen = x.seen := by cases x <;> rfl
theorem deaf_bare (x : GenState) : (deaf x).bare = x.bare := by cases x <;> rfl
theorem genState_wf {e : End} (h : wfE e = true) : wfG e.genState = true := by
  cases e with
  | ret r => rfl
  | susp v g l k c p fs => exact h
def thaw (R : Nat → Option GenState) (s : Shared) : Shared := { s with gens := s.gens.mapIdx fun i x => (R i).getD x }
structure Good (R : Nat → Option GenState) (s : Shared) : Prop where
  deaf : ∀ i r, R i = some r → susp r = true ∧ s.gens[i]? = some (deaf r)
  wf : ∀ i x, s.gens[i]? = some x → R i = none → wfG x = true
section
variable {R : Nat → Option GenState} {s : Shared} {g : Nat} {x : GenState}
theorem thaw_size : (thaw R s).gens.size = s.gens.size := by simp [thaw]
theorem thaw_get (i : Nat) : (thaw R s).gens[i]? = (s.gens[i]?).map fun x => (R i).getD x := by simp [thaw]
theorem thaw_get0 (h : R g = none) : (thaw R s).gens[g]? = s.gens[g]? := by
  rw [thaw_get, h]; cases s.gens[g]? <;> rfl
theorem thaw_set (h : R g = none) : thaw R (s.setGen g x) = (thaw R s).setGen g x := by
  unfold thaw Shared.setGen
  congr 1
  refine Array.ext_getElem? fun i => ?_
  rw [Array.getElem?_mapIdx, Array.getElem?_setIfInBounds, Array.getElem?_setIfInBounds, Array.getElem?_mapIdx]
  by_cases e : g = i
  · subst e
    rw [if_pos rfl, if_pos rfl, Array.size_mapIdx]
    split
    · rw [h]; rfl
    · rfl
  · rw [if_neg e, if_neg e]
theorem Good.lt (G : Good R s) {i : Nat} {r : GenState} (h : R i = some r) : i < s.gens.size := (Array.getElem?_eq_some_iff.mp (G.deaf i r h).2).1
theorem Good.new (G : Good R s) : R s.gens.size = none := by
  cases e : R s.gens.size with
  | none => rfl
  | some r => exact absurd (G.lt e) (Nat.lt_irrefl _)
theorem thaw_push (G : Good R s) : thaw R { s with gens := s.gens.push x } = { thaw R s with gens := (thaw R s).gens.push x } := by
  unfold thaw
  congr 1
  show (s.gens.push x).mapIdx _ = _
  rw [Array.mapIdx_push, G.new]; rfl
theorem Good.set (G : Good R s) (h : R g = none) (w : wfG x = true) : Good R (s.setGen g x) := by
  refine ⟨fun i r hi => ⟨(G.deaf i r hi).1, ?_⟩, fun i y hy hi => ?_⟩
  · have : g ≠ i := by intro z; rw [z, hi] at h; cases h
    show (s.gens.setIfInBounds g x)[i]? = _
    rw [Array.getElem?_setIfInBounds_ne this]
    exact (G.deaf i r hi).2
  · have hy : (s.gens.setIfInBounds g x)[i]? = some y := hy
    rw [Array.getElem?_setIfInBounds] at hy
    split at hy
    · split at hy
      · cases hy; exact w
      · cases hy
    · exact G.wf i y hy hi
theorem Good.push (G : Good R s) (w : wfG x = true) : Good R { s with gens := s.gens.push x } := by
  refine ⟨fun i r hi => ⟨(G.deaf i r hi).1, ?_⟩, fun i y hy hi => ?_⟩
  · show (s.gens.push x)[i]? = _
    rw [Array.getElem?_push_lt (G.lt hi), ← Array.getElem?_eq_getElem]
    exact (G.deaf i r hi).2
  · have hy : (s.gens.push x)[i]? = some y := hy
    rw [Array.getElem?_push] at hy
    split at hy
    · cases hy; exact w
    · exact G.wf i y hy hi
theorem Good.same (G : Good R s) {h' : Heap} {d : Drawn} {t : Nat} {o : OsState} : Good R { s with heap := h', drawn := d, toks := t, os := o } := ⟨G.deaf, G.wf⟩
theorem Good.not (G : Good R s) (h : s.gens[g]? = some x) (hx : susp x = false) : R g = none := by
  cases e : R g with
  | none => rfl
  | some r =>
    obtain ⟨h1, h2⟩ := G.deaf g r e
    rw [h] at h2
    cases h2
    cases r <;> simp_all [susp, GT.deaf]
end
theorem never_unsupported {M : Model} {Γ : Ctx} {p : Pos} {w : String} {fs : List Frame} {s s' : Shared} {e : End} (h : Runs M Γ p (.unsupported w) fs s e s') : False := by
  generalize ht : (Sem.unsupported w : Sem Fin) = t at h
  induction h <;> first | (cases ht; done) | (rename_i ih; exact ih ht) | (rename_i ih _; exact ih ht) | skip
  all_goals first | (subst ht; simp_all; done) | simp_all

theorem runs_thaw {M : Model} {R : Nat → Option GenState} {Γ : Ctx} {p : Pos} {t : Sem Fin} {fs : List Frame} {s s' : Shared} {e : End} (h : Runs M Γ p t fs s e s') : fs.all isR = true → Good R s → Good R s' ∧ wfE e = true ∧ Runs M Γ p t fs (thaw R s) e (thaw R s') := by
  induction h with
  | done => intro _ G; exact ⟨G, rfl, .done⟩
  | raise => intro _ G; exact ⟨G, rfl, .raise⟩
  | again q _ ih => intro f G; obtain ⟨a, b, c⟩ := ih rfl G; exact ⟨a, b, .again q c⟩
  | rule _ ih => intro f G; obtain ⟨a, b, c⟩ := ih rfl G; exact ⟨a, b, .rule c⟩
  | «at» _ ih => intro f G; obtain ⟨a, b, c⟩ := ih rfl G; exact ⟨a, b, .at c⟩
  | load q _ ih => intro f G; obtain ⟨a, b, c⟩ := ih rfl G; exact ⟨a, b, .load q c⟩
  | update q _ ih => intro f G; obtain ⟨a, b, c⟩ := ih rfl ⟨G.deaf, G.wf⟩; exact ⟨a, b, .update q c⟩
  | loadIfAlive _ ih => intro f G; obtain ⟨a, b, c⟩ := ih rfl G; exact ⟨a, b, .loadIfAlive c⟩
  | point _ ih => intro f G; obtain ⟨a, b, c⟩ := ih rfl G; exact ⟨a, b, .point c⟩
  | alloc _ ih => intro f G; obtain ⟨a, b, c⟩ := ih rfl ⟨G.deaf, G.wf⟩; exact ⟨a, b, .alloc c⟩
  | fresh _ ih => intro f G; obtain ⟨a, b, c⟩ := ih rfl ⟨G.deaf, G.wf⟩; exact ⟨a, b, .fresh c⟩
  | ask _ ih => intro f G; obtain ⟨a, b, c⟩ := ih rfl G; exact ⟨a, b, .ask c⟩
  | choose q _ ih => intro f G; obtain ⟨a, b, c⟩ := ih rfl ⟨G.deaf, G.wf⟩; exact ⟨a, b, .choose q c⟩
  | os _ ih => intro f G; obtain ⟨a, b, c⟩ := ih rfl ⟨G.deaf, G.wf⟩; exact ⟨a, b, .os c⟩
  | handled _ ih => intro f G; obtain ⟨a, b, c⟩ := ih rfl G; exact ⟨a, b, .handled c⟩
  | @genState g st Γ p k s e s' q _ ih =>
    intro f G
    obtain ⟨a, b, c⟩ := ih rfl G
    refine ⟨a, b, ?_⟩
    cases e2 : R g with
    | none => exact .genState (by rw [thaw_get0 e2]; exact q) c
    | some r =>
      have h2 := (G.deaf g r e2).2
      rw [q] at h2
      cases h2
      refine .genState (st := r) (by rw [thaw_get, q, e2]; rfl) ?_
      rw [deaf_seen] at c
      exact c
  | stack _ ih => intro f G; obtain ⟨a, b, c⟩ := ih rfl G; exact ⟨a, b, .stack c⟩
  | thread _ ih => intro f G; obtain ⟨a, b, c⟩ := ih rfl G; exact ⟨a, b, .thread c⟩
  | newGen _ ih =>
    intro f G
    obtain ⟨a, b, c⟩ := ih rfl (G.push rfl)
    refine ⟨a, b, .newGen ?_⟩
    rw [thaw_push G] at c
    rw [thaw_size]
    exact c
  | call _ _ ih1 ih2 =>
    intro f G
    obtain ⟨a, _, c⟩ := ih1 rfl G
    obtain ⟨a2, b2, c2⟩ := ih2 rfl a
    exact ⟨a2, b2, .call c c2⟩
  | callSusp _ ih =>
    intro f G
    obtain ⟨a, b, c⟩ := ih rfl G
    refine ⟨a, ?_, .callSusp c⟩
    unfold wfE at b ⊢
    simp only [List.all_append, b, Bool.true_and]
    rfl
  | yield => intro f G; exact ⟨G, rfl, .yield⟩
  | resumeFresh q _ qq _ ih1 ih2 =>
    intro f G
    have hn := G.not q rfl
    obtain ⟨a, b, c⟩ := ih1 rfl (G.set hn rfl)
    obtain ⟨a2, b2, c2⟩ := ih2 rfl (a.set hn (genState_wf b))
    rw [thaw_set hn] at c c2
    exact ⟨a2, b2, .resumeFresh (by rw [thaw_get0 hn]; exact q) c qq c2⟩
  | @resumeSuspended Γ p g r l k s k₀ l₀ c₀ p₀ fs cl e₁ s₁ e s' q h1 qq _ ih1 ih2 =>
    intro f G
    cases e2 : R g with
    | some x =>
      obtain ⟨h2, h3⟩ := G.deaf g x e2
      rw [q] at h3
      cases x with
      | suspended k2 l2 c2 p2 f2 cl2 =>
        cases h3
        exact (never_unsupported h1).elim
      | _ => cases h2
    | none =>
      have w := G.wf g _ q e2
      obtain ⟨a, b, c⟩ := ih1 w (G.set e2 rfl)
      obtain ⟨a2, b2, c2⟩ := ih2 rfl (a.set e2 (genState_wf b))
      rw [thaw_set e2] at c c2
      exact ⟨a2, b2, .resumeSuspended (by rw [thaw_get0 e2]; exact q) c qq c2⟩
  | resumeJustStarted q v _ ih => intro f G; obtain ⟨a, b, c⟩ := ih rfl G; exact ⟨a, b, .resumeJustStarted (by rw [thaw_get0 (G.not q rfl)]; exact q) v c⟩
  | resumeThrowFresh q _ ih =>
    intro f G
    have hn := G.not q rfl
    obtain ⟨a, b, c⟩ := ih rfl (G.set hn rfl)
    rw [thaw_set hn] at c
    exact ⟨a, b, .resumeThrowFresh (by rw [thaw_get0 hn]; exact q) c⟩
  | resumeRunning q _ ih => intro f G; obtain ⟨a, b, c⟩ := ih rfl G; exact ⟨a, b, .resumeRunning (by rw [thaw_get0 (G.not q rfl)]; exact q) c⟩
  | resumeFinished q _ ih => intro f G; obtain ⟨a, b, c⟩ := ih rfl G; exact ⟨a, b, .resumeFinished (by rw [thaw_get0 (G.not q rfl)]; exact q) c⟩
  | segRet _ _ ih1 ih2 =>
    intro f G
    have f' := f
    rw [List.all_cons, Bool.and_eq_true] at f'
    obtain ⟨a, _, c⟩ := ih1 rfl G
    obtain ⟨a2, b2, c2⟩ := ih2 f'.2 a
    exact ⟨a2, b2, .segRet c c2⟩
  | segGen => intro f G; simp [isR] at f
  | segSuspOut q _ ih =>
    intro f G
    obtain ⟨a, b, c⟩ := ih rfl G
    refine ⟨a, ?_, .segSuspOut q c⟩
    unfold wfE at b ⊢
    simp only [List.all_append, b, Bool.true_and]
    exact f
  | segSuspGen q => intro f G; rw [split_isR f] at q; cases q
theorem wakes_thaw {M : Model} {R : Nat → Option GenState} {Γ : Ctx} {p : Pos} {g : Nat} {r : Resume} {s s' : Shared} {res : GenResult} (h : Wakes M Γ p g r s res s') (G : Good R s) : Good R s' ∧ Wakes M Γ p g r (thaw R s) res (thaw R s') := by
  unfold Wakes at h ⊢
  cases q : s.gens[g]? with
  | none => rw [q] at h; exact h.elim
  | some x =>
    rw [q] at h
    cases x with
    | fresh c =>
      have hn := G.not q rfl
      rw [thaw_get0 hn, q]
      cases r with
      | throw x =>
        obtain ⟨rfl, rfl⟩ := h
        exact ⟨G.set hn rfl, rfl, thaw_set hn⟩
      | send v =>
        cases v with
        | none =>
          obtain ⟨e₁, s₁, hr, hq, rfl, rfl⟩ := h
          obtain ⟨a, b, c⟩ := runs_thaw hr rfl (G.set hn rfl)
          rw [thaw_set hn] at c
          exact ⟨a.set hn (genState_wf b), e₁, _, c, hq, rfl, thaw_set hn⟩
        | _ => obtain ⟨rfl, rfl⟩ := h; exact ⟨G, rfl, rfl⟩
    | suspended k₀ l₀ c₀ p₀ fs cl =>
      obtain ⟨e₁, s₁, hr, hq, rfl, rfl⟩ := h
      cases e2 : R g with
      | some y =>
        obtain ⟨h2, h3⟩ := G.deaf g y e2
        rw [q] at h3
        cases y with
        | suspended k2 l2 c2 p2 f2 cl2 =>
          cases h3
          exact (never_unsupported hr).elim
        | _ => cases h2
      | none =>
        rw [thaw_get0 e2, q]
        obtain ⟨a, b, c⟩ := runs_thaw hr (G.wf g _ q e2) (G.set e2 rfl)
        rw [thaw_set e2] at c
        exact ⟨a.set e2 (genState_wf b), e₁, _, c, hq, rfl, thaw_set e2⟩
    | running =>
      rw [thaw_get0 (G.not q rfl), q]
      obtain ⟨rfl, rfl⟩ := h
      exact ⟨G, rfl, rfl⟩
    | finished =>
      rw [thaw_get0 (G.not q rfl), q]
      obtain ⟨rfl, rfl⟩ := h
      exact ⟨G, rfl, rfl⟩
theorem wp_thaw {α : Type} {M : Model} {R : Nat → Option GenState} {Γ : Ctx} (t : Sem α) : ∀ (Q : α → Pos → Shared → Prop) (E : Value → Pos → Shared → Prop) (p : Pos) (s : Shared), Good R s → wp M Γ t Q E p s →
    wp M Γ t (fun a p' s' => ∃ s₁, s' = thaw R s₁ ∧ Good R s₁ ∧ Q a p' s₁) (fun e p' s' => ∃ s₁, s' = thaw R s₁ ∧ Good R s₁ ∧ E e p' s₁) p (thaw R s) := by
  induction t with
  | pure a => intro Q E p s G h; exact ⟨s, rfl, G, h⟩
  | raise e => intro Q E p s G h; exact ⟨s, rfl, G, h⟩
  | unsupported _ => intro Q E p s _ h; exact h
  | finish _ => intro Q E p s _ h; exact h
  | rule _ k ih => intro Q E p s G h; exact ih () Q E p s G h
  | «at» p' k ih => intro Q E p s G h; exact ih () Q E p' s G h
  | load a _ k ih => intro Q E p s G h; obtain ⟨o, ho, h⟩ := h; exact ⟨o, ho, ih o Q E p s G h⟩
  | update a _ f k ih => intro Q E p s G h; exact ⟨h.1, ih () Q E p { s with heap := s.heap.update a f } ⟨G.deaf, G.wf⟩ h.2⟩
  | loadIfAlive a k ih => intro Q E p s G h; exact ih _ Q E p s G h
  | point _ k ih => intro Q E p s G h; exact ih () Q E p s G h
  | register _ _ => intro Q E p s _ h; exact h
  | alloc o k ih => intro Q E p s G h; exact ih _ Q E p { s with heap := s.heap.push o } ⟨G.deaf, G.wf⟩ h
  | fresh k ih => intro Q E p s G h; exact ih _ Q E p { s with toks := s.toks + 1 } ⟨G.deaf, G.wf⟩ h
  | ask k ih => intro Q E p s G h; exact ih _ Q E p s G h
  | choose src m k ih => intro Q E p s G h; exact ⟨h.1, ih _ Q E p { s with drawn := s.drawn.bump src } ⟨G.deaf, G.wf⟩ h.2⟩
  | os q _ k ih => intro Q E p s G h; exact ih _ Q E p { s with os := (Os.step s.os q).1 } ⟨G.deaf, G.wf⟩ h
  | call c hd _ _ k ih =>
    intro Q E p s G h
    obtain ⟨r, s', hr, h⟩ := h
    obtain ⟨a, _, c'⟩ := runs_thaw hr rfl G
    exact ⟨r, _, c', ih r Q E p s' a h⟩
  | handled own k ih => intro Q E p s G h; exact ih _ Q E p s G h
  | genState g k ih =>
    intro Q E p s G h
    obtain ⟨st, hs, h⟩ := h
    cases e2 : R g with
    | none => exact ⟨st, by rw [thaw_get0 e2]; exact hs, ih _ Q E p s G h⟩
    | some r =>
      have h2 := (G.deaf g r e2).2
      rw [hs] at h2
      cases h2
      rw [deaf_seen] at h
      exact ⟨r, by rw [thaw_get, hs, e2]; rfl, ih _ Q E p s G h⟩
  | newGen c k ih =>
    intro Q E p s G h
    have := ih _ Q E p _ (G.push rfl) h
    rw [thaw_push G] at this
    show wp M Γ (k (thaw R s).gens.size) _ _ _ _
    rw [thaw_size]
    exact this
  | resume g r _ k ih =>
    intro Q E p s G h
    obtain ⟨res, s', hw, h⟩ := h
    obtain ⟨a, w⟩ := wakes_thaw hw G
    exact ⟨res, _, w, ih res Q E p s' a h⟩
  | yield _ _ _ _ => intro Q E p s _ h; exact h
  | stack k ih => intro Q E p s G h; exact ih _ Q E p s G h
  | fork _ _ => intro Q E p s _ h; exact h
  | thread k ih => intro Q E p s G h; exact ih _ Q E p s G h
  | await _ _ _ _ _ => intro Q E p s _ h; exact h
/-! ### the frame rule -/
def real (s : Shared) (i : Nat) : Option GenState := match s.gens[i]? with
  | some x => if susp x = true then some x else none
  | none => none
def deafen (s : Shared) : Shared := { s with gens := s.gens.map deaf }
theorem deafen_get (s : Shared) (i : Nat) : (deafen s).gens[i]? = (s.gens[i]?).map deaf := by simp [deafen]
theorem deaf_id {x : GenState} (h : susp x ≠ true) : deaf x = x := by cases x <;> simp_all [susp, deaf]
theorem good_deafen (s : Shared) : Good (real s) (deafen s) := by
  refine ⟨fun i r h => ?_, fun i x hx h => ?_⟩
  · unfold real at h
    cases q : s.gens[i]? with
    | none => rw [q] at h; cases h
    | some y =>
      rw [q] at h
      simp only at h
      split at h
      · rename_i hs
        cases h
        exact ⟨hs, by rw [deafen_get, q]; rfl⟩
      · cases h
  · rw [deafen_get] at hx
    obtain ⟨y, q, rfl⟩ := Option.map_eq_some_iff.mp hx
    unfold real at h
    rw [q] at h
    simp only at h
    split at h
    · cases h
    · rename_i hs
      rw [deaf_id hs]
      cases y <;> simp_all [susp, wfG]
theorem thaw_deafen (s : Shared) : thaw (real s) (deafen s) = s := by
  unfold thaw deafen
  obtain ⟨h, g, d, t, o⟩ := s
  congr 1
  refine Array.ext_getElem? fun i => ?_
  rw [Array.getElem?_mapIdx, Array.getElem?_map]
  unfold real
  cases q : g[i]? with
  | none => rfl
  | some y =>
    simp only [Option.map_some]
    split
    · rfl
    · rename_i hs
      rw [deaf_id hs]; rfl
theorem bare_deafen {s : Shared} (h : PyProof.Rows.AllBare s.gens) : PyProof.Rows.AllBare (deafen s).gens := fun y hy => by
  obtain ⟨x, hx, rfl⟩ := Array.mem_map.mp hy
  rw [deaf_bare]; exact h x hx
/-- s' is s₁ but for the table of generators: what slept in s sleeps on -/
structure Slept (s s₁ s' : Shared) : Prop where
  eq : s' = { s₁ with gens := s'.gens }
  kept : ∀ (i : Nat) (x : GenState), s.gens[i]? = some x → susp x = true → s'.gens[i]? = some x
  bare : PyProof.Rows.AllBare s.gens → PyProof.Rows.AllBare s₁.gens → PyProof.Rows.AllBare s'.gens
theorem slept_of {s s₁ : Shared} (G : Good (real s) s₁) : Slept s s₁ (thaw (real s) s₁) := by
  refine ⟨rfl, fun i x hx hs => ?_, fun hb hb1 y hy => ?_⟩
  · have hr : real s i = some x := by unfold real; rw [hx]; simp [hs]
    rw [thaw_get, (G.deaf i x hr).2, hr]; rfl
  · obtain ⟨i, hi, e⟩ := Array.mem_iff_getElem.mp hy
    have q : (thaw (real s) s₁).gens[i]? = some y := by rw [Array.getElem?_eq_getElem hi, e]
    rw [thaw_get] at q
    obtain ⟨z, hz, ez⟩ := Option.map_eq_some_iff.mp q
    cases e2 : real s i with
    | none => rw [e2] at ez; cases ez; exact hb1 _ (Array.mem_of_getElem? hz)
    | some r =>
      rw [e2] at ez
      cases ez
      unfold real at e2
      cases q2 : s.gens[i]? with
      | none => rw [q2] at e2; cases e2
      | some y2 =>
        rw [q2] at e2
        simp only at e2
        split at e2
        · cases e2; exact hb _ (Array.mem_of_getElem? q2)
        · cases e2
theorem wpAny_slept {α : Type} {M : Model} {A : Around} {t : Sem α} {Q : α → Shared → Prop} {E : Value → Shared → Prop} {s : Shared} (h : wpAny M A t Q E (deafen s)) :
    wpAny M A t (fun a s' => ∃ s₁, Slept s s₁ s' ∧ Q a s₁) (fun e s' => ∃ s₁, Slept s s₁ s' ∧ E e s₁) s := by
  intro Γ p hΓ
  have := wp_thaw (R := real s) t _ _ p (deafen s) (good_deafen s) (h Γ p hΓ)
  rw [thaw_deafen] at this
  refine Sem.wp_mono M Γ t ?_ ?_ p s this
  · rintro a p' s' ⟨s₁, rfl, G, q⟩; exact ⟨s₁, slept_of G, q⟩
  · rintro a p' s' ⟨s₁, rfl, G, q⟩; exact ⟨s₁, slept_of G, q⟩
end GT
set_option maxRecDepth 100000
set_option maxHeartbeats 4000000
namespace GT
open PySem L2 PySem.Spec PyProof.Rows GenW DL
/-! ### a stretch of a generator's code, up to its next yield or its end -/
def SegZ (M : Model) (A : Around) (Z : End → Shared → Prop) (c : Code) (t : Sem PySem.Fin) (fs : List Frame) (s : Shared) : Prop :=
  ∀ Γ p, Γ.code = c → Γ.Woken A → ∃ e s', Runs M Γ p t fs s e s' ∧ Z e s'
section
variable {M : Model} {A : Around} {Z : End → Shared → Prop} {c : Code} {fs : List Frame} {s : Shared}
theorem sz_wrap {α : Type} {m : Sem α} {K : α → Sem PySem.Fin} {H : Value → Sem PySem.Fin} {gd lv}
    (h : wpAny M (A.over c fs) m (fun a s' => SegZ M A Z c (K a) fs s') (fun x s' => SegZ M A Z c (H x) fs s') s) : SegZ M A Z c (m.wrap K H gd lv) fs s := fun Γ p hc hΓ => by
  subst hc
  exact runs_wrap_of_wp K H gd lv m (h _ p (hΓ.over fs)) (fun a p' s' q => q Γ p' rfl hΓ) (fun x p' s' q => q Γ p' rfl hΓ)
theorem sz_bind {α : Type} {m : Sem α} {K : α → Sem PySem.Fin} (h : wpAny M (A.over c fs) m (fun a s' => SegZ M A Z c (K a) fs s') (fun x s' => SegZ M A Z c (.raise x) fs s') s) : SegZ M A Z c (m >>= K) fs s := by
  rw [Sem.bind_eq_wrap']
  exact sz_wrap h
theorem sz_at {p' : Pos} {k : Unit → Sem PySem.Fin} (h : SegZ M A Z c (k ()) fs s) : SegZ M A Z c (.at p' k) fs s :=
  sz_wrap (m := standAt p') (K := k) (H := .raise) (gd := id) (lv := id) (wpAny_standAt h)
theorem sz_point {l : List Value} {k : Unit → Sem PySem.Fin} (h : SegZ M A Z c (k ()) fs s) : SegZ M A Z c (.point l k) fs s :=
  sz_wrap (m := point) (K := k) (H := .raise) (gd := id) (lv := fun _ => l) (wpAny_point h)
theorem sz_call {c' : Code} {h g l} {k : Result → Sem PySem.Fin} (hc : ∀ p, SegZ M A Z c' (M.den c') (.ret k h g l c p [] :: fs) s) : SegZ M A Z c (.call c' h g l k) fs s := fun Γ p e hΓ => by
  subst e
  obtain ⟨e, s', hr, he⟩ := hc p (Γ.goto c') p rfl (hΓ.goto c')
  exact ⟨e, s', runs_call_seg hr, he⟩
theorem sz_leaf {k h g l c₁ p₁ kp} (r : Result) (hk : SegZ M A Z c₁ (k r) fs s) : SegZ M A Z c (leafOf r) (.ret k h g l c₁ p₁ kp :: fs) s := fun Γ p e hΓ => by
  subst e
  obtain ⟨e, s', hr, he⟩ := hk (Γ.goto c₁) p₁ rfl (hΓ.goto c₁)
  exact ⟨e, s', Runs.pop r hr, he⟩
theorem sz_again {c' : Code} (hq : c'.quiet = true) (hc : SegZ M A Z c' (M.den c') fs s) : SegZ M A Z c (.pure (.again c')) fs s := fun Γ p e hΓ => by
  subst e
  obtain ⟨e, s', hr, he⟩ := hc (Γ.goto c') p rfl (hΓ.goto c')
  exact ⟨e, s', Runs.head (c₁ := c') (fun _ _ x => .again hq x) hr, he⟩
theorem sz_end (r : Result) (h : Z (.ret r) s) : SegZ M A Z c (leafOf r) [] s := fun Γ p _ _ => ⟨.ret r, s, Runs.leaf r, h⟩
theorem sz_yield {v g l} {k : Resume → Sem PySem.Fin} (hfs : splitAtGen fs = none) (h : ∀ p, Z (.susp v g l k c p fs) s) : SegZ M A Z c (.yield v g l k) fs s := fun Γ p e _ => by
  subst e
  exact ⟨_, s, Runs.yield' fs hfs, h p⟩
theorem sz_mono {Z' : End → Shared → Prop} {t : Sem PySem.Fin} (h : SegZ M A Z c t fs s) (m : ∀ e s', Z e s' → Z' e s') : SegZ M A Z' c t fs s := fun Γ p e hΓ => by
  obtain ⟨e, s', hr, he⟩ := h Γ p e hΓ
  exact ⟨e, s', hr, m e s' he⟩
end
/-! ### the heap below an address -/
def cut (N : Nat) (h : Heap) : Heap := { h with objs := h.objs.extract 0 N }
theorem cut_size {N : Nat} {h : Heap} (hN : N ≤ h.objs.size) : (cut N h).objs.size = N := by
  show (h.objs.extract 0 N).size = N
  rw [Array.size_extract]; omega
theorem cut_get {N : Nat} {h : Heap} {b : Addr} : (cut N h).get? b = if b < N then h.get? b else none := by
  unfold Heap.get? cut
  show (match (h.objs.extract 0 N)[b]? with | some ⟨_, _, .freed, _⟩ => none | o => o) = _
  rw [Array.getElem?_extract]
  by_cases hb : b < N
  · rw [if_pos hb]
    by_cases hs : b < h.objs.size
    · rw [if_pos (by show b < min N h.objs.size - 0; exact Nat.lt_min.mpr ⟨hb, hs⟩), Nat.zero_add]
      rfl
    · rw [if_neg (by intro z; exact hs (Nat.lt_of_lt_of_le z (by show min N h.objs.size - 0 ≤ _; exact Nat.min_le_right _ _))), Array.getElem?_eq_none (Nat.le_of_not_lt hs)]
  · rw [if_neg (by intro z; exact hb (Nat.lt_of_lt_of_le z (by show min N h.objs.size - 0 ≤ _; exact Nat.min_le_left _ _))), if_neg hb]
theorem cut_some {N : Nat} {h : Heap} {b : Addr} {o : Obj} (e : (cut N h).get? b = some o) : b < N ∧ h.get? b = some o := by
  rw [cut_get] at e
  split at e
  · exact ⟨by assumption, e⟩
  · cases e
theorem cut_lt {N : Nat} {h : Heap} {b : Addr} (hb : b < N) : (cut N h).get? b = h.get? b := by rw [cut_get, if_pos hb]
def cutS (N : Nat) (s : Shared) : Shared := { s with heap := cut N s.heap }
/-! ### a generator's frame -/
structure GP where
  P : Program
  w : World
  K : PySem.W.Frag
  mg : Str → Option Value
  base : Heap
  N : List Str
  qual : Str
  scope : Scope
  f : Addr
  cdv : Value
  A : Around
  outer : List Env
  L : Addr
  pn : List (Addr × Obj)
abbrev GP.env (G : GP) : Env := envOfC G.qual G.scope G.L G.f G.cdv
def GP.X (G : GP) (s : Shared) (H : Hp) : Cx where
  prog := G.P
  w := G.w
  K := G.K
  mg := G.mg
  base := G.base
  A := G.A.deeper G.env
  N := G.N
  s_0 := s
  H_0 := H
  env := G.env
  outer := G.outer
  stack := G.env :: G.outer
  ex := []
  calm := true
  fn := fun _ => true
  pn := G.pn
  xe := fun _ _ => False
theorem funs_cut {N : Nat} {h base : Heap} : ∀ {l : List Env}, h.FunFrames base l → (∀ b ∈ frs l, b < N) → (cut N h).FunFrames base l
  | [], _, _ => trivial
  | env :: rest, ⟨h1, ⟨L, o, h2, h3, h4, h5⟩, h6⟩, hl => by
    have hL : L < N := hl L (by unfold frs; rw [List.filterMap_cons, h2]; exact List.mem_cons_self)
    refine ⟨h1, ⟨L, o, h2, h3, by rw [cut_lt hL]; exact h4, h5⟩, funs_cut h6 fun b hb => hl b ?_⟩
    unfold frs at hb ⊢
    rw [List.filterMap_cons, h2]
    exact List.mem_cons_of_mem _ hb
/-- woken: the frame's objects are as they were; the reference is what stands now -/
theorem rebase {G : GP} {s₀ s s2 : Shared} {H₀ H H2 : Hp} {ip : List (Addr × Obj)} {σ : L2.St} (hz : s₀.heap.objs.size = G.L) (hcl : G.env.cells = []) (I : Inv (G.X s₀ H₀) ip σ H s) {A2 : Around}
    (e0 : Env0 G.P G.w G.K G.mg G.base A2 G.outer s2 H2) (hL : ∀ o, s.heap.get? G.L = some o → s2.heap.get? G.L = some o) (hLH : H2 G.L = none) (hp : ∀ p ∈ G.pn ++ ip, s2.heap.get? p.1 = some p.2 ∧ H2 p.1 = none) :
    Inv (G.X (cutS G.L s2) H2) ip σ H2 s2 := by
  obtain ⟨m, hns, hloc⟩ := I.loc
  obtain ⟨oL, es, ep, hoL, hrest⟩ := id hns
  have hLlt : G.L < s2.heap.objs.size := Heap.lt_size (hL oL hoL)
  have hsz : (cutS G.L s2).heap.objs.size = G.L := cut_size (Nat.le_of_lt hLlt)
  have hfr : ∀ b ∈ frs G.outer, b < G.L := fun b hb => by
    obtain ⟨_, o, e, _⟩ := I.ok.funs.mem hb
    have := Heap.lt_size e
    rw [← hz]; exact this
  have nocell : ∀ x c, ¬ G.env.cells.lookup x = some c := fun x c h => by rw [hcl] at h; cases h
  refine ⟨⟨I.ok.mod, I.ok.kind, I.ok.glob, I.ok.blt, ?_, fun x y c h => (nocell x c h).elim, I.ok.has, fun x c _ h => (nocell x c h).elim, I.ok.hd, I.ok.frames, I.ok.stk, fun b hb => absurd hb (by simp [GP.X]), fun b o e => ?_, ?_, fun b o e h => absurd h (by simp [GP.X]), fun b hb => absurd hb (by simp [GP.X]), ?_, e0.frf⟩, rfl, e0.bare, ?_, ⟨m, ⟨oL, es, ep, hL oL hoL, hrest⟩, fun i x v h1 h2 h3 => ?_⟩, fun x c h => (nocell x c h).elim, hLH, fun x c h => (nocell x c h).elim, fun p hp' => ?_, e0.hok, I.len⟩
  · show (cutS G.L s2).heap.objs.size ≤ G.L
    rw [hsz]; exact Nat.le_refl _
  · have hb : b < G.L := by
      have h1 := Heap.lt_size (I.ok.bs b o e).1
      exact Nat.lt_of_lt_of_eq h1 hz
    exact ⟨by show (cut G.L s2.heap).get? b = _; rw [cut_lt hb]; exact (e0.bs b o e).1, (e0.bs b o e).2⟩
  · show G.base.objs.size ≤ (cutS G.L s2).heap.objs.size
    rw [hsz, ← hz]; exact I.ok.bsz
  · exact funs_cut e0.funs hfr
  · refine ⟨fun b o e _ _ _ => (cut_some e).2, fun b o e _ _ _ => ⟨o.slots, (cut_some e).2⟩, fun b o _ n _ => n, fun b o e _ => ⟨o, (cut_some e).2⟩, fun _ _ q => q, fun _ _ _ q => q, fun b ps q => ⟨#[], by rw [show H2 b = some (HO.tbl ps) from q]; simp⟩⟩
  · obtain ⟨u, r, look⟩ := hloc i x v h1 h2 h3
    refine ⟨u, r, ?_⟩
    rcases look with look | ⟨_, c, hc, _⟩
    · exact .inl look
    · exact (nocell x c hc).elim
  · obtain ⟨_, _, i3, i4, i5⟩ := I.pin p hp'
    obtain ⟨j1, j2⟩ := hp p hp'
    exact ⟨j1, j2, i3, i4, i5⟩
/-- what the one who woke it finds: all else but the frame's own things -/
def young (L : Addr) (h : Heap) : List Addr := (List.range h.objs.size).filter fun b => decide (L ≤ b)
theorem mem_young {L b : Addr} {h : Heap} : b ∈ young L h ↔ b < h.objs.size ∧ L ≤ b := by
  unfold young; rw [List.mem_filter, List.mem_range, decide_eq_true_eq]
theorem un_woken {G : GP} {s2 s' : Shared} {H2 H' : Hp} {ip : List (Addr × Obj)} {σ : L2.St} (I : Inv (G.X (cutS G.L s2) H2) ip σ H' s') : Un (frs G.outer) (young G.L s2.heap) H2 H' s2.heap s'.heap := by
  have old : ∀ b o, s2.heap.get? b = some o → b ∉ young G.L s2.heap → (cut G.L s2.heap).get? b = some o := fun b o e hb => by
    have hlt : b < G.L := by
      apply Decidable.byContradiction
      intro z
      exact hb (mem_young.mpr ⟨Heap.lt_size e, Nat.le_of_not_lt z⟩)
    rw [cut_lt hlt]; exact e
  exact ⟨fun b o e n h1 h2 => I.base.keep b o (old b o e h2) n h1 (by simp [GP.X]), fun b o e n h1 h2 => I.base.slot b o (old b o e h2) n h1 (by simp [GP.X]), fun b o e n h2 => I.base.free b o (old b o e h2) n (by simp [GP.X]),
    fun b o e h2 => I.base.there b o (old b o e h2) (by simp [GP.X]), I.base.tups, I.base.frzs, I.base.tbls⟩
end GT
set_option maxRecDepth 100000
set_option maxHeartbeats 4000000
namespace GT
open PySem L2 PySem.Spec PyProof.Rows GenW DL
/-- what stood when it was woken -/
structure Gh where
  s : Shared
  H : Hp
  M : Hp
  cs : Cells
/-- it may be woken: it knows M, its own objects are pv -/
structure Wake (G : GP) (Gd : Cells → Prop) (M : Hp) (pv : List (Addr × Obj)) (y : Gh) : Prop where
  env : Env0 G.P G.w G.K G.mg G.base G.A G.outer y.s y.H
  same : Same M y.M
  ok : Ok G.K y.M y.H y.cs
  gd : Gd y.cs
  pv : ∀ p ∈ pv, y.s.heap.get? p.1 = some p.2 ∧ y.H p.1 = none
/-- how it leaves things -/
structure Left (G : GP) (y : Gh) (s' : Shared) (H' M' : Hp) : Prop where
  os : s'.os = y.s.os
  bare : AllBare s'.gens
  un : Un (frs G.outer) (young G.L y.s.heap) y.H H' y.s.heap s'.heap
  hok : HOk G.P G.w H' s'.heap
  same : Same y.M M'
  ok : Ok G.K M' H' y.cs
structure PvOk (G : GP) (pv : List (Addr × Obj)) (s' : Shared) (H' : Hp) : Prop where
  at_ : ∀ p ∈ pv, s'.heap.get? p.1 = some p.2 ∧ H' p.1 = none ∧ G.L ≤ p.1 ∧ ∀ v, p.2.data ≠ .cell v
  pn : ∀ p ∈ G.pn, p ∈ pv
/-- what it hands out from now on: ds, and if fin that is all -/
def Zy (G : GP) (Gd : Cells → Prop) (fin : Bool) : List Dat → Gh → End → Shared → Prop
  | [], y, e, s' => e.quiet = true ∧ (fin = true → e = .ret (.ok (.ret .none)) ∧ ∃ H' M', Left G y s' H' M' ∧ ∀ p ∈ G.pn, s'.heap.get? p.1 = some p.2)
  | d :: r, y, e, s' => ∃ v g l k c p fs, e = .susp v g l k c p fs ∧ e.quiet = true ∧ ∃ H' M' pv x, Left G y s' H' M' ∧ RelV x v ∧ Dr G.K M' x d ∧ PvOk G pv s' H' ∧
      ∀ y', Wake G Gd M' pv y' → SegZ (model G.P G.w) G.A (Zy G Gd fin r y') c (k (.send .none)) fs y'.s
/-- running -/
def RunG (G : GP) (Mk : Hp) (y : Gh) (ip : List (Addr × Obj)) (ρ : DEnv) (cs : Cells) (s : Shared) : Prop :=
  ∃ σ H M, Inv (G.X (cutS G.L y.s) y.H) ip σ H s ∧ Same Mk M ∧ Same y.M M ∧ Ok G.K M H cs ∧ Rho G.K M σ ρ
structure GDs where
  nx : List Dat → Cells → DEnv → Cells → Prop
  rt : List Dat → Cells → Vl → Cells → Prop
  bk : List Dat → Cells → DEnv → Cells → Prop := fun _ _ _ _ => False
  ct : List Dat → Cells → DEnv → Cells → Prop := fun _ _ _ _ => False
abbrev WGn := GDs → List Dat → Cells → DEnv → Cells → Prop
def GDs.at (D : GDs) (xs : List Dat) (c0 : Cells) : DEnds := { nx := D.nx xs c0, rt := D.rt xs c0, bk := D.bk xs c0, ct := D.ct xs c0 }
def GSPd (G : GP) (Mk : Hp) (y : Gh) (ip : List (Addr × Obj)) (D : GDs) (xs : List Dat) (f : Flow) (s : Shared) : Prop :=
  match f with
  | .next => ∃ ρ cs, RunG G Mk y ip ρ cs s ∧ D.nx xs y.cs ρ cs
  | .brk => ∃ ρ cs, RunG G Mk y ip ρ cs s ∧ D.bk xs y.cs ρ cs
  | .cont => ∃ ρ cs, RunG G Mk y ip ρ cs s ∧ D.ct xs y.cs ρ cs
  | .ret u => ∃ v x σ H M cs, Inv (G.X (cutS G.L y.s) y.H) ip σ H s ∧ Same Mk M ∧ Same y.M M ∧ Ok G.K M H cs ∧ RelV v u ∧ RV G.K M v x ∧ D.rt xs y.cs x cs
/-- where its code stands -/
structure GCd (G : GP) (ip : List (Addr × Obj)) (c : Code) (fs : List Frame) (gd : Bool → Bool) : Prop where
  cells : G.env.cells = []
  yng : ∀ p ∈ G.pn ++ ip, G.L ≤ p.1
  over : G.A.over c fs = G.A.deeper G.env
  split : splitAtGen fs = none
  guard : fs.any Frame.guarded = false
  gd : gd false = false
/-- the wakings that it can stand -/
def Lg (G : GP) (y : Gh) : Prop := G.L ≤ y.s.heap.objs.size
def GKd (G : GP) (Gd : Cells → Prop) (fin : Bool) (Mk : Hp) (ip : List (Addr × Obj)) (c : Code) (fs : List Frame) (K : Flow → Sem PySem.Fin) (D : GDs) : Prop :=
  ∀ (y : Gh) (xs : List Dat) (s : Shared) (f : Flow), Lg G y → GSPd G Mk y ip D xs f s → SegZ (model G.P G.w) G.A (Zy G Gd fin xs y) c (K f) fs s
/-- a statement of a generator, for every state that it may be woken in -/
structure DGS (G : GP) (Gd : Cells → Prop) (fin : Bool) (st : Stmt) (t : WGn) : Prop where
  run : ∀ (Mk : Hp) (y : Gh) (ip : List (Addr × Obj)) (c : Code) (fs : List Frame) (K : Flow → Sem PySem.Fin) (J : Value → Sem PySem.Fin) (gd : Bool → Bool) (lv : List Value → List Value) (s : Shared) (xs : List Dat) (ρ : DEnv) (cs : Cells) (D : GDs),
    GCd G ip c fs gd → Lg G y → GKd G Gd fin Mk ip c fs K D → RunG G Mk y ip ρ cs s → t D xs y.cs ρ cs → SegZ (model G.P G.w) G.A (Zy G Gd fin xs y) c ((exec st G.env).wrap K J gd lv) fs s
structure DGSs (G : GP) (Gd : Cells → Prop) (fin : Bool) (st : List Stmt) (t : WGn) : Prop where
  run : ∀ (Mk : Hp) (y : Gh) (ip : List (Addr × Obj)) (c : Code) (fs : List Frame) (K : Flow → Sem PySem.Fin) (J : Value → Sem PySem.Fin) (gd : Bool → Bool) (lv : List Value → List Value) (s : Shared) (xs : List Dat) (ρ : DEnv) (cs : Cells) (D : GDs),
    GCd G ip c fs gd → Lg G y → GKd G Gd fin Mk ip c fs K D → RunG G Mk y ip ρ cs s → t D xs y.cs ρ cs → SegZ (model G.P G.w) G.A (Zy G Gd fin xs y) c ((execs st G.env).wrap K J gd lv) fs s
section
variable {G : GP} {Gd : Cells → Prop} {fin : Bool} {st : Stmt} {sts : List Stmt} {ws : WS} {t u : WGn}
/-- the data's ends are the code's ends -/
theorem sp_gd {y : Gh} {ip : List (Addr × Obj)} {D : GDs} {xs : List Dat} {f : Flow} {s : Shared} {M Mk : Hp} (hk : Same Mk M) (hM : Same y.M M)
    (h : SP (G.X (cutS G.L y.s) y.H) ip { nx := fun σ H => ∃ M' ρ cs, Same M M' ∧ Ok G.K M' H cs ∧ Rho G.K M' σ ρ ∧ D.nx xs y.cs ρ cs, rt := fun v H => ∃ M' x cs, Same M M' ∧ Ok G.K M' H cs ∧ RV G.K M' v x ∧ D.rt xs y.cs x cs, bk := fun σ H => ∃ M' ρ cs, Same M M' ∧ Ok G.K M' H cs ∧ Rho G.K M' σ ρ ∧ D.bk xs y.cs ρ cs, ct := fun σ H => ∃ M' ρ cs, Same M M' ∧ Ok G.K M' H cs ∧ Rho G.K M' σ ρ ∧ D.ct xs y.cs ρ cs } f s) :
    GSPd G Mk y ip D xs f s := by
  cases f with
  | next => obtain ⟨σ, H, I, M', ρ, cs, a, b, c, d⟩ := h; exact ⟨ρ, cs, ⟨σ, H, M', I, hk.trans a, hM.trans a, b, c⟩, d⟩
  | brk => obtain ⟨σ, H, I, M', ρ, cs, a, b, c, d⟩ := h; exact ⟨ρ, cs, ⟨σ, H, M', I, hk.trans a, hM.trans a, b, c⟩, d⟩
  | cont => obtain ⟨σ, H, I, M', ρ, cs, a, b, c, d⟩ := h; exact ⟨ρ, cs, ⟨σ, H, M', I, hk.trans a, hM.trans a, b, c⟩, d⟩
  | ret u => obtain ⟨v, σ, H, I, r, M', x, cs, a, b, c, d⟩ := h; exact ⟨v, x, σ, H, M', cs, I, hk.trans a, hM.trans a, b, r, c, d⟩
def wGP (ws : WS) : WGn := fun D xs c0 ρ cs => ws (D.at xs c0) ρ cs
theorem ends_gd {y : Gh} {D : GDs} {xs : List Dat} {M : Hp} : EndsOk G.K M (D.at xs y.cs) { nx := fun σ H => ∃ M' ρ cs, Same M M' ∧ Ok G.K M' H cs ∧ Rho G.K M' σ ρ ∧ D.nx xs y.cs ρ cs, rt := fun v H => ∃ M' x cs, Same M M' ∧ Ok G.K M' H cs ∧ RV G.K M' v x ∧ D.rt xs y.cs x cs, bk := fun σ H => ∃ M' ρ cs, Same M M' ∧ Ok G.K M' H cs ∧ Rho G.K M' σ ρ ∧ D.bk xs y.cs ρ cs, ct := fun σ H => ∃ M' ρ cs, Same M M' ∧ Ok G.K M' H cs ∧ Rho G.K M' σ ρ ∧ D.ct xs y.cs ρ cs } :=
  ⟨fun σ' ρ' M' H' cs' s o r p => ⟨M', ρ', cs', s, o, r, p⟩, fun v x M' H' cs' s o r p => ⟨M', x, cs', s, o, r, p⟩, fun σ' ρ' M' H' cs' s o r p => ⟨M', ρ', cs', s, o, r, p⟩, fun σ' ρ' M' H' cs' s o r p => ⟨M', ρ', cs', s, o, r, p⟩⟩
theorem dgs_plain (h : ∀ s H, DS (G.X s H) st ws) : DGS G Gd fin st (wGP ws) := by
  refine ⟨fun Mk y ip c fs K J gd lv s xs ρ cs D g hy k ⟨σ, H, M, I, hk, hM, o, r⟩ ht => sz_wrap ?_⟩
  rw [g.over]
  exact wpAny_mono ((h _ _).run ip s σ H _ I ⟨M, ρ, cs, D.at xs y.cs, o, r, ht, ends_gd⟩) (fun f s' hs => k y xs s' f hy (sp_gd hk hM hs)) fun x s' hx => hx.elim
theorem dgss_plain (h : ∀ s H, DSs (G.X s H) sts ws) : DGSs G Gd fin sts (wGP ws) := by
  refine ⟨fun Mk y ip c fs K J gd lv s xs ρ cs D g hy k ⟨σ, H, M, I, hk, hM, o, r⟩ ht => sz_wrap ?_⟩
  rw [g.over]
  exact wpAny_mono ((h _ _).run ip s σ H _ I ⟨M, ρ, cs, D.at xs y.cs, o, r, ht, ends_gd⟩) (fun f s' hs => k y xs s' f hy (sp_gd hk hM hs)) fun x s' hx => hx.elim
def wG0 : WGn := fun D xs c0 ρ cs => D.nx xs c0 ρ cs
theorem dgss_nil : DGSs G Gd fin [] wG0 := ⟨fun Mk y ip c fs K J gd lv s xs ρ cs D g hy k hR ht => k y xs s .next hy ⟨ρ, cs, hR, ht⟩⟩
def wGSeq (t u : WGn) : WGn := fun D xs c0 ρ cs => t { D with nx := u D } xs c0 ρ cs
theorem dgss_cons (a : DGS G Gd fin st t) (b : DGSs G Gd fin sts u) : DGSs G Gd fin (st :: sts) (wGSeq t u) := by
  refine ⟨fun Mk y ip c fs K J gd lv s xs ρ cs D g hy k hR ht => ?_⟩
  rw [execs_cons_wrap]
  refine a.run Mk y ip c fs _ J gd lv s xs ρ cs { D with nx := u D } g hy (fun y' xs' s' f hy' hs => ?_) hR ht
  cases f with
  | next =>
    obtain ⟨ρ', cs', hR', q⟩ := hs
    exact b.run Mk y' ip c fs K J gd lv s' xs' ρ' cs' D g hy' k hR' q
  | brk => exact k y' xs' s' .brk hy' hs
  | cont => exact k y' xs' s' .cont hy' hs
  | ret v => exact k y' xs' s' (.ret v) hy' hs
/-! ### if -/
def wGIf (c : WT) (t u : WGn) : WGn := fun D xs c0 ρ cs => c ρ cs fun b cs1 => if b = true then t D xs c0 ρ cs1 else u D xs c0 ρ cs1
theorem dgs_if {test : Expr} {sa sb : List Stmt} {pos : Pos} {w : WT} (hc : ∀ s H, DT (G.X s H) test w) (ha : DGSs G Gd fin sa t) (hb : DGSs G Gd fin sb u) : DGS G Gd fin (.If test sa sb pos) (wGIf w t u) := by
  refine ⟨fun Mk y ip c fs K J gd lv s xs ρ cs D g hy k ⟨σ, H, M, I, hk, hM, o, r⟩ ht => ?_⟩
  rw [exec_If]
  refine sz_at ?_
  show SegZ _ _ _ c ((isTrue test G.env (eval test G.env) >>= fun b => if b = true then execs sa G.env else execs sb G.env).wrap K J gd lv) fs s
  rw [Sem.bind_eq_wrap', Sem.wrap_wrap]
  refine sz_wrap ?_
  rw [g.over]
  refine wpAny_mono ((hc _ _).run ip s σ H (fun b H' => ∃ M' cs', Same M M' ∧ Ok G.K M' H' cs' ∧ if b = true then t D xs y.cs ρ cs' else u D xs y.cs ρ cs') I ⟨M, ρ, cs, _, o, r, ht, fun b M' H' cs' s o' p => ⟨M', cs', s, o', p⟩⟩) (fun b s' hs => ?_) fun x s' hx => hx.elim
  obtain ⟨H', I', M', cs', sm, o', p⟩ := hs
  cases b with
  | true => exact ha.run Mk y ip c fs K J gd lv s' xs ρ cs' D g hy k ⟨σ, H', M', I', hk.trans sm, hM.trans sm, o', r.mono sm⟩ (by simpa using p)
  | false => exact hb.run Mk y ip c fs K J gd lv s' xs ρ cs' D g hy k ⟨σ, H', M', I', hk.trans sm, hM.trans sm, o', r.mono sm⟩ (by simpa using p)
/-! ### yield -/
def wGY (Gd : Cells → Prop) (fin : Bool) (we : WE) : WGn := fun D xs c0 ρ cs => we ρ cs fun x cs1 => SubC c0 cs1 ∧ ((xs = [] ∧ fin = false) ∨ ∃ d r, x = .dat d ∧ xs = d :: r ∧ ∀ c1, Gd c1 → D.nx r c1 ρ c1)
theorem dgs_yield {e : Expr} {yp pos : Pos} {we : WE} (he : ∀ s H, DE (G.X s H) e we) (hco : G.scope.isCoroutine = false := by rfl) (hi : interactive G.env = false := by rfl) : DGS G Gd fin (.Expr (.Yield (some e) yp) pos) (wGY Gd fin we) := by
  refine ⟨fun Mk y ip c fs K J gd lv s xs ρ cs D g hy k ⟨σ, H, M, I, hk, hM, o, r⟩ ht => ?_⟩
  rw [exec_Expr G.env _ pos hi rfl]
  show SegZ _ _ _ c (.at pos fun _ => ((eval e G.env >>= fun v => (standAt yp >>= fun _ => yieldOut G.env v)) >>= fun x => dropValue (.Yield (some e) yp) pos x).wrap K J gd lv) fs s
  have hyo : ∀ v, yieldOut G.env v = yieldValue v := fun v => by
    unfold yieldOut
    rw [if_neg (by show ¬ G.scope.isCoroutine = true; rw [hco]; decide)]
  simp only [hyo]
  refine sz_at ?_
  rw [Sem.bind_eq_wrap', Sem.bind_eq_wrap', Sem.wrap_wrap, Sem.wrap_wrap]
  refine sz_wrap ?_
  rw [g.over]
  refine wpAny_mono ((he _ _).run ip s σ H (fun v H' => ∃ x M' cs', Same M M' ∧ Ok G.K M' H' cs' ∧ RV G.K M' v x ∧ SubC y.cs cs' ∧ ((xs = [] ∧ fin = false) ∨ ∃ d r, x = .dat d ∧ xs = d :: r ∧ ∀ c1, Gd c1 → D.nx r c1 ρ c1)) I ⟨M, ρ, cs, _, o, r, ht, fun v x M' H' cs' s o' rv p => ⟨x, M', cs', s, o', rv, p.1, p.2⟩⟩) (fun v s' hs => ?_) fun x s' hx => hx.elim
  obtain ⟨x, H', I', rx, xd, M', cs', sm, o', rv, hsub, hx⟩ := hs
  refine sz_at (sz_yield g.split fun p => ?_)
  have hq : ∀ l kk, (End.susp v (gd false) l kk c p fs).quiet = true := fun l kk => by simp [End.quiet, g.gd, g.guard]
  rcases hx with ⟨e1, e2⟩ | ⟨d, rest, e1, e2, q⟩
  · rw [e1]
    exact ⟨hq _ _, fun z => by rw [e2] at z; cases z⟩
  · rw [e2]
    subst e1
    obtain ⟨m, hns, hloc⟩ := I'.loc
    obtain ⟨oL, es, ep, hoL, hdat, hrest⟩ := id hns
    have hoL : s'.heap.get? G.L = some oL := hoL
    refine ⟨v, gd false, _, _, c, p, fs, rfl, hq _ _, H', M', (G.L, oL) :: (G.pn ++ ip), x, ⟨I'.os, I'.bare, un_woken I', I'.hok, hM.trans sm, o'.sub hsub⟩, rx, rv, ⟨fun q hq => ?_, fun q hq => List.mem_cons_of_mem _ (List.mem_append_left _ hq)⟩, fun y' W => ?_⟩
    · rcases List.mem_cons.mp hq with z | z
      · rw [z]
        exact ⟨hoL, I'.free, Nat.le_refl _, fun v z => by rw [hdat] at z; cases z⟩
      · obtain ⟨i1, i2, _, _, i5⟩ := I'.pin q z
        exact ⟨i1, i2, g.yng q z, i5⟩
    · have hL := (W.pv (G.L, oL) List.mem_cons_self)
      have I2 := rebase (cut_size hy) g.cells I' W.env (fun o e => by rw [hoL] at e; cases e; exact hL.1) hL.2 (fun q hq => W.pv q (List.mem_cons_of_mem _ hq))
      have hy' : Lg G y' := Nat.le_of_lt (Heap.lt_size hL.1)
      exact k y' rest y'.s .next hy' ⟨ρ, y'.cs, ⟨σ, y'.H, y'.M, I2, (hk.trans sm).trans W.same, Same.refl _, W.ok, (r.mono sm).mono W.same⟩, q y'.cs W.gd⟩
end
end GT
set_option maxRecDepth 100000
set_option maxHeartbeats 4000000
namespace GT
open PySem L2 PySem.Spec PyProof.Rows GenW DL
section
variable {M : Model} {A : Around} {Z : End → Shared → Prop} {c : Code} {fs : List Frame} {s : Shared}
theorem sz_bindw {α β : Type} {m : Sem α} {f : α → Sem β} {K : β → Sem PySem.Fin} {H : Value → Sem PySem.Fin} {gd lv}
    (h : wpAny M (A.over c fs) m (fun a s' => SegZ M A Z c ((f a).wrap K H gd lv) fs s') (fun x s' => SegZ M A Z c (H x) fs s') s) : SegZ M A Z c ((m >>= f).wrap K H gd lv) fs s := by
  rw [Sem.bind_eq_wrap', Sem.wrap_wrap]
  exact sz_wrap h
end
/-! ### for -/
def wGFor (wi : WI) (g : WG) (tb : WGn) : WGn := fun D xs c0 ρ cs => wi ρ cs fun items Gi cs1 => ∃ Inv : Nat → List Dat → Cells → DEnv → Cells → Prop, Inv 0 xs c0 ρ cs1 ∧ (∀ i xs c0 ρ' cs', i ≤ items.length → Inv i xs c0 ρ' cs' → Gi cs') ∧
  (∀ i x xs c0 ρ' cs', items[i]? = some x → Inv i xs c0 ρ' cs' → g x ρ' cs' fun ρ2 cs2 => tb { D with nx := Inv (i + 1), ct := Inv (i + 1), bk := D.nx } xs c0 ρ2 cs2) ∧ ∀ xs c0 ρ' cs', Inv items.length xs c0 ρ' cs' → D.nx xs c0 ρ' cs'
section
variable {G : GP} {Gd : Cells → Prop} {fin : Bool}
theorem gcd_loop {ip : List (Addr × Obj)} {c c' : Code} {fs : List Frame} {gd : Bool → Bool} {k : Result → Sem PySem.Fin} {l kp : List Value} {p : Pos} (g : GCd G ip c fs gd) (hw : c'.weight = 0) (hu : c'.cUnits = 0) : GCd G ip c' (.ret k none (gd false) l c p kp :: fs) id where
  cells := g.cells
  yng := g.yng
  over := (over_loop hw hu).trans g.over
  split := by
    show (splitAtGen fs).map _ = none
    rw [g.split]; rfl
  guard := by
    show (gd false || fs.any Frame.guarded) = false
    rw [g.gd, g.guard]; rfl
  gd := rfl
theorem dgs_for {tg iter : Expr} {body : List Stmt} {pos : Pos} {js : List Nat} {wi : WI} {g : WG} {tb : WGn} (hi : ∀ s H, DI (G.X s H) tg iter wi) (hg : ∀ s H, DG (G.X s H) js tg g) (hb : DGSs G Gd fin body tb)
    (hs : ∀ x, foldedSetIterable iter G.env x = pure x := by intro _; rfl) : DGS G Gd fin (.For tg iter body [] pos) (wGFor wi g tb) := by
  refine ⟨fun Mk y ip c fs K J gd lv s xs ρ cs D gc hy k ⟨σ, H, M, I, hk, hM, o, r⟩ ht => ?_⟩
  rw [exec_For]
  refine sz_at ?_
  show SegZ _ _ _ c ((eval iter G.env >>= fun v => foldedSetIterable iter G.env v >>= fun x => standAt iter.pos >>= fun _ => holding [x] (pyIter x) >>= fun it => runOwn (.forLoop tg it body [] G.env) G.env).wrap K J gd lv) fs s
  refine sz_bindw ?_
  rw [gc.over]
  refine wpAny_mono ((hi _ _).run ip s σ H (fun JJ H' => ∃ items Gi M' cs', Same M M' ∧ Ok G.K M' H' cs' ∧ ItOk G.K M' JJ items Gi ∧ ∃ Inv : Nat → List Dat → Cells → DEnv → Cells → Prop, Inv 0 xs y.cs ρ cs' ∧ (∀ i xs c0 ρ' cs', i ≤ items.length → Inv i xs c0 ρ' cs' → Gi cs') ∧
    (∀ i x xs c0 ρ' cs', items[i]? = some x → Inv i xs c0 ρ' cs' → g x ρ' cs' fun ρ2 cs2 => tb { D with nx := Inv (i + 1), ct := Inv (i + 1), bk := D.nx } xs c0 ρ2 cs2) ∧ ∀ xs c0 ρ' cs', Inv items.length xs c0 ρ' cs' → D.nx xs c0 ρ' cs') I
    ⟨M, ρ, cs, _, o, r, ht, fun JJ items Gi M' H' cs' sm o' it p => ⟨items, Gi, M', cs', sm, o', it, p⟩⟩) (fun v s1 h1 => ?_) fun x s' hx => hx.elim
  rw [hs]
  refine sz_bindw (wpAny_pure ?_)
  refine sz_bindw (wpAny_standAt ?_)
  refine sz_bindw (wpAny_holding ?_)
  rw [gc.over]
  refine wpAny_mono h1 (fun itv s2 h2 => ?_) fun x s' hx => hx.elim
  obtain ⟨it, fp, tn, JJ, H2, rfl, I2, T, tn0, fpk, items, Gi, M1, cs1, sm1, o1, iok, Iv, iv0, ivG, turn, fin'⟩ := h2
  have hLb : ∀ b ∈ fp, G.L ≤ b := fun b hb => by
    rcases (fpk b hb).2.2.2.1 with z | z
    · exact absurd z (by simp [GP.X])
    · exact Nat.le_trans (Nat.le_of_eq (cut_size hy).symm) z
  have stat : ∀ {y' : Gh} {H' : Hp}, Lg G y' → (∀ b ∈ fp, H' b = none) → ∀ b ∈ fp, FpOk (G.X (cutS G.L y'.s) y'.H) ip H' b := fun {y' H'} hy' hn b hb => by
    obtain ⟨_, f1, f2, _, f4, f5⟩ := fpk b hb
    exact ⟨hn b hb, f1, f2, .inr (Nat.le_trans (Nat.le_of_eq (cut_size hy')) (hLb b hb)), f4, f5⟩
  refine sz_call fun p => ?_
  have gl := fun (kk : Result → Sem PySem.Fin) => gcd_loop (k := kk) (c' := .forLoop tg (.ref it) body [] G.env) (l := lv []) (kp := []) (p := p) gc rfl rfl
  have gl2 := fun (kk : Result → Sem PySem.Fin) => gcd_loop (k := kk) (c' := .block [] G.env) (l := lv []) (kp := []) (p := p) gc rfl rfl
  have loop : ∀ (m i : Nat) (y : Gh) (xs : List Dat) (s : Shared) (ρ : DEnv) (cs : Cells), m = items.length - i → i ≤ items.length → Lg G y → (∃ σ H M, Inv (G.X (cutS G.L y.s) y.H) ip σ H s ∧ Same Mk M ∧ Same M1 M ∧ Same y.M M ∧ Ok G.K M H cs ∧ Rho G.K M σ ρ ∧ (∀ b ∈ fp, H b = none) ∧ tn i s.heap) → Iv i xs y.cs ρ cs →
      SegZ (model G.P G.w) G.A (Zy G Gd fin xs y) (.forLoop tg (.ref it) body [] G.env) ((model G.P G.w).den (.forLoop tg (.ref it) body [] G.env))
        (.ret (fun r => ((match r with | .ok f => (.pure f : Sem Flow) | .error e => .raise e).onRaise (cameBack G.env)).wrap K J gd lv) none (gd false) (lv []) c p [] :: fs) s := by
    intro m
    induction m with
    | zero =>
      intro i y xs s ρ cs hm hi hy ⟨σ, H, M, I, hk, h1, hM, o, r, fr, ht⟩ iv
      have ei : i = items.length := by omega
      subst ei
      show SegZ _ _ _ _ ((forTurn tg (.ref it) body [] G.env).onRaise _) _ _
      rw [Sem.onRaise_eq_wrap]
      unfold forTurn
      refine sz_bindw (wpAny_standAt ?_)
      refine sz_bindw (wpAny_onRaise ?_)
      rw [(gl _).over]
      refine wpAny_mono (T.done (G.X (cutS G.L y.s) y.H) rfl rfl rfl rfl items.length ip s σ H (fun _ _ => False) I (stat hy fr) ht (iok.stop M H cs h1 o (ivG _ _ _ _ _ hi iv))) (fun rr s3 h3 => ?_) fun _ _ z => z.elim
      obtain ⟨rfl, I3⟩ := h3
      show SegZ _ _ _ _ (.pure (.again (.block [] G.env))) _ _
      refine sz_again rfl ?_
      show SegZ _ _ _ _ (.pure (.done .next)) _ _
      exact sz_leaf (.ok .next) (k y xs s3 .next hy ⟨ρ, cs, ⟨σ, H, M, I3, hk, hM, o, r⟩, fin' _ _ _ _ iv⟩)
    | succ m ih =>
      intro i y xs s ρ cs hm hi hy ⟨σ, H, M, I, hk, h1, hM, o, r, fr, ht⟩ iv
      have hlt : i < items.length := by omega
      have gi := ivG _ _ _ _ _ hi iv
      show SegZ _ _ _ _ ((forTurn tg (.ref it) body [] G.env).onRaise _) _ _
      rw [Sem.onRaise_eq_wrap]
      unfold forTurn
      refine sz_bindw (wpAny_standAt ?_)
      refine sz_bindw (wpAny_onRaise ?_)
      rw [(gl _).over]
      refine wpAny_mono (T.item (G.X (cutS G.L y.s) y.H) rfl rfl rfl rfl i ip s σ H (fun _ _ => False) I (stat hy fr) ht (iok.go i M H cs h1 o gi hlt)) (fun rr s3 h3 => ?_) fun _ _ z => z.elim
      obtain ⟨u, rfl, h3⟩ := h3
      refine sz_bindw ?_
      rw [(gl _).over]
      refine wpAny_mono h3 (fun _ s4 h4 => ?_) fun _ _ z => z.elim
      obtain ⟨x, H4, I4, rx, yl, t4, fr4⟩ := h4
      obtain ⟨M4, xv, ex, s4', o4, rv⟩ := iok.yld i M H cs x H4 h1 o gi yl hlt
      have I4' := I4.pinned (stat hy fr4) (T.obj _ _ t4)
      refine sz_bindw ?_
      rw [(gl _).over]
      refine wpAny_mono ((hg _ _).run (ip ++ pinsAt fp s4.heap) s4 σ H4 x u (fun σ' H' => ∃ M' ρ' cs', Same M4 M' ∧ Ok G.K M' H' cs' ∧ Rho G.K M' σ' ρ' ∧ tb { D with nx := Iv (i + 1), ct := Iv (i + 1), bk := D.nx } xs y.cs ρ' cs') I4' rx
        ⟨M4, ρ, cs, xv, _, o4, r.mono s4', rv, turn i xv xs y.cs ρ cs ex iv, fun σ' ρ' M' H' cs' sm o' r' _ _ p => ⟨M', ρ', cs', sm, o', r', p⟩⟩) (fun _ s5 h5 => ?_) fun _ _ z => z.elim
      obtain ⟨σ5, H5, I5, M5, ρ5, cs5, sm5, o5, r5, q5⟩ := h5
      rw [Sem.bind_eq_wrap', Sem.wrap_wrap]
      have s15 : Same M M5 := s4'.trans sm5
      have gx : ∀ kk, GCd G (ip ++ pinsAt fp s4.heap) (.forLoop tg (.ref it) body [] G.env) (.ret kk none (gd false) (lv []) c p [] :: fs) id := fun kk => ⟨gc.cells, fun q hq => by
        rcases List.mem_append.mp hq with z | z
        · exact gc.yng q (List.mem_append_left _ z)
        · rcases List.mem_append.mp z with z | z
          · exact gc.yng q (List.mem_append_right _ z)
          · exact hLb _ (of_pinsAt z).1, (gl kk).over, (gl kk).split, (gl kk).guard, rfl⟩
      have back : ∀ {y' : Gh} {s7 : Shared} {σ7 : L2.St} {H7 : Hp}, Inv (G.X (cutS G.L y'.s) y'.H) (ip ++ pinsAt fp s4.heap) σ7 H7 s7 → Inv (G.X (cutS G.L y'.s) y'.H) ip σ7 H7 s7 ∧ (∀ b ∈ fp, H7 b = none) ∧ tn (i + 1) s7.heap := fun {y' s7 σ7 H7} I7 => by
        refine ⟨I7.unpinned, fun b hb => ?_, T.keep _ _ _ t4 fun b hb o e => (I7.pin (b, o) (List.mem_append_right _ (List.mem_append_right _ (mem_pinsAt hb e)))).1⟩
        obtain ⟨o, e, _⟩ := T.obj _ _ t4 b hb
        exact (I7.pin (b, o) (List.mem_append_right _ (List.mem_append_right _ (mem_pinsAt hb e)))).2.1
      refine hb.run (fun b => M5 b) y (ip ++ pinsAt fp s4.heap) _ _ _ _ id id s5 xs ρ5 cs5 { D with nx := Iv (i + 1), ct := Iv (i + 1), bk := D.nx } (gx _) hy (fun y' xs' s7 f hy' hs7 => ?_) ⟨σ5, H5, M5, I5, Same.refl _, hM.trans s15, o5, r5⟩ q5
      have hk5 := hk.trans s15
      have h15 := h1.trans s15
      cases f with
      | next =>
        obtain ⟨ρ7, cs7, ⟨σ7, H7, M7, I7, k7, m7, o7, r7⟩, q7⟩ := hs7
        obtain ⟨b1, b2, b3⟩ := back I7
        exact sz_again rfl (ih (i + 1) y' xs' s7 ρ7 cs7 (by omega) hlt hy' ⟨σ7, H7, M7, b1, hk5.trans k7, h15.trans k7, m7, o7, r7, b2, b3⟩ q7)
      | cont =>
        obtain ⟨ρ7, cs7, ⟨σ7, H7, M7, I7, k7, m7, o7, r7⟩, q7⟩ := hs7
        obtain ⟨b1, b2, b3⟩ := back I7
        exact sz_again rfl (ih (i + 1) y' xs' s7 ρ7 cs7 (by omega) hlt hy' ⟨σ7, H7, M7, b1, hk5.trans k7, h15.trans k7, m7, o7, r7, b2, b3⟩ q7)
      | brk =>
        obtain ⟨ρ7, cs7, ⟨σ7, H7, M7, I7, k7, m7, o7, r7⟩, q7⟩ := hs7
        exact sz_leaf (.ok .next) (k y' xs' s7 .next hy' ⟨ρ7, cs7, ⟨σ7, H7, M7, (back I7).1, hk5.trans k7, m7, o7, r7⟩, q7⟩)
      | ret v =>
        obtain ⟨v7, x7, σ7, H7, M7, cs7, I7, k7, m7, o7, rv7, rx7, q7⟩ := hs7
        exact sz_leaf (.ok (.ret v)) (k y' xs' s7 (.ret v) hy' ⟨v7, x7, σ7, H7, M7, cs7, (back I7).1, hk5.trans k7, m7, o7, rv7, rx7, q7⟩)
  exact loop (items.length - 0) 0 y xs s2 ρ cs1 rfl (Nat.zero_le _) hy ⟨σ, H2, M1, I2, hk.trans sm1, Same.refl _, hM.trans sm1, o1, r.mono sm1, fun b hb => (fpk b hb).1, tn0⟩ iv0
end
end GT
set_option maxRecDepth 100000
set_option maxHeartbeats 4000000
namespace GT
open PySem L2 PySem.Spec PyProof.Rows GenW DL
open Sem (wp)
/-! ### waking -/
def Wk (M : Model) (A : Around) (Z : End → Shared → Prop) (gs : GenState) (s : Shared) : Prop :=
  match gs with
  | .fresh c => SegZ M A Z c (M.den c) [] s
  | .suspended k _ c _ fs _ => SegZ M A Z c (k (.send .none)) fs s
  | _ => False
theorem wp_resumeZ {M : Model} {A : Around} {Z : End → Shared → Prop} {E : Value → Shared → Prop} {s : Shared} {g : Nat} {gs : GenState} {l : List Value} {α : Type} {k : GenResult → Sem α} {Q : α → Shared → Prop} (hg : s.gens[g]? = some gs) (hgo : Wk M A Z gs (s.setGen g .running))
    (hZ : ∀ e s₁, Z e s₁ → e.quiet = true ∧ wpAny M A (k e.result) Q E (s₁.setGen g e.genState)) : wpAny M A (.resume g (.send .none) l k) Q E s := by
  intro Γ p hΓ
  rw [Sem.wp_resume]
  have hB : ∀ c, (Γ.wake c p).Woken A := fun c => hΓ.wake c p
  cases gs with
  | fresh c =>
    obtain ⟨e₁, s₁, hr, he⟩ := hgo (Γ.wake c p) p rfl (hB c)
    exact ⟨_, _, by unfold Wakes; rw [hg]; exact ⟨e₁, s₁, hr, (hZ e₁ s₁ he).1, rfl, rfl⟩, (hZ e₁ s₁ he).2 Γ p hΓ⟩
  | suspended k₀ l₀ c₀ p₀ fs₀ cl =>
    obtain ⟨e₁, s₁, hr, he⟩ := hgo (Γ.wake c₀ p) p₀ rfl (hB c₀)
    exact ⟨_, _, by unfold Wakes; rw [hg]; exact ⟨e₁, s₁, hr, (hZ e₁ s₁ he).1, rfl, rfl⟩, (hZ e₁ s₁ he).2 Γ p hΓ⟩
  | running => exact hgo.elim
  | finished => exact hgo.elim
section
variable {P : Program} {w : World} {A : Around} {E : Value → Shared → Prop} {s : Shared}
theorem next_Z {a : Addr} {g : Nat} {gs : GenState} {Z : End → Shared → Prop} {Q : Option Value → Shared → Prop} (hh : A.handled = none) (hl : s.heap.NoLimit) (hroom : A.depth < recursionLimit) (hg : s.heap.IsGen a g) (hgs : s.gens[g]? = some gs)
    (hgo : Wk (model P w) A.in1 Z gs (s.setGen g .running)) (hq : ∀ e s₁, Z e s₁ → e.quiet = true ∧ ((∃ v gd l k c p fs, e = .susp v gd l k c p fs) ∨ e = .ret (.ok (.ret .none))))
    (hY : ∀ v s₁ gd l k c p fs, Z (.susp v gd l k c p fs) s₁ → Q (some v) (s₁.setGen g (End.susp v gd l k c p fs).genState))
    (hP : ∀ s₁, Z (.ret (.ok (.ret .none))) s₁ → ∀ h', (∀ b o, s₁.heap.get? b = some o → h'.get? b = some o) → Q none { s₁.setGen g .finished with heap := h' }) : wpAny (model P w) A (pyNext (.ref a)) Q E s := by
  unfold pyNext
  refine wpAny_bind (wpAny_attempt (wpAny_callSpecial?_slot (name := Str.ofString "__next__") hg.typeIs slot_gen_next (wpAny_call_entry slot_gen_next hg.typeIs entry_gen_next ?_ (args_gen_next _))))
  show wpAny _ A.in1 (Builtin.Generator.genWake (.ref a) (.send .none)) _ _ s
  unfold Builtin.Generator.genWake
  refine wpAny_bind (wpAny_holding (wpAny_genNumber hg (wpAny_bind (wpAny_genState hgs ?_))))
  cases gs with
  | running => exact hgo.elim
  | finished => exact hgo.elim
  | _ =>
    refine wpAny_bind (wpAny_roomToWake hl hroom ?_)
    show wpAny _ A.in1 (.resume g (.send .none) [] _) _ _ s
    refine wp_resumeZ hgs hgo fun e s₁ he => ⟨(hq e s₁ he).1, ?_⟩
    rcases (hq e s₁ he).2 with ⟨v, gd, l, k, c, p, fs, rfl⟩ | rfl
    · exact wpAny_pure ⟨v, rfl, wpAny_pure (hY v s₁ gd l k c p fs he)⟩
    · show wpAny _ A.in1 (newExc (.type "StopIteration") [] >>= _) _ _ _
      refine wpAny_bind ?_
      simp only [newExc, newTuple]
      refine wpAny_bind (wpAny_newObj_type ?_ (by size_fits))
      refine wpAny_bind (m := firstArgMember _ _) (wpAny_of_eq (a := Value.none) (by first | rfl | (simp only [firstArgMember]; rfl)) ?_)
      refine wpAny_newObj_type ?_ (by size_fits)
      simp only [raiseNew]
      refine wpAny_bind (wpAny_bind (wpAny_handled ?_))
      first | rw [show A.in1.handled = none from hh] | rw [hh]
      refine wpAny_throw ?_
      refine wpAny_bind (wpAny_isInstance (T := "StopIteration") (b := true) ⟨_, Heap.get?_push_size _ rfl, rfl⟩ isSubtype_stop ?_)
      exact wpAny_pure (hP s₁ he _ fun b o hb => Heap.get?_push_of_some _ (Heap.get?_push_of_some _ hb))
end
/-! ### a generator made by a call -/
abbrev GSpec := List Vl → Cells → List Dat → Bool → (Cells → Prop) → Prop
def GP.at (G : GP) (A : Around) : GP := { G with A := A }
structure MadeD (P : Program) (w : World) (K : Frag) (mg : Str → Option Value) (base : Heap) (k : Nat) (outer : List Env) (M : Hp) (s : Shared) (ds : List Dat) (fin : Bool) (Gd : Cells → Prop) (a : Addr) (s' : Shared) (G : GP) (g : Nat) (go oL : Obj) (c : Code) : Prop where
  eqP : G.P = P ∧ G.w = w ∧ G.K = K ∧ G.mg = mg ∧ G.base = base ∧ G.outer = outer ∧ G.L = s.heap.objs.size ∧ G.pn = [(a, go)]
  gen : ∀ h : Heap, h.get? a = some go → h.IsGen a g
  cls : go.cls = .type "generator" ∧ ∃ vs, go.data = .fields vs
  obj : s'.heap.get? a = some go ∧ s'.heap.get? G.L = some oL ∧ G.L ≤ a ∧ (∀ v, go.data ≠ .cell v) ∧ (∀ v, oL.data ≠ .cell v)
  new : s'.gens[g]? = some (.fresh c)
  os : s'.os = s.os
  bare : AllBare s'.gens
  keep : ∀ b o, s.heap.get? b = some o → s'.heap.get? b = some o
  wake : ∀ A, Room k A → A.frames = some outer → ∀ y, Wake (G.at A) Gd M [(G.L, oL), (a, go)] y → SegZ (model P w) A (Zy (G.at A) Gd fin ds y) c ((model P w).den c) [] y.s
structure GFnD (P : Program) (w : World) (K : Frag) (mg : Str → Option Value) (base : Heap) (k : Nat) (f : Addr) (fd : FuncData) (ps : List Str) (sp : GSpec) : Prop where
  len : ∀ xs cs ds fin Gd, sp xs cs ds fin Gd → xs.length = ps.length
  run : ∀ (A : Around) (outer : List Env) (s : Shared) (H M : Hp) (cs : Cells) (args : Args) (us : List Value) (vs : List V) (xs : List Vl) (ds : List Dat) (fin : Bool) (Gd : Cells → Prop), Room k A → Env0 P w K mg base A outer s H → BindsTo s fd args (ps.zip us) → Vals vs us → Ok K M H cs → Paired (RV K M) vs xs → sp xs cs ds fin Gd →
    codeAny (model P w) A (.call (.ref f) args) (fun r s' => ∃ a G g go oL c, r = .ok (.ret (.ref a)) ∧ MadeD P w K mg base k outer M s ds fin Gd a s' G g go oL c) s
theorem cells_nil : ∀ (names : List (Str × NameKind)) (n : Nat), (∀ y ∈ names, y.2 ≠ .cell) → cellsFrom n names [] = []
  | [], _, _ => rfl
  | (nm, kd) :: r, n, h => by
    unfold cellsFrom
    have h1 : kd ≠ .cell := h (nm, kd) List.mem_cons_self
    rw [if_neg (by intro z; exact h1 (eq_of_beq z))]
    exact cells_nil r n fun y hy => h y (List.mem_cons_of_mem _ hy)
theorem sz_func {P : Program} {w : World} {A : Around} {Z : End → Shared → Prop} {fs : List Frame} {s : Shared} {body : List Stmt} {env : Env}
    (h : SegZ (model P w) A Z (.func body env) ((execs body env).wrap (fun f => .pure (.done (.ret (match f with | .ret v => v | _ => .none)))) (fun e => (leaving env e).wrap (fun _ => .raise e) .raise id id) id id) fs s) :
    SegZ (model P w) A Z (.func body env) ((model P w).den (.func body env)) fs s := by
  show SegZ _ A Z _ (.point [] fun _ => ((execs body env).onRaise (leaving env)) >>= _) fs s
  refine sz_point ?_
  rw [Sem.onRaise_eq_wrap, Sem.bind_eq_wrap', Sem.wrap_wrap]
  rw [Sem.wrap_congr (execs body env) _ _ (K' := fun f => .pure (.done (.ret (match f with | .ret v => v | _ => .none)))) (H' := fun e => (leaving env e).wrap (fun _ => .raise e) .raise id id) (fun f => by cases f <;> rfl) (fun e => by rw [Sem.bind_eq_wrap, Sem.wrap_wrap]; rfl)]
  exact h
/-- the ends of a generator's body -/
def genD : GDs := { nx := fun xs c0 _ cs => xs = [] ∧ SubC c0 cs, rt := fun xs c0 x cs => x = .dat .non ∧ xs = [] ∧ SubC c0 cs }
theorem gfn_data {P : Program} {w : World} {K : Frag} {mg : Str → Option Value} {base : Heap} {x qual : Str} {st : Stmt} {f : Addr} {fd : FuncData} {N ps : List Str} {k : Nat} {sp : GSpec} {t : (Cells → Prop) → Bool → WGn} (F : Fun K x qual st f fd) (S : GScope N ps (defScope st)) (hnc : ∀ y ∈ (defScope st).names, y.2 ≠ .cell)
    (len : ∀ xs cs ds fin Gd, sp xs cs ds fin Gd → xs.length = ps.length)
    (body : ∀ (cdv : Value) (A : Around) (outer : List Env) (L : Addr) (pn : List (Addr × Obj)) (Gd : Cells → Prop) (fin : Bool), Room k (A.deeper (envOfC qual (defScope st) L f cdv)) → DGSs ⟨P, w, K, mg, base, N, qual, defScope st, f, cdv, A, outer, L, pn⟩ Gd fin (defBody st) (t Gd fin))
    (pure : ∀ xs cs ds fin Gd, sp xs cs ds fin Gd → ∀ c1, Gd c1 → t Gd fin genD ds c1 (startD N.length xs) c1) : GFnD P w K mg base (k + 1) f fd ps sp := by
  obtain ⟨oc, od, kV, doc, pm, an, cdv, ct, osl, rfl, lk, hcd⟩ := F.ex
  refine ⟨len, fun A outer s H M cs args us vs xs ds fin Gd hr e0 hb rvs o rxs hsp => ?_⟩
  have hl := (Paired.len rxs).trans (len _ _ _ _ _ hsp)
  have KX : K.In s.heap := e0.mod.kin.keeps fun b o e => (e0.bs b o e).1
  have lim : s.heap.NoLimit := e0.mod.nolimit.keeps fun b o e => (e0.bs b o e).1
  have hkind : ∀ y ∈ ps.zip us, (defScope st).names.lookup y.1 = some .local ∨ ((defScope st).names.lookup y.1 = some .cell ∧ ((cellsFrom (s.heap.objs.size + 1) (defScope st).names []).lookup y.1).isSome = true) := fun ⟨n, v⟩ hy => by
    rcases S.par n (List.of_mem_zip hy).1 with q | q
    · exact .inl q
    · exact .inr ⟨q, PySem.W.cellsFrom_some _ _ _ (.inl q)⟩
  refine codeAny_call_generator hr.depth (KX _ _ lk) rfl S.co S.gen rfl (PySem.W.codeRec_of KX hcd) (hb _ _ _ _ ?_)
  refine wpAny_newFunctionEnv_cells S.kind hkind fun env he s1 xc => ?_
  subst he
  have lim1 : s1.heap.NoLimit := lim.keeps xc.toInCall.keep
  refine ⟨lim1, ?_⟩
  obtain ⟨h1, tk, es1, hk1⟩ := xc.done
  have os1 : s1.os = s.os := by rw [es1]
  have gen1 : s1.gens = s.gens := by rw [es1]
  have lt1 : s.heap.objs.size < s1.heap.objs.size := xc.toInCall.ns.lt
  have kp1 : ∀ b o, s.heap.get? b = some o → s1.heap.get? b = some o := xc.toInCall.keep
  obtain ⟨oL, es, ep, hoL, hdat, hrest⟩ := xc.toInCall.ns
  have hoL : s1.heap.get? s.heap.objs.size = some oL := hoL
  have hcl : (envOfC qual (defScope st) s.heap.objs.size f cdv).cells = [] := cells_nil _ _ hnc
  refine ⟨s1.heap.objs.size, ⟨P, w, K, mg, base, N, qual, defScope st, f, cdv, A, outer, s.heap.objs.size, [(s1.heap.objs.size, _)]⟩, s1.gens.size, _, oL, _, rfl, ⟨⟨rfl, rfl, rfl, rfl, rfl, rfl, rfl, rfl⟩, fun h e => ⟨_, _, _, e, rfl, rfl, rfl⟩, ⟨rfl, _, rfl⟩, ⟨Heap.get?_push_size _ rfl, Heap.get?_push_of_some _ hoL, Nat.le_of_lt lt1, fun v z => (by cases z), fun v z => (by rw [hdat] at z; cases z)⟩, Array.getElem?_push_size .., os1, AllBare.push (by rw [gen1]; exact e0.bare) rfl, fun b o e => Heap.get?_push_of_some _ (kp1 b o e), ?_⟩⟩
  intro Aw hrw hfr y W
  have e0w : Env0 P w K mg base Aw outer s H := ⟨hfr, e0.mod, e0.bs, e0.bsz, e0.funs, e0.frf, e0.hok, e0.bare⟩
  have I1 : Inv (gcxOf P w K mg base N qual (defScope st) f cdv Aw outer s H E0 []) [] (start N vs) H s1 := inv_startG S hrw.hd e0w hl rvs xc
  have hL1 := W.pv (s.heap.objs.size, oL) List.mem_cons_self
  have hA1 := W.pv _ (List.mem_cons_of_mem _ List.mem_cons_self)
  have hga : H s1.heap.objs.size = none := I1.hok.fresh (Nat.le_refl _)
  have I2 := I1.kept (t' := s1.toks) (h' := s1.heap.push { cls := .type "generator", data := .fields #[.int s1.gens.size 0, .str x s1.toks, .str qual (s1.toks + 1)] }) fun b u e => Heap.get?_push_of_some _ e
  have I3 : Inv (GP.X ⟨P, w, K, mg, base, N, qual, defScope st, f, cdv, Aw, outer, s.heap.objs.size, [(s1.heap.objs.size, { cls := .type "generator", data := .fields #[.int s1.gens.size 0, .str x s1.toks, .str qual (s1.toks + 1)] })]⟩ s H) [] (start N vs) H { s1 with heap := s1.heap.push { cls := .type "generator", data := .fields #[.int s1.gens.size 0, .str x s1.toks, .str qual (s1.toks + 1)] }, toks := s1.toks } := by
    refine ⟨⟨I2.ok.mod, I2.ok.kind, I2.ok.glob, I2.ok.blt, I2.ok.above, I2.ok.inj, I2.ok.has, I2.ok.cab, I2.ok.hd, I2.ok.frames, I2.ok.stk, I2.ok.exf, I2.ok.bs, I2.ok.bsz, I2.ok.noex, I2.ok.exfs, I2.ok.funs, I2.ok.frf⟩, I2.os, I2.bare, I2.base, I2.loc, I2.cell, I2.free, I2.freeC, fun p hp => ?_, I2.hok, I2.len⟩
    rw [List.mem_singleton.mp (show p ∈ [_] from hp)]
    exact ⟨Heap.get?_push_size _ rfl, hga, Nat.ne_of_gt lt1, I1.nofs (Nat.le_refl _), fun v z => by cases z⟩
  have hy : Lg ⟨P, w, K, mg, base, N, qual, defScope st, f, cdv, Aw, outer, s.heap.objs.size, [(s1.heap.objs.size, { cls := .type "generator", data := .fields #[.int s1.gens.size 0, .str x s1.toks, .str qual (s1.toks + 1)] })]⟩ y := Nat.le_of_lt (Heap.lt_size hL1.1)
  have I4 := rebase (G := ⟨P, w, K, mg, base, N, qual, defScope st, f, cdv, Aw, outer, s.heap.objs.size, [(s1.heap.objs.size, { cls := .type "generator", data := .fields #[.int s1.gens.size 0, .str x s1.toks, .str qual (s1.toks + 1)] })]⟩) rfl hcl I3 W.env (fun o e => by
    have e' : (s1.heap.push _).get? s.heap.objs.size = some o := e
    rw [Heap.get?_push_of_some _ hoL] at e'
    cases e'
    exact hL1.1) hL1.2 (fun q hq => by
      rw [List.mem_singleton.mp (show q ∈ [_] from hq)]
      exact hA1)
  refine sz_func ?_
  refine (body cdv Aw outer s.heap.objs.size _ Gd fin (hrw.deeper _)).run y.M y [] _ [] _ _ id id y.s ds (startD N.length xs) y.cs genD ⟨hcl, fun q hq => ?_, over_func, rfl, rfl, rfl⟩ hy (fun y' xs' s' fl hy' hs => ?_) ⟨start N vs, y.H, y.M, I4, Same.refl _, Same.refl _, W.ok, (start_rho rxs).mono W.same⟩ (pure xs cs ds fin Gd hsp y.cs W.gd)
  · rw [List.mem_singleton.mp (show q ∈ [_] from hq)]
    exact Nat.le_of_lt lt1
  · cases fl with
    | next =>
      obtain ⟨ρ', cs', ⟨σ', H', M', I', k', m', o', r'⟩, rfl, sub⟩ := hs
      exact sz_end (.ok (.ret .none)) ⟨rfl, fun _ => ⟨rfl, H', M', ⟨I'.os, I'.bare, un_woken I', I'.hok, m', o'.sub sub⟩, fun q hq => (I'.pin q (List.mem_append_left _ hq)).1⟩⟩
    | brk => obtain ⟨ρ', cs', _, z⟩ := hs; exact z.elim
    | cont => obtain ⟨ρ', cs', _, z⟩ := hs; exact z.elim
    | ret u =>
      obtain ⟨v', x', σ', H', M', cs', I', k', m', o', rv', rx', rfl, rfl, sub⟩ := hs
      rw [inv_non rx'] at rv'
      have eu : u = Value.none := rv'
      subst eu
      exact sz_end (.ok (.ret .none)) ⟨rfl, fun _ => ⟨rfl, H', M', ⟨I'.os, I'.bare, un_woken I', I'.hok, m', o'.sub sub⟩, fun q hq => (I'.pin q (List.mem_append_left _ hq)).1⟩⟩
end GT
set_option maxRecDepth 100000
set_option maxHeartbeats 4000000
namespace GT
open PySem L2 PySem.Spec PyProof.Rows GenW DL
theorem inv_gens {X : Cx} {pins : List (Addr × Obj)} {σ : L2.St} {H : Hp} {s s' : Shared} (I : Inv X pins σ H s) (hh : s'.heap = s.heap) (ho : s'.os = s.os) (hb : AllBare s'.gens) : Inv X pins σ H s' := by
  obtain ⟨h, g, d, t, o⟩ := s
  obtain ⟨h', g', d', t', o'⟩ := s'
  have e1 : h' = h := hh
  have e2 : o' = o := ho
  subst e1 e2
  exact ⟨I.ok, I.os, hb, I.base, I.loc, I.cell, I.free, I.freeC, I.pin, I.hok, I.len⟩
theorem genState_susp {v g l k c p fs} : susp (End.susp v g l k c p fs).genState = true := rfl
theorem zy_ends {G : GP} {Gd : Cells → Prop} {fin : Bool} {ds : List Dat} {y : Gh} {e : End} {s' : Shared} (hf : ds = [] → fin = true) (h : Zy G Gd fin ds y e s') : e.quiet = true ∧ ((∃ v gd l k c p fs, e = .susp v gd l k c p fs) ∨ e = .ret (.ok (.ret .none))) := by
  cases ds with
  | nil =>
    obtain ⟨q, h⟩ := h
    exact ⟨q, .inr (h (hf rfl)).1⟩
  | cons d r =>
    obtain ⟨v, g, l, k, c, p, fs, rfl, q, _⟩ := h
    exact ⟨q, .inl ⟨v, g, l, k, c, p, fs, rfl⟩⟩
/-- an expression whose value is a new generator -/
abbrev WGe := DEnv → Cells → (List Dat → Bool → (Cells → Prop) → Cells → Prop) → Prop
structure DGe (X : Cx) (k : Nat) (e : Expr) (wg : WGe) : Prop where
  run : ∀ (pins : List (Addr × Obj)) (s : Shared) (σ : L2.St) (H M : Hp) (ρ : DEnv) (cs : Cells) (R : List Dat → Bool → (Cells → Prop) → Cells → Prop), Inv X pins σ H s → Ok X.K M H cs → Rho X.K M σ ρ → wg ρ cs R →
    wpAny (model X.prog X.w) X.A (eval e X.env) (fun u s' => ∃ a H1 M1 cs1 sc ds fin Gd G g go oL c, u = .ref a ∧ Inv X pins σ H1 sc ∧ Same M M1 ∧ Ok X.K M1 H1 cs1 ∧ MadeD X.prog X.w X.K X.mg X.base k X.stack M1 sc ds fin Gd a s' G g go oL c ∧ R ds fin Gd cs1) X.xe s
def wForG (wg : WGe) (g : WG) (wb : WS) : WS := fun D ρ cs => wg ρ cs fun ds fin Gd cs1 => ∃ Iv : Nat → DEnv → Cells → Prop, Iv 0 ρ cs1 ∧ (∀ i ρ' cs', i ≤ ds.length → Iv i ρ' cs' → Gd cs') ∧
  (∀ i d ρ' cs', ds[i]? = some d → Iv i ρ' cs' → g (.dat d) ρ' cs' fun ρ2 cs2 => wb { D with nx := Iv (i + 1), ct := Iv (i + 1), bk := D.nx } ρ2 cs2) ∧ ∀ ρ' cs', Iv ds.length ρ' cs' → fin = true ∧ D.nx ρ' cs'
theorem drop_cons {α : Type} {ds : List α} {i : Nat} {d : α} (h : ds[i]? = some d) : ds.drop i = d :: ds.drop (i + 1) := by
  have hl := (List.getElem?_eq_some_iff.mp h).1
  rw [List.drop_eq_getElem_cons hl, (List.getElem?_eq_some_iff.mp h).2]
theorem ds_forG {X : Cx} {k : Nat} {tg iter : Expr} {body : List Stmt} {pos : Pos} {js : List Nat} {wg : WGe} {g : WG} {wb : WS} (hx0 : ∀ e s, ¬ X.xe e s) (hc : X.calm = true) (hr : Room (k + 1) X.A) (hi : DGe X k iter wg) (hg : DG X js tg g) (hb : DSs X body wb)
    (hs : ∀ x, foldedSetIterable iter X.env x = pure x := by intro _; rfl) : DS X (.For tg iter body [] pos) (wForG wg g wb) := by
  refine ⟨fun pins s σ H E I ⟨M, ρ, cs, D, o, r, h, eo⟩ => ?_⟩
  have hh : X.A.handled = none := I.ok.hd hc
  refine wpAny_For (wpAny_mono (hi.run pins s σ H M ρ cs _ I o r h) (fun u s1 h1 => ?_) fun e s' hx => (hx0 e s' hx).elim) hs
  obtain ⟨a, H1, M1, cs1, sc, ds, fin, Gd, G, gn, go, oL, c, rfl, I1, sm1, o1, mk, Iv, iv0, ivG, turn, fin'⟩ := h1
  obtain ⟨eP, eW, eK, eM, eB, eO, eL, ePn⟩ := mk.eqP
  obtain ⟨ob1, ob2, ob3, ob4, ob5⟩ := mk.obj
  refine wpAny_pyIter_gen (mk.gen _ ob1) ?_
  -- the generator's objects are young
  have scl : ∀ p ∈ X.pn ++ pins, p.1 < G.L := fun p hp => by rw [eL]; exact Heap.lt_size (I1.pin p hp).1
  have locl : X.env.locals < G.L := by rw [eL]; exact I1.lt
  have celll : ∀ x c, X.env.cells.lookup x = some c → c < G.L := fun x c hx => by
    obtain ⟨v, q⟩ := I1.cell x c hx
    rw [eL]; exact q.lt
  have szl : X.s_0.heap.objs.size ≤ G.L := by rw [eL]; exact I1.sz
  have fsl : ∀ b ∈ X.fs, b < G.L := fun b hb => by
    apply Nat.lt_of_not_le
    intro z
    exact I1.nofs (by rw [← eL]; exact z) hb
  have hch : ∀ (h : Heap), ∀ b ∈ young G.L h, (b ∈ X.ex ∨ X.s_0.heap.objs.size ≤ b) ∧ b ≠ X.env.locals ∧ (∀ x c, X.env.cells.lookup x = some c → c ≠ b) ∧ ∀ p ∈ X.pn ++ pins, p.1 ≠ b := fun h b hb => by
    have hb := (mem_young.mp hb).2
    exact ⟨.inr (Nat.le_trans szl hb), Nat.ne_of_gt (Nat.lt_of_lt_of_le locl hb), fun x c hx => Nat.ne_of_lt (Nat.lt_of_lt_of_le (celll x c hx) hb), fun p hp => Nat.ne_of_lt (Nat.lt_of_lt_of_le (scl p hp) hb)⟩
  have room1 : Room k X.A.in1 := hr.in1
  have frm1 : X.A.in1.frames = some X.stack := I1.ok.frames
  let G1 := G.at X.A.in1
  have hG1L : G1.L = G.L := rfl
  refine codeAny_forLoop_any (fun n s' => ∃ i σ' H' M' ρ' cs' gs pv, n = ds.length - i ∧ i ≤ ds.length ∧ Inv X pins σ' H' s' ∧ Same M1 M' ∧ Ok X.K M' H' cs' ∧ Rho X.K M' σ' ρ' ∧ Iv i ρ' cs' ∧ s'.gens[gn]? = some gs ∧ PvOk G1 pv s' H' ∧
    ∀ y, Wake G1 Gd M' pv y → Wk (model X.prog X.w) X.A.in1 (Zy G1 Gd fin (ds.drop i) y) gs y.s) ?_ ds.length ?_
  · rintro n s3 ⟨i, σ3, H3, M3, ρ3, cs3, gs, pv, rfl, hi3, I3, sm3, o3, r3, iv3, hgs, pvk, wk⟩
    have gd3 := ivG i ρ3 cs3 hi3 iv3
    have ha3 : s3.heap.get? a = some go := (pvk.at_ (a, go) (pvk.pn _ (by show (a, go) ∈ G.pn; rw [ePn]; exact List.mem_cons_self))).1
    have hW : Wake G1 Gd M3 pv ⟨s3.setGen gn .running, H3, M3, cs3⟩ := by
      refine ⟨?_, Same.refl _, by show Ok G.K _ _ _; rw [eK]; exact o3, gd3, fun p hp => ⟨(pvk.at_ p hp).1, (pvk.at_ p hp).2.1⟩⟩
      show Env0 G.P G.w G.K G.mg G.base X.A.in1 G.outer (s3.setGen gn .running) H3
      rw [eP, eW, eK, eM, eB, eO]
      have e := I3.env0
      exact ⟨e.frames, e.mod, e.bs, e.bsz, e.funs, e.frf, e.hok, allBare_setGen e.bare rfl⟩
    have wk3 := wk _ hW
    have nolim : s3.heap.NoLimit := I3.nolimit
    have back : ∀ {s₁ : Shared} {H' M' : Hp} {g' : Array GenState}, Left G1 ⟨s3.setGen gn .running, H3, M3, cs3⟩ s₁ H' M' → AllBare g' → ∀ (h' : Heap), (∀ b o, s₁.heap.get? b = some o → h'.get? b = some o) → Inv X pins σ3 H' { s₁ with gens := g', heap := h' } ∧ Same M3 M' ∧ Ok X.K M' H' cs3 := fun {s₁ H' M' g'} lf hg' h' hk => by
      have un : Un (frs X.stack) (young G.L s3.heap) H3 H' s3.heap s₁.heap := by rw [← eO]; exact lf.un
      have hok : HOk X.prog X.w H' s₁.heap := by
        have := lf.hok
        rw [show G1.P = X.prog from eP, show G1.w = X.w from eW] at this
        exact this
      refine ⟨I3.call' (s' := { s₁ with gens := g', heap := h' }) (ch := young G.L s3.heap) lf.os (un.trans (Un.kept hk)) (hok.kept hk) hg' (hch _), lf.same, ?_⟩
      have := lf.ok
      rw [show G1.K = X.K from eK] at this
      exact this
    by_cases hlt : i < ds.length
    · obtain ⟨d, hd⟩ : ∃ d, ds[i]? = some d := ⟨_, List.getElem?_eq_getElem hlt⟩
      rw [drop_cons hd] at wk3
      have hgl : gn < s3.gens.size := (Array.getElem?_eq_some_iff.mp hgs).1
      refine wpAny_gsz (n := gn + 1) hgl (next_Z hh nolim hr.depth (mk.gen _ ha3) hgs wk3 (fun e s₁ he => zy_ends (fun z => by cases z) he) (fun v s₁ gd l kk c' p fs hz => ?_) (fun s₁ hz => ?_))
      · intro hsz
        obtain ⟨v', gd', l', kk', c'', p', fs', heq, hqt, H', M', pv', x, lf, rv, dr, pvk', wk'⟩ := hz
        cases heq
        generalize hgs' : (End.susp v gd l kk c' p fs).genState = gs'
        have hsus : susp gs' = true := by rw [← hgs']; rfl
        have hbare' : gs'.bare = true := by rw [← hgs']; exact End.bare_of_quiet hqt
        rw [hgs'] at hsz
        have hsz1 : gn < s₁.gens.size := by
          have q : (s₁.setGen gn gs').gens.size = s₁.gens.size := setGen_size _ _ _
          have hsz' : gn + 1 ≤ (s₁.setGen gn gs').gens.size := hsz
          omega
        have wkk : ∀ y, Wake G1 Gd M' pv' y → Wk (model X.prog X.w) X.A.in1 (Zy G1 Gd fin (ds.drop (i + 1)) y) gs' y.s := fun y W => by
          rw [← hgs']
          have := wk' y W
          rw [show G1.P = X.prog from eP, show G1.w = X.w from eW] at this
          exact this
        clear wk'
        have ha5 : s₁.heap.get? a = some go := (pvk'.at_ (a, go) (pvk'.pn _ (by show (a, go) ∈ G.pn; rw [ePn]; exact List.mem_cons_self))).1
        obtain ⟨I4, sm4, o4⟩ := back lf (allBare_setGen (s := s₁) (g := gn) (x := gs') lf.bare hbare') s₁.heap (fun _ _ e => e)
        have I4 : Inv X pins σ3 H' (s₁.setGen gn gs') := I4
        have hg4 : (s₁.setGen gn gs').gens[gn]? = some gs' := setGen_at hsz1
        have hb4 : AllBare (s₁.setGen gn gs').gens := I4.bare
        have hh4 : (s₁.setGen gn gs').heap = s₁.heap := rfl
        generalize s₁.setGen gn gs' = s4 at I4 hg4 hb4 hh4 ⊢
        show wpAny _ _ (letOwnedTupleGo tg (.ref a) v) _ _ s4
        obtain ⟨vsD, hdD⟩ := mk.cls.2
        refine go_of (by rw [hh4]; exact ha5) mk.cls.1 hdD (by decide) ?_
        have pinv : ∀ p ∈ pv', s4.heap.get? p.1 = some p.2 ∧ H' p.1 = none ∧ p.1 ≠ X.env.locals ∧ p.1 ∉ X.fs ∧ ∀ v, p.2.data ≠ .cell v := fun p hp => by
          obtain ⟨q1, q2, q3, q4⟩ := pvk'.at_ p hp
          exact ⟨by rw [hh4]; exact q1, q2, Nat.ne_of_gt (Nat.lt_of_lt_of_le locl q3), fun z => Nat.lt_irrefl _ (Nat.lt_of_lt_of_le (fsl _ z) q3), q4⟩
        have I5 : Inv X (pins ++ pv') σ3 H' s4 := I4.pins_of fun p hp => by
          rcases List.mem_append.mp hp with z | z
          · exact I4.pin p (List.mem_append_right _ z)
          · exact pinv p z
        have dr' : RV X.K M' x (.dat d) := by
          have : Dr G.K M' x d := dr
          rw [eK] at this
          exact this
        -- the target is stored
        refine wpAny_mono (wpAny_slept (hg.run (pins ++ pv') (deafen s4) σ3 H' x v (fun σ' H2 => ∃ M2 ρ2 cs2, Same M' M2 ∧ Ok X.K M2 H2 cs2 ∧ Rho X.K M2 σ' ρ2 ∧ wb { D with nx := Iv (i + 1), ct := Iv (i + 1), bk := D.nx } ρ2 cs2) (inv_gens I5 rfl rfl (bare_deafen hb4)) rv
          ⟨M', ρ3, cs3, .dat d, _, o4, r3.mono sm4, dr', turn i d ρ3 cs3 hd iv3, fun σ' ρ' M2 H2 cs' sm o' r' _ _ p => ⟨M2, ρ', cs', sm, o', r', p⟩⟩)) (fun _ s6 h6 => ?_) (fun e s' ⟨_, _, hx⟩ => (hx0 _ _ hx).elim)
        obtain ⟨s60, sl6, σ6, H6, I60, M6, ρ6, cs6, sm6, o6, r6, q6⟩ := h6
        have b6 : AllBare s6.gens := sl6.bare hb4 I60.bare
        have I6 : Inv X (pins ++ pv') σ6 H6 s6 := inv_gens I60 (by rw [sl6.eq]) (by rw [sl6.eq]) b6
        have g6 := sl6.kept gn gs' hg4 hsus
        -- the body
        refine wpAny_mono (wpAny_slept (hb.run (pins ++ pv') (deafen s6) σ6 H6 { nx := fun σ' H2 => ∃ M2 ρ2 cs2, Same M6 M2 ∧ Ok X.K M2 H2 cs2 ∧ Rho X.K M2 σ' ρ2 ∧ Iv (i + 1) ρ2 cs2, rt := E.rt, bk := E.nx, ct := fun σ' H2 => ∃ M2 ρ2 cs2, Same M6 M2 ∧ Ok X.K M2 H2 cs2 ∧ Rho X.K M2 σ' ρ2 ∧ Iv (i + 1) ρ2 cs2 } (inv_gens I6 rfl rfl (bare_deafen b6))
          ⟨M6, ρ6, cs6, _, o6, r6, q6, ⟨fun σ' ρ' M2 H2 cs' sm o' r' p => ⟨M2, ρ', cs', sm, o', r', p⟩, eo.rt.mono (sm1.trans (sm3.trans (sm4.trans sm6))), eo.nx.mono (sm1.trans (sm3.trans (sm4.trans sm6))), fun σ' ρ' M2 H2 cs' sm o' r' p => ⟨M2, ρ', cs', sm, o', r', p⟩⟩⟩)) (fun f s7 h7 => ?_) (fun e s' ⟨_, _, hx⟩ => (hx0 _ _ hx).elim)
        obtain ⟨s70, sl7, q7⟩ := h7
        have g7 := sl7.kept gn gs' g6 hsus
        have real7 : ∀ {σ7 : L2.St} {H7 : Hp}, Inv X (pins ++ pv') σ7 H7 s70 → Inv X (pins ++ pv') σ7 H7 s7 := fun {σ7 H7} I7 => inv_gens I7 (by rw [sl7.eq]) (by rw [sl7.eq]) (sl7.bare b6 I7.bare)
        have again : ∀ {σ7 : L2.St} {H7 : Hp}, Inv X (pins ++ pv') σ7 H7 s70 → (∃ M2 ρ2 cs2, Same M6 M2 ∧ Ok X.K M2 H7 cs2 ∧ Rho X.K M2 σ7 ρ2 ∧ Iv (i + 1) ρ2 cs2) → ∃ m, m < ds.length - i ∧ ∃ i σ' H' M' ρ' cs' gs pv, m = ds.length - i ∧ i ≤ ds.length ∧ Inv X pins σ' H' s7 ∧ Same M1 M' ∧ Ok X.K M' H' cs' ∧ Rho X.K M' σ' ρ' ∧ Iv i ρ' cs' ∧ s7.gens[gn]? = some gs ∧ PvOk G1 pv s7 H' ∧
            ∀ y, Wake G1 Gd M' pv y → Wk (model X.prog X.w) X.A.in1 (Zy G1 Gd fin (ds.drop i) y) gs y.s := fun {σ7 H7} I70 ⟨M7, ρ7, cs7, sm7, o7, r7, iv7⟩ => by
          have I7 := real7 I70
          refine ⟨ds.length - (i + 1), by omega, i + 1, σ7, H7, M7, ρ7, cs7, gs', pv', rfl, hlt, I7.unpinned, sm3.trans (sm4.trans (sm6.trans sm7)), o7, r7, iv7, g7, ⟨fun p hp => ?_, pvk'.pn⟩, fun y W => wkk y ⟨W.env, (sm6.trans sm7).trans W.same, W.ok, W.gd, W.pv⟩⟩
          obtain ⟨z1, z2, _⟩ := I7.pin p (List.mem_append_right _ (List.mem_append_right _ hp))
          obtain ⟨_, _, q3, q4⟩ := pvk'.at_ p hp
          exact ⟨z1, z2, q3, q4⟩
        cases f with
        | next => obtain ⟨σ7, H7, I7, n7⟩ := q7; exact again I7 n7
        | cont => obtain ⟨σ7, H7, I7, n7⟩ := q7; exact again I7 n7
        | brk => obtain ⟨σ7, H7, I7, n7⟩ := q7; exact ⟨σ7, H7, (real7 I7).unpinned, n7⟩
        | ret v => obtain ⟨x7, σ7, H7, I7, r7, n7⟩ := q7; exact ⟨x7, σ7, H7, (real7 I7).unpinned, r7, n7⟩
      · obtain ⟨v', gd', l', kk', c'', p', fs', heq, _⟩ := hz
        cases heq
    · have ei : i = ds.length := by omega
      subst ei
      obtain ⟨hfin, hnx⟩ := fin' ρ3 cs3 iv3
      rw [List.drop_length] at wk3
      refine next_Z hh nolim hr.depth (mk.gen _ ha3) hgs wk3 (fun e s₁ he => zy_ends (fun _ => hfin) he) (fun v s₁ gd l kk c p fs hz => ?_) (fun s₁ hz h' hk => ?_)
      · have := (hz.2 hfin).1
        cases this
      · obtain ⟨_, H', M', lf, _⟩ := hz.2 hfin
        obtain ⟨I4, sm4, o4⟩ := back lf (allBare_setGen (g := gn) (x := .finished) lf.bare rfl) h' hk
        exact wpAny_execs_nil ⟨σ3, H', I4, eo.nx σ3 ρ3 M' H' cs3 (sm1.trans (sm3.trans sm4)) o4 (r3.mono sm4) hnx⟩
  · have keepU := mk.keep
    refine ⟨0, σ, H1, M1, ρ, cs1, .fresh c, [(G.L, oL), (a, go)], rfl, Nat.zero_le _, I1.call' (ch := []) mk.os (Un.kept mk.keep) (I1.hok.kept mk.keep) mk.bare (fun b z => by simp at z), Same.refl _, o1, r.mono sm1, iv0, mk.new, ⟨fun p hp => ?_, fun p hp => ?_⟩, fun y W => ?_⟩
    · rcases List.mem_cons.mp hp with z | z
      · rw [z]
        exact ⟨ob2, I1.hok.fresh (by rw [eL]; exact Nat.le_refl _), Nat.le_refl _, ob5⟩
      · rw [List.mem_singleton.mp z]
        exact ⟨ob1, I1.hok.fresh (by rw [← eL]; exact ob3), ob3, ob4⟩
    · have hp : p ∈ G.pn := hp
      rw [ePn] at hp
      exact List.mem_cons_of_mem _ hp
    · rw [List.drop_zero]
      exact mk.wake X.A.in1 room1 frm1 y W
end GT
set_option maxRecDepth 100000
set_option maxHeartbeats 4000000
namespace DL
open PySem L2 GT
/-! ### instances -/
def putV (f : Str) (y : Vl) : List (Str × Vl) → List (Str × Vl)
  | [] => [(f, y)]
  | p :: r => if p.1 = f then (f, y) :: r else p :: putV f y r
abbrev FR (K : Frag) (M : Hp) : (Str × V) → (Str × Vl) → Prop := fun p q => p.1 = q.1 ∧ RV K M p.2 q.2
theorem fr_lookup {K : Frag} {M : Hp} {f : Str} : ∀ {fs : List (Str × V)} {gs : List (Str × Vl)}, Paired (FR K M) fs gs → (∀ x, gs.lookup f = some x → ∃ v, fs.lookup f = some v ∧ RV K M v x) ∧ (gs.lookup f = none → fs.lookup f = none)
  | _, _, .nil => ⟨fun x h => (by cases h), fun _ => rfl⟩
  | (n, v) :: fs, (n', x) :: gs, .cons ⟨e, r⟩ k => by
    have e : n = n' := e
    subst e
    obtain ⟨h1, h2⟩ := fr_lookup (f := f) k
    simp only [List.lookup_cons]
    cases hb : (f == n) with
    | true => exact ⟨fun y h => by cases h; exact ⟨v, rfl, r⟩, fun h => by cases h⟩
    | false => exact ⟨h1, h2⟩
theorem fr_put {K : Frag} {M : Hp} {f : Str} {v : V} {x : Vl} (r : RV K M v x) : ∀ {fs : List (Str × V)} {gs : List (Str × Vl)}, Paired (FR K M) fs gs → Paired (FR K M) (putF f v fs) (putV f x gs)
  | _, _, .nil => .cons ⟨rfl, r⟩ .nil
  | (n, u) :: fs, (n', y) :: gs, .cons ⟨e, r'⟩ k => by
    have e : n = n' := e
    subst e
    unfold putF putV
    by_cases h : n = f
    · simp only [h, if_true]
      exact .cons ⟨rfl, r⟩ k
    · simp only [h, if_false]
      exact .cons ⟨rfl, r'⟩ (fr_put r k)
theorem cell_ins {K : Frag} {M H : Hp} {cs : Cells} {a C : Addr} {gs : List (Str × Vl)} (o : Ok K M H cs) (h : cs a = some (.ins C gs)) : ∃ dx fs, H a = some (.ins C dx fs) ∧ Paired (FR K M) fs gs := by
  obtain ⟨m3, ob3, hob3, cr3⟩ := o.cell a _ h
  cases ob3 <;> try exact (show False from cr3).elim
  obtain ⟨e, p⟩ := cr3
  subst e
  exact ⟨_, _, hob3, p⟩
theorem Ok.newH {K : Frag} {M H : Hp} {cs : Cells} (o : Ok K M H cs) {p : Addr} (h : H p = none) (u : HO) : Ok K M (upd H p u) cs := by
  refine ⟨fun b ob e => ?_, fun a c e => ?_⟩
  · rw [upd_ne (ne_of_none (o.ex b ob e) h)]; exact o.ex b ob e
  · obtain ⟨m, ob, q, r⟩ := o.cell a c e
    exact ⟨m, ob, by rw [upd_ne (ne_of_none q h)]; exact q, r⟩
/-- o.f, o an instance of the class at C -/
def wFld (C : Addr) (f : Str) (wo : WE) : WE := fun ρ cs P => wo ρ cs fun x cs1 => ∃ a fs v, x = .cell a ∧ cs1 a = some (.ins C fs) ∧ fs.lookup f = some v ∧ P v cs1
def wSetF (C : Addr) (f : Str) (wo wv : WE) : WS := fun D ρ cs => wv ρ cs fun y cs1 => wo ρ cs1 fun x cs2 => ∃ a fs, x = .cell a ∧ cs2 a = some (.ins C fs) ∧ fs.length < 1000 ∧ D.nx ρ (cs2.put a (.ins C (putV f y fs)))
def wMeth (C : Addr) (m : Str) (dsp : DSp) (wo : WE) (wr : WA) : WE := fun ρ cs P => wo ρ cs fun x cs1 => ∃ a fs, x = .cell a ∧ cs1 a = some (.ins C fs) ∧ fs.lookup m = none ∧ wr ρ cs1 fun xs cs2 => dsp (x :: xs) cs2 P X0
def wMake (C : Addr) (dsp : DSp) (wr : WA) : WE := fun ρ cs P => wr ρ cs fun xs cs1 => ∀ a, cs1 a = none → dsp (.cell a :: xs) (cs1.put a (.ins C [])) (fun v cs2 => v = .dat .non ∧ P (.cell a) cs2) X0
/-- a method of the text -/
structure DMok (P : Program) (w : World) (K : Frag) (mg : Str → Option Value) (base : Heap) (C : Addr) (m : Str) (ps : List Str) (k : Nat) (dsp : DSp) : Prop where
  ex : ∃ f fd, FnOk P w K mg base CX0 k f fd ps (liftSp K dsp) ∧ Cls K C ∧ Meth K C m f ∧ Binds K fd ps []
section
variable {X : Cx} {a b c e o : Expr} {es : List Expr} {wa wb wc we wo wv : WE} {w u : WT} {wr : WA} {pos : Pos} {C : Addr} {f m : Str}
theorem de_fld (hc : Cls X.K C) (hn : NoAttr X.K C f) (ho : DE X o wo) (hb : attributeBase o f X.env (eval o X.env) = eval o X.env := by rfl) : DE X (.Attribute o f pos) (wFld C f wo) :=
  pe_imp (pe_fld ho hb) fun σ H Q ⟨M, ρ, cs, P, o, r0, p, k⟩ => ⟨M, ρ, cs, _, o, r0, p, fun v x M1 H1 cs1 s1 o1 r1 ⟨a, gs, y, ex, hc1, hl, p1⟩ => by
    subst ex
    obtain ⟨dx, fs, hH, pr⟩ := cell_ins o1 hc1
    obtain ⟨z, hz, rz⟩ := (fr_lookup pr).1 y hl
    exact ⟨a, C, dx, fs, z, r1, hH, hc, hn, hz, k _ _ M1 H1 cs1 s1 o1 rz p1⟩⟩
theorem ds_fld {pos' : Pos} (hc : Cls X.K C) (hn : NoAttr X.K C f) (ho : DE X o wo) (hv : DE X e wv) (hs : swapsWith e (some (.Attribute o f pos')) pos.line X.env = pure false := by rfl) : DS X (.Assign [.Attribute o f pos'] e pos) (wSetF C f wo wv) :=
  ps_imp (ps_fld ho hv hs) fun E σ H ⟨M, ρ, cs, D, o, r, h, eo⟩ => ⟨M, ρ, cs, _, o, r, h, fun v y M1 H1 cs1 s1 o1 r1 p1 => ⟨M1, ρ, cs1, _, o1, r.mono s1, p1, fun v2 x M2 H2 cs2 s2 o2 r2 ⟨a, gs, ex, hc2, hl, p2⟩ => by
    subst ex
    obtain ⟨dx, fs, hH, pr⟩ := cell_ins o2 hc2
    refine ⟨a, C, dx, fs, r2, hH, hc, hn, by rw [Paired.len pr]; exact hl, ?_⟩
    exact eo.nx σ ρ M2 _ _ (s1.trans s2) (o2.setC hc2 (c := .ins C (putV f y gs)) ⟨rfl, fr_put (r1.mono s2) pr⟩) (r.mono (s1.trans s2)) p2⟩⟩
theorem de_meth {pl : Sem Bool} {ps : List Str} {k : Nat} {dsp : DSp} {apos : Pos} (G : DMok X.prog X.w X.K X.mg X.base C m ps k dsp) (hr : Room k X.A) (ho : DE X o wo) (ha : DA X (e :: es) wr)
    (hst : starEach (e :: es) X.env = (false, eval e X.env) :: starEach es X.env := by rfl) (hpl : (backTo pos (starEach es X.env)).any (·.1) = false := by rfl)
    (ht : eval (.Call (.Attribute o m apos) (e :: es) [] pos) X.env = (eval o X.env >>= fun ov => standAt apos.atName >>= fun _ => holding [ov] (getMethod ov m pl) >>= fun q => callWith pos q.1 q.2 (backTo pos (starEach (e :: es) X.env)) (backToKw pos (keywordEach [] X.env))) := by rfl) : DE X (.Call (.Attribute o m apos) (e :: es) [] pos) (wMeth C m dsp wo wr) := by
  obtain ⟨f, fd, F, hc, hm, hb⟩ := G.ex
  refine pe_imp (pe_meth ho hc hm F hr hb .nil pass0 ha hst hpl ht) fun σ H Q ⟨M, ρ, cs, P, o, r0, p, kk⟩ => ?_
  refine ⟨M, ρ, cs, _, o, r0, p, fun v x M1 H1 cs1 s1 o1 r1 ⟨a, gs, ex, hc1, hl, p1⟩ => ?_⟩
  subst ex
  obtain ⟨dx, fs, hH, pr⟩ := cell_ins o1 hc1
  refine ⟨a, dx, fs, r1, hH, (fr_lookup pr).2 hl, M1, ρ, cs1, _, o1, r0.mono s1, p1, fun vs xs M2 H2 cs2 s2 o2 r2 p2 => ?_⟩
  show liftSp X.K dsp (v :: (vs ++ [])) H2 Q E0
  rw [List.append_nil]
  exact ⟨M2, _, cs2, P, X0, o2, .cons (r1.mono s2) r2, p2, kk.mono (s1.trans s2), fun _ _ _ _ _ _ _ _ _ z => z.elim⟩
theorem de_make {x : Str} {ps : List Str} {k : Nat} {dsp : DSp} {p : Pos} {fi : Addr} {fd : FuncData} (Mm : Mk X.K C fi) (F : FnOk X.prog X.w X.K X.mg X.base CX0 k fi fd ps (liftSp X.K dsp)) (hb : Binds X.K fd ps []) (hm : X.mg x = some (.ref C)) (hr : Room (k + 1) X.A) (ha : DA X (e :: es) wr) (hg : Gl X x := by rfl)
    (hdb : (x == ("__debug__" : Str)) = false := by decide) (he : starEach (e :: es) X.env = (false, eval e X.env) :: starEach es X.env := by rfl) (hpl : (backTo pos (starEach es X.env)).any (·.1) = false := by rfl) : DE X (.Call (.Name x p) (e :: es) [] pos) (wMake C dsp wr) := by
  refine pe_imp (pe_make Mm F hr hg hm hb .nil pass0 ha hdb he hpl) fun σ H Q ⟨M, ρ, cs, P, o, r0, p, kk⟩ => ?_
  refine ⟨M, ρ, cs, _, o, r0, p, fun vs xs M1 H1 cs1 s1 o1 r1 p1 a dx h1 h2 hne => ?_⟩
  rw [List.append_nil]
  have o2 := o1.newH h2 (.own a)
  have h3 : upd H1 dx (.own a) a = none := by rw [upd_ne hne.symm]; exact h1
  have o3 := o2.newC h3 (u := .ins C dx []) (c := .ins C []) ⟨rfl, .nil⟩
  refine ⟨M1, _, _, _, X0, o3, .cons rv_raw r1, p1 a (o1.freeC h1), fun v x M2 H2 cs2 s2 o2 r2 ⟨ex, p2⟩ => ?_, fun _ _ _ _ _ _ _ _ _ z => z.elim⟩
  subst ex
  exact ⟨inv_non r2, kk _ _ M2 H2 cs2 (s1.trans s2) o2 rv_raw p2⟩
end
/-! ### generators by call -/
structure DGok (P : Program) (w : World) (K : Frag) (mg : Str → Option Value) (base : Heap) (x : Str) (ps : List Str) (k : Nat) (sp : GSpec) : Prop where
  ex : ∃ f fd, GFnD P w K mg base k f fd ps sp ∧ mg x = some (.ref f) ∧ PySem.W.keepIn K (.ref f) = true ∧ Binds K fd ps []
structure DGMok (P : Program) (w : World) (K : Frag) (mg : Str → Option Value) (base : Heap) (C : Addr) (m : Str) (ps : List Str) (k : Nat) (sp : GSpec) : Prop where
  ex : ∃ f fd, GFnD P w K mg base k f fd ps sp ∧ Cls K C ∧ Meth K C m f ∧ Binds K fd ps []
def wGCall (sp : GSpec) (wr : WA) : WGe := fun ρ cs R => wr ρ cs fun xs cs1 => ∃ ds fin Gd, sp xs cs1 ds fin Gd ∧ R ds fin Gd cs1
def wGMeth (C : Addr) (m : Str) (sp : GSpec) (wo : WE) (wr : WA) : WGe := fun ρ cs R => wo ρ cs fun x cs1 => ∃ a fs, x = .cell a ∧ cs1 a = some (.ins C fs) ∧ fs.lookup m = none ∧ wr ρ cs1 fun xs cs2 => ∃ ds fin Gd, sp (x :: xs) cs2 ds fin Gd ∧ R ds fin Gd cs2
section
variable {X : Cx} {e o : Expr} {es : List Expr} {wo : WE} {wr : WA} {pos : Pos} {C : Addr} {m : Str} {k : Nat} {ps : List Str} {sp : GSpec}
theorem run_gd {pins : List (Addr × Obj)} {σ : L2.St} {H M : Hp} {cs : Cells} {s : Shared} {us : List Value} {vs : List V} {xs : List Vl} {ds : List Dat} {fin : Bool} {Gd : Cells → Prop} {f : Addr} {fd : FuncData} {R : List Dat → Bool → (Cells → Prop) → Cells → Prop} {M0 : Hp} (F : GFnD X.prog X.w X.K X.mg X.base k f fd ps sp) (hr : Room k X.A) (hb : Binds X.K fd ps [])
    (I : Inv X pins σ H s) (rv : Vals vs us) (o : Ok X.K M H cs) (rx : Paired (RV X.K M) vs xs) (hs : sp xs cs ds fin Gd) (sm : Same M0 M) (hR : R ds fin Gd cs) :
    wpAny (model X.prog X.w) X.A (call (.ref f) us) (fun u s' => ∃ a H1 M1 cs1 sc ds fin Gd G g go oL c, u = .ref a ∧ Inv X pins σ H1 sc ∧ Same M0 M1 ∧ Ok X.K M1 H1 cs1 ∧ MadeD X.prog X.w X.K X.mg X.base k X.stack M1 sc ds fin Gd a s' G g go oL c ∧ R ds fin Gd cs1) X.xe s := by
  have hl2 : us.length = ps.length := by rw [← rv.length, Paired.len rx]; exact F.len _ _ _ _ _ hs
  have hbb := hb s us I.kIn (by rw [List.append_nil]; exact hl2)
  rw [List.append_nil] at hbb
  refine PySem.wpAny_call (codeAny_mono (F.run X.A X.stack s H M cs ⟨us, []⟩ us vs xs ds fin Gd hr I.env0 hbb rv o rx hs) fun r s' hq => ?_)
  obtain ⟨a, G, g, go, oL, c, rfl, mk⟩ := hq
  exact ⟨a, H, M, cs, s, ds, fin, Gd, G, g, go, oL, c, rfl, I, sm, o, mk, hR⟩
theorem dge_call {x : Str} {p : Pos} (G : DGok X.prog X.w X.K X.mg X.base x ps k sp) (hr : Room k X.A) (ha : DA X (e :: es) wr) (hg : Gl X x := by rfl) (hdb : (x == ("__debug__" : Str)) = false := by decide)
    (he : starEach (e :: es) X.env = (false, eval e X.env) :: starEach es X.env := by rfl) (hpl : (backTo pos (starEach es X.env)).any (·.1) = false := by rfl) : DGe X k (.Call (.Name x p) (e :: es) [] pos) (wGCall sp wr) := by
  obtain ⟨f, fd, F, hm, hk, hb⟩ := G.ex
  refine ⟨fun pins s σ H M ρ cs R I o r h => ?_⟩
  refine wpAny_Call_Name_kw (ld_glob I hg hm ?_ hdb)
  refine PySem.W.callWith_K (h₀ := X.base) I.ok.mod.kin hk (thn (ha.run pos pins s σ H (fun vs H1 => ∃ M1 xs cs1, Same M M1 ∧ Ok X.K M1 H1 cs1 ∧ Paired (RV X.K M1) vs xs ∧ ∃ ds fin Gd, sp xs cs1 ds fin Gd ∧ R ds fin Gd cs1) I ⟨M, ρ, cs, _, o, r, h, fun vs xs M1 H1 cs1 s1 o1 r1 p1 => ⟨M1, xs, cs1, s1, o1, r1, p1⟩⟩) fun us s1 ⟨vs, H1, I1, rv, q⟩ => ⟨I1.kIn, ?_⟩) he hpl
  obtain ⟨M1, xs, cs1, sm, o1, r1, ds, fin, Gd, hs, hR⟩ := q
  exact run_gd F hr hb I1 rv o1 r1 hs sm hR
theorem dge_meth {pl : Sem Bool} {apos : Pos} (G : DGMok X.prog X.w X.K X.mg X.base C m ps k sp) (hr : Room k X.A) (ho : DE X o wo) (ha : DA X (e :: es) wr)
    (hst : starEach (e :: es) X.env = (false, eval e X.env) :: starEach es X.env := by rfl) (hpl : (backTo pos (starEach es X.env)).any (·.1) = false := by rfl)
    (ht : eval (.Call (.Attribute o m apos) (e :: es) [] pos) X.env = (eval o X.env >>= fun ov => standAt apos.atName >>= fun _ => holding [ov] (getMethod ov m pl) >>= fun q => callWith pos q.1 q.2 (backTo pos (starEach (e :: es) X.env)) (backToKw pos (keywordEach [] X.env))) := by rfl) : DGe X k (.Call (.Attribute o m apos) (e :: es) [] pos) (wGMeth C m sp wo wr) := by
  obtain ⟨f, fd, F, hc, hm, hb⟩ := G.ex
  refine ⟨fun pins s σ H M ρ cs R I o r h => ?_⟩
  refine PySem.W.methodCall_KW (pl := pl) (thn (ho.run pins s σ H (fun v H1 => ∃ M1 x cs1, Same M M1 ∧ Ok X.K M1 H1 cs1 ∧ RV X.K M1 v x ∧ ∃ a fs, x = .cell a ∧ cs1 a = some (.ins C fs) ∧ fs.lookup m = none ∧ wr ρ cs1 fun xs cs2 => ∃ ds fin Gd, sp (x :: xs) cs2 ds fin Gd ∧ R ds fin Gd cs2) I ⟨M, ρ, cs, _, o, r, h, fun v x M1 H1 cs1 s1 o1 r1 p1 => ⟨M1, x, cs1, s1, o1, r1, p1⟩⟩) fun u s1 ⟨v, H1, I1, ru, q⟩ => ?_) ht
  obtain ⟨M1, x, cs1, sm, o1, r1, a, gs, rfl, hc1, hl, q⟩ := q
  have e1 : v = .ref a := r1
  subst e1
  obtain rfl : u = Value.ref a := ru
  obtain ⟨dx, fs, hH, pr⟩ := cell_ins o1 hc1
  refine getmeth_ok I1 hH hc hm ((fr_lookup pr).2 hl) ?_
  refine PySem.W.callWith_K (first := [.ref a]) (h₀ := X.base) I.ok.mod.kin hm.kp (thn (ha.run pos pins s1 σ H1 (fun vs H2 => ∃ M2 xs cs2, Same M1 M2 ∧ Ok X.K M2 H2 cs2 ∧ Paired (RV X.K M2) vs xs ∧ ∃ ds fin Gd, sp (.cell a :: xs) cs2 ds fin Gd ∧ R ds fin Gd cs2) I1 ⟨M1, ρ, cs1, _, o1, r.mono sm, q, fun vs xs M2 H2 cs2 s2 o2 r2 p2 => ⟨M2, xs, cs2, s2, o2, r2, p2⟩⟩) fun us s2 ⟨vs, H2, I2, rv, q2⟩ => ⟨I2.kIn, ?_⟩) hst hpl
  obtain ⟨M2, xs, cs2, sm2, o2, r2, ds, fin, Gd, hs, hR⟩ := q2
  exact run_gd (us := .ref a :: us) (vs := .ref a :: vs) F hr hb I2 (.cons rfl rv) o2 (.cons rv_raw r2) hs (sm.trans sm2) hR
end
end DL
set_option maxRecDepth 100000
set_option maxHeartbeats 4000000
namespace DL
open PySem L2 PySem.Spec PyProof.Rows
/-! ### dicts: keys are ints and texts, or tuples of them -/
def keyD : Key → Dat
  | .inl i => .int i
  | .inr x => .str x
section
variable {κ : Type} [DecidableEq κ]
def valD (kvs : List (κ × Vl)) (k : κ) : Option Vl := (kvs.find? fun kv => decide (kv.1 = k)).map (·.2)
def putD (kvs : List (κ × Vl)) (k : κ) (v : Vl) : List (κ × Vl) := if (kvs.any fun kv => decide (kv.1 = k)) = true then kvs.map (fun kv => if kv.1 = k then (kv.1, v) else kv) else kvs ++ [(k, v)]
abbrev KR (K : Frag) (M : Hp) : (κ × V) → (κ × Vl) → Prop := fun p q => p.1 = q.1 ∧ RV K M p.2 q.2
theorem kr_val {K : Frag} {M : Hp} {k : κ} : ∀ {xs : List (κ × V)} {ys : List (κ × Vl)}, Paired (KR K M) xs ys → (∀ y, valD ys k = some y → ∃ v, valV xs k = some v ∧ RV K M v y) ∧ (valD ys k = none → valV xs k = none)
  | _, _, .nil => ⟨fun y h => (by cases h), fun _ => rfl⟩
  | (n, v) :: xs, (n', y) :: ys, .cons ⟨e, r⟩ t => by
    have e : n = n' := e
    subst e
    obtain ⟨h1, h2⟩ := kr_val (k := k) t
    unfold valD valV at *
    by_cases hk : n = k
    · simp only [List.find?_cons, hk, decide_true, Option.map_some]
      exact ⟨fun z hz => ⟨v, rfl, by cases hz; exact r⟩, fun z => by cases z⟩
    · simp only [List.find?_cons, hk, decide_false]
      exact ⟨h1, h2⟩
theorem kr_any {K : Frag} {M : Hp} {k : κ} : ∀ {xs : List (κ × V)} {ys : List (κ × Vl)}, Paired (KR K M) xs ys → (xs.any fun kv => decide (kv.1 = k)) = (ys.any fun kv => decide (kv.1 = k))
  | _, _, .nil => rfl
  | (n, v) :: xs, (n', y) :: ys, .cons ⟨e, r⟩ t => by
    have e : n = n' := e
    subst e
    rw [List.any_cons, List.any_cons, kr_any t]
theorem kr_map {K : Frag} {M : Hp} {k : κ} {v : V} {y : Vl} (r : RV K M v y) : ∀ {xs : List (κ × V)} {ys : List (κ × Vl)}, Paired (KR K M) xs ys → Paired (KR K M) (xs.map fun kv => if kv.1 = k then (kv.1, v) else kv) (ys.map fun kv => if kv.1 = k then (kv.1, y) else kv)
  | _, _, .nil => .nil
  | (n, u) :: xs, (n', z) :: ys, .cons ⟨e, r'⟩ t => by
    have e : n = n' := e
    subst e
    refine .cons ?_ (kr_map r t)
    by_cases h : n = k
    · simp only [h, if_true]; exact ⟨rfl, r⟩
    · simp only [h, if_false]; exact ⟨rfl, r'⟩
theorem kr_put {K : Frag} {M : Hp} {k : κ} {v : V} {y : Vl} (r : RV K M v y) {xs : List (κ × V)} {ys : List (κ × Vl)} (h : Paired (KR K M) xs ys) : Paired (KR K M) (putK xs k v) (putD ys k y) := by
  unfold putK putD
  rw [kr_any h]
  split
  · exact kr_map r h
  · exact Paired.app h (.cons ⟨rfl, r⟩ .nil)
end
theorem rv_key {K : Frag} {M : Hp} {v : V} {k : Key} (r : RV K M v (.dat (keyD k))) : v = kV k := by
  cases k with
  | inl i => exact inv_int r
  | inr x => exact inv_str r
theorem rv_keys {K : Frag} {M : Hp} : ∀ {vs : List V} {ks : List Key}, Paired (RV K M) vs (ks.map fun k => Vl.dat (keyD k)) → vs = ks.map kV
  | _, [], .nil => rfl
  | _, k :: ks, .cons r t => by rw [rv_key r, rv_keys t]; rfl
theorem rv_tupKey {K : Frag} {M H : Hp} {cs : Cells} {v : V} {ks : List Key} (o : Ok K M H cs) (r : RV K M v (.dat (.tup (ks.map keyD)))) : ∃ b, v = .ref b ∧ SqT K H b (ks.map kV) := by
  obtain ⟨b, vs, e, q, pr⟩ := seqD_tup o r (xs := (ks.map keyD).map .dat) rfl
  rw [List.map_map] at pr
  rw [rv_keys pr] at q
  exact ⟨b, e, q⟩
theorem cell_dk {K : Frag} {M H : Hp} {cs : Cells} {a : Addr} {ys : List (Key × Vl)} (o : Ok K M H cs) (h : cs a = some (.dk ys)) : ∃ xs, H a = some (.dK xs) ∧ Paired (KR K M) xs ys := by
  obtain ⟨m3, ob3, hob3, cr3⟩ := o.cell a _ h
  cases ob3 <;> try exact (show False from cr3).elim
  exact ⟨_, hob3, cr3⟩
theorem cell_dt {K : Frag} {M H : Hp} {cs : Cells} {a : Addr} {ys : List (List Key × Vl)} (o : Ok K M H cs) (h : cs a = some (.dt ys)) : ∃ xs, H a = some (.dT xs) ∧ Paired (KR K M) xs ys := by
  obtain ⟨m3, ob3, hob3, cr3⟩ := o.cell a _ h
  cases ob3 <;> try exact (show False from cr3).elim
  exact ⟨_, hob3, cr3⟩
theorem cell_lk {K : Frag} {M H : Hp} {cs : Cells} {a : Addr} {od : Obj} {u : HO} {ys : List (Key × Vl)} (o : Ok K M H cs) (h : cs a = some (.lk od u ys)) : ∃ xs, u = .dK xs ∧ H a = some (.frz od (.dK xs)) ∧ Paired (KR K M) xs ys := by
  obtain ⟨m3, ob3, hob3, cr3⟩ := o.cell a _ h
  cases ob3 <;> try exact (show False from cr3).elim
  obtain ⟨e1, e2, e3⟩ := cr3
  subst e1 e2
  rename_i u
  cases u <;> try exact (show False from e3).elim
  exact ⟨_, rfl, hob3, e3⟩
/-! ### d[y] and d.get(y, z): the key may be any tuple -/
def DGetS (K : Frag) (H : Hp) (a : Addr) (y : V) (r : Option V) : Prop :=
  (∃ kvs k, Rd H a (.dK kvs) ∧ y = kV k ∧ r = valV kvs k) ∨ ∃ kvs k b, Rd H a (.dT kvs) ∧ y = .ref b ∧ SqT K H b (k.map kV) ∧ r = valV kvs k
section
variable {X : Cx} {pins : List (Addr × Obj)} {σ : L2.St} {H : Hp} {s : Shared} {a : Addr} {y v d : V} {u r : Value} {o : Option V} {A : Around} {E : Value → Shared → Prop}
theorem key_ofS (I : Inv X pins σ H s) {ks : List Key} {b : Addr} (h : SqT X.K H b (ks.map kV)) : (tupleKind (mixKind X.prog X.w)).is s.heap ks b := by
  obtain ⟨its, rv, ⟨o, h1, h2, n, h3⟩, _⟩ := I.tuple h
  exact ⟨o, its.toArray, n, h1, h2, h3, by simpa using items_are rv⟩
theorem ds_typeIs (I : Inv X pins σ H s) (g : DGetS X.K H a y o) : s.TypeIs (.ref a) "dict" := by
  rcases g with ⟨kvs, k, e, _, _⟩ | ⟨kvs, k, b, e, _, _, _⟩
  · obtain ⟨_, _, vs, _, dd⟩ := dk_rd I.hok e
    exact dd.typeIs
  · obtain ⟨_, _, xs, _, dd⟩ := dt_rd I.hok e
    exact dd.typeIs
theorem dS_getItem {Q : Value → Shared → Prop} (hu : A.units + 1 < cLine) (I : Inv X pins σ H s) (g : DGetS X.K H a y (some v)) (ry : RelV y u) (h : ∀ w' s', Inv X pins σ H s' → RelV v w' → Q w' s') : wpAny (model X.prog X.w) A (getItem (.ref a) u) Q E s := by
  rcases g with ⟨kvs, k, e, ey, l⟩ | ⟨kvs, k, b, e, ey, eb, l⟩
  · exact d_getItem hu I (.inl ⟨kvs, k, e, ey, l⟩) ry h
  · subst ey
    cases (show u = Value.ref b from ry)
    obtain ⟨z, hd, xs, rel, dd⟩ := dt_rd I.hok e
    obtain ⟨w', hw, rw'⟩ := RelO.some_of (v := v) (o := (atKey xs k).map (·.2)) (by rw [l]; exact rel.val k)
    obtain ⟨p, hp, hp2⟩ := Option.map_eq_some_iff.mp hw
    refine wpAny_getItem_heap (tupleKind_room_in1 hu) (key_ofS I eb) dd hp ?_
    rw [hp2]
    exact h w' _ (I.tok _) rw'
theorem dS_get2 {Q : Value → Shared → Prop} (hu : A.units + 1 < cLine) (I : Inv X pins σ H s) (g : DGetS X.K H a y o) (ry : RelV y u) (rd : RelV d r) (h : ∀ w' s', Inv X pins σ H s' → RelV (o.getD d) w' → Q w' s') : wpAny (model X.prog X.w) A (call (.builtin "dict.get") [.ref a, u, r]) Q E s := by
  rcases g with ⟨kvs, k, e, ey, l⟩ | ⟨kvs, k, b, e, ey, eb, l⟩
  · exact d_get2 hu I (.inl ⟨kvs, k, e, ey, l⟩) ry rd h
  · subst ey
    cases (show u = Value.ref b from ry)
    obtain ⟨z, hd, xs, rel, dd⟩ := dt_rd I.hok e
    refine call_meetsIn PySem.F.slot_dict_get dd.typeIs PySem.F.entry_dict_get (PySem.F.args_dict_get_3 _ _ _) (meetsH_dict_get_default (tupleKind (mixKind X.prog X.w)) a b hd r) ⟨tupleKind_room_in1 hu, k, xs, key_ofS I eb, dd, h _ _ (I.tok _) ?_⟩
    rw [l]
    exact (rel.val k).getD rd
end
/-- what the dict x holds at y -/
def atD (cs : Cells) (x y : Vl) (r : Option Vl) : Prop := ∃ a, x = .cell a ∧ ((∃ kvs k, cs a = some (.dk kvs) ∧ y = .dat (keyD k) ∧ r = valD kvs k) ∨ ∃ kvs ks, cs a = some (.dt kvs) ∧ y = .dat (.tup (ks.map keyD)) ∧ r = valD kvs ks)
theorem atD_ok {K : Frag} {M H : Hp} {cs : Cells} {x y : Vl} {r : Option Vl} {vx vy : V} (o : Ok K M H cs) (rx : RV K M vx x) (ry : RV K M vy y) (h : atD cs x y r) : ∃ a r', vx = .ref a ∧ DGetS K H a vy r' ∧ (∀ z, r = some z → ∃ v, r' = some v ∧ RV K M v z) ∧ (r = none → r' = none) := by
  obtain ⟨a, ex, h⟩ := h
  subst ex
  have e1 : vx = .ref a := rx
  rcases h with ⟨kvs, k, hc, ey, er⟩ | ⟨kvs, ks, hc, ey, er⟩
  · subst ey er
    obtain ⟨xs, hH, pr⟩ := cell_dk o hc
    exact ⟨a, _, e1, .inl ⟨xs, k, .inl hH, rv_key ry, rfl⟩, (kr_val pr).1, (kr_val pr).2⟩
  · subst ey er
    obtain ⟨xs, hH, pr⟩ := cell_dt o hc
    obtain ⟨b, e2, hb⟩ := rv_tupKey o ry
    exact ⟨a, _, e1, .inr ⟨xs, ks, b, .inl hH, e2, hb, rfl⟩, (kr_val pr).1, (kr_val pr).2⟩
def wDGet : W2 := fun x y cs P => ∃ v, atD cs x y (some v) ∧ P v cs
def wDGet2 (wo wi wd : WE) : WE := fun ρ cs P => wo ρ cs fun x cs1 => (∃ a, x = .cell a ∧ ((∃ kvs, cs1 a = some (.dk kvs)) ∨ ∃ kvs, cs1 a = some (.dt kvs))) ∧ wi ρ cs1 fun y cs2 => wd ρ cs2 fun z cs3 => ∃ r, atD cs3 x y r ∧ P (r.getD z) cs3
def wDNewK : WE := fun _ cs P => ∀ p, cs p = none → P (.cell p) (cs.put p (.dk []))
def wDNewT : WE := fun _ cs P => ∀ p, cs p = none → P (.cell p) (cs.put p (.dt []))
/-- d[k] = v -/
def wDPut (wo wi wv : WE) : WS := fun D ρ cs => wv ρ cs fun v cs1 => wo ρ cs1 fun x cs2 => wi ρ cs2 fun y cs3 => ∃ a kvs k, x = .cell a ∧ y = .dat (keyD k) ∧ cs3 a = some (.dk kvs) ∧ kvs.length < 16777216 ∧ D.nx ρ (cs3.put a (.dk (putD kvs k v)))
/-- d[k, ..] = v -/
def wDPutT (wo : WE) (wa : WA) (wv : WE) : WS := fun D ρ cs => wv ρ cs fun v cs1 => wo ρ cs1 fun x cs2 => wa ρ cs2 fun ys cs3 => ∃ a kvs ks, x = .cell a ∧ ys = (ks.map fun k => Vl.dat (keyD k)) ∧ ks.length ≤ 1000 ∧ cs3 a = some (.dt kvs) ∧ kvs.length < 16777216 ∧ D.nx ρ (cs3.put a (.dt (putD kvs ks v)))
section
variable {X : Cx} {a b c e f o i : Expr} {es : List Expr} {wa wb wc we wo wi wv wd : WE} {wr : WA} {pos : Pos}
theorem de_dnewK : DE X (.Dict [] [] pos) wDNewK := pe_imp pe_dnewK fun σ H Q ⟨M, ρ, cs, P, o, r, p, k⟩ q hq => k _ _ M _ _ (Same.refl _) (o.newC hq (u := .dK []) (c := .dk []) .nil) rv_raw (p q (o.freeC hq))
theorem de_dnewT : DE X (.Dict [] [] pos) wDNewT := pe_imp pe_dnewT fun σ H Q ⟨M, ρ, cs, P, o, r, p, k⟩ q hq => k _ _ M _ _ (Same.refl _) (o.newC hq (u := .dT []) (c := .dt []) .nil) rv_raw (p q (o.freeC hq))
theorem de_dget (hu : X.A.units + 64 < cLine) (ho : DE X o wo) (hi : DE X i wi) (hs : NoSl i := by exact fun _ _ => rfl) : DE X (.Subscript o i pos) (wOp wDGet wo wi) := by
  refine ⟨fun pins s σ H Q I ⟨M, ρ, cs, P, ok, r, p, k⟩ => ?_⟩
  refine subD_of PySem.F.slot_dict_getitem.lookup hs (thn (ho.run pins s σ H (fun v H1 => ∃ x M1 cs1, Same M M1 ∧ Ok X.K M1 H1 cs1 ∧ RV X.K M1 v x ∧ wi ρ cs1 fun y cs2 => wDGet x y cs2 P) I ⟨M, ρ, cs, _, ok, r, p, fun v x M1 H1 cs1 s1 o1 r1 p1 => ⟨x, M1, cs1, s1, o1, r1, p1⟩⟩) fun u s1 ⟨vx, H1, I1, rx, x, M1, cs1, sm1, o1, r1, p1⟩ => ?_)
  refine thn (hi.run pins s1 σ H1 (fun v H2 => ∃ y M2 cs2, Same M1 M2 ∧ Ok X.K M2 H2 cs2 ∧ RV X.K M2 v y ∧ wDGet x y cs2 P) I1 ⟨M1, ρ, cs1, _, o1, r.mono sm1, p1, fun v x M1 H1 cs1 s1 o1 r1 p1 => ⟨x, M1, cs1, s1, o1, r1, p1⟩⟩) fun iv s2 ⟨vy, H2, I2, ry, y, M2, cs2, sm2, o2, r2, v, hat, p2⟩ => ?_
  obtain ⟨a, r', ea, g, hsome, _⟩ := atD_ok o2 (r1.mono sm2) r2 hat
  obtain ⟨z, er, rz⟩ := hsome v rfl
  subst ea er
  obtain rfl : u = Value.ref a := rx
  exact ⟨ds_typeIs I2 g, dS_getItem (by omega) I2 g ry fun w' s3 I3 rw' => ⟨z, H2, I3, rw', k _ _ M2 H2 cs2 (sm1.trans sm2) o2 rz p2⟩⟩
theorem ds_dput {pos' : Pos} (hu : X.A.units + 64 < cLine) (ho : DE X o wo) (hi : DE X i wi) (hv : DE X e wv) (hs : swapsWith e (some (.Subscript o i pos')) pos.line X.env = pure false := by rfl) : DS X (.Assign [.Subscript o i pos'] e pos) (wDPut wo wi wv) :=
  ps_imp (ps_dput (by omega) ho hi hv hs) fun E σ H ⟨M, ρ, cs, D, o, r, h, eo⟩ => ⟨M, ρ, cs, _, o, r, h, fun v1 v M1 H1 cs1 s1 o1 r1 p1 => ⟨M1, ρ, cs1, _, o1, r.mono s1, p1, fun v2 x M2 H2 cs2 s2 o2 r2 p2 => ⟨M2, ρ, cs2, _, o2, r.mono (s1.trans s2), p2, fun v3 y M3 H3 cs3 s3 o3 r3 ⟨a, kvs, k, ex, ey, hc, hl, p3⟩ => by
    subst ex ey
    obtain ⟨xs, hH, pr⟩ := cell_dk o3 hc
    refine ⟨a, _, r2, .inl ⟨xs, k, hH, rv_key r3, by rw [Paired.len pr]; exact size_lt hl, rfl⟩, ?_⟩
    exact eo.nx σ ρ M3 _ _ (s1.trans (s2.trans s3)) (o3.setC hc (c := .dk (putD kvs k v)) (kr_put (r1.mono (s2.trans s3)) pr)) (r.mono (s1.trans (s2.trans s3))) p3⟩⟩⟩
theorem ds_dputT {pos' ptt : Pos} {kk : Nat} (hu : X.A.units + 64 < cLine) (ho : DE X o wo) (hi : DA X es wr) (hv : DE X e wv) (hs : swapsWith e (some (.Subscript o (.Tuple es kk ptt) pos')) pos.line X.env = pure false := by rfl) : DS X (.Assign [.Subscript o (.Tuple es kk ptt) pos'] e pos) (wDPutT wo wr wv) :=
  ps_imp (ps_dput (by omega) ho (pe_tup hi) hv hs) fun E σ H ⟨M, ρ, cs, D, o, r, h, eo⟩ => ⟨M, ρ, cs, _, o, r, h, fun v1 v M1 H1 cs1 s1 o1 r1 p1 => ⟨M1, ρ, cs1, _, o1, r.mono s1, p1, fun v2 x M2 H2 cs2 s2 o2 r2 p2 => ⟨M2, ρ, cs2, _, o2, r.mono (s1.trans s2), p2, fun vs ys M3 H3 cs3 s3 o3 r3 ⟨a, kvs, ks, ex, ey, hk, hc, hl, p3⟩ => by
    subst ex ey
    have ev := rv_keys r3
    subst ev
    refine ⟨by rw [List.length_map]; exact size_line (by omega), fun q hq => ?_⟩
    obtain ⟨s4, o4⟩ := o3.newM hq (.tup (ks.map kV))
    have sAll := s1.trans (s2.trans (s3.trans s4))
    obtain ⟨xs, hH, pr⟩ := cell_dt o4 hc
    refine ⟨a, _, r2, .inr ⟨xs, ks, q, hH, rfl, upd_same, by rw [Paired.len pr]; exact size_lt hl, rfl⟩, ?_⟩
    exact eo.nx σ ρ _ _ _ sAll (o4.setC hc (c := .dt (putD kvs ks v)) (kr_put (r1.mono (s2.trans (s3.trans s4))) pr)) (r.mono sAll) p3⟩⟩⟩
end
end DL
set_option maxRecDepth 100000
set_option maxHeartbeats 4000000
namespace DL
open PySem L2 PySem.Spec PyProof.Rows
/-! ### d.get(y, z) -/
section
variable {X : Cx} {a b c e f o i : Expr} {es : List Expr} {wa wb wc we wo wi wv wd : WE} {wr : WA} {pos apos cpos : Pos}
theorem isD_cell {K : Frag} {M H : Hp} {cs : Cells} {v : V} {x : Vl} (ok : Ok K M H cs) (rx : RV K M v x) (h : ∃ a, x = .cell a ∧ ((∃ kvs, cs a = some (.dk kvs)) ∨ ∃ kvs, cs a = some (.dt kvs))) : ∃ a, v = .ref a ∧ IsD H a := by
  obtain ⟨a, rfl, ⟨kvs, h⟩ | ⟨kvs, h⟩⟩ := h
  · obtain ⟨xs, hH, _⟩ := cell_dk ok h
    exact ⟨a, rx, .inl ⟨xs, .inl hH⟩⟩
  · obtain ⟨xs, hH, _⟩ := cell_dt ok h
    exact ⟨a, rx, .inr ⟨xs, .inl hH⟩⟩
theorem de_dget2 (hu : X.A.units + 64 < cLine) (ho : DE X o wo) (he : DE X e wi) (hf : DE X f wd) (m : M2 X o "get" apos e f cpos := by exact ⟨rfl, rfl, rfl, rfl⟩) : DE X (.Call (.Attribute o "get" apos) [e, f] [] cpos) (wDGet2 wo wi wd) := by
  refine ⟨fun pins s σ H Q I ⟨M, ρ, cs, P, ok, r, p, k⟩ => ?_⟩
  refine wpAny_Call_method m.base m.few m.line PySem.F.plainAttrs_dict PySem.F.slot_dict_get PySem.F.type_dict_get (thn (ho.run pins s σ H (fun v H1 => ∃ x M1 cs1, Same M M1 ∧ Ok X.K M1 H1 cs1 ∧ RV X.K M1 v x ∧ (∃ a, x = .cell a ∧ ((∃ kvs, cs1 a = some (.dk kvs)) ∨ ∃ kvs, cs1 a = some (.dt kvs))) ∧ wi ρ cs1 fun y cs2 => wd ρ cs2 fun z cs3 => ∃ r, atD cs3 x y r ∧ P (r.getD z) cs3) I
    ⟨M, ρ, cs, _, ok, r, p, fun v x M1 H1 cs1 s1 o1 r1 p1 => ⟨x, M1, cs1, s1, o1, r1, p1.1, p1.2⟩⟩) fun u s1 ⟨vx, H1, I1, rx, x, M1, cs1, sm1, o1, r1, hd, p1⟩ => ?_)
  obtain ⟨a, ea, dd⟩ := isD_cell o1 r1 hd
  subst ea
  obtain rfl : u = Value.ref a := rx
  obtain ⟨t1, t2, _⟩ := isD_at I1 dd
  refine ⟨t1, t2, ?_⟩
  rw [m.trees]
  refine Calls.callWith_builtin rfl (Calls.evalArgs_plain (Calls.spliced_cons (thn (he.run pins s1 σ H1 (fun v H2 => ∃ y M2 cs2, Same M1 M2 ∧ Ok X.K M2 H2 cs2 ∧ RV X.K M2 v y ∧ wd ρ cs2 fun z cs3 => ∃ r, atD cs3 x y r ∧ P (r.getD z) cs3) I1 ⟨M1, ρ, cs1, _, o1, r.mono sm1, p1, fun v x M1 H1 cs1 s1 o1 r1 p1 => ⟨x, M1, cs1, s1, o1, r1, p1⟩⟩) fun iv s2 ⟨vy, H2, I2, ry, y, M2, cs2, sm2, o2, r2, p2⟩ => ?_)))
  refine Calls.spliced_cons (thn (hf.run pins s2 σ H2 (fun v H3 => ∃ z M3 cs3, Same M2 M3 ∧ Ok X.K M3 H3 cs3 ∧ RV X.K M3 v z ∧ ∃ r, atD cs3 x y r ∧ P (r.getD z) cs3) I2 ⟨M2, ρ, cs2, _, o2, r.mono (sm1.trans sm2), p2, fun v x M1 H1 cs1 s1 o1 r1 p1 => ⟨x, M1, cs1, s1, o1, r1, p1⟩⟩) fun fv s3 ⟨vz, H3, I3, rz, z, M3, cs3, sm3, o3, r3, rr, hat, p3⟩ => Calls.spliced_nil ?_)
  obtain ⟨a', r', ea, g, hsome, hnone⟩ := atD_ok o3 (r1.mono (sm2.trans sm3)) (r2.mono sm3) hat
  cases ea
  refine dS_get2 (by omega) I3 g ry rz fun w' s4 I4 rw' => ?_
  cases rr with
  | some v =>
    obtain ⟨q, eq, rq⟩ := hsome v rfl
    subst eq
    exact ⟨q, H3, I4, rw', k _ _ M3 H3 cs3 (sm1.trans (sm2.trans sm3)) o3 rq p3⟩
  | none =>
    have eq := hnone rfl
    subst eq
    exact ⟨vz, H3, I4, rw', k _ _ M3 H3 cs3 (sm1.trans (sm2.trans sm3)) o3 r3 p3⟩
/-! ### locked dicts, d.items() -/
def wLock (w : WE) : WE := fun ρ cs P => ∃ d kvs, cs d = some (.dk kvs) ∧ ∀ od u, w ρ (cs.put d (.lk od u kvs)) fun v cs' => cs' d = some (.lk od u kvs) ∧ P v (cs'.put d (.dk kvs))
theorem de_lock (h : DE X e we) : DE X e (wLock we) := pe_imp (pe_lock h) fun σ H Q ⟨M, ρ, cs, P, o, r, ⟨d, kvs, hd, hw⟩, k⟩ => by
  obtain ⟨xs, hH, pr⟩ := cell_dk o hd
  refine ⟨d, .dK xs, hH, trivial, fun od => ?_⟩
  refine ⟨M, ρ, _, _, o.setC hd (u := .frz od (.dK xs)) (c := .lk od (.dK xs) kvs) ⟨rfl, rfl, pr⟩, r, hw od (.dK xs), fun v x M' H' cs' s o' rv p => ?_⟩
  obtain ⟨h1, p⟩ := p
  obtain ⟨ys, eu, hH', pr'⟩ := cell_lk o' h1
  cases eu
  exact ⟨hH', k v x M' _ _ s (o'.setC h1 (u := .dK xs) (c := .dk kvs) pr') rv p⟩
def kvV (p : Key × Dat) : Key × Vl := (p.1, .dat p.2)
def wiItems (wo : WE) : WI := fun ρ cs P => wo ρ cs fun x cs1 => ∃ (d : Addr) (od : Obj) (u : HO) (kvd : List (Key × Dat)), x = .cell d ∧ cs1 d = some (.lk od u (kvd.map kvV)) ∧ P (kvd.map fun p => Vl.dat (.tup [keyD p.1, p.2])) (fun cs' => cs' d = some (.lk od u (kvd.map kvV))) cs1
theorem dr_key {K : Frag} {M : Hp} (k : Key) : Dr K M (kV k) (keyD k) := by cases k <;> constructor
theorem di_items {elts : List Expr} {kk : Nat} {tpos : Pos} (ho : DE X o wo) (hbase : attributeBase o "items" X.env (eval o X.env) = eval o X.env := by rfl) (hline : (apos.endLine == cpos.line) = true := by rfl) : DI X (.Tuple elts kk tpos) (.Call (.Attribute o "items" apos) [] [] cpos) (wiItems wo) :=
  pi_imp (pi_items ho hbase hline) fun σ H R ⟨M, ρ, cs, P, o, r, p, k⟩ => ⟨M, ρ, cs, _, o, r, p, fun v x M1 H1 cs1 s1 o1 r1 ⟨d, od, u, kvd, ex, hc, p1⟩ => by
    subst ex
    obtain ⟨xs, eu, hH, pr⟩ := cell_lk o1 hc
    subst eu
    have hlen : xs.length = kvd.length := by rw [Paired.len pr, List.length_map]
    refine ⟨d, od, xs, r1, hH, k _ _ _ M1 H1 cs1 s1 o1 ⟨fun i M H cs s o g hi => ?_, fun M H cs s o g => ?_, fun i M H cs v H' s o g y hi => ?_⟩ p1⟩
    · obtain ⟨ys, eu, hH', pr'⟩ := cell_lk o g
      cases eu
      exact ⟨hH', by rw [hlen]; simpa using hi⟩
    · obtain ⟨ys, eu, hH', pr'⟩ := cell_lk o g
      cases eu
      exact ⟨hH', by rw [hlen]; simp⟩
    · obtain ⟨T, kk, vv, hk, rfl, hT, rfl⟩ := y
      obtain ⟨ys, eu, hH', pr'⟩ := cell_lk o g
      cases eu
      obtain ⟨q, hq, hq1, hq2⟩ : ∃ q, (kvd.map kvV)[i]? = some q ∧ kk = q.1 ∧ RV X.K M vv q.2 := by
        have hi2 : i < (kvd.map kvV).length := by simpa using hi
        obtain ⟨w, hw, hw2⟩ := Paired.getR pr' (List.getElem?_eq_getElem hi2)
        rw [hk] at hw
        cases hw
        exact ⟨_, List.getElem?_eq_getElem hi2, hw2.1, hw2.2⟩
      rw [List.getElem?_map] at hq
      obtain ⟨⟨k0, d0⟩, hkd, rfl⟩ := Option.map_eq_some_iff.mp hq
      have hq1 : kk = k0 := hq1
      subst hq1
      obtain ⟨s2, o2⟩ := o.newM hT (.tup [kV kk, vv])
      refine ⟨_, _, by rw [List.getElem?_map, hkd]; rfl, s2, o2, rv_dat (.tup (.inl (.inl upd_same)) (.cons (dr_key kk) (.cons (Dr.mono s2 hq2) .nil)))⟩⟩
end
end DL
set_option maxRecDepth 100000
set_option maxHeartbeats 4000000
namespace DL
open PySem L2 PySem.Spec PyProof.Rows
/-! ### max(d.values()), sorted(xs) of ints -/
def tMaxVals (td : TE) : TE := fun σ H Q => td σ H fun x H1 => ∃ a kvs is, x = V.ref a ∧ H1 a = some (.dK kvs) ∧ kvs.map (·.2) = is.map V.int ∧ is ≠ [] ∧ ∀ m, m ∈ is → (∀ j ∈ is, j ≤ m) → Q (.int m) H1
section
variable {X : Cx} {o e : Expr} {p pos apos mpos : Pos} {td : TE} {wo : WE} {wr : WA}
theorem pe_maxVals (hc : X.calm = true) (hm : X.mg "max" = none) (hd : PE X o td) (hg : Gl X "max" := by rfl) (hbase : attributeBase o "values" X.env (eval o X.env) = eval o X.env := by rfl) (hline : (apos.endLine == mpos.line) = true := by rfl)
    (hse : starEach [Expr.Call (.Attribute o "values" apos) [] [] mpos] X.env = [(false, eval (Expr.Call (.Attribute o "values" apos) [] [] mpos) X.env)] := by rfl) : PE X (.Call (.Name "max" p) [.Call (.Attribute o "values" apos) [] [] mpos] [] pos) (tMaxVals td) := by
  refine ⟨fun pins s σ H Q I h => wpAny_Call_Name_kw (ld_blt I hg hm (u := .builtin "max") (by first | rfl | decide +kernel) ?_ (by first | decide +kernel | decide) (by first | decide +kernel | decide))⟩
  rw [hse]
  refine PySem.callWith_builtin1 (wpAny_Call_method0_late hbase hline (thn (hd.run pins s σ H _ I h) fun v s1 ⟨x, H1, I1, r1, a, kvs, is, ex, ha, hv, hne, q⟩ => ?_))
  subst ex
  obtain rfl : v = Value.ref a := r1
  obtain ⟨_, hsys, vs, rel, dof⟩ := dk_of I1.hok ha
  obtain ⟨ep, dat⟩ := dof.dictAt
  have dat' := dat
  obtain ⟨ob, es, ho, ex, hdat, hko, hpr, hnd⟩ := dat'
  refine ⟨"dict", "dict.values", F.plainAttrs_dict, F.slot_dict_values, F.type_dict_values, ⟨ob, ho, ex.1⟩, fun b e => (by cases e; exact ⟨ob, ho, ex.2.1⟩), Calls.callWith_builtin rfl (PySem.evalArgs_none (call_meetsIn F.slot_dict_values ⟨ob, ho, ex.1⟩ F.entry_dict_values (F.args_dict_values_1 _) (meets_dict_values (mixKind X.prog X.w) a hsys) ⟨⟨vs, dof⟩, ?_⟩))⟩
  generalize hvw : ({ cls := .type "dict_values", data := .fields #[.ref a] } : Obj) = vw
  have k1 : ∀ b u, s1.heap.get? b = some u → (s1.heap.push vw).get? b = some u := fun b u e => Heap.get?_push_of_some _ e
  have dat1 : (s1.heap.push vw).DictAt (mixKind X.prog X.w) a vs ep := dat.keep k1
  have hlv : vs.length = is.length := by rw [← KV.length rel, ← List.length_map (f := (·.2)), hv, List.length_map]
  have hlen : 0 < vs.length := hlv ▸ List.length_pos_iff.mpr hne
  have hval : ∀ (i : Nat) (v : Value), (∃ k, vs[i]? = some (k, v)) → ∃ t, v = Value.int (is.getD i 0) t := fun i v ⟨k, hk⟩ => by
    obtain ⟨x, h1, h2⟩ := KV.at' rel hk
    have e1 : (kvs.map (·.2))[i]? = some x := by rw [List.getElem?_map, h1]; rfl
    rw [hv, List.getElem?_map] at e1
    obtain ⟨j, hj, e2⟩ := Option.map_eq_some_iff.mp e1
    subst e2
    obtain ⟨t, e3⟩ := h2
    exact ⟨t, by rw [e3, List.getD_eq_getElem?_getD, hj]; rfl⟩
  have hlt : a < s1.heap.objs.size := Heap.lt_size ho
  have hsz : (s1.heap.push vw).objs.size = s1.heap.objs.size + 1 := Heap.size_push _ _
  refine call_max_walk (wpAny_pyIter_values (v := s1.heap.objs.size) (d := a) ⟨_, Heap.get?_push_size _ (by rw [← hvw]; rfl), by rw [← hvw], by rw [← hvw]⟩ dat1 ?_)
  refine ⟨_, _, _, _, _, _, _, rfl, Walks.dictValues (knd := mixKind X.prog X.w) (A := X.A.in1) (I.ok.hd hc) (s1.heap.push vw).objs.size a (by rw [hsz]; exact Nat.ne_of_lt (Nat.lt_succ_of_lt hlt)) vs ep, ⟨⟨_, Heap.get?_push_size _ rfl, rfl, rfl⟩, dat1.keep fun b u e => Heap.get?_push_of_some _ e⟩, fun b hb => ?_, hlen, CmpOf.ints_gt (fun i => is.getD i 0) hval, fun v h' tk hP hk => ?_⟩
  · show b < ((s1.heap.push _).push _).objs.size
    rw [Heap.size_push, Heap.size_push]
    rw [hsz] at hb
    rcases List.mem_cons.mp hb with e | hb
    · rw [e]; exact Nat.lt_succ_self _
    · rw [List.mem_singleton.mp hb]
      exact Nat.lt_succ_of_lt (Nat.lt_succ_of_lt hlt)
  · obtain ⟨t, rfl⟩ := hval _ v hP
    obtain ⟨b1, b2⟩ := argBest_gt (fun i => is.getD i 0) (vs.length - 1)
    refine ⟨.int _, H1, I1.kept (t' := tk) fun b u e => hk b u (fun hmem => ?_) (Heap.get?_push_of_some _ (k1 b u e)), ⟨t, rfl⟩, q _ ?_ fun j hj => ?_⟩
    · have e1 : b = (s1.heap.push vw).objs.size := List.mem_singleton.mp hmem
      have e2 := Heap.lt_size e
      rw [hsz] at e1
      rw [e1] at e2
      exact absurd e2 (Nat.not_lt.mpr (Nat.le_succ _))
    · have hb : argBest (fun i j => decide (is.getD i 0 > is.getD j 0)) (vs.length - 1) < is.length := by omega
      rw [List.getD_eq_getElem?_getD, List.getElem?_eq_getElem hb]; exact List.getElem_mem hb
    · obtain ⟨i, hi, e⟩ := List.mem_iff_getElem.mp hj
      rw [← (by rw [List.getD_eq_getElem?_getD, List.getElem?_eq_getElem hi, ← e]; rfl : is.getD i 0 = j)]
      exact b2 i (by omega)
def kvI (p : Key × Int) : Key × Vl := (p.1, .dat (.int p.2))
def wMaxVals (wo : WE) : WE := fun ρ cs P => wo ρ cs fun x cs1 => ∃ (a : Addr) (kvi : List (Key × Int)), x = .cell a ∧ cs1 a = some (.dk (kvi.map kvI)) ∧ kvi ≠ [] ∧ ∀ m, m ∈ kvi.map (·.2) → (∀ j ∈ kvi.map (·.2), j ≤ m) → P (.dat (.int m)) cs1
theorem kr_ints {K : Frag} {M : Hp} : ∀ {xs : List (Key × V)} {kvi : List (Key × Int)}, Paired (KR K M) xs (kvi.map kvI) → xs.map (·.2) = (kvi.map (·.2)).map V.int
  | _, [], .nil => rfl
  | _, q :: r, .cons ⟨_, h⟩ t => by rw [List.map_cons, kr_ints t, inv_int h]; rfl
theorem de_maxVals (hc : X.calm = true) (hm : X.mg "max" = none) (ho : DE X o wo) (hg : Gl X "max" := by rfl) (hbase : attributeBase o "values" X.env (eval o X.env) = eval o X.env := by rfl) (hline : (apos.endLine == mpos.line) = true := by rfl)
    (hse : starEach [Expr.Call (.Attribute o "values" apos) [] [] mpos] X.env = [(false, eval (Expr.Call (.Attribute o "values" apos) [] [] mpos) X.env)] := by rfl) : DE X (.Call (.Name "max" p) [.Call (.Attribute o "values" apos) [] [] mpos] [] pos) (wMaxVals wo) :=
  pe_imp (pe_maxVals hc hm ho hg hbase hline hse) fun σ H Q ⟨M, ρ, cs, P, o, r, p, k⟩ => ⟨M, ρ, cs, _, o, r, p, fun v x M1 H1 cs1 s1 o1 r1 ⟨a, kvi, ex, hc, hne, p1⟩ => by
    subst ex
    obtain ⟨xs, hH, pr⟩ := cell_dk o1 hc
    exact ⟨a, xs, kvi.map (·.2), r1, hH, kr_ints pr, by simpa using hne, fun m h1 h2 => k _ _ M1 H1 cs1 s1 o1 (rv_dat (.int _)) (p1 m h1 h2)⟩⟩
/-- sorted(xs), ints -/
def wSortI : WN := fun xs cs P => ∃ (x : Vl) (ns : List Int), xs = [x] ∧ seqD cs x = some (true, ns.map fun i => Vl.dat (.int i)) ∧ ∀ ns' : List Int, ns'.Perm ns → ns'.Pairwise (· ≤ ·) → newL (ns'.map fun i => Vl.dat (.int i)) cs P
theorem ints_paired {K : Frag} {M : Hp} : ∀ (ns : List Int), Paired (RV K M) (ns.map V.int) (ns.map fun i => Vl.dat (.int i))
  | [] => .nil
  | n :: ns => .cons (rv_dat (.int n)) (ints_paired ns)
theorem rn_sortI {K : Frag} : RNOk K (rSortedI K) wSortI := fun M H cs xs as P Q o r ⟨x, ns, e, h, p⟩ k => by
  subst e
  cases r with
  | cons r1 rr =>
    cases rr
    obtain ⟨ad, vs, ev, q, pr⟩ := seqD_list o r1 h
    rw [paired_ints pr] at q
    exact ⟨ad, ns, by rw [ev], q, fun ns' pp pm hs hp => newL_ok o (ints_paired ns') (p ns' pm hs) k pp hp⟩
theorem de_sortI (hm : X.mg "sorted" = none) (ha : DA X [e] wr) (hg : Gl X "sorted" := by rfl) (he : starEach [e] X.env = (false, eval e X.env) :: starEach [] X.env := by rfl) (hpl : (backTo pos (starEach [] X.env)).any (·.1) = false := by rfl) :
    DE X (.Call (.Name "sorted" p) [e] [] pos) (wFn wSortI wr) := de_callB cr_sortedI rn_sortI hm (by decide +kernel) ha hg (by decide) (by decide) he hpl
end
end DL
set_option maxRecDepth 100000
set_option maxHeartbeats 4000000
namespace DL
open PySem L2 PySem.Spec PyProof.Rows
/-! ### xs + ys: any two lists -/
theorem add_any (l : Addr) (items : Array Value) (n : Nat) (sl : Array (Option Value)) (b : Addr) (items2 : Array Value) (n2 : Nat) (sl2 : Array (Option Value)) (hc0 : items.size + items2.size ≤ sizeLine) :
    Meets (Builtin.«list.__add__» ⟨[.ref l, .ref b], []⟩) (fun _ R s => s.heap.get? l = some ⟨.type "list", none, .seq items n, sl⟩ ∧ s.heap.get? b = some ⟨.type "list", none, .seq items2 n2, sl2⟩ ∧ R (.ok (.ret (Value.ref s.heap.objs.size))) { s with heap := s.heap.push { cls := Value.type "list", data := Data.seq (items ++ items2) }, toks := s.toks }) :=
  .of_wp fun prog w A R s h => by
    obtain ⟨hp, g, d, tk, os⟩ := s
    obtain ⟨hl, hb, h⟩ := h
    have f3 := PySem.AutoSeq1.sub_list_list
    wp_walk using wpAny_loadPart' hl, wpAny_loadPart' hb
    exact ⟨_, rfl, h⟩
def rCatS (K : Frag) : R2 := fun x y H Q => ∃ l b xs zs, x = .ref l ∧ y = .ref b ∧ SqL K H l xs ∧ SqL K H b zs ∧ xs.length + zs.length ≤ sizeLine ∧ ∀ p, H p = none → Q (.ref p) (upd H p (.lst (xs ++ zs)))
section
variable {X : Cx} {a b e : Expr} {wa wb : WE} {wr : WA} {pos : Pos}
theorem op_catS : OpR X (binaryOp .Add) (rCatS X.K) := by
  intro pins s σ H x y v u Q I rx ry h
  obtain ⟨l, b, xs, zs, rfl, rfl, hH, hB, hz, q⟩ := h
  cases rx
  cases ry
  obtain ⟨its, rv, ⟨⟨cl, di, da, sl⟩, n, ho, hc, hd, hdt⟩, hl⟩ := I.list hH
  obtain ⟨its2, rv2, ⟨⟨cl2, di2, da2, sl2⟩, n2, ho2, hc2, hd2, hdt2⟩, hl2⟩ := I.list hB
  simp only at hc hd hdt hc2 hd2 hdt2
  subst hc hd hdt hc2 hd2 hdt2
  have hsz : its.toArray.size + its2.toArray.size ≤ sizeLine := by rw [List.size_toArray, List.size_toArray, ← rv.length, ← rv2.length]; exact hz
  refine concat_meets ⟨_, ho, rfl⟩ ⟨_, ho2, rfl⟩ noFill_list_add seq_list_add F.slot_list_add F.entry_list_add (F.args_list_add_2 _ _) (add_any l its.toArray n sl b its2.toArray n2 sl2 hsz) ⟨ho, ho2, ?_⟩
  have ea : its.toArray ++ its2.toArray = (its ++ its2).toArray := by simp
  rw [ea]
  exact ⟨.ref _, _, I.lnew (t' := s.toks) (rv.append rv2) (by rw [List.length_append]; omega), rfl, q _ I.fresh⟩
def wCatS : W2 := fun x y cs P => ∃ xs ys, seqD cs x = some (true, xs) ∧ seqD cs y = some (true, ys) ∧ xs.length + ys.length ≤ 16777216 ∧ newL (xs ++ ys) cs P
theorem de_catS (ha : DE X a wa) (hb : DE X b wb) : DE X (.BinOp a .Add b pos) (wOp wCatS wa wb) := de_op op_catS (fun M H cs x y a b P Q o rx ry ⟨xs, ys, h1, h2, hz, hn⟩ k => by
  obtain ⟨p, us, e1, q1, pu⟩ := seqD_list o rx h1
  obtain ⟨q, vs, e2, q2, pv⟩ := seqD_list o ry h2
  exact ⟨p, q, us, vs, e1, e2, q1, q2, by rw [Paired.len pu, Paired.len pv]; exact size_line hz, newL_ok o (Paired.app pu pv) hn k⟩) ha hb
/-! ### abs -/
def wAbs : WN := fun xs cs P => ∃ i, xs = [.dat (.int i)] ∧ P (.dat (.int (if i < 0 then -i else i))) cs
theorem rn_abs {K : Frag} : RNOk K (fun xs H Q => ∃ i, xs = [.int i] ∧ Q (.int (if i < 0 then -i else i)) H) wAbs := fun M H cs xs as P Q o r ⟨i, e, p⟩ k => by
  subst e
  cases r with
  | cons r1 rr =>
    cases rr
    exact ⟨i, by rw [inv_int r1], k _ _ M H cs (Same.refl _) o (rv_dat (.int _)) p⟩
theorem de_abs {p : Pos} (hm : X.mg "abs" = none) (ha : DA X [e] wr) (hg : Gl X "abs" := by rfl) (he : starEach [e] X.env = (false, eval e X.env) :: starEach [] X.env := by rfl) (hpl : (backTo pos (starEach [] X.env)).any (·.1) = false := by rfl) :
    DE X (.Call (.Name "abs" p) [e] [] pos) (wFn wAbs wr) := de_callB call_abs rn_abs hm (by decide +kernel) ha hg (by decide) (by decide) he hpl
end
/-! ### makers -/
structure DKok (P : Program) (w : World) (K : Frag) (mg : Str → Option Value) (base : Heap) (C : Addr) (x : Str) (ps : List Str) (k : Nat) (dsp : DSp) : Prop where
  ex : ∃ fi fd, Mk K C fi ∧ FnOk P w K mg base CX0 k fi fd ps (liftSp K dsp) ∧ Binds K fd ps [] ∧ mg x = some (.ref C)
theorem de_makeD {X : Cx} {C : Addr} {x : Str} {ps : List Str} {k : Nat} {dsp : DSp} {p pos : Pos} {e : Expr} {es : List Expr} {wr : WA} (G : DKok X.prog X.w X.K X.mg X.base C x ps k dsp) (hr : Room (k + 1) X.A) (ha : DA X (e :: es) wr) (hg : Gl X x := by rfl)
    (hdb : (x == ("__debug__" : Str)) = false := by decide) (he : starEach (e :: es) X.env = (false, eval e X.env) :: starEach es X.env := by rfl) (hpl : (backTo pos (starEach es X.env)).any (·.1) = false := by rfl) : DE X (.Call (.Name x p) (e :: es) [] pos) (wMake C dsp wr) := by
  obtain ⟨fi, fd, Mm, F, hb, hm⟩ := G.ex
  exact de_make Mm F hb hm hr ha hg hdb he hpl
end DL
namespace DL
open PySem L2
/-- the program's classes, by their addresses -/
structure CE where
  Tree : Addr := 0
  Stretch : Addr := 0
  Account : Addr := 0
  LimitedAccount : Addr := 0
  SavingsAccount : Addr := 0
  Books : Addr := 0
  Ledger : Addr := 0
theorem never_fn {P : Program} {w : World} {K : Frag} {mg : Str → Option Value} {base : Heap} {f : Addr} {fd : FuncData} {ps : List Str} {k : Nat} {sp : DSp} (h : ∀ xs cs Q XP, ¬ sp xs cs Q XP) : FnOk P w K mg base CX0 k f fd ps (liftSp K sp) :=
  ⟨fun _ _ _ _ ⟨_, _, _, _, _, _, _, z, _⟩ => (h _ _ _ _ z).elim, fun _ _ _ _ _ _ _ _ _ _ _ _ _ ⟨_, _, _, _, _, _, _, z, _⟩ => (h _ _ _ _ z).elim⟩
end DL
set_option maxRecDepth 100000
set_option maxHeartbeats 4000000
namespace PySem
/-! ### sum of a list of truth values -/
section
variable {prog : Program} {w : World} {A : Around} {R : Result → Shared → Prop} {I : Addr} {fp wr : List Addr} {n : Nat} {P : Nat → Value → Prop} {St : Nat → Heap → Prop}
def flagI (b : Bool) : Int := if b then 1 else 0
theorem codeAny_sum_loopF (W : Walks prog w A.in1 I fp wr n P St) (val : Nat → Int) (hval : ∀ i v, P i v → ∃ b, v = .bool b ∧ val i = flagI b) (hfit : ∀ j, j < n → InLong (val j) ∧ InLong (preSum val (j + 1))) (S : Addr) (hSf : S ∉ fp) :
    ∀ (k i : Nat) (s : Shared) (tA : Tok) (c : Nat), n - i = k → i ≤ n → St i s.heap → s.heap.get? S = some { cls := .type "list", dict := none, data := .seq #[.int (preSum val i) tA] c, slots := #[] } →
    (∀ h' tk t', (∀ b o, b ∉ wr → b ≠ S → s.heap.get? b = some o → h'.get? b = some o) → R (.ok (.ret (.int (preSum val n) t'))) { s with heap := h', toks := tk }) →
    codeAny (model prog w) A (.builtin "sum.loop" ⟨[.ref I, .ref S, rawInt 0, rawInt 0], []⟩) R s := by
  have hSw : S ∉ wr := fun h => hSf (W.sub _ h)
  intro k
  induction k with
  | zero =>
    intro i s tA c hk hi hst hS hR
    have hin : i = n := by omega
    subst hin
    refine codeAny_builtin F.entry_sum_loop ?_
    rw [Around.under_plainId F.plain_sum_loop _]
    show wpAny _ A.in1 (seqItems? (.ref S) >>= _) _ _ s
    refine wpAny_bind (wpAny_seqItems hS rfl ?_)
    show wpAny _ A.in1 (tryCatch (pyNext (.ref I)) _ >>= _) _ _ s
    refine wpAny_bind (wpAny_tryCatch (W.done s _ _ hst fun h' tk hk' => ?_))
    exact wpAny_pure (hR h' tk tA fun b o hbw _ e => hk' b o hbw e)
  | succ k ih =>
    intro i s tA c hk hi hst hS hR
    have hlt : i < n := by omega
    refine codeAny_builtin F.entry_sum_loop ?_
    rw [Around.under_plainId F.plain_sum_loop _]
    show wpAny _ A.in1 (seqItems? (.ref S) >>= _) _ _ s
    refine wpAny_bind (wpAny_seqItems hS rfl ?_)
    show wpAny _ A.in1 (tryCatch (pyNext (.ref I)) _ >>= _) _ _ s
    refine wpAny_bind (wpAny_tryCatch (W.item i s _ _ hlt hst fun v h' tk hP hst' hk' => ?_))
    obtain ⟨b, rfl, hb⟩ := hval i v hP
    have hS' := hk' S _ hSw hS
    obtain ⟨⟨f1, f2⟩, f3, f4⟩ := hfit i hlt
    rw [hb] at f1 f2
    have hc : ((decide (-(2 ^ 63) ≤ flagI b) && decide (flagI b < 2 ^ 63)) && (decide (-(2 ^ 63) ≤ preSum val i + flagI b) && decide (preSum val i + flagI b < 2 ^ 63))) = true := by
      simp only [preSum, hb] at f3 f4
      simp only [Bool.and_eq_true, decide_eq_true_eq]
      exact ⟨⟨f1, f2⟩, f3, f4⟩
    have e2 : preSum val i + flagI b = preSum val (i + 1) := by show _ = preSum val i + val i; rw [hb]
    have go : wpAny (model prog w) A.in1 (mkInt (preSum val i + flagI b) >>= fun v => do updateSeq S fun _ => #[v]; again (.builtin "sum.loop" ⟨[.ref I, .ref S, rawInt 0, rawInt 0], []⟩)) (fun fin s' => match fin with | .done f => R (.ok f) s' | .again c' => c'.quiet = true ∧ codeAny (model prog w) A c' R s') (fun e s' => R (.error e) s') { s with heap := h', toks := tk } := by
      refine wpAny_bind (wpAny_mkInt ?_)
      rw [e2]
      show wpAny _ A.in1 (updateSeq S (fun _ => #[.int (preSum val (i + 1)) tk]) >>= _) _ _ _
      refine wpAny_bind ?_
      refine wpAny_updateSeq hS' rfl (wpAny_pure ⟨plainId_quiet F.plain_sum_loop _, ih (i + 1) _ tk _ (by omega) hlt (W.frame _ _ _ hst' fun b hb o e => ?_) (Heap.get?_update_self _ hS' rfl) fun h'' tk'' t'' hk'' => ?_⟩)
      · exact (Heap.get?_update_other _ _ (fun h : S = b => hSf (by rw [h]; exact hb))).trans e
      · exact hR h'' tk'' t'' fun b o hbw hbS e => hk'' b o hbw hbS ((Heap.get?_update_other _ _ (Ne.symm hbS)).trans (hk' b o hbw e))
    cases b with
    | false =>
      show wpAny _ A.in1 (if (_ : Bool) = true then (mkInt (preSum val i + flagI false) >>= _) else _) _ _ _
      simp only [Bool.false_eq_true, if_false]
      split
      · exact go
      · rename_i hneg
        exact absurd hc hneg
    | true =>
      show wpAny _ A.in1 (if (_ : Bool) = true then (mkInt (preSum val i + flagI true) >>= _) else _) _ _ _
      simp only [if_true]
      split
      · exact go
      · rename_i hneg
        exact absurd hc hneg
end
section
variable {prog : Program} {w : World} {A : Around} {E : Value → Shared → Prop} {s : Shared}
theorem call_sum_walkF {x : Value} {Q : Value → Shared → Prop}
    (h : wpAny (model prog w) A.in1 (pyIter x) (fun it s₂ => ∃ I fp wr n P St val, it = .ref I ∧ Walks prog w A.in1 I fp wr n P St ∧ St 0 s₂.heap ∧ (∀ b ∈ fp, b < s₂.heap.objs.size) ∧
      (∀ i v, P i v → ∃ b, v = .bool b ∧ val i = flagI b) ∧ (∀ j, j < n → InLong (val j) ∧ InLong (preSum val (j + 1))) ∧
      ∀ h' tk t', (∀ b o, b ∉ wr → s₂.heap.get? b = some o → h'.get? b = some o) → Q (.int (preSum val n) t') { s₂ with heap := h', toks := tk }) E s) :
    wpAny (model prog w) A (call (.builtin "sum") [x]) Q E s := by
  refine call_function_tree F.kind_sum F.plain_sum F.entry_sum (F.args_sum1 _) ?_
  unfold Builtin.«sum»
  simp only [List.length_cons, List.length_nil]
  rw [if_neg (by decide)]
  refine wpAny_bind (wpAny_of_eq (show Builtin.Builtins.bindParams "sum" ["start"] 0 { } = pure [none] from rfl) ?_)
  refine wpAny_bind (wpAny_mono h (fun it s₂ h₂ => ?_) fun _ _ e => e)
  obtain ⟨I, fp, wr, n, P, St, val, rfl, W, hst, hfp, hval, hfit, hQ⟩ := h₂
  refine wpAny_bind (wpAny_mkInt ?_)
  refine wpAny_bind (wpAny_pure ?_)
  simp only [List.forIn_cons, List.forIn_nil]
  refine wpAny_bind (wpAny_bind (wpAny_bind (wpAny_isInstance (T := "int") (b := false) (typeIs_int _ _ _) sub_int_str ?_)))
  simp only [Bool.false_eq_true, if_false]
  refine wpAny_pure (wpAny_bind (wpAny_bind (wpAny_isInstance (T := "int") (b := false) (typeIs_int _ _ _) sub_int_bytes ?_)))
  simp only [Bool.false_eq_true, if_false]
  refine wpAny_pure (wpAny_bind (wpAny_bind (wpAny_isInstance (T := "int") (b := false) (typeIs_int _ _ _) sub_int_bytearray ?_)))
  simp only [Bool.false_eq_true, if_false]
  refine wpAny_pure (wpAny_pure ?_)
  refine wpAny_bind (wpAny_newObj_type ?_)
  have hSf : s₂.heap.objs.size ∉ fp := fun hm => Nat.lt_irrefl _ (hfp _ hm)
  refine wpAny_pure ⟨plainId_quiet F.plain_sum_loop _, codeAny_sum_loopF W val hval hfit s₂.heap.objs.size hSf n 0 _ s₂.toks 0 rfl (Nat.zero_le _)
    (W.frame _ _ _ hst fun b _ o e => Heap.get?_push_of_some _ e) (Heap.get?_push_size _ rfl) fun h' tk t' hk => ?_⟩
  exact hQ h' tk t' fun b o hbw e => hk b o hbw (Nat.ne_of_lt (Heap.lt_size e)) (Heap.get?_push_of_some _ e)
end
end PySem
namespace DL
open PySem L2 PyProof.Rows
theorem vals_flags : ∀ {bs : List Bool} {us : List Value}, Vals (bs.map V.bl) us → us = bs.map Value.bool
  | [], _, .nil => rfl
  | b :: bs, _, .cons r t => by
    have e := vals_flags t
    subst e
    have : _ = Value.bool b := r
    rw [this]; rfl
theorem preSum_flags (bs : List Bool) : ∀ n, n ≤ bs.length → preSum (fun i => flagI ((bs[i]?).getD false)) n = ((bs.take n).countP id : Nat)
  | 0, _ => by simp [preSum]
  | n + 1, h => by
    have hn : n < bs.length := by omega
    rw [preSum, preSum_flags bs n (by omega), List.take_succ, List.countP_append]
    rw [List.getElem?_eq_getElem hn]
    simp only [Option.getD_some, Option.toList_some]
    cases bs[n] <;> simp [flagI]
theorem sum_flags {prog : Program} {w : World} {A : Around} {E : Value → Shared → Prop} {s : Shared} {l : Addr} {bs : List Bool} {Q : Value → Shared → Prop} (hh : A.handled = none) (hl : s.heap.IsList l (bs.map Value.bool).toArray) (hz : bs.length ≤ 16777216)
    (h : ∀ h' tk t', (∀ b o, s.heap.get? b = some o → h'.get? b = some o) → Q (.int (bs.countP id : Nat) t') { s with heap := h', toks := tk }) :
    wpAny (model prog w) A (call (.builtin "sum") [.ref l]) Q E s := by
  have hlt : l < s.heap.objs.size := by obtain ⟨_, e, _⟩ := hl; exact Heap.lt_size e
  refine call_sum_walkF (wpAny_pyIter_list hl ?_)
  refine ⟨_, _, _, _, _, _, fun i => flagI ((bs[i]?).getD false), rfl, Walks.list (A := A.in1) hh _ l (Nat.ne_of_lt hlt) (bs.map Value.bool).toArray, ⟨⟨_, Heap.get?_push_size _ rfl, rfl, rfl⟩, hl.push _⟩, fun b hb => ?_, fun i v hv => ?_, fun j hj => ?_, fun h' tk t' hk => ?_⟩
  · show b < (s.heap.push _).objs.size
    rw [Heap.size_push]
    rcases List.mem_cons.mp hb with rfl | hb
    · exact Nat.lt_succ_self _
    · rcases List.mem_cons.mp hb with rfl | hb
      · exact Nat.lt_succ_of_lt hlt
      · cases hb
  · simp only [List.getElem?_toArray, List.getElem?_map, Option.map_eq_some_iff] at hv
    obtain ⟨b, hb, rfl⟩ := hv
    exact ⟨b, rfl, by simp only [hb, Option.getD_some]⟩
  · simp only [List.size_toArray, List.length_map] at hj
    rw [preSum_flags bs _ (by omega)]
    have h1 := List.countP_le_length (p := id) (l := bs.take (j + 1))
    have h2 : (bs.take (j + 1)).length ≤ 16777216 := by rw [List.length_take]; omega
    have h3 : flagI ((bs[j]?).getD false) = 0 ∨ flagI ((bs[j]?).getD false) = 1 := by cases (bs[j]?).getD false <;> simp [flagI]
    refine ⟨?_, ?_⟩
    · show -(2 ^ 63) ≤ flagI ((bs[j]?).getD false) ∧ flagI ((bs[j]?).getD false) < 2 ^ 63
      omega
    · unfold InLong
      omega
  · have := h h' tk t' (old_kept hk)
    simp only [List.size_toArray, List.length_map]
    rw [preSum_flags bs _ (Nat.le_refl _), List.take_of_length_le (Nat.le_refl _)]
    exact this
def rSumF (K : Frag) : List V → Hp → VK → Prop := fun vs H Q => ∃ (a : Addr) (bs : List Bool), vs = [V.ref a] ∧ SqL K H a (bs.map V.bl) ∧ bs.length ≤ 16777216 ∧ Q (.int (bs.countP id : Nat)) H
theorem cr_sumF {X : Cx} (hc : X.calm = true) : CallR X (.builtin "sum") (rSumF X.K) := by
  intro pins s σ H vs us Q I r h
  obtain ⟨a, bs, rfl, hs, hz, q⟩ := h
  obtain ⟨its, rv, hl, _⟩ := I.list hs
  rw [Vals.ref1 r]
  have e := vals_flags rv
  subst e
  exact sum_flags (I.ok.hd hc) hl.isList hz fun h' tk t' hk => ⟨.int _, H, I.kept hk, ⟨_, rfl⟩, q⟩
def wSumF : WN := fun xs cs P => ∃ (x : Vl) (bs : List Bool), xs = [x] ∧ seqD cs x = some (true, bs.map fun b => Vl.dat (.bl b)) ∧ bs.length ≤ 16777216 ∧ P (.dat (.int (bs.countP id : Nat))) cs
theorem paired_flags {K : Frag} {M : Hp} : ∀ {ns : List Bool} {vs : List V}, Paired (RV K M) vs (ns.map fun i => Vl.dat (.bl i)) → vs = ns.map V.bl
  | [], _, .nil => rfl
  | b :: bs, _, .cons h t => by rw [inv_bl h, paired_flags t]; rfl
theorem rn_sumF {K : Frag} : RNOk K (rSumF K) wSumF := fun M H cs xs as P Q o r ⟨x, bs, e, h, hz, p⟩ k => by
  subst e
  cases r with
  | cons rx t =>
    cases t
    obtain ⟨a, vs, rfl, hs, pr⟩ := seqD_list o rx h
    rw [paired_flags pr] at hs
    exact ⟨a, bs, rfl, hs, hz, k _ _ M H cs (Same.refl _) o (rv_dat (.int _)) p⟩
theorem de_sumF {X : Cx} {e : Expr} {wr : WA} {p pos : Pos} (hc : X.calm = true) (hm : X.mg "sum" = none) (ha : DA X [e] wr) (hg : Gl X "sum" := by rfl) (he : starEach [e] X.env = (false, eval e X.env) :: starEach [] X.env := by rfl) (hpl : (backTo pos (starEach [] X.env)).any (·.1) = false := by rfl) :
    DE X (.Call (.Name "sum" p) [e] [] pos) (wFn wSumF wr) := de_callB (cr_sumF hc) rn_sumF hm (by decide +kernel) ha hg (by decide) (by decide) he hpl
/-! ### shifts and bits -/
abbrev wShr : W2 := wI (fun _ j => 0 ≤ j) fun i j => .int (i / 2 ^ j.toNat)
abbrev wBAnd : W2 := wI0 fun i j => .int (Builtin.bitAnd i j)
theorem de_shr {X : Cx} {a b : Expr} {wa wb : WE} {pos : Pos} (ha : DE X a wa) (hb : DE X b wb) : DE X (.BinOp a .RShift b pos) (wOp wShr wa wb) := de_op op_shr (r2_I fun _ _ _ => .int _) ha hb
theorem de_band {X : Cx} {a b : Expr} {wa wb : WE} {pos : Pos} (ha : DE X a wa) (hb : DE X b wb) : DE X (.BinOp a .BitAnd b pos) (wOp wBAnd wa wb) := de_op op_and (r2_I0 fun _ _ _ => .int _) ha hb
end DL
set_option maxRecDepth 100000
set_option maxHeartbeats 4000000
namespace DL
open PySem L2
local macro_rules | `(tactic| walk_at "dl") => `(tactic| simp only [wRet, wRetN, wSeq, wAsg, wIfS, wDrop, wNext, wVar, wC, wOp, wUn, wFn, wNil, wCons, wTest, wNot, wAnd, wOr, wAndV, wOrV, wNotV, wIf, wChain, wTup, wLst, wCall, wNever, gN, gT, gNil, gCons, gIx, wI, wI0, wNeg, wMax2, wMin2, wLen, wIsN, wNotN, isNon_non, isNon_bl, isNon_int, isNon_str, isNon_lst, isNon_tup, isNon_cell, wIx, wTuple, wAug, wAugIx, wPar, wIsi, wIsi2, isiT, tyD_non, tyD_bl, tyD_int, tyD_str, tyD_lst, tyD_tup, tyD_cell, coTy_lst, seqD_lst, seqD_tp, seqD_cell, coSeq_lst, seen_dat, seen_cell, coDat_lst, startD, wYes, wApp, wEq_int, wEq_bl, allDat_nil, allDat_cons, allDat_map, Option.map_some, List.map_cons, List.map_nil, List.cons_append, List.nil_append, List.length_cons, List.length_nil, List.replicate, List.getElem?_cons_zero, List.getElem?_cons_succ, List.set_cons_zero, List.set_cons_succ, Option.some.injEq, exists_eq_left', exists_eq_left, exists_and_left, exists_eq', exists_eq, Vl.dat.injEq, Vl.raw.injEq, V.ref.injEq, CO.lst.injEq, Dat.int.injEq, Dat.bl.injEq, Dat.tup.injEq, Dat.lst.injEq, List.cons.injEq, and_true, true_and, retE, Nat.reduceAdd, Nat.reduceSub, and_assoc, Prod.mk.injEq, if_true, if_false, Bool.false_eq_true, decide_eq_true_eq, Bool.not_true, Bool.not_false, Bool.not_eq_true', decide_eq_false_iff_not, if_false_left, if_false_right, beq_iff_eq, Bool.or_eq_true, Bool.and_eq_true, Bool.or_self, Bool.or_true, Bool.true_or, Bool.or_false, Bool.false_or, decide_true, decide_false, reduceCtorEq, Cells.put_same, gt_iff_lt, ge_iff_le, beq_self_eq_true, bne_self_eq_false, Bool.decide_eq_true, not_true_eq_false, not_false_eq_true, Decidable.not_not, false_and, and_false, Bool.not_eq_false, at_0, at_1, at_2, at_3, at_4, at_5, ix_0, ix_1, ix_2, ix_3, Nat.reduceLT, Int.reduceLT, Int.reduceLE, Int.reduceNeg, Int.reduceAdd, Int.reduceSub, Int.reduceEq, Int.reducePow, Int.reduceToNat, Cells.put_put])
/-! ### calendars and orders as data -/
def iD (ns : List Int) : List Dat := ns.map .int
def iV (ns : List Int) : List Vl := ns.map .int
def cal (ps : List Int) : Dat := .tup (iD ps)
abbrev Ord := Int × Int × Int
def ord (o : Ord) : Dat := .tup [.int o.1, .int o.2.1, .int o.2.2]
def ordsD (os : List Ord) : List Dat := os.map ord
def seqd (b : Bool) (ds : List Dat) : Dat := if b then .lst ds else .tup ds
theorem seqD_seqd {cs : Cells} {b : Bool} {ds : List Dat} : seqD cs (.dat (seqd b ds)) = some (b, ds.map .dat) := by cases b <;> rfl
def calFrom (b : Int) : List Int → Prop
  | [] => True
  | p :: r => b < p ∧ p ≤ 400 ∧ (b > 0 → p % b = 0) ∧ calFrom p r
def CalOk (ps : List Int) : Prop := 1 ≤ ps.length ∧ ps.length ≤ 5 ∧ calFrom 0 ps
def ordB (ps : List Int) (o : Ord) : Bool := decide (o.1 ∈ ps) && (decide (0 ≤ o.2.1) && decide (o.2.1 < o.1)) && !(o.2.2 == 0)
def firstBad (ps : List Int) (os : List Ord) : Dat := match os.findIdx? (fun o => !ordB ps o) with
  | none => .non
  | some i => .int (i : Int)
theorem iD_map (ns : List Int) : (iD ns).map Vl.dat = iV ns := by simp [iD, iV]
theorem inV_ints (p : Int) (ps : List Int) : inV (.int p) (ps.map V.int) = decide (p ∈ ps) := by
  unfold inV
  induction ps with
  | nil => simp
  | cons a r ih =>
    rw [List.map_cons, List.any_cons, ih]
    by_cases h : a = p
    · subst h; simp [eqV]
    · have h' : ¬ p = a := fun z => h z.symm
      simp [eqV, h, h']
theorem flatsD_ints (ps : List Int) : flatsD (iV ps) = some (ps.map V.int) := by
  induction ps with
  | nil => rfl
  | cons a r ih =>
    show (match flatD (Vl.int a), flatsD (iV r) with
      | some v, some vs => some (v :: vs)
      | _, _ => none) = _
    rw [ih]; rfl
theorem seqD_cal {cs : Cells} {ps : List Int} : seqD cs (.dat (cal ps)) = some (false, iV ps) := by
  show some (false, (iD ps).map Vl.dat) = _
  rw [iD_map]
theorem allDat_iV (ns : List Int) : allDat (iV ns) = some (iD ns) := by
  rw [← iD_map, allDat_map]
/-! ### is_integer -/
def sp_is_integer : DSp := fun xs cs Q _ => ∃ i : Int, xs = [.int i] ∧ Q (.bl true) cs
theorem len_is_integer : ∀ xs cs Q XP, sp_is_integer xs cs Q XP → xs.length = 1 := by rintro xs cs Q XP ⟨i, rfl, _⟩; rfl
def w_is_integer : WS := (wRet (wAndV (wIsi .int (wVar 0)) (wNotV (wIsi .bool (wVar 0)))))
theorem pure_is_integer (K : Frag) : ∀ xs cs Q XP, sp_is_integer xs cs Q XP → w_is_integer (retE K Q) (startD 1 xs) cs := by
  rintro xs cs Q XP ⟨i, rfl, q⟩
  unfold w_is_integer
  walk_at "dl"
  exact .now q
/-! ### validate_calendar -/
def sp_validate_calendar : DSp := fun xs cs Q _ => ∃ ps : List Int, xs = [.dat (cal ps)] ∧ CalOk ps ∧ Q .non cs
theorem len_validate_calendar : ∀ xs cs Q XP, sp_validate_calendar xs cs Q XP → xs.length = 1 := by rintro xs cs Q XP ⟨i, rfl, _⟩; rfl
def w_validate_calendar : WS := (wSeq (wIfS (wNot (wTest (wChain wLe wLe (wC (.int 1)) (wFn wLen (wCons (wVar 0) wNil)) (wC (.int 5))))) wNever wNext)
    (wSeq (wAsg (wC (.int 0)) (gN 1))
    (wFor (wiEnum (wCons (wVar 0) wNil)) (gT 2 (gCons (gN 2) (gCons (gN 3) gNil))) (wSeq (wIfS (wOr (wNot (wTest (wCall sp_is_integer (wCons (wVar 3) wNil)))) (wOr (wNot (wTest (wChain wLt wLe (wVar 1) (wVar 3) (wC (.int 400))))) (wAnd (wTest (wOp wGt (wVar 1) (wC (.int 0)))) (wTest (wOp (wEqD true) (wOp wMod (wVar 3) (wVar 1)) (wC (.int 0))))))) wNever wNext)
    (wAsg (wVar 3) (gN 1))))))
theorem calFrom_at : ∀ {ps : List Int} {b : Int} {i : Nat} {p : Int}, calFrom b ps → ps[i]? = some p → (i = 0 → b < p ∧ p ≤ 400 ∧ (b > 0 → p % b = 0)) ∧ (∀ q, 0 < i → ps[i - 1]? = some q → q < p ∧ p ≤ 400 ∧ (q > 0 → p % q = 0))
  | a :: r, b, 0, p, h, e => by
    cases e
    exact ⟨fun _ => ⟨h.1, h.2.1, h.2.2.1⟩, fun q z => absurd z (by omega)⟩
  | a :: r, b, i + 1, p, h, e => by
    have ih := calFrom_at (b := a) (i := i) h.2.2.2 e
    refine ⟨fun z => absurd z (by omega), fun q _ hq => ?_⟩
    cases i with
    | zero =>
      have : (a :: r)[0]? = some q := hq
      cases this
      exact ih.1 rfl
    | succ i => exact ih.2 q (by omega) hq
def prevOf (ps : List Int) (i : Nat) : Int := if i = 0 then 0 else (ps[i - 1]?).getD 0
theorem calFrom_prev {ps : List Int} {i : Nat} {p : Int} (h : calFrom 0 ps) (e : ps[i]? = some p) : prevOf ps i < p ∧ p ≤ 400 ∧ (prevOf ps i > 0 → p % prevOf ps i = 0) := by
  have k := calFrom_at h e
  unfold prevOf
  by_cases h0 : i = 0
  · subst h0; simpa using k.1 rfl
  · rw [if_neg h0]
    have hl := (List.getElem?_eq_some_iff.mp e).1
    obtain ⟨q, hq⟩ : ∃ q, ps[i - 1]? = some q := ⟨ps[i - 1]'(by omega), List.getElem?_eq_getElem (by omega)⟩
    rw [hq]
    exact k.2 q (by omega) hq
theorem pure_validate_calendar (K : Frag) : ∀ xs cs Q XP, sp_validate_calendar xs cs Q XP → w_validate_calendar (retE K Q) (startD 4 xs) cs := by
  rintro xs cs Q XP ⟨ps, rfl, ⟨h1, h5, hc⟩, q⟩
  unfold w_validate_calendar
  simp only [cal]
  walk_at "dl"
  have hl : (iD ps).length = ps.length := by simp [iD]
  simp only [List.length_map, hl]
  refine ⟨by omega, by omega, ?_⟩
  simp only [wFor, wiEnum]
  walk_at "dl"
  refine ⟨fun i ρ cs' => cs' = cs ∧ ∃ a b, ρ = [some (.dat (.tup (iD ps))), some (.int (prevOf ps i)), a, b], ⟨rfl, _, _, rfl⟩, fun _ _ _ _ _ => trivial, ?_, ?_⟩
  · rintro i x ρ cs' hx ⟨rfl, a, b, rfl⟩
    obtain ⟨d, hd, rfl⟩ := enumF_at hx
    unfold iD at hd
    rw [List.getElem?_map] at hd
    obtain ⟨p, hp, rfl⟩ := Option.map_eq_some_iff.mp hd
    obtain ⟨k1, k2, k3⟩ := calFrom_prev hc hp
    have hn : prevOf ps (i + 1) = p := by unfold prevOf; rw [if_neg (by omega), Nat.add_sub_cancel, hp]; rfl
    simp only [sp_is_integer]
    walk_at "dl"
    refine ⟨k1, k2, ?_⟩
    split
    · rename_i h0
      exact ⟨h0, k3 h0, hn.symm⟩
    · exact hn.symm
  · rintro ρ cs' ⟨rfl, _⟩
    exact .now q
/-! ### is_order, first_invalid_order, validate_orders -/
def sp_is_order : DSp := fun xs cs Q _ => ∃ (ps : List Int) (o : Ord), xs = [.dat (cal ps), .dat (ord o)] ∧ Q (.bl (ordB ps o)) cs
theorem len_is_order : ∀ xs cs Q XP, sp_is_order xs cs Q XP → xs.length = 2 := by rintro xs cs Q XP ⟨ps, o, rfl, _⟩; rfl
def w_is_order : WS := (wSeq (wAsg (wVar 1) (gT 3 (gCons (gN 2) (gCons (gN 3) (gCons (gN 4) gNil)))))
    (wSeq (wIfS (wOr (wTest (wOp (wIn true) (wVar 2) (wVar 0))) (wOr (wNot (wTest (wCall sp_is_integer (wCons (wVar 3) wNil)))) (wNot (wTest (wChain wLe wLt (wC (.int 0)) (wVar 3) (wVar 2)))))) (wRet (wC (.bl false))) wNext)
    (wRet (wAndV (wCall sp_is_integer (wCons (wVar 4) wNil)) (wOp (wEqD true) (wVar 4) (wC (.int 0)))))))
theorem wIn_ints {neg : Bool} {p : Int} {x : Vl} {b : Bool} {ps : List Int} {cs : Cells} {P : Vl → Cells → Prop} (hx : seqD cs x = some (b, iV ps)) (h : P (.dat (.bl (if neg then !decide (p ∈ ps) else decide (p ∈ ps)))) cs) : wIn neg (.int p) x cs P :=
  ⟨b, _, .int p, _, hx, rfl, flatsD_ints ps, by rw [inV_ints]; exact h⟩
theorem pure_is_order (K : Frag) : ∀ xs cs Q XP, sp_is_order xs cs Q XP → w_is_order (retE K Q) (startD 5 xs) cs := by
  rintro xs cs Q XP ⟨ps, ⟨p, d, a⟩, rfl, q⟩
  unfold w_is_order
  simp only [ord, sp_is_integer]
  walk_at "dl"
  refine wIn_ints seqD_cal ?_
  unfold ordB at q
  simp only [sp_is_integer]
  walk_at "dl"
  by_cases h1 : p ∈ ps
  · rw [if_neg (by simpa using h1)]
    by_cases h2 : 0 ≤ d
    · rw [if_pos h2]
      by_cases h3 : d < p
      · rw [if_neg (by simpa using h3)]
        refine .now ?_
        simpa [h1, h2, h3] using q
      · rw [if_pos h3]
        refine .now ?_
        simpa [h1, h2, h3] using q
    · rw [if_neg h2]
      refine .now ?_
      simpa [h1, h2] using q
  · rw [if_pos (by simpa using h1)]
    refine .now ?_
    simpa [h1] using q
def sp_first_invalid_order : DSp := fun xs cs Q _ => ∃ (ps : List Int) (os : List Ord) (b : Bool), xs = [.dat (cal ps), .dat (seqd b (ordsD os))] ∧ Q (.dat (firstBad ps os)) cs
theorem len_first_invalid_order : ∀ xs cs Q XP, sp_first_invalid_order xs cs Q XP → xs.length = 2 := by rintro xs cs Q XP ⟨ps, o, b, rfl, _⟩; rfl
def w_first_invalid_order : WS := (wSeq (wFor (wiEnum (wCons (wVar 1) wNil)) (gT 2 (gCons (gN 2) (gCons (gN 3) gNil))) (wIfS (wNot (wTest (wCall sp_is_order (wCons (wVar 0) (wCons (wVar 3) wNil))))) (wRet (wVar 2)) wNext))
    (wRet (wC .non)))
theorem pure_first_invalid_order (K : Frag) : ∀ xs cs Q XP, sp_first_invalid_order xs cs Q XP → w_first_invalid_order (retE K Q) (startD 4 xs) cs := by
  rintro xs cs Q XP ⟨ps, os, b, rfl, q⟩
  unfold w_first_invalid_order
  walk_at "dl"
  simp only [wFor, wiEnum]
  walk_at "dl"
  refine ⟨_, _, seqD_seqd, _, allDat_map _, fun i ρ cs' => cs' = cs ∧ (∀ o ∈ os.take i, ordB ps o = true) ∧ ∃ a b', ρ = [some (.dat (cal ps)), some (.dat (seqd b (ordsD os))), a, b'], ⟨rfl, by simp, _, _, rfl⟩, fun _ _ _ _ _ => seqD_seqd, ?_, ?_⟩
  · rintro i x ρ cs' hx ⟨rfl, hall, a, b', rfl⟩
    obtain ⟨d, hd, rfl⟩ := enumF_at hx
    unfold ordsD at hd
    rw [List.getElem?_map] at hd
    obtain ⟨o, ho, rfl⟩ := Option.map_eq_some_iff.mp hd
    walk_at "dl"
    refine ⟨ps, o, rfl, ?_⟩
    walk_at "dl"
    have hlt := (List.getElem?_eq_some_iff.mp ho).1
    have ht : os.take (i + 1) = os.take i ++ [o] := by rw [List.take_succ, ho]; rfl
    cases hb : ordB ps o with
    | false =>
      simp only [if_true]
      refine .now ?_
      have : firstBad ps os = .int (i : Int) := by
        unfold firstBad
        have : os.findIdx? (fun o => !ordB ps o) = some i := by
          rw [List.findIdx?_eq_some_iff_getElem]
          refine ⟨hlt, ?_, fun j hj => ?_⟩
          · rw [(List.getElem?_eq_some_iff.mp ho).2, hb]; rfl
          · have : ordB ps os[j] = true := hall _ (by rw [List.mem_take_iff_getElem]; exact ⟨j, by omega, rfl⟩)
            simp [this]
        rw [this]
      rw [this] at q
      exact q
    | true =>
      simp only [Bool.true_eq_false, if_false]
      intro o' ho'
      rw [ht] at ho'
      rcases List.mem_append.mp ho' with z | z
      · exact hall o' z
      · simp at z; rw [z]; exact hb
  · rintro ρ cs' ⟨rfl, hall, _⟩
    rw [enumF_len] at hall
    refine .now ?_
    have : firstBad ps os = .non := by
      unfold firstBad
      have : os.findIdx? (fun o => !ordB ps o) = none := by
        rw [List.findIdx?_eq_none_iff]
        intro o ho
        have := hall o (by rw [List.take_of_length_le (by simp [ordsD])]; exact ho)
        simp [this]
      rw [this]
    rw [this] at q
    exact q
def OrdsOk (ps : List Int) (os : List Ord) : Prop := ∀ o ∈ os, ordB ps o = true
theorem firstBad_ok {ps : List Int} {os : List Ord} (h : OrdsOk ps os) : firstBad ps os = .non := by
  unfold firstBad
  have : os.findIdx? (fun o => !ordB ps o) = none := by
    rw [List.findIdx?_eq_none_iff]
    intro o ho
    simp [h o ho]
  rw [this]
def sp_validate_orders : DSp := fun xs cs Q _ => ∃ (ps : List Int) (os : List Ord) (b : Bool), xs = [.dat (cal ps), .dat (seqd b (ordsD os))] ∧ CalOk ps ∧ OrdsOk ps os ∧ Q .non cs
theorem len_validate_orders : ∀ xs cs Q XP, sp_validate_orders xs cs Q XP → xs.length = 2 := by rintro xs cs Q XP ⟨ps, o, b, rfl, _⟩; rfl
def w_validate_orders : WS := (wSeq (wDrop (wCall sp_validate_calendar (wCons (wVar 0) wNil)))
    (wSeq (wAsg (wCall sp_first_invalid_order (wCons (wVar 0) (wCons (wVar 1) wNil))) (gN 2))
    (wIfS (wTest (wOp wNotN (wVar 2) (wC .non))) wNever wNext)))
theorem pure_validate_orders (K : Frag) : ∀ xs cs Q XP, sp_validate_orders xs cs Q XP → w_validate_orders (retE K Q) (startD 3 xs) cs := by
  rintro xs cs Q XP ⟨ps, os, b, rfl, hc, ho, q⟩
  unfold w_validate_orders
  walk_at "dl"
  refine ⟨ps, rfl, hc, ps, os, b, rfl, ?_⟩
  rw [firstBad_ok ho]
  walk_at "dl"
  exact .now q
/-! ### days_due -/
def daysDue (p d f l : Int) : Int := max 0 ((l - d) / p - (f - 1 - d) / p)
def sp_days_due : DSp := fun xs cs Q _ => ∃ p d f l : Int, xs = [.int p, .int d, .int f, .int l] ∧ 0 < p ∧ p ≤ 400 ∧ Q (.int (daysDue p d f l)) cs
theorem len_days_due : ∀ xs cs Q XP, sp_days_due xs cs Q XP → xs.length = 4 := by rintro xs cs Q XP ⟨p, d, f, l, rfl, _⟩; rfl
def w_days_due : WS := (wRet (wFn wMax2 (wCons (wC (.int 0)) (wCons (wOp wSub (wOp wDiv (wOp wSub (wVar 3) (wVar 1)) (wVar 0)) (wOp wDiv (wOp wSub (wOp wSub (wVar 2) (wC (.int 1))) (wVar 1)) (wVar 0))) wNil))))
theorem pure_days_due (K : Frag) : ∀ xs cs Q XP, sp_days_due xs cs Q XP → w_days_due (retE K Q) (startD 4 xs) cs := by
  rintro xs cs Q XP ⟨p, d, f, l, rfl, hp, hp2, q⟩
  unfold w_days_due
  walk_at "dl"
  refine ⟨divOk hp (by omega), divOk hp (by omega), .now ?_⟩
  have : daysDue p d f l = (if 0 < (l - d) / p - (f - 1 - d) / p then (l - d) / p - (f - 1 - d) / p else 0) := by
    unfold daysDue
    split <;> omega
  rw [this] at q
  exact q
/-! ### flow_list -/
/-- the sum of what the orders pay on day t -/
def flowAt (os : List Ord) (t : Int) : Int := (os.map fun o => if t % o.1 = o.2.1 then o.2.2 else 0).sum
def rowF (c : Nat) (f : Nat → Int) : List Int := (List.range c).map f
def flowsL (c : Int) (os : List Ord) : List Int := rowF c.toNat fun t => flowAt os (t : Int)
end DL
set_option maxRecDepth 100000
set_option maxHeartbeats 4000000
namespace DL
open PySem L2
local macro_rules | `(tactic| walk_at "dl") => `(tactic| simp only [wRet, wRetN, wSeq, wAsg, wIfS, wDrop, wNext, wVar, wC, wOp, wUn, wFn, wNil, wCons, wTest, wNot, wAnd, wOr, wAndV, wOrV, wNotV, wIf, wChain, wTup, wLst, wCall, wNever, gN, gT, gNil, gCons, gIx, wI, wI0, wNeg, wMax2, wMin2, wLen, wIsN, wNotN, isNon_non, isNon_bl, isNon_int, isNon_str, isNon_lst, isNon_tup, isNon_cell, wIx, wTuple, wAug, wAugIx, wPar, wIsi, wIsi2, isiT, tyD_non, tyD_bl, tyD_int, tyD_str, tyD_lst, tyD_tup, tyD_cell, coTy_lst, seqD_lst, seqD_tp, seqD_cell, coSeq_lst, seen_dat, seen_cell, coDat_lst, startD, wYes, wApp, wEq_int, wEq_bl, allDat_nil, allDat_cons, allDat_map, Option.map_some, List.map_cons, List.map_nil, List.cons_append, List.nil_append, List.length_cons, List.length_nil, List.replicate, List.getElem?_cons_zero, List.getElem?_cons_succ, List.set_cons_zero, List.set_cons_succ, Option.some.injEq, exists_eq_left', exists_eq_left, exists_and_left, exists_eq', exists_eq, Vl.dat.injEq, Vl.raw.injEq, V.ref.injEq, CO.lst.injEq, Dat.int.injEq, Dat.bl.injEq, Dat.tup.injEq, Dat.lst.injEq, List.cons.injEq, and_true, true_and, retE, Nat.reduceAdd, Nat.reduceSub, and_assoc, Prod.mk.injEq, if_true, if_false, Bool.false_eq_true, decide_eq_true_eq, Bool.not_true, Bool.not_false, Bool.not_eq_true', decide_eq_false_iff_not, if_false_left, if_false_right, beq_iff_eq, Bool.or_eq_true, Bool.and_eq_true, Bool.or_self, Bool.or_true, Bool.true_or, Bool.or_false, Bool.false_or, decide_true, decide_false, reduceCtorEq, Cells.put_same, gt_iff_lt, ge_iff_le, beq_self_eq_true, bne_self_eq_false, Bool.decide_eq_true, not_true_eq_false, not_false_eq_true, Decidable.not_not, false_and, and_false, Bool.not_eq_false, at_0, at_1, at_2, at_3, at_4, at_5, ix_0, ix_1, ix_2, ix_3, Nat.reduceLT, Int.reduceLT, Int.reduceLE, Int.reduceNeg, Int.reduceAdd, Int.reduceSub, Int.reduceEq, Int.reducePow, Int.reduceToNat, Cells.put_put])
theorem rgC_pos {i j c : Int} (h0 : 0 ≤ i) (hij : i < j) (hj : j ≤ 100000) (hc : 0 < c) (hc2 : c ≤ 100000) : RgC i j c ((j - i - 1) / c + 1).toNat := by
  have hq : 0 ≤ (j - i - 1) / c := Int.ediv_nonneg (by omega) (by omega)
  have hq2 : (j - i - 1) / c ≤ j - i - 1 := Int.ediv_le_self _ (by omega)
  have hs : Builtin.Range.rangeSize i j c = (j - i - 1) / c + 1 := by
    unfold Builtin.Range.rangeSize
    rw [if_pos (by omega), if_pos hij]
  refine ⟨by omega, by omega, ?_, ?_⟩
  · unfold Builtin.Range.small
    rw [hs]
    simp only [Builtin.Range.rangeFitsLong, Bool.and_eq_true, Bool.or_eq_true, decide_eq_true_eq, beq_iff_eq, show c > 0 from hc, if_true]
    omega
  · rw [hs]; omega
/-! ### rows -/
theorem rowF_len {c : Nat} {f : Nat → Int} : (rowF c f).length = c := by simp [rowF]
theorem iV_len {ns : List Int} : (iV ns).length = ns.length := by simp [iV]
theorem rowF_get {c : Nat} {f : Nat → Int} {k : Nat} (h : k < c) : (rowF c f)[k]? = some (f k) := by simp [rowF, h]
theorem iV_get {ns : List Int} {k : Nat} {n : Int} (h : ns[k]? = some n) : (iV ns)[k]? = some (.int n) := by
  unfold iV; rw [List.getElem?_map, h]; rfl
theorem rowF_set {c : Nat} {f : Nat → Int} {k : Nat} {v : Int} (h : k < c) : (iV (rowF c f)).set k (.int v) = iV (rowF c fun t => if t = k then v else f t) := by
  unfold iV rowF
  refine List.ext_getElem? fun i => ?_
  by_cases hi : i < c
  · by_cases hk : k = i
    · subst hk
      rw [List.getElem?_set_self (by simp; omega)]
      simp [hi]
    · rw [List.getElem?_set_ne hk]
      have : ¬ i = k := fun z => hk z.symm
      simp [hi, this]
  · rw [List.getElem?_eq_none (by simp; omega), List.getElem?_eq_none (by simp; omega)]
theorem rowF_ext {c : Nat} {f g : Nat → Int} (h : ∀ t, t < c → f t = g t) : rowF c f = rowF c g := by
  unfold rowF
  exact List.map_congr_left fun t ht => h t (List.mem_range.mp ht)
theorem rep0 (n : Nat) : (List.replicate n [(Vl.int 0)]).flatten = iV (rowF n fun _ => 0) := by
  induction n with
  | zero => rfl
  | succ n ih =>
    rw [List.replicate_succ', List.flatten_append, ih]
    unfold iV rowF
    rw [List.range_succ]
    simp
/-! ### a valid calendar's cycle -/
def rat4 (b : Int) : List Int → Prop
  | [] => True
  | p :: r => (0 < b → p ≤ 4 * b) ∧ rat4 p r
def cyc (ps : List Int) : Int := (ps.getLast?).getD 0
theorem calFrom_all : ∀ {ps : List Int} {b : Int}, 0 ≤ b → calFrom b ps → ∀ p ∈ ps, b < p ∧ p ≤ 400
  | a :: r, b, hb, h, p, hp => by
    rcases List.mem_cons.mp hp with z | z
    · subst z; exact ⟨h.1, h.2.1⟩
    · have := calFrom_all (b := a) (by have := h.1; omega) h.2.2.2 p z
      have h1 := h.1
      exact ⟨by omega, this.2⟩
/-- every period divides the last one -/
theorem calFrom_dvd : ∀ {ps : List Int} {b : Int} {c : Int}, 0 ≤ b → calFrom b ps → ps.getLast? = some c → (0 < b → b ∣ c) ∧ ∀ p ∈ ps, p ∣ c
  | [a], b, c, hb, h, e => by
    cases e
    exact ⟨fun z => Int.dvd_of_emod_eq_zero (h.2.2.1 z), fun p hp => by simp at hp; subst hp; exact Int.dvd_refl _⟩
  | a :: a2 :: r, b, c, hb, h, e => by
    have h1 := h.1
    have ih := calFrom_dvd (ps := a2 :: r) (b := a) (c := c) (by omega) h.2.2.2 (by rw [List.getLast?_cons_cons] at e; exact e)
    have ha : a ∣ c := ih.1 (by omega)
    refine ⟨fun z => Int.dvd_trans (Int.dvd_of_emod_eq_zero (h.2.2.1 z)) ha, fun p hp => ?_⟩
    rcases List.mem_cons.mp hp with z | z
    · subst z; exact ha
    · exact ih.2 p z
structure CycOk (ps : List Int) (c : Int) : Prop where
  last : ps.getLast? = some c
  pos : 0 < c
  le : c ≤ 400
  per : ∀ p ∈ ps, 0 < p ∧ p ≤ c ∧ p ∣ c
theorem cal_cyc {ps : List Int} (h : CalOk ps) : CycOk ps (cyc ps) := by
  obtain ⟨h1, h5, hc⟩ := h
  have hne : ps ≠ [] := by intro z; subst z; simp at h1
  obtain ⟨c, hl⟩ : ∃ c, ps.getLast? = some c := ⟨_, List.getLast?_eq_some_getLast hne⟩
  have hcy : cyc ps = c := by unfold cyc; rw [hl]; rfl
  rw [hcy]
  have hm : c ∈ ps := List.mem_of_getLast? hl
  have ha := calFrom_all (Int.le_refl 0) hc
  have hd := (calFrom_dvd (Int.le_refl 0) hc hl).2
  exact ⟨hl, (ha c hm).1, (ha c hm).2, fun p hp => ⟨(ha p hp).1, Int.le_of_dvd (ha c hm).1 (hd p hp), hd p hp⟩⟩
theorem atI_cyc {ps : List Int} {c : Int} (h : CycOk ps c) : atI (iV ps) (-1) = some (.int c) := atI_last (by unfold iV; rw [List.getLast?_map, h.last]; rfl)
theorem ordB_iff {ps : List Int} {o : Ord} : ordB ps o = true ↔ o.1 ∈ ps ∧ 0 ≤ o.2.1 ∧ o.2.1 < o.1 ∧ o.2.2 ≠ 0 := by
  unfold ordB
  simp [and_assoc]
theorem flowAt_snoc (os : List Ord) (o : Ord) (t : Int) : flowAt (os ++ [o]) t = flowAt os t + if t % o.1 = o.2.1 then o.2.2 else 0 := by
  unfold flowAt
  rw [List.map_append, List.sum_append]
  simp
theorem take_snoc {α : Type} {os : List α} {i : Nat} {o : α} (h : os[i]? = some o) : os.take (i + 1) = os.take i ++ [o] := by rw [List.take_succ, h]; rfl
/-! ### flow_list -/
def sp_flow_list : DSp := fun xs cs Q _ => ∃ (ps : List Int) (os : List Ord) (b : Bool), xs = [.dat (cal ps), .dat (seqd b (ordsD os))] ∧ CalOk ps ∧ OrdsOk ps os ∧ ∀ p, cs p = none → Q (.cell p) (cs.put p (.lst (iV (flowsL (cyc ps) os))))
theorem len_flow_list : ∀ xs cs Q XP, sp_flow_list xs cs Q XP → xs.length = 2 := by rintro xs cs Q XP ⟨ps, o, b, rfl, _⟩; rfl
def w_flow_list : WS := (wSeq (wAsg (wOp wRep (wLst (wCons (wC (.int 0)) wNil)) (wOp wIx (wVar 0) (wUn wNeg (wC (.int 1))))) (gN 2))
    (wSeq (wFor (wiSeq (wVar 1)) (gT 3 (gCons (gN 3) (gCons (gN 4) (gCons (gN 5) gNil)))) (wFor (wiRng3 (wCons (wVar 4) (wCons (wOp wIx (wVar 0) (wUn wNeg (wC (.int 1)))) (wCons (wVar 3) wNil)))) (gN 6) (wAugIx (wVar 2) (wVar 6) (wVar 5) (fun i j => i + j))))
    (wRet (wVar 2))))
theorem mod_near {p d t : Int} {j : Int} (hp : 0 < p) (hd : 0 ≤ d) (hdp : d < p) : (d + j * p) % p = d := by
  rw [Int.add_mul_emod_self_right, Int.emod_eq_of_lt hd hdp]
theorem pure_flow_list (K : Frag) : ∀ xs cs Q XP, sp_flow_list xs cs Q XP → w_flow_list (retE K Q) (startD 7 xs) cs := by
  rintro xs cs Q XP ⟨ps, os, b, rfl, hc, ho, q⟩
  have C := cal_cyc hc
  generalize cyc ps = c at C q
  have hpos := C.pos
  have hle := C.le
  unfold w_flow_list
  walk_at "dl"
  refine ⟨by decide, .inl fun p0 hp0 => ?_⟩
  refine ⟨_, _, seqD_cal, _, atI_cyc C, ?_⟩
  simp only [wRep]
  walk_at "dl"
  refine ⟨by omega, by omega, by omega, cs, SubC.put hp0, .inl fun p hp => ?_⟩
  rw [rep0]
  simp only [wFor, wiSeq]
  walk_at "dl"
  refine ⟨_, _, seqD_seqd, fun i ρ cs' => cs' = cs.put p (.lst (iV (rowF c.toNat fun t => flowAt (os.take i) (t : Int)))) ∧ ∃ a3 a4 a5 a6, ρ = [some (.dat (cal ps)), some (.dat (seqd b (ordsD os))), some (.cell p), a3, a4, a5, a6], ⟨rfl, _, _, _, _, rfl⟩, fun _ _ _ _ _ => seqD_seqd, ?_, ?_⟩
  · rintro i x ρ cs' hx ⟨rfl, a3, a4, a5, a6, rfl⟩
    unfold ordsD at hx
    rw [List.getElem?_map, List.getElem?_map] at hx
    obtain ⟨d0, hd0, rfl⟩ := Option.map_eq_some_iff.mp hx
    obtain ⟨⟨pp, dd, aa⟩, hoi, rfl⟩ := Option.map_eq_some_iff.mp hd0
    obtain ⟨k1, k2, k3, k4⟩ := ordB_iff.mp (ho _ (List.mem_of_getElem? hoi))
    simp only at k1 k2 k3 k4
    obtain ⟨p1, p2, p3⟩ := C.per _ k1
    simp only [ord]
    walk_at "dl"
    simp only [wiRng3]
    walk_at "dl"
    refine ⟨_, _, seqD_cal, _, atI_cyc C, ?_⟩
    walk_at "dl"
    refine ⟨_, rgC_pos k2 (by omega) (by omega) p1 (by omega), ?_⟩
    refine ⟨fun j ρ cs' => cs' = cs.put p (.lst (iV (rowF c.toNat fun t => flowAt (os.take i) (t : Int) + if (t : Int) % pp = dd ∧ (t : Int) < dd + j * pp then aa else 0))) ∧ ∃ a6, ρ = [some (.dat (cal ps)), some (.dat (seqd b (ordsD os))), some (.cell p), some (.int pp), some (.int dd), some (.int aa), a6], ⟨?_, _, rfl⟩, fun _ _ _ _ _ => trivial, ?_, ?_⟩
    · congr 3
      refine rowF_ext fun t _ => ?_
      rw [if_neg (fun z => ?_), Int.add_zero]
      obtain ⟨z1, z2⟩ := z
      have z3 : (t : Int) < dd := by simpa using z2
      rw [Int.emod_eq_of_lt (by omega) (by omega)] at z1
      omega
    · rintro j x ρ cs' hx ⟨rfl, a6, rfl⟩
      obtain ⟨hj, rfl⟩ := rangeD_at hx
      have hq : 0 ≤ (c - dd - 1) / pp := Int.ediv_nonneg (by omega) (by omega)
      have hjq : (j : Int) ≤ (c - dd - 1) / pp := by omega
      have hjm : (j : Int) * pp ≤ c - dd - 1 := Int.le_trans (Int.mul_le_mul_of_nonneg_right hjq (by omega)) (Int.ediv_mul_le _ (by omega))
      have hj0 : 0 ≤ (j : Int) * pp := Int.mul_nonneg (by omega) (by omega)
      have hr : (dd + (j : Int) * pp).toNat < c.toNat := by omega
      have hrc : (((dd + (j : Int) * pp).toNat : Nat) : Int) = dd + (j : Int) * pp := Int.toNat_of_nonneg (by omega)
      walk_at "dl"
      refine ⟨_, ixN_int (by omega) (by rw [iV_len, rowF_len]; omega), _, iV_get (rowF_get hr), ?_⟩
      rw [rowF_set hr]
      congr 3
      refine rowF_ext fun t ht => ?_
      simp only [hrc]
      by_cases htj : t = (dd + (j : Int) * pp).toNat
      · have htc : (t : Int) = dd + (j : Int) * pp := by omega
        have e0 : ((j + 1 : Nat) : Int) * pp = (j : Int) * pp + pp := by rw [Int.natCast_add, Int.add_mul]; simp
        rw [if_pos htj, htc, mod_near (t := t) p1 k2 k3, if_neg (by omega), if_pos ⟨rfl, by omega⟩, Int.add_zero]
      · rw [if_neg htj]
        congr 1
        have hiff : ((t : Int) % pp = dd ∧ (t : Int) < dd + (j : Int) * pp) ↔ ((t : Int) % pp = dd ∧ (t : Int) < dd + ((j + 1 : Nat) : Int) * pp) := by
          have e1 : ((j + 1 : Nat) : Int) * pp = (j : Int) * pp + pp := by rw [Int.natCast_add, Int.add_mul]; simp
          constructor
          · rintro ⟨z1, z2⟩; exact ⟨z1, by omega⟩
          · rintro ⟨z1, z2⟩
            refine ⟨z1, ?_⟩
            have e2 := Int.emod_add_mul_ediv (t : Int) pp
            rw [z1] at e2
            have e3 : (t : Int) / pp ≤ j := by
              have : pp * ((t : Int) / pp) < pp * ((j : Int) + 1) := by rw [Int.mul_add, Int.mul_comm pp j]; omega
              have := Int.lt_of_mul_lt_mul_left this (by omega)
              omega
            have e4 : (t : Int) / pp ≠ j := fun z => htj (by rw [z, Int.mul_comm] at e2; omega)
            have e5 : pp * ((t : Int) / pp) ≤ pp * ((j : Int) - 1) := Int.mul_le_mul_of_nonneg_left (by omega) (by omega)
            rw [Int.mul_sub, Int.mul_comm pp j] at e5
            omega
        simp only [hiff]
    · rintro ρ cs' ⟨rfl, a6, rfl⟩
      refine ⟨?_, _, _, _, _, rfl⟩
      congr 3
      refine rowF_ext fun t ht => ?_
      rw [take_snoc hoi, flowAt_snoc]
      congr 1
      have hq : 0 ≤ (c - dd - 1) / pp := Int.ediv_nonneg (by omega) (by omega)
      have hlen : (rangeD dd pp ((c - dd - 1) / pp + 1).toNat).length = ((c - dd - 1) / pp + 1).toNat := rangeD_len
      rw [hlen, Int.toNat_of_nonneg (by omega)]
      have hb : c - dd - 1 < ((c - dd - 1) / pp + 1) * pp := Int.lt_ediv_add_one_mul_self _ p1
      by_cases h1 : (t : Int) % pp = dd
      · rw [if_pos ⟨h1, by omega⟩, if_pos h1]
      · rw [if_neg (fun z => h1 z.1), if_neg h1]
  · rintro ρ cs' ⟨rfl, a3, a4, a5, a6, rfl⟩
    walk_at "dl"
    refine .now ?_
    have := q p hp
    unfold flowsL at this
    have hl : ((ordsD os).map Vl.dat).length = os.length := by simp [ordsD]
    rw [hl, List.take_of_length_le (Nat.le_refl _)]
    exact this
end DL
set_option maxRecDepth 100000
set_option maxHeartbeats 4000000
namespace DL
open PySem L2
local macro_rules | `(tactic| walk_at "dl") => `(tactic| simp only [wRet, wRetN, wSeq, wAsg, wIfS, wDrop, wNext, wVar, wC, wOp, wUn, wFn, wNil, wCons, wTest, wNot, wAnd, wOr, wAndV, wOrV, wNotV, wIf, wChain, wTup, wLst, wCall, wNever, gN, gT, gNil, gCons, gIx, wI, wI0, wNeg, wMax2, wMin2, wLen, wIsN, wNotN, isNon_non, isNon_bl, isNon_int, isNon_str, isNon_lst, isNon_tup, isNon_cell, wIx, wTuple, wAug, wAugIx, wPar, wIsi, wIsi2, isiT, tyD_non, tyD_bl, tyD_int, tyD_str, tyD_lst, tyD_tup, tyD_cell, coTy_lst, seqD_lst, seqD_tp, seqD_cell, coSeq_lst, seen_dat, seen_cell, coDat_lst, startD, wYes, wApp, wEq_int, wEq_bl, allDat_nil, allDat_cons, allDat_map, Option.map_some, List.map_cons, List.map_nil, List.cons_append, List.nil_append, List.length_cons, List.length_nil, List.replicate, List.getElem?_cons_zero, List.getElem?_cons_succ, List.set_cons_zero, List.set_cons_succ, Option.some.injEq, exists_eq_left', exists_eq_left, exists_and_left, exists_eq', exists_eq, Vl.dat.injEq, Vl.raw.injEq, V.ref.injEq, CO.lst.injEq, Dat.int.injEq, Dat.bl.injEq, Dat.tup.injEq, Dat.lst.injEq, List.cons.injEq, and_true, true_and, retE, Nat.reduceAdd, Nat.reduceSub, and_assoc, Prod.mk.injEq, if_true, if_false, Bool.false_eq_true, decide_eq_true_eq, Bool.not_true, Bool.not_false, Bool.not_eq_true', decide_eq_false_iff_not, if_false_left, if_false_right, beq_iff_eq, Bool.or_eq_true, Bool.and_eq_true, Bool.or_self, Bool.or_true, Bool.true_or, Bool.or_false, Bool.false_or, decide_true, decide_false, reduceCtorEq, Cells.put_same, gt_iff_lt, ge_iff_le, beq_self_eq_true, bne_self_eq_false, Bool.decide_eq_true, not_true_eq_false, not_false_eq_true, Decidable.not_not, false_and, and_false, Bool.not_eq_false, at_0, at_1, at_2, at_3, at_4, at_5, ix_0, ix_1, ix_2, ix_3, Nat.reduceLT, Int.reduceLT, Int.reduceLE, Int.reduceNeg, Int.reduceAdd, Int.reduceSub, Int.reduceEq, Int.reducePow, Int.reduceToNat, Cells.put_put])
/-! ### cycle_of, times_due, flows -/
def sp_cycle_of : DSp := fun xs cs Q _ => ∃ ps : List Int, xs = [.dat (cal ps)] ∧ CalOk ps ∧ Q (.int (cyc ps)) cs
theorem len_cycle_of : ∀ xs cs Q XP, sp_cycle_of xs cs Q XP → xs.length = 1 := by rintro xs cs Q XP ⟨ps, rfl, _⟩; rfl
def w_cycle_of : WS := (wSeq (wDrop (wCall sp_validate_calendar (wCons (wVar 0) wNil)))
    (wRet (wOp wIx (wVar 0) (wUn wNeg (wC (.int 1))))))
theorem pure_cycle_of (K : Frag) : ∀ xs cs Q XP, sp_cycle_of xs cs Q XP → w_cycle_of (retE K Q) (startD 1 xs) cs := by
  rintro xs cs Q XP ⟨ps, rfl, hc, q⟩
  unfold w_cycle_of
  walk_at "dl"
  exact ⟨ps, rfl, hc, _, _, seqD_cal, _, atI_cyc (cal_cyc hc), .now q⟩
def sp_times_due : DSp := fun xs cs Q _ => ∃ (ps : List Int) (o : Ord) (f l : Int), xs = [.dat (cal ps), .dat (ord o), .int f, .int l] ∧ CalOk ps ∧ ordB ps o = true ∧ Q (.int (daysDue o.1 o.2.1 f l)) cs
theorem len_times_due : ∀ xs cs Q XP, sp_times_due xs cs Q XP → xs.length = 4 := by rintro xs cs Q XP ⟨ps, o, f, l, rfl, _⟩; rfl
def w_times_due : WS := (wSeq (wDrop (wCall sp_validate_orders (wCons (wVar 0) (wCons (wLst (wCons (wVar 1) wNil)) wNil))))
    (wRet (wCall sp_days_due (wCons (wOp wIx (wVar 1) (wC (.int 0))) (wCons (wOp wIx (wVar 1) (wC (.int 1))) (wCons (wVar 2) (wCons (wVar 3) wNil)))))))
theorem pure_times_due (K : Frag) : ∀ xs cs Q XP, sp_times_due xs cs Q XP → w_times_due (retE K Q) (startD 4 xs) cs := by
  rintro xs cs Q XP ⟨ps, ⟨p, d, a⟩, f, l, rfl, hc, ho, q⟩
  obtain ⟨k1, k2, k3, k4⟩ := ordB_iff.mp ho
  have C := cal_cyc hc
  obtain ⟨p1, p2, p3⟩ := C.per _ k1
  have := C.le
  unfold w_times_due
  walk_at "dl"
  refine ⟨by decide, .inr ⟨[ord (p, d, a)], rfl, ps, [(p, d, a)], true, rfl, hc, fun o h => by simp at h; rw [h]; exact ho, ?_⟩⟩
  simp only [ord]
  walk_at "dl"
  exact ⟨p, d, f, l, rfl, p1, by omega, .now q⟩
abbrev sp_flows : DSp := sp_flow_list
theorem len_flows : ∀ xs cs Q XP, sp_flows xs cs Q XP → xs.length = 2 := len_flow_list
def w_flows : WS := (wSeq (wDrop (wCall sp_validate_orders (wCons (wVar 0) (wCons (wVar 1) wNil))))
    (wRet (wCall sp_flow_list (wCons (wVar 0) (wCons (wVar 1) wNil)))))
theorem pure_flows (K : Frag) : ∀ xs cs Q XP, sp_flows xs cs Q XP → w_flows (retE K Q) (startD 2 xs) cs := by
  rintro xs cs Q XP ⟨ps, os, b, rfl, hc, ho, q⟩
  unfold w_flows
  walk_at "dl"
  exact ⟨ps, os, b, rfl, hc, ho, ps, os, b, rfl, hc, ho, fun p hp => .now (q p hp)⟩
/-! ### draws -/
def DrSt (c : CO) : Prop := ∃ (ns : List Int) (pos seed rest : Int), c = .lst [.dat (.lst (iD ns)), .int pos, .int seed, .int rest] ∧ 0 ≤ pos
def sp_law_start : DSp := fun xs cs Q _ => ∃ ns : List Int, xs = [.dat (.lst (iD ns))] ∧ ∀ p c, cs p = none → DrSt c → Q (.cell p) (cs.put p c)
theorem len_law_start : ∀ xs cs Q XP, sp_law_start xs cs Q XP → xs.length = 1 := by rintro xs cs Q XP ⟨ns, rfl, _⟩; rfl
def w_law_start : WS := (wSeq (wAsg (wC (.int 1)) (gN 1))
    (wSeq (wFor (wiSeq (wVar 0)) (gN 2) (wAsg (wOp wMod (wOp wAdd (wOp wAdd (wOp wMul (wVar 1) (wC (.int 48271))) (wVar 2)) (wC (.int 7))) (wC (.int 2147483647))) (gN 1)))
    (wRet (wLst (wCons (wVar 0) (wCons (wC (.int 0)) (wCons (wVar 1) (wCons (wC (.int 0)) wNil))))))))
theorem pure_law_start (K : Frag) : ∀ xs cs Q XP, sp_law_start xs cs Q XP → w_law_start (retE K Q) (startD 3 xs) cs := by
  rintro xs cs Q XP ⟨ns, rfl, q⟩
  unfold w_law_start
  walk_at "dl"
  simp only [wFor, wiSeq]
  walk_at "dl"
  refine ⟨fun i ρ cs' => cs' = cs ∧ ∃ (m : Int) (a : Option Vl), ρ = [some (.dat (.lst (iD ns))), some (.int m), a], ⟨rfl, _, _, rfl⟩, fun _ _ _ _ _ => trivial, ?_, ?_⟩
  · rintro i x ρ cs' hx ⟨rfl, m, a, rfl⟩
    rw [iD_map] at hx
    unfold iV at hx
    rw [List.getElem?_map] at hx
    obtain ⟨n, hn, rfl⟩ := Option.map_eq_some_iff.mp hx
    walk_at "dl"
    exact mulR (by decide) (by decide)
  · rintro ρ cs' ⟨rfl, m, a, rfl⟩
    walk_at "dl"
    exact ⟨by decide, .inl fun p hp => .now (q p _ hp ⟨ns, 0, m, 0, rfl, by decide⟩)⟩
def sp_law_drawn : DSp := fun xs cs Q _ => ∃ (a : Addr) (n : Int) (c : CO), xs = [.cell a, .int n] ∧ cs a = some c ∧ DrSt c ∧ 0 < n ∧ n ≤ 1000000000000000000000000000000 ∧ ∀ r c', 0 ≤ r → r < n → DrSt c' → Q (.int r) (cs.put a c')
theorem len_law_drawn : ∀ xs cs Q XP, sp_law_drawn xs cs Q XP → xs.length = 2 := by rintro xs cs Q XP ⟨a, n, c, rfl, _⟩; rfl
def w_law_drawn : WS := (wSeq (wIfS (wTest (wOp wGt (wOp wIx (wVar 0) (wC (.int 3))) (wC (.int 0)))) (wSeq (wAsg (wOp wMod (wOp wIx (wVar 0) (wC (.int 3))) (wVar 1)) (gN 2))
    (wSeq (wAsg (wOp wDiv (wOp wIx (wVar 0) (wC (.int 3))) (wVar 1)) (gIx (wVar 0) (wC (.int 3))))
    (wRet (wVar 2)))) wNext)
    (wSeq (wAsg (wOp wAdd (wOp wIx (wVar 0) (wC (.int 1))) (wC (.int 1))) (gIx (wVar 0) (wC (.int 1))))
    (wSeq (wIfS (wTest (wOp wLe (wOp wIx (wVar 0) (wC (.int 1))) (wFn wLen (wCons (wOp wIx (wVar 0) (wC (.int 0))) wNil)))) (wSeq (wAsg (wOp wIx (wOp wIx (wVar 0) (wC (.int 0))) (wOp wSub (wOp wIx (wVar 0) (wC (.int 1))) (wC (.int 1)))) (gN 3))
    (wSeq (wAsg (wIf (wTest (wOp wGe (wVar 3) (wOp wPow (wC (.int 10)) (wC (.int 18))))) (wOp wDiv (wVar 3) (wVar 1)) (wC (.int 0))) (gIx (wVar 0) (wC (.int 3))))
    (wRet (wOp wMod (wVar 3) (wVar 1))))) wNext)
    (wSeq (wAsg (wOp wMod (wOp wAdd (wOp wMul (wOp wIx (wVar 0) (wC (.int 2))) (wC (.int 48271))) (wC (.int 11))) (wC (.int 2147483647))) (gIx (wVar 0) (wC (.int 2))))
    (wRet (wOp wMod (wOp wDiv (wOp wIx (wVar 0) (wC (.int 2))) (wC (.int 7))) (wVar 1)))))))
theorem pow10 (n : Nat) (h : (n : Int) ≤ 1000000) : CPow 10 (n : Int) := ⟨by omega, h, by decide⟩
theorem pure_law_drawn (K : Frag) : ∀ xs cs Q XP, sp_law_drawn xs cs Q XP → w_law_drawn (retE K Q) (startD 4 xs) cs := by
  rintro xs cs Q XP ⟨a, n, c, rfl, hc, ⟨ns, pos, seed, rest, rfl, hpos⟩, hn, hn2, q⟩
  unfold w_law_drawn
  walk_at "dl"
  simp only [hc]
  walk_at "dl"
  have m1 : ∀ x : Int, 0 ≤ x % n := fun x => Int.emod_nonneg _ (by omega)
  have m2 : ∀ x : Int, x % n < n := fun x => Int.emod_lt_of_pos _ hn
  split
  · exact ⟨hn, divOk hn hn2, .now (q _ _ (m1 _) (m2 _) ⟨ns, pos, seed, _, rfl, hpos⟩)⟩
  · split
    · rename_i h1 h2
      have hl : (List.map Vl.dat (iD ns)).length = ns.length := by simp [iD]
      rw [hl] at h2
      obtain ⟨z, hz⟩ : ∃ z, ns[pos.toNat]? = some z := ⟨_, List.getElem?_eq_getElem (by omega)⟩
      refine ⟨.int z, ?_, pow10 18 (by decide), z, rfl, ?_⟩
      · rw [show pos + 1 - 1 = pos by omega, iD_map]
        exact atI_int hpos (iV_get hz)
      · split
        · exact ⟨z, rfl, divOk hn hn2, z, rfl, hn, .now (q _ _ (m1 _) (m2 _) ⟨ns, _, seed, _, rfl, by omega⟩)⟩
        · exact ⟨z, rfl, hn, .now (q _ _ (m1 _) (m2 _) ⟨ns, _, seed, _, rfl, by omega⟩)⟩
    · exact ⟨mulR (by decide) (by decide), divOk (by decide) (by decide), hn, .now (q _ _ (m1 _) (m2 _) ⟨ns, _, _, _, rfl, by omega⟩)⟩
/-! ### random calendars and orders -/
theorem put_fresh {cs : Cells} {a p : Addr} {c c' : CO} (h : cs a = some c) (hp : cs p = none) : p ≠ a := by
  intro z; rw [z, h] at hp; cases hp
def sp_law_calendar : DSp := fun xs cs Q _ => ∃ (a : Addr) (n : Int) (c : CO), xs = [.cell a, .int n] ∧ cs a = some c ∧ DrSt c ∧ 1 ≤ n ∧ n ≤ 400 ∧ ∀ ps c', CalOk ps → (∀ p ∈ ps, p ≤ max 3 n) → ps.length ≤ 4 ∧ rat4 0 ps → DrSt c' → Q (.dat (cal ps)) (cs.put a c')
theorem len_law_calendar : ∀ xs cs Q XP, sp_law_calendar xs cs Q XP → xs.length = 2 := by rintro xs cs Q XP ⟨a, n, c, rfl, _⟩; rfl
def w_law_calendar : WS := (wSeq (wAsg (wLst (wCons (wOp wAdd (wC (.int 1)) (wCall sp_law_drawn (wCons (wVar 0) (wCons (wFn wMin2 (wCons (wC (.int 3)) (wCons (wVar 1) wNil))) wNil)))) wNil)) (gN 2))
    (wSeq (wFor (wiRng1 (wCons (wCall sp_law_drawn (wCons (wVar 0) (wCons (wC (.int 4)) wNil))) wNil)) (gN 3) (wSeq (wAsg (wOp wMul (wOp wIx (wVar 2) (wOp wSub (wC (.int 0)) (wC (.int 1)))) (wOp wAdd (wC (.int 2)) (wCall sp_law_drawn (wCons (wVar 0) (wCons (wC (.int 3)) wNil))))) (gN 4))
    (wIfS (wTest (wOp wLe (wVar 4) (wVar 1))) (wDrop (wApp (wVar 2) (wVar 4))) wNext)))
    (wRet (wFn wTuple (wCons (wVar 2) wNil)))))
theorem calFrom_snoc : ∀ {ps : List Int} {b c p : Int}, calFrom b ps → (ps.getLast?).getD b = c → c < p → p ≤ 400 → (c > 0 → p % c = 0) → calFrom b (ps ++ [p])
  | [], b, c, p, _, e, h1, h2, h3 => by
    simp at e; subst e; exact ⟨h1, h2, h3, trivial⟩
  | [a], b, c, p, h, e, h1, h2, h3 => by
    simp at e; subst e; exact ⟨h.1, h.2.1, h.2.2.1, h1, h2, h3, trivial⟩
  | a :: a2 :: r, b, c, p, h, e, h1, h2, h3 => by
    refine ⟨h.1, h.2.1, h.2.2.1, calFrom_snoc (ps := a2 :: r) h.2.2.2 ?_ h1 h2 h3⟩
    rw [List.getLast?_cons_cons] at e
    cases q : (a2 :: r).getLast? with
    | none => simp at q
    | some z => rw [q] at e; exact e
theorem rat4_snoc : ∀ {ps : List Int} {b c p : Int}, rat4 b ps → (ps.getLast?).getD b = c → p ≤ 4 * c → rat4 b (ps ++ [p])
  | [], b, c, p, _, e, h1 => by
    simp at e; subst e; exact ⟨fun _ => h1, trivial⟩
  | [a], b, c, p, h, e, h1 => by
    simp at e; subst e; exact ⟨h.1, fun _ => h1, trivial⟩
  | a :: a2 :: r, b, c, p, h, e, h1 => by
    refine ⟨h.1, rat4_snoc (ps := a2 :: r) h.2 ?_ h1⟩
    rw [List.getLast?_cons_cons] at e
    cases q : (a2 :: r).getLast? with
    | none => simp at q
    | some z => rw [q] at e; exact e
theorem iV_app (xs ys : List Int) : iV xs ++ iV ys = iV (xs ++ ys) := by simp [iV]
theorem pure_law_calendar (K : Frag) : ∀ xs cs Q XP, sp_law_calendar xs cs Q XP → w_law_calendar (retE K Q) (startD 5 xs) cs := by
  rintro xs cs Q XP ⟨a, n, c, rfl, hc, hD, hn, hn2, q⟩
  unfold w_law_calendar
  walk_at "dl"
  refine ⟨a, _, c, rfl, hc, hD, by split <;> omega, by split <;> omega, fun r c1 hr0 hr1 hD1 => ?_⟩
  walk_at "dl"
  refine ⟨by decide, .inl fun p hp => ?_⟩
  have hpa : p ≠ a := by
    intro z; rw [z, Cells.put_same] at hp; cases hp
  have hp0 : cs p = none := by rwa [Cells.put_ne hpa] at hp
  simp only [wFor, wiRng1]
  walk_at "dl"
  refine ⟨a, 4, c1, rfl, by rw [Cells.put_ne hpa.symm, Cells.put_same], hD1, by decide, by decide, fun k c2 hk0 hk1 hD2 => ?_⟩
  walk_at "dl"
  refine ⟨by omega, by omega, fun i ρ cs' => ∃ ps c', cs' = (cs.put a c').put p (.lst (iV ps)) ∧ DrSt c' ∧ (calFrom 0 ps ∧ rat4 0 ps) ∧ 1 ≤ ps.length ∧ ps.length ≤ i + 1 ∧ (∀ x ∈ ps, x ≤ max 3 n) ∧ ∃ a3 a4, ρ = [some (.cell a), some (.int n), some (.cell p), a3, a4], ?_, fun _ _ _ _ _ => trivial, ?_, ?_⟩
  · refine ⟨[1 + r], c2, ?_, hD2, ⟨⟨by omega, by split at hr1 <;> omega, fun z => absurd z (by decide), trivial⟩, fun z => absurd z (by decide), trivial⟩, by simp, by simp, by simp; split at hr1 <;> omega, _, _, rfl⟩
    rw [Cells.put_comm hpa, Cells.put_put]; rfl
  · rintro i x ρ cs' hx ⟨ps, c', rfl, hD', ⟨hcf, hrt⟩, hl1, hl2, hall, a3, a4, rfl⟩
    obtain ⟨hi, rfl⟩ := rangeD_at hx
    have hne : ps ≠ [] := by intro z; subst z; simp at hl1
    have hlast : ps.getLast? = some (ps.getLast hne) := List.getLast?_eq_some_getLast hne
    generalize hz : ps.getLast hne = z at hlast
    have hzm : z ∈ ps := List.mem_of_getLast? hlast
    have hza := calFrom_all (Int.le_refl 0) hcf z hzm
    walk_at "dl"
    refine ⟨.int z, atI_last (by unfold iV; rw [List.getLast?_map, hlast]; rfl), ?_⟩
    refine ⟨a, 3, c', rfl, by rw [Cells.put_ne hpa.symm, Cells.put_same], hD', by decide, by decide, fun r2 c3 hr20 hr21 hD3 => ?_⟩
    rw [Cells.put_comm hpa, Cells.put_put]
    walk_at "dl"
    refine ⟨mulL (by omega) (by omega), ?_⟩
    split
    · rename_i hle
      refine ⟨by rw [iV_len]; omega, ps ++ [z * (2 + r2)], c3, ?_, hD3, ?_, ?_, by simp, by simp; omega, ?_⟩
      · rw [← iV_app]; rfl
      · refine calFrom_snoc hcf (c := z) (by rw [hlast]; rfl) ?_ (by omega) (fun _ => by simp)
        have : z * 1 < z * (2 + r2) := Int.mul_lt_mul_of_pos_left (by omega) hza.1
        omega
      · refine rat4_snoc hrt (c := z) (by rw [hlast]; rfl) ?_
        have : z * (2 + r2) ≤ z * 4 := Int.mul_le_mul_of_nonneg_left (by omega) (by omega)
        omega
      · intro x hx
        rcases List.mem_append.mp hx with y | y
        · exact hall x y
        · simp at y; rw [y]; omega
    · exact ⟨ps, c3, rfl, hD3, hcf, hrt, hl1, by omega, hall⟩
  · rintro ρ cs' ⟨ps, c', rfl, hD', ⟨hcf, hrt⟩, hl1, hl2, hall, a3, a4, rfl⟩
    rw [rangeD_len] at hl2
    walk_at "dl"
    refine ⟨_, allDat_iV ps, ?_⟩
    refine .drop (SubC.put (by rw [Cells.put_ne hpa]; exact hp0)) (q ps c' ⟨hl1, by omega, hcf⟩ hall ⟨by omega, hrt⟩ hD')
def sp_law_order : DSp := fun xs cs Q _ => ∃ (a : Addr) (ps : List Int) (n : Int) (c : CO), xs = [.cell a, .dat (cal ps), .int n] ∧ cs a = some c ∧ DrSt c ∧ CalOk ps ∧ 0 < n ∧ n ≤ 1000000000000000000000000000000 ∧
  ∀ o c', ordB ps o = true → -n ≤ o.2.2 → o.2.2 ≤ n → DrSt c' → Q (.dat (ord o)) (cs.put a c')
theorem len_law_order : ∀ xs cs Q XP, sp_law_order xs cs Q XP → xs.length = 3 := by rintro xs cs Q XP ⟨a, ps, n, c, rfl, _⟩; rfl
def w_law_order : WS := (wSeq (wAsg (wOp wIx (wVar 1) (wCall sp_law_drawn (wCons (wVar 0) (wCons (wFn wLen (wCons (wVar 1) wNil)) wNil)))) (gN 3))
    (wSeq (wAsg (wOp wAdd (wCall sp_law_drawn (wCons (wVar 0) (wCons (wVar 2) wNil))) (wC (.int 1))) (gN 4))
    (wRet (wTup (wCons (wVar 3) (wCons (wCall sp_law_drawn (wCons (wVar 0) (wCons (wVar 3) wNil))) (wCons (wIf (wTest (wOp (wEqD false) (wCall sp_law_drawn (wCons (wVar 0) (wCons (wC (.int 2)) wNil))) (wC (.int 0)))) (wVar 4) (wOp wSub (wC (.int 0)) (wVar 4))) wNil)))))))
theorem pure_law_order (K : Frag) : ∀ xs cs Q XP, sp_law_order xs cs Q XP → w_law_order (retE K Q) (startD 5 xs) cs := by
  rintro xs cs Q XP ⟨a, ps, n, c, rfl, hc, hD, hcal, hn, hn2, q⟩
  have C := cal_cyc hcal
  have hcl := C.le
  obtain ⟨hl1, hl5, hcf⟩ := id hcal
  unfold w_law_order
  walk_at "dl"
  refine ⟨_, _, seqD_cal, ?_⟩
  rw [iV_len]
  refine ⟨a, _, c, rfl, hc, hD, by omega, by omega, fun r c1 hr0 hr1 hD1 => ?_⟩
  obtain ⟨p, hp⟩ : ∃ p, ps[r.toNat]? = some p := ⟨_, List.getElem?_eq_getElem (by omega)⟩
  obtain ⟨p1, p2, p3⟩ := C.per p (List.mem_of_getElem? hp)
  walk_at "dl"
  refine ⟨_, _, seqD_cal, _, atI_int hr0 (iV_get hp), ?_⟩
  refine ⟨a, n, c1, rfl, Cells.put_same, hD1, hn, hn2, fun r2 c2 h20 h21 hD2 => ?_⟩
  walk_at "dl"
  refine ⟨a, p, c2, rfl, Cells.put_same, hD2, p1, by omega, fun r3 c3 h30 h31 hD3 => ?_⟩
  walk_at "dl"
  refine ⟨a, 2, c3, rfl, Cells.put_same, hD3, by decide, by decide, fun r4 c4 h40 h41 hD4 => ?_⟩
  walk_at "dl"
  split
  · exact ⟨by decide, .now (q (p, r3, r2 + 1) c4 (ordB_iff.mpr ⟨List.mem_of_getElem? hp, h30, h31, by show r2 + 1 ≠ 0; omega⟩) (by show -n ≤ r2 + 1; omega) (by show r2 + 1 ≤ n; omega) hD4)⟩
  · exact ⟨by decide, .now (q (p, r3, 0 - (r2 + 1)) c4 (ordB_iff.mpr ⟨List.mem_of_getElem? hp, h30, h31, by show 0 - (r2 + 1) ≠ 0; omega⟩) (by show -n ≤ 0 - (r2 + 1); omega) (by show 0 - (r2 + 1) ≤ n; omega) hD4)⟩
def sp_law_orders : DSp := fun xs cs Q _ => ∃ (a : Addr) (ps : List Int) (m n : Int) (c : CO), xs = [.cell a, .dat (cal ps), .int m, .int n] ∧ cs a = some c ∧ DrSt c ∧ CalOk ps ∧ 0 ≤ m ∧ m ≤ 1000 ∧ 0 < n ∧ n ≤ 1000000000000000000000000000000 ∧
  ∀ os c', OrdsOk ps os → (∀ o ∈ os, -n ≤ o.2.2 ∧ o.2.2 ≤ n) → (os.length : Int) ≤ m → DrSt c' → Q (.dat (.lst (ordsD os))) (cs.put a c')
theorem len_law_orders : ∀ xs cs Q XP, sp_law_orders xs cs Q XP → xs.length = 4 := by rintro xs cs Q XP ⟨a, ps, m, n, c, rfl, _⟩; rfl
def w_law_orders : WS := (wRet (wLc (wiRng1 (wCons (wCall sp_law_drawn (wCons (wVar 0) (wCons (wOp wAdd (wVar 2) (wC (.int 1))) wNil))) wNil)) (gN 4) wYes (wCall sp_law_order (wCons (wVar 0) (wCons (wVar 1) (wCons (wVar 3) wNil)))) [4]))
theorem ordsD_map (os : List Ord) : (ordsD os).map Vl.dat = os.map fun o => .dat (ord o) := by simp [ordsD]
theorem pure_law_orders (K : Frag) : ∀ xs cs Q XP, sp_law_orders xs cs Q XP → w_law_orders (retE K Q) (startD 5 xs) cs := by
  rintro xs cs Q XP ⟨a, ps, m, n, c, rfl, hc, hD, hcal, hm0, hm, hn, hn2, q⟩
  unfold w_law_orders
  walk_at "dl"
  simp only [wLc, wiRng1]
  walk_at "dl"
  refine ⟨a, _, c, rfl, hc, hD, by omega, by omega, fun k c1 hk0 hk1 hD1 => ?_⟩
  walk_at "dl"
  refine ⟨by omega, by omega, fun D hD0 => ?_⟩
  have hDa : D ≠ a := by
    intro z; rw [z, Cells.put_same] at hD0; cases hD0
  have hD0' : cs D = none := by rwa [Cells.put_ne hDa] at hD0
  refine ⟨fun i cs' => ∃ os c', cs' = (cs.put a c').put D (.lst ((ordsD os).map .dat)) ∧ DrSt c' ∧ OrdsOk ps os ∧ (∀ o ∈ os, -n ≤ o.2.2 ∧ o.2.2 ≤ n) ∧ os.length = i, ⟨[], c1, rfl, hD1, fun _ h => by simp at h, fun _ h => by simp at h, rfl⟩, fun _ _ _ _ => trivial, ?_, ?_⟩
  · rintro i x cs' hx ⟨os, c', rfl, hD', ho, hb, hl⟩
    obtain ⟨hi, rfl⟩ := rangeD_at hx
    simp only [wipeD]
    walk_at "dl"
    refine ⟨a, ps, n, c', rfl, by rw [Cells.put_ne hDa.symm, Cells.put_same], hD', hcal, hn, hn2, fun o c2 h1 h2 h3 h4 => ?_⟩
    rw [Cells.put_comm hDa, Cells.put_put]
    walk_at "dl"
    refine ⟨by simp [ordsD]; omega, os ++ [o], c2, by simp [ordsD], h4, fun o' h' => ?_, fun o' h' => ?_, by simp [hl]⟩
    · rcases List.mem_append.mp h' with z | z
      · exact ho o' z
      · simp at z; rw [z]; exact h1
    · rcases List.mem_append.mp h' with z | z
      · exact hb o' z
      · simp at z; rw [z]; exact ⟨h2, h3⟩
  · rintro cs' ⟨os, c', rfl, hD', ho, hb, hl⟩
    rw [rangeD_len] at hl
    refine ⟨_, Cells.put_same, .inr ⟨_, allDat_map _, ?_⟩⟩
    rw [Cells.del_put (by rw [Cells.put_ne hDa]; exact hD0')]
    exact .now (q os c' ho hb (by omega) hD')
/-! ### _law_same: equal data are the same -/
def sp_law_same : Nat → DSp
  | 0 => fun _ _ _ _ => False
  | n + 1 => fun xs cs Q _ => ∃ (x y : Vl) (d : Dat), xs = [x, y] ∧ seen cs x = some d ∧ seen cs y = some d ∧ d.lv n ∧ n ≤ 10 ∧ Q (.bl true) cs
theorem len_law_same {n : Nat} : ∀ xs cs Q XP, sp_law_same (n + 1) xs cs Q XP → xs.length = 2 := by rintro xs cs Q XP ⟨x, y, d, rfl, _⟩; rfl
def w_law_same (n : Nat) : WS := (wSeq (wIfS (wTest (wIsi2 .tuple .list (wVar 1))) (wSeq (wIfS (wOr (wNot (wTest (wIsi2 .tuple .list (wVar 0)))) (wTest (wOp (wEqD true) (wIsi .list (wVar 0)) (wIsi .list (wVar 1))))) (wRet (wC (.bl false))) wNext)
    (wSeq (wIfS (wTest (wOp (wEqD true) (wFn wLen (wCons (wVar 0) wNil)) (wFn wLen (wCons (wVar 1) wNil)))) (wRet (wC (.bl false))) wNext)
    (wRet (wOp (wEqD false) (wLc (wiRng1 (wCons (wFn wLen (wCons (wVar 1) wNil)) wNil)) (gN 2) (wNot (wTest (wCall (sp_law_same n) (wCons (wOp wIx (wVar 0) (wVar 2)) (wCons (wOp wIx (wVar 1) (wVar 2)) wNil))))) (wVar 2) [2]) (wLst wNil))))) wNext)
    (wSeq (wIfS (wTest (wOp (wEqD true) (wIsi .bool (wVar 0)) (wIsi .bool (wVar 1)))) (wRet (wC (.bl false))) wNext)
    (wRet (wAndV (wOp (wEqD false) (wIsi .int (wVar 0)) (wIsi .int (wVar 1))) (wOp (wEqD false) (wVar 0) (wVar 1))))))
theorem seen_lstI {cs : Cells} {x : Vl} {ds : List Dat} (h : seen cs x = some (.lst ds)) : seqD cs x = some (true, ds.map .dat) ∧ tyD cs x = some .list := by
  match x, h with
  | .dat d, h => cases h; exact ⟨rfl, rfl⟩
  | .raw (.ref a), h =>
    have h : coDat (cs a) = some (.lst ds) := h
    cases e : cs a with
    | none => rw [e] at h; cases h
    | some c =>
      rw [e] at h
      cases c with
      | lst xs =>
        obtain ⟨es, e1, e2⟩ := Option.map_eq_some_iff.mp (show (allDat xs).map Dat.lst = some (.lst ds) from h)
        cases e2
        rw [seqD_cell, tyD_cell, e, coSeq_lst, coTy_lst, allDat_eq e1]
        exact ⟨rfl, rfl⟩
      | _ => cases h
theorem seen_else {cs : Cells} {x : Vl} {d : Dat} (h : seen cs x = some d) (hd : ∀ ds, d ≠ .lst ds) : x = .dat d := by
  match x, h with
  | .dat d', h => cases h; rfl
  | .raw (.ref a), h =>
    have h : coDat (cs a) = some d := h
    cases e : cs a with
    | none => rw [e] at h; cases h
    | some c =>
      rw [e] at h
      cases c with
      | lst xs =>
        obtain ⟨es, e1, e2⟩ := Option.map_eq_some_iff.mp (show (allDat xs).map Dat.lst = some d from h)
        exact absurd e2.symm (hd _)
      | _ => cases h
theorem seqD_put {cs : Cells} {x : Vl} {D : Addr} {c : CO} {r : Bool × List Vl} (hD : cs D = none) (h : seqD cs x = some r) : seqD (cs.put D c) x = some r := by
  match x, h with
  | .dat d, h => cases d <;> exact h
  | .raw (.ref a), h =>
    have h : coSeq (cs a) = some r := h
    show coSeq (cs.put D c a) = some r
    rw [Cells.put_ne (by intro z; rw [z, hD] at h; cases h)]
    exact h
theorem lst_nil_lv : (Dat.lst []).lv 1 := ⟨by decide, fun x h => by simp at h⟩
theorem same_seq {K : Frag} {n : Nat} {x y : Vl} {b : Bool} {ds : List Dat} {cs : Cells} {P : Vl → Cells → Prop} (hx : seqD cs x = some (b, ds.map .dat)) (hy : seqD cs y = some (b, ds.map .dat)) (hz : ds.length ≤ 16777216) (hlv : ∀ d ∈ ds, d.lv (n - 1)) (h1 : ds ≠ [] → 1 ≤ n) (hn : n ≤ 10) (q : P (.bl true) cs) :
    wOp (wEqD false) (wLc (wiRng1 (wCons (wFn wLen (wCons (wVar 1) wNil)) wNil)) (gN 2) (wNot (wTest (wCall (sp_law_same n) (wCons (wOp wIx (wVar 0) (wVar 2)) (wCons (wOp wIx (wVar 1) (wVar 2)) wNil))))) (wVar 2) [2]) (wLst wNil) [some x, some y, none] cs P := by
  walk_at "dl"
  simp only [wLc, wiRng1]
  walk_at "dl"
  refine ⟨_, _, hy, by omega, by rw [List.length_map]; omega, fun D hD => ?_⟩
  refine ⟨fun i cs' => cs' = cs.put D (.lst []), rfl, fun _ _ _ _ => trivial, ?_, ?_⟩
  · rintro i v cs' hv rfl
    obtain ⟨hi, rfl⟩ := rangeD_at hv
    rw [Int.toNat_natCast, List.length_map] at hi
    have hne : ds ≠ [] := by intro z; subst z; simp at hi
    obtain ⟨d, hd⟩ : ∃ d, ds[i]? = some d := ⟨_, List.getElem?_eq_getElem hi⟩
    have hdm : (ds.map Vl.dat)[i]? = some (.dat d) := by rw [List.getElem?_map, hd]; rfl
    simp only [wipeD]
    walk_at "dl"
    simp only [Int.mul_one, Int.zero_add]
    refine ⟨_, _, seqD_put hD hx, _, atI_nat hdm, _, _, seqD_put hD hy, _, atI_nat hdm, ?_⟩
    have := h1 hne
    obtain ⟨m, rfl⟩ : ∃ m, n = m + 1 := ⟨n - 1, by omega⟩
    refine ⟨_, _, d, rfl, rfl, rfl, hlv d (List.mem_of_getElem? hd), by omega, ?_⟩
    walk_at "dl"
  · rintro cs' rfl
    refine ⟨_, Cells.put_same, .inr ⟨[], rfl, ?_⟩⟩
    rw [Cells.del_put hD]
    walk_at "dl"
    refine ⟨by decide, .inr ⟨[], rfl, ?_⟩⟩
    exact wEq_of 1 (by decide) rfl rfl lst_nil_lv lst_nil_lv (fun _ => q) (fun z => absurd rfl z)
theorem pure_law_same (K : Frag) (n : Nat) : ∀ xs cs Q XP, sp_law_same (n + 1) xs cs Q XP → w_law_same n (retE K Q) (startD 3 xs) cs := by
  rintro xs cs Q XP ⟨x, y, d, rfl, hx, hy, hlv, hn, q⟩
  unfold w_law_same
  have fin := @same_seq K n x y
  generalize hw : wOp (wEqD false) (wLc (wiRng1 (wCons (wFn wLen (wCons (wVar 1) wNil)) wNil)) (gN 2) (wNot (wTest (wCall (sp_law_same n) (wCons (wOp wIx (wVar 0) (wVar 2)) (wCons (wOp wIx (wVar 1) (wVar 2)) wNil))))) (wVar 2) [2]) (wLst wNil) = W at fin
  cases d with
  | lst ds =>
    obtain ⟨x1, x2⟩ := seen_lstI hx
    obtain ⟨y1, y2⟩ := seen_lstI hy
    cases n with
    | zero => exact (show False from hlv).elim
    | succ n =>
      obtain ⟨hz, hl⟩ := hlv
      walk_at "dl"
      refine ⟨_, y2, ?_⟩
      walk_at "dl"
      refine ⟨_, x2, ?_⟩
      walk_at "dl"
      refine ⟨_, x2, _, y2, ?_⟩
      walk_at "dl"
      refine ⟨_, _, x1, _, _, y1, ?_⟩
      walk_at "dl"
      exact fin x1 y1 hz hl (fun _ => by omega) (by omega) (.now q)
  | tup ds =>
    have ex := seen_else hx (fun _ z => by cases z)
    have ey := seen_else hy (fun _ z => by cases z)
    subst ex ey
    cases n with
    | zero => exact (show False from hlv).elim
    | succ n =>
      obtain ⟨hz, hl⟩ := hlv
      walk_at "dl"
      exact fin rfl rfl hz hl (fun _ => by omega) (by omega) (.now q)
  | non =>
    have ex := seen_else hx (fun _ z => by cases z)
    have ey := seen_else hy (fun _ z => by cases z)
    subst ex ey
    walk_at "dl"
    exact wEq_of 1 (by decide) rfl rfl trivial trivial (fun _ => .now q) (fun z => absurd rfl z)
  | int i =>
    have ex := seen_else hx (fun _ z => by cases z)
    have ey := seen_else hy (fun _ z => by cases z)
    subst ex ey
    walk_at "dl"
    exact .now q
  | str z =>
    have ex := seen_else hx (fun _ z => by cases z)
    have ey := seen_else hy (fun _ z => by cases z)
    subst ex ey
    walk_at "dl"
    have h1 : (Dat.str z).lv 1 := by cases n <;> exact hlv
    exact wEq_of 1 (by decide) rfl rfl h1 h1 (fun _ => .now q) (fun z => absurd rfl z)
  | bl b => cases n <;> exact (show False from hlv).elim
  | obj C fs => cases n <;> exact (show False from hlv).elim
end DL
set_option maxRecDepth 100000
set_option maxHeartbeats 4000000
namespace DL
open PySem L2
/-! ### the normal form, as mathematics -/
def nval (c : Int) (F : Int → Int) (b p d : Int) : Int := F (d + c - p) - (if 0 < b then F (d % b + c - b) else 0)
def nordP (c : Int) (F : Int → Int) (b p : Int) : Nat → List Ord
  | 0 => []
  | n + 1 => nordP c F b p n ++ if nval c F b p (n : Int) = 0 then [] else [(p, (n : Int), nval c F b p (n : Int))]
def nordFrom (c : Int) (F : Int → Int) : Int → List Int → List Ord
  | _, [] => []
  | b, p :: r => nordP c F b p p.toNat ++ nordFrom c F p r
def norm (ps : List Int) (F : Int → Int) : List Ord := nordFrom (cyc ps) F 0 ps
def lastD (b : Int) (ps : List Int) : Int := (ps.getLast?).getD b
theorem lastD_nil (b : Int) : lastD b [] = b := rfl
theorem lastD_cons (b p : Int) (r : List Int) : lastD b (p :: r) = lastD p r := by
  unfold lastD
  cases r with
  | nil => rfl
  | cons q r => rw [List.getLast?_cons_cons]; simp [List.getLast?_cons]
theorem nordFrom_snoc (c : Int) (F : Int → Int) : ∀ (xs : List Int) (b p : Int), nordFrom c F b (xs ++ [p]) = nordFrom c F b xs ++ nordP c F (lastD b xs) p p.toNat
  | [], b, p => by simp [nordFrom, lastD_nil]
  | x :: xs, b, p => by
    rw [List.cons_append, nordFrom, nordFrom, nordFrom_snoc c F xs x p, lastD_cons, List.append_assoc]
theorem flowAt_app (xs ys : List Ord) (t : Int) : flowAt (xs ++ ys) t = flowAt xs t + flowAt ys t := by
  unfold flowAt; rw [List.map_append, List.sum_append]
theorem flowAt_nil (t : Int) : flowAt [] t = 0 := rfl
theorem flowAt_one (o : Ord) (t : Int) : flowAt [o] t = if t % o.1 = o.2.1 then o.2.2 else 0 := by simp [flowAt]
theorem flowAt_cons (o : Ord) (os : List Ord) (t : Int) : flowAt (o :: os) t = flowAt [o] t + flowAt os t := flowAt_app [o] os t
theorem flow_nordP (c : Int) (F : Int → Int) (b p t : Int) (hp : 0 < p) : ∀ n : Nat, flowAt (nordP c F b p n) t = if t % p < n then nval c F b p (t % p) else 0
  | 0 => by
    have := Int.emod_nonneg t (show p ≠ 0 by omega)
    rw [if_neg (by omega)]; rfl
  | n + 1 => by
    have h0 := Int.emod_nonneg t (show p ≠ 0 by omega)
    rw [nordP, flowAt_app, flow_nordP c F b p t hp n]
    have hc : ((n + 1 : Nat) : Int) = (n : Int) + 1 := by omega
    have key : flowAt (if nval c F b p (n : Int) = 0 then [] else [(p, (n : Int), nval c F b p (n : Int))]) t = if t % p = (n : Int) then nval c F b p (n : Int) else 0 := by
      by_cases hz : nval c F b p (n : Int) = 0
      · rw [if_pos hz, hz, flowAt_nil]; simp
      · rw [if_neg hz, flowAt_one]
    rw [key, hc]
    by_cases h : t % p < n
    · rw [if_pos h, if_neg (by omega), if_pos (by omega), Int.add_zero]
    · rw [if_neg h]
      by_cases h2 : t % p = n
      · rw [if_pos h2, if_pos (by omega), h2, Int.zero_add]
      · rw [if_neg h2, if_neg (by omega), Int.zero_add]
def atB (c : Int) (F : Int → Int) (b t : Int) : Int := if 0 < b then F (t % b + c - b) else 0
theorem flow_nordFrom (c : Int) (F : Int → Int) (t : Int) : ∀ (ps : List Int) (b : Int), 0 ≤ b → calFrom b ps → flowAt (nordFrom c F b ps) t = atB c F (lastD b ps) t - atB c F b t
  | [], b, _, _ => by rw [lastD_nil]; simp [nordFrom, flowAt_nil]
  | p :: r, b, hb, h => by
    obtain ⟨h1, h2, h3, h4⟩ := h
    have hp : 0 < p := by omega
    rw [nordFrom, flowAt_app, flow_nordFrom c F t r p (by omega) h4, lastD_cons, flow_nordP c F b p t hp]
    have hm := Int.emod_lt_of_pos t hp
    rw [if_pos (by omega)]
    unfold nval
    have e1 : atB c F p t = F (t % p + c - p) := by unfold atB; rw [if_pos hp]
    have e2 : (if 0 < b then F (t % p % b + c - b) else 0) = atB c F b t := by
      unfold atB
      by_cases hb0 : 0 < b
      · rw [if_pos hb0, if_pos hb0, Int.emod_emod_of_dvd _ (Int.dvd_of_emod_eq_zero (h3 hb0))]
      · rw [if_neg hb0, if_neg hb0]
    rw [e1, e2]; omega
theorem lastD_cyc (ps : List Int) : lastD 0 ps = cyc ps := rfl
/-- the normal form has the same flows -/
theorem flow_norm {ps : List Int} (h : CalOk ps) (F : Int → Int) (t : Int) : flowAt (norm ps F) t = F (t % cyc ps) := by
  have C := cal_cyc h
  have := C.pos
  unfold norm
  rw [flow_nordFrom _ F t ps 0 (Int.le_refl 0) h.2.2, lastD_cyc]
  unfold atB
  rw [if_pos this, if_neg (by omega)]
  congr 1
  have : t % cyc ps + cyc ps - cyc ps = t % cyc ps := by omega
  rw [this]; omega
theorem mem_nordP {c : Int} {F : Int → Int} {b p : Int} {o : Ord} : ∀ {n : Nat}, o ∈ nordP c F b p n → o.1 = p ∧ 0 ≤ o.2.1 ∧ o.2.1 < n ∧ o.2.2 = nval c F b p o.2.1 ∧ o.2.2 ≠ 0
  | 0, h => by simp [nordP] at h
  | n + 1, h => by
    rw [nordP] at h
    rcases List.mem_append.mp h with z | z
    · obtain ⟨h1, h2, h3, h4⟩ := mem_nordP z
      exact ⟨h1, h2, by omega, h4⟩
    · split at z
      · simp at z
      · rename_i hz
        simp at z
        rw [z]
        exact ⟨rfl, by show 0 ≤ (n : Int); omega, by show (n : Int) < (n + 1 : Nat); omega, rfl, hz⟩
/-- b stands right ahead of p -/
def Ahead (b0 : Int) : List Int → Int → Int → Prop
  | [], _, _ => False
  | q :: r, b, p => (b = b0 ∧ p = q) ∨ Ahead q r b p
theorem mem_nordFrom {c : Int} {F : Int → Int} {o : Ord} : ∀ {ps : List Int} {b : Int}, 0 ≤ b → calFrom b ps → o ∈ nordFrom c F b ps → o.1 ∈ ps ∧ 0 ≤ o.2.1 ∧ o.2.1 < o.1 ∧ o.2.2 ≠ 0 ∧ ∃ q, Ahead b ps q o.1 ∧ o.2.2 = nval c F q o.1 o.2.1
  | [], b, _, _, h => by simp [nordFrom] at h
  | p :: r, b, hb, hc, h => by
    obtain ⟨k1, k2, k3, k4⟩ := hc
    rw [nordFrom] at h
    rcases List.mem_append.mp h with z | z
    · obtain ⟨h1, h2, h3, h4, h5⟩ := mem_nordP z
      rw [h1]
      exact ⟨by simp, h2, by omega, h5, b, .inl ⟨rfl, rfl⟩, h4⟩
    · obtain ⟨h1, h2, h3, h4, q, h5, h6⟩ := mem_nordFrom (by omega) k4 z
      exact ⟨by simp [h1], h2, h3, h4, q, .inr h5, h6⟩
theorem norm_ok {ps : List Int} (h : CalOk ps) (F : Int → Int) : OrdsOk ps (norm ps F) := fun o ho => by
  obtain ⟨h1, h2, h3, h4, _⟩ := mem_nordFrom (Int.le_refl 0) h.2.2 ho
  exact ordB_iff.mpr ⟨h1, h2, h3, h4⟩
/-- strictly ascending by period and day -/
def ordLt (x y : Ord) : Prop := x.1 < y.1 ∨ x.1 = y.1 ∧ x.2.1 < y.2.1
theorem sorted_nordP {c : Int} {F : Int → Int} {b p : Int} : ∀ n, (nordP c F b p n).Pairwise ordLt
  | 0 => .nil
  | n + 1 => by
    rw [nordP, List.pairwise_append]
    refine ⟨sorted_nordP n, by split <;> simp, fun x hx y hy => ?_⟩
    obtain ⟨h1, h2, h3, _⟩ := mem_nordP hx
    split at hy
    · simp at hy
    · simp at hy; rw [hy]; exact .inr ⟨h1, by show x.2.1 < (n : Int); omega⟩
theorem sorted_nordFrom {c : Int} {F : Int → Int} : ∀ {ps : List Int} {b : Int}, 0 ≤ b → calFrom b ps → (nordFrom c F b ps).Pairwise ordLt
  | [], _, _, _ => .nil
  | p :: r, b, hb, hc => by
    obtain ⟨k1, k2, k3, k4⟩ := hc
    rw [nordFrom, List.pairwise_append]
    refine ⟨sorted_nordP _, sorted_nordFrom (by omega) k4, fun x hx y hy => ?_⟩
    obtain ⟨h1, _⟩ := mem_nordP hx
    have h2 := (mem_nordFrom (by omega) k4 hy).1
    have := (calFrom_all (by omega) k4 _ h2).1
    exact .inl (by rw [h1]; exact this)
theorem sorted_norm {ps : List Int} (h : CalOk ps) (F : Int → Int) : (norm ps F).Pairwise ordLt := sorted_nordFrom (Int.le_refl 0) h.2.2
/-- only the flows within a cycle count -/
theorem nordP_congr {c : Int} {F G : Int → Int} {b p : Int} (hp : 0 < p) (hpc : p ≤ c) (hb : b ≤ c) (h : ∀ t, 0 ≤ t → t < c → F t = G t) : ∀ n : Nat, (n : Int) ≤ p → nordP c F b p n = nordP c G b p n
  | 0, _ => rfl
  | n + 1, hn => by
    have e : nval c F b p (n : Int) = nval c G b p (n : Int) := by
      unfold nval
      rw [h _ (by omega) (by omega)]
      split
      · rename_i hb0
        have h1 := Int.emod_nonneg (n : Int) (show b ≠ 0 by omega)
        have h2 := Int.emod_lt_of_pos (n : Int) hb0
        rw [h _ (by omega) (by omega)]
      · rfl
    rw [nordP, nordP, nordP_congr hp hpc hb h n (by omega), e]
theorem nordFrom_congr {c : Int} {F G : Int → Int} (h : ∀ t, 0 ≤ t → t < c → F t = G t) : ∀ {ps : List Int} {b : Int}, 0 ≤ b → b ≤ c → calFrom b ps → (∀ p ∈ ps, p ≤ c) → nordFrom c F b ps = nordFrom c G b ps
  | [], _, _, _, _, _ => rfl
  | p :: r, b, hb, hbc, hc, hall => by
    obtain ⟨k1, k2, k3, k4⟩ := hc
    have hp := hall p (by simp)
    rw [nordFrom, nordFrom, nordFrom_congr h (by omega) hp k4 (fun q hq => hall q (by simp [hq])), nordP_congr (by omega) hp hbc h _ (by omega)]
theorem norm_congr {ps : List Int} (hc : CalOk ps) {F G : Int → Int} (h : ∀ t, 0 ≤ t → t < cyc ps → F t = G t) : norm ps F = norm ps G := by
  have C := cal_cyc hc
  have := C.pos
  exact nordFrom_congr h (Int.le_refl 0) (by omega) hc.2.2 (fun p hp => (C.per p hp).2.1)
theorem norm_norm {ps : List Int} (hc : CalOk ps) (F : Int → Int) : norm ps (flowAt (norm ps F)) = norm ps F :=
  norm_congr hc fun t h0 h1 => by rw [flow_norm hc, Int.emod_eq_of_lt h0 h1]
theorem flowsL_norm {ps : List Int} (hc : CalOk ps) (os : List Ord) : flowsL (cyc ps) (norm ps (flowAt os)) = flowsL (cyc ps) os := by
  unfold flowsL
  refine rowF_ext fun t ht => ?_
  rw [flow_norm hc, Int.emod_eq_of_lt (by omega) (by omega)]
/-! ### no last child -/
theorem nval_last {c : Int} {F : Int → Int} {b p d : Int} (hb : 0 < b) (hbp : p % b = 0) (h0 : p - b ≤ d) (h1 : d < p) : nval c F b p d = 0 := by
  unfold nval
  rw [if_pos hb]
  obtain ⟨k, hk⟩ := Int.dvd_of_emod_eq_zero hbp
  have : d % b = d - (p - b) := by
    have e : d = (d - (p - b)) + b * (k - 1) := by rw [Int.mul_sub, ← hk, Int.mul_one]; omega
    rw [e, Int.add_mul_emod_self_left, Int.emod_eq_of_lt (by omega) (by omega)]
    rw [Int.mul_sub, ← hk, Int.mul_one]; omega
  rw [this]
  have : d - (p - b) + c - b = d + c - p := by omega
  rw [this]; omega
/-- the greatest period below -/
theorem ahead_max : ∀ {ps : List Int} {b0 b p : Int}, 0 ≤ b0 → calFrom b0 ps → Ahead b0 ps b p → p ∈ ps ∧ (b = b0 ∨ b ∈ ps) ∧ b < p ∧ (0 < b → p % b = 0) ∧ ∀ q ∈ ps, q < p → q ≤ b
  | [], _, _, _, _, _, h => h.elim
  | a :: r, b0, b, p, hb, hc, h => by
    obtain ⟨k1, k2, k3, k4⟩ := hc
    rcases h with ⟨rfl, rfl⟩ | h
    · refine ⟨by simp, .inl rfl, k1, k3, fun q hq hlt => ?_⟩
      rcases List.mem_cons.mp hq with z | z
      · omega
      · have := (calFrom_all (by omega) k4 q z).1; omega
    · obtain ⟨h1, h2, h3, h4, h5⟩ := ahead_max (by omega) k4 h
      refine ⟨by simp [h1], .inr ?_, h3, h4, fun q hq hlt => ?_⟩
      · rcases h2 with z | z
        · simp [z]
        · simp [z]
      · rcases List.mem_cons.mp hq with z | z
        · rcases h2 with y | y
          · omega
          · have := (calFrom_all (by omega) k4 b y).1; omega
        · exact h5 q z hlt
/-! ### few orders have a short normal form -/
theorem nordP_add (c : Int) (F G : Int → Int) (b p : Int) : ∀ n, (nordP c (fun t => F t + G t) b p n).length ≤ (nordP c F b p n).length + (nordP c G b p n).length
  | 0 => by simp [nordP]
  | n + 1 => by
    have ih := nordP_add c F G b p n
    have e : nval c (fun t => F t + G t) b p (n : Int) = nval c F b p (n : Int) + nval c G b p (n : Int) := by
      unfold nval; split <;> simp only [] <;> omega
    rw [nordP, nordP, nordP, List.length_append, List.length_append, List.length_append, e]
    by_cases h1 : nval c F b p (n : Int) = 0
    · by_cases h2 : nval c G b p (n : Int) = 0
      · simp [h1, h2]; omega
      · simp [h1, h2]; omega
    · by_cases h2 : nval c G b p (n : Int) = 0
      · simp [h1, h2]; omega
      · simp only [h1, h2, if_false]
        split <;> simp <;> omega
theorem nordFrom_add (c : Int) (F G : Int → Int) : ∀ (ps : List Int) (b : Int), (nordFrom c (fun t => F t + G t) b ps).length ≤ (nordFrom c F b ps).length + (nordFrom c G b ps).length
  | [], _ => by simp [nordFrom]
  | p :: r, b => by
    have h1 := nordP_add c F G b p p.toNat
    have h2 := nordFrom_add c F G r p
    simp only [nordFrom, List.length_append]
    omega
theorem nodupLen {α : Type} [DecidableEq α] : ∀ {l m : List α}, l.Nodup → (∀ x ∈ l, x ∈ m) → l.length ≤ m.length
  | [], _, _, _ => Nat.zero_le _
  | x :: l, m, hn, hs => by
    have hx : x ∈ m := hs x (by simp)
    obtain ⟨h1, h2⟩ := List.nodup_cons.mp hn
    have := nodupLen (l := l) (m := m.erase x) h2 fun y hy => (List.mem_erase_of_ne (by intro z; exact h1 (z ▸ hy))).mpr (hs y (by simp [hy]))
    rw [List.length_erase_of_mem hx] at this
    have : 0 < m.length := List.length_pos_of_mem hx
    simp only [List.length_cons]
    omega
theorem nordP_len {c : Int} {F : Int → Int} {b p : Int} {n : Nat} {cand : List Int} (h : ∀ d : Int, 0 ≤ d → d < n → nval c F b p d ≠ 0 → d ∈ cand) : (nordP c F b p n).length ≤ cand.length := by
  have : ((nordP c F b p n).map fun o => o.2.1).length ≤ cand.length := by
    refine nodupLen ?_ fun d hd => ?_
    · rw [List.nodup_iff_pairwise_ne, List.pairwise_map]
      refine List.Pairwise.imp_of_mem (fun {x y} hx hy hlt => ?_) (sorted_nordP n)
      have h1 := (mem_nordP hx).1
      have h2 := (mem_nordP hy).1
      rcases hlt with z | z
      · omega
      · omega
    · obtain ⟨o, ho, rfl⟩ := List.mem_map.mp hd
      obtain ⟨h1, h2, h3, h4, h5⟩ := mem_nordP ho
      exact h _ h2 h3 (by rw [← h4]; exact h5)
  rwa [List.length_map] at this

theorem calFrom_dvdR : ∀ {r : List Int} {p : Int}, 0 < p → calFrom p r → ∀ q ∈ r, p ∣ q
  | a :: r, p, hp, h, q, hq => by
    obtain ⟨k1, k2, k3, k4⟩ := h
    have hd := Int.dvd_of_emod_eq_zero (k3 hp)
    rcases List.mem_cons.mp hq with z | z
    · rw [z]; exact hd
    · exact Int.dvd_trans hd (calFrom_dvdR (by omega) k4 q z)
theorem mod_back {c P p d : Int} (hP : 0 < P) (hPc : P ∣ c) (hp : 0 < p) (hpP : p ≤ P) (h0 : 0 ≤ d) (h1 : d < p) : (d + c - p) % P = d + P - p := by
  obtain ⟨k, rfl⟩ := hPc
  have e : d + P * k - p = (d + P - p) + P * (k - 1) := by rw [Int.mul_sub, Int.mul_one]; omega
  rw [e, Int.add_mul_emod_self_left, Int.emod_eq_of_lt (by omega) (by omega)]
theorem mod_far {c P p d : Int} (hPc : P ∣ c) (hPp : P ∣ p) : (d + c - p) % P = d % P := by
  obtain ⟨k, rfl⟩ := hPc
  obtain ⟨l, rfl⟩ := hPp
  have e : d + P * k - P * l = d + P * (k - l) := by rw [Int.mul_sub]; omega
  rw [e, Int.add_mul_emod_self_left]
theorem one_len {c b p P D a : Int} (hP : 0 < P) (hPc : P ∣ c) (hD0 : 0 ≤ D) (hDP : D < P) (hp : 0 < p) (hbp : b < p) (hb0 : 0 ≤ b) (hd : 0 < b → p % b = 0) (h4 : 0 < b → p ≤ 4 * b) (hrel : (p ∣ P ∧ p ≤ P) ∨ (0 < b ∧ P ∣ b)) :
    (nordP c (flowAt [(P, D, a)]) b p p.toNat).length ≤ if 0 < b then 3 else 1 := by
  have hF : ∀ t, flowAt [(P, D, a)] t = if t % P = D then a else 0 := fun t => flowAt_one _ t
  rcases hrel with ⟨hpP, hle⟩ | ⟨hb, hPb⟩
  · have hv : ∀ d : Int, 0 ≤ d → d < p → flowAt [(P, D, a)] (d + c - p) = if d + P - p = D then a else 0 := fun d h0 h1 => by rw [hF, mod_back hP hPc hp hle h0 h1]
    by_cases hb : 0 < b
    · rw [if_pos hb]
      have hvb : ∀ d : Int, flowAt [(P, D, a)] (d % b + c - b) = if d % b + P - b = D then a else 0 := fun d => by
        rw [hF, mod_back hP hPc hb (by omega) (Int.emod_nonneg d (by omega)) (Int.emod_lt_of_pos d hb)]
      by_cases hr : 0 ≤ D + b - P
      · refine nordP_len (cand := [D + b - P, D + b - P + b, D + b - P + 2 * b]) fun d h0 h1 hne => ?_
        have hlt : d < p - b := by
          apply Int.not_le.mp
          intro z
          exact hne (nval_last hb (hd hb) z (by omega))
        have hm : d % b = D + b - P := by
          apply Decidable.byContradiction
          intro z
          apply hne
          unfold nval
          rw [if_pos hb, hv d h0 (by omega), hvb, if_neg (by omega), if_neg (by omega)]; rfl
        have h4' := h4 hb
        have e := Int.emod_add_mul_ediv d b
        have q0 : 0 ≤ d / b := Int.ediv_nonneg h0 (by omega)
        have q3 : d / b < 3 := Int.ediv_lt_of_lt_mul hb (by omega)
        have : d / b = 0 ∨ d / b = 1 ∨ d / b = 2 := by omega
        simp only [List.mem_cons, List.not_mem_nil, or_false]
        rcases this with z | z | z <;> rw [z] at e <;> omega
      · refine Nat.le_trans (nordP_len (cand := [D + p - P]) fun d h0 h1 hne => ?_) (by simp)
        have hm := Int.emod_nonneg d (show b ≠ 0 by omega)
        simp only [List.mem_cons, List.not_mem_nil, or_false]
        apply Decidable.byContradiction
        intro z
        apply hne
        unfold nval
        rw [if_pos hb, hv d h0 (by omega), hvb, if_neg (by omega), if_neg (by omega)]; rfl
    · rw [if_neg hb]
      refine nordP_len (cand := [D + p - P]) fun d h0 h1 hne => ?_
      simp only [List.mem_cons, List.not_mem_nil, or_false]
      apply Decidable.byContradiction
      intro z
      apply hne
      unfold nval
      rw [if_neg hb, hv d h0 (by omega), if_neg (by omega)]; rfl
  · rw [if_pos hb]
    have hbd : b ∣ p := Int.dvd_of_emod_eq_zero (hd hb)
    refine Nat.le_trans (nordP_len (cand := []) fun d h0 h1 hne => ?_) (by decide)
    apply absurd _ hne
    unfold nval
    rw [if_pos hb, hF, hF, mod_far hPc (Int.dvd_trans hPb hbd), mod_far hPc hPb, Int.emod_emod_of_dvd _ hPb]; omega
theorem one_from {c P D a : Int} (hP : 0 < P) (hPc : P ∣ c) (hD0 : 0 ≤ D) (hDP : D < P) : ∀ {ps : List Int} {b : Int}, 0 ≤ b → calFrom b ps → rat4 b ps → (P ∈ ps ∨ (0 < b ∧ P ∣ b)) →
    (nordFrom c (flowAt [(P, D, a)]) b ps).length ≤ if 0 < b then 3 * ps.length else 3 * ps.length - 2
  | [], b, _, _, _, _ => by simp [nordFrom]
  | p :: r, b, hb, hc, h4, hrel => by
    obtain ⟨k1, k2, k3, k4⟩ := hc
    have hp : 0 < p := by omega
    have h1 : (nordP c (flowAt [(P, D, a)]) b p p.toNat).length ≤ if 0 < b then 3 else 1 := by
      refine one_len hP hPc hD0 hDP hp k1 hb k3 h4.1 ?_
      rcases hrel with z | z
      · rcases List.mem_cons.mp z with y | y
        · exact .inl ⟨by rw [y]; exact Int.dvd_refl _, by omega⟩
        · exact .inl ⟨calFrom_dvdR hp k4 P y, by have := (calFrom_all (by omega) k4 P y).1; omega⟩
      · exact .inr z
    have h2 : (nordFrom c (flowAt [(P, D, a)]) p r).length ≤ if 0 < p then 3 * r.length else 3 * r.length - 2 := by
      refine one_from hP hPc hD0 hDP (by omega) k4 h4.2 ?_
      rcases hrel with z | z
      · rcases List.mem_cons.mp z with y | y
        · exact .inr ⟨hp, by rw [y]; exact Int.dvd_refl _⟩
        · exact .inl y
      · exact .inr ⟨hp, Int.dvd_trans z.2 (Int.dvd_of_emod_eq_zero (k3 z.1))⟩
    rw [if_pos hp] at h2
    rw [nordFrom, List.length_append, List.length_cons]
    split at h1 <;> rename_i hb0
    · rw [if_pos hb0]; omega
    · rw [if_neg hb0]; omega
theorem zero_len (c : Int) : ∀ (ps : List Int) (b : Int), (nordFrom c (flowAt []) b ps).length = 0
  | [], _ => rfl
  | p :: r, b => by
    have h1 : (nordP c (flowAt []) b p p.toNat).length ≤ 0 := nordP_len (cand := []) fun d _ _ hne => absurd (by unfold nval; split <;> rfl) hne
    rw [nordFrom, List.length_append, zero_len c r p]; omega
theorem norm_len {ps : List Int} (hc : CalOk ps) (h4 : rat4 0 ps) : ∀ {os : List Ord}, OrdsOk ps os → (norm ps (flowAt os)).length ≤ (3 * ps.length - 2) * os.length
  | [], _ => by unfold norm; rw [zero_len]; exact Nat.zero_le _
  | o :: os, ho => by
    have ih := norm_len hc h4 (os := os) fun q hq => ho q (by simp [hq])
    have C := cal_cyc hc
    obtain ⟨k1, k2, k3, k4⟩ := ordB_iff.mp (ho o (by simp))
    have h1 : (nordFrom (cyc ps) (flowAt [o]) 0 ps).length ≤ 3 * ps.length - 2 := one_from (P := o.1) (D := o.2.1) (a := o.2.2) (C.per _ k1).1 (C.per _ k1).2.2 k2 k3 (Int.le_refl 0) hc.2.2 h4 (.inl k1)
    have h2 := nordFrom_add (cyc ps) (flowAt [o]) (flowAt os) ps 0
    have e : (fun t => flowAt [o] t + flowAt os t) = flowAt (o :: os) := funext fun t => (flowAt_cons o os t).symm
    rw [e] at h2
    unfold norm at ih ⊢
    rw [List.length_cons, Nat.mul_add, Nat.mul_one]
    omega
end DL
set_option maxRecDepth 100000
set_option maxHeartbeats 4000000
namespace DL
open PySem L2
local macro_rules | `(tactic| walk_at "dl") => `(tactic| simp only [wRet, wRetN, wSeq, wAsg, wIfS, wDrop, wNext, wVar, wC, wOp, wUn, wFn, wNil, wCons, wTest, wNot, wAnd, wOr, wAndV, wOrV, wNotV, wIf, wChain, wTup, wLst, wCall, wNever, gN, gT, gNil, gCons, gIx, wI, wI0, wNeg, wMax2, wMin2, wLen, wIsN, wNotN, isNon_non, isNon_bl, isNon_int, isNon_str, isNon_lst, isNon_tup, isNon_cell, wIx, wTuple, wAug, wAugIx, wPar, wPar3, wSlL, wSlT, wPart, wNoPart, wCatT, wIsi, wIsi2, isiT, tyD_non, tyD_bl, tyD_int, tyD_str, tyD_lst, tyD_tup, tyD_cell, coTy_lst, seqD_lst, seqD_tp, seqD_cell, coSeq_lst, seen_dat, seen_cell, coDat_lst, startD, wYes, wApp, wEq_int, wEq_bl, allDat_nil, allDat_cons, allDat_map, Option.map_some, List.map_cons, List.map_nil, List.cons_append, List.nil_append, List.length_cons, List.length_nil, List.replicate, List.getElem?_cons_zero, List.getElem?_cons_succ, List.set_cons_zero, List.set_cons_succ, Option.some.injEq, exists_eq_left', exists_eq_left, exists_and_left, exists_eq', exists_eq, Vl.dat.injEq, Vl.raw.injEq, V.ref.injEq, CO.lst.injEq, Dat.int.injEq, Dat.bl.injEq, Dat.tup.injEq, Dat.lst.injEq, List.cons.injEq, and_true, true_and, retE, Nat.reduceAdd, Nat.reduceSub, and_assoc, Prod.mk.injEq, if_true, if_false, Bool.false_eq_true, decide_eq_true_eq, Bool.not_true, Bool.not_false, Bool.not_eq_true', decide_eq_false_iff_not, if_false_left, if_false_right, beq_iff_eq, Bool.or_eq_true, Bool.and_eq_true, Bool.or_self, Bool.or_true, Bool.true_or, Bool.or_false, Bool.false_or, decide_true, decide_false, reduceCtorEq, Cells.put_same, gt_iff_lt, ge_iff_le, beq_self_eq_true, bne_self_eq_false, Bool.decide_eq_true, not_true_eq_false, not_false_eq_true, Decidable.not_not, false_and, and_false, Bool.not_eq_false, at_0, at_1, at_2, at_3, at_4, at_5, ix_0, ix_1, ix_2, ix_3, Nat.reduceLT, Int.reduceLT, Int.reduceLE, Int.reduceNeg, Int.reduceAdd, Int.reduceSub, Int.reduceEq, Int.reducePow, Int.reduceToNat, Cells.put_put])
/-! ### normal_list, normal_orders -/
def sp_normal_list : DSp := fun xs cs Q _ => ∃ (ps : List Int) (F : Int → Int) (x : Vl), xs = [.dat (cal ps), x] ∧ CalOk ps ∧ seqD cs x = some (true, iV (rowF (cyc ps).toNat fun t => F (t : Int))) ∧ Q (.dat (.lst (ordsD (norm ps F)))) cs
theorem len_normal_list : ∀ xs cs Q XP, sp_normal_list xs cs Q XP → xs.length = 2 := by rintro xs cs Q XP ⟨ps, F, x, rfl, _⟩; rfl
def w_normal_list : WS := (wSeq (wPar3 2 3 4 (wCons (wOp wIx (wVar 0) (wUn wNeg (wC (.int 1)))) (wCons (wC .non) (wCons (wLst wNil) wNil))))
    (wSeq (wFor (wiSeq (wVar 0)) (gN 5) (wSeq (wFor (wiRng1 (wCons (wVar 5) wNil)) (gN 6) (wSeq (wAsg (wOp wIx (wVar 1) (wOp wSub (wOp wAdd (wVar 6) (wVar 2)) (wVar 5))) (gN 7))
    (wSeq (wIfS (wTest (wOp wNotN (wVar 3) (wC .non))) (wAug 7 (wOp wIx (wVar 1) (wOp wSub (wOp wAdd (wOp wMod (wVar 6) (wVar 3)) (wVar 2)) (wVar 3))) (fun i j => i - j)) wNext)
    (wIfS (wTest (wOp (wEqD true) (wVar 7) (wC (.int 0)))) (wDrop (wApp (wVar 4) (wTup (wCons (wVar 5) (wCons (wVar 6) (wCons (wVar 7) wNil)))))) wNext))))
    (wAsg (wVar 5) (gN 3))))
    (wRet (wVar 4))))
theorem prev_last {ps : List Int} {i : Nat} (hi : i ≤ ps.length) : lastD 0 (ps.take i) = prevOf ps i := by
  unfold lastD prevOf
  by_cases h : i = 0
  · subst h; rfl
  · rw [if_neg h, List.getLast?_take, if_neg h]
    cases e : ps[i - 1]? with
    | none => rw [List.getElem?_eq_none_iff] at e; omega
    | some z => rfl
def prevV (ps : List Int) (i : Nat) : Vl := if i = 0 then .non else .int (prevOf ps i)
theorem ordsD_app (xs ys : List Ord) : ordsD (xs ++ ys) = ordsD xs ++ ordsD ys := by simp [ordsD]
theorem nordP_le (c : Int) (F : Int → Int) (b p : Int) : ∀ n, (nordP c F b p n).length ≤ n
  | 0 => Nat.le_refl _
  | n + 1 => by
    have := nordP_le c F b p n
    rw [nordP, List.length_append]
    split <;> simp <;> omega
theorem row_at {c : Int} {F : Int → Int} {t : Int} (h0 : 0 ≤ t) (h1 : t < c) : atI (iV (rowF c.toNat fun t => F (t : Int))) t = some (.int (F t)) := by
  refine atI_int h0 (iV_get ?_)
  rw [rowF_get (by omega), Int.toNat_of_nonneg h0]
theorem pure_normal_list (K : Frag) : ∀ xs cs Q XP, sp_normal_list xs cs Q XP → w_normal_list (retE K Q) (startD 8 xs) cs := by
  rintro xs cs Q XP ⟨ps, F, x, rfl, hc, hx, q⟩
  have C := cal_cyc hc
  unfold norm at q
  generalize cyc ps = c at C q hx
  have hpos := C.pos
  have hle := C.le
  unfold w_normal_list
  walk_at "dl"
  refine ⟨_, _, seqD_cal, _, atI_cyc C, by decide, .inl fun p hp => ?_⟩
  walk_at "dl"
  simp only [wFor, wiSeq]
  walk_at "dl"
  refine ⟨_, _, seqD_cal, fun i ρ cs' => cs' = cs.put p (.lst ((ordsD (nordFrom c F 0 (ps.take i))).map .dat)) ∧ (nordFrom c F 0 (ps.take i)).length ≤ 400 * i ∧ ∃ a5 a6 a7, ρ = [some (.dat (cal ps)), some x, some (.int c), some (prevV ps i), some (.cell p), a5, a6, a7], ⟨rfl, by simp [nordFrom], _, _, _, rfl⟩, fun _ _ _ _ _ => seqD_cal, ?_, ?_⟩
  · rintro i v ρ cs' hv ⟨rfl, hlen, a5, a6, a7, rfl⟩
    unfold iV at hv
    rw [List.getElem?_map] at hv
    obtain ⟨P, hP, rfl⟩ := Option.map_eq_some_iff.mp hv
    have hil := (List.getElem?_eq_some_iff.mp hP).1
    obtain ⟨k1, k2, k3⟩ := calFrom_prev hc.2.2 hP
    obtain ⟨p1, p2, p3⟩ := C.per P (List.mem_of_getElem? hP)
    have hb0 : 0 ≤ prevOf ps i := by
      unfold prevOf
      split
      · omega
      · cases e : ps[i - 1]? with
        | none => simp
        | some z => have := (C.per z (List.mem_of_getElem? e)).1; simp; omega
    have hbpos : i ≠ 0 → 0 < prevOf ps i := fun h0 => by
      unfold prevOf
      rw [if_neg h0]
      have : i - 1 < ps.length := by omega
      rw [List.getElem?_eq_getElem this]
      exact (C.per _ (List.getElem_mem this)).1
    have hbz : i = 0 → prevOf ps i = 0 := fun h0 => by unfold prevOf; rw [if_pos h0]
    generalize hB : prevOf ps i = B at k1 k3 hb0 hbpos hbz
    generalize hacc : nordFrom c F 0 (ps.take i) = acc at hlen
    walk_at "dl"
    simp only [wFor, wiRng1]
    walk_at "dl"
    refine ⟨by omega, by omega, fun j ρ cs' => cs' = cs.put p (.lst ((ordsD (acc ++ nordP c F B P j)).map .dat)) ∧ ∃ a6 a7, ρ = [some (.dat (cal ps)), some x, some (.int c), some (prevV ps i), some (.cell p), some (.int P), a6, a7], ⟨by simp [nordP], _, _, rfl⟩, fun _ _ _ _ _ => trivial, ?_, ?_⟩
    · rintro j v ρ cs' hv ⟨rfl, a6, a7, rfl⟩
      obtain ⟨hj, rfl⟩ := rangeD_at hv
      walk_at "dl"
      simp only [Int.mul_one, Int.zero_add]
      refine ⟨_, _, seqD_put hp hx, _, row_at (by omega) (by omega), ?_⟩
      have hn := nordP_le c F B P j
      have fin : ∀ v : Int, v = nval c F B P (j : Int) → v ≠ 0 → ((ordsD (acc ++ nordP c F B P j)).map Vl.dat) ++ [.dat (ord (P, (j : Int), v))] = (ordsD (acc ++ nordP c F B P (j + 1))).map Vl.dat := fun v hv hne => by
        rw [nordP, if_neg (by rw [← hv]; exact hne), ← List.append_assoc, ordsD_app _ [_], List.map_append, ← hv]; rfl
      have fin0 : nval c F B P (j : Int) = 0 → acc ++ nordP c F B P (j + 1) = acc ++ nordP c F B P j := fun hz => by
        rw [nordP, if_pos hz, List.append_nil]
      have hlenl : ((ordsD (acc ++ nordP c F B P j)).map Vl.dat).length < 16777216 := by
        simp only [ordsD, List.length_map, List.length_append]
        have := hc.2.1
        omega
      by_cases hi0 : i = 0
      · have hv0 : nval c F B P (j : Int) = F ((j : Int) + c - P) := by
          unfold nval; rw [hbz hi0]; simp
        unfold prevV
        rw [if_pos hi0]
        walk_at "dl"
        by_cases hz : F ((j : Int) + c - P) = 0
        · rw [if_neg (by simpa using hz), fin0 (by rw [hv0]; exact hz)]
        · rw [if_pos (by simpa using hz)]
          refine ⟨by decide, hlenl, ?_⟩
          rw [← fin _ hv0.symm hz]; rfl
      · have hBp := hbpos hi0
        have m0 := Int.emod_nonneg (j : Int) (show B ≠ 0 by omega)
        have m1 := Int.emod_lt_of_pos (j : Int) hBp
        have hv0 : nval c F B P (j : Int) = F ((j : Int) + c - P) - F ((j : Int) % B + c - B) := by
          unfold nval; rw [if_pos hBp]
        unfold prevV
        rw [if_neg hi0, hB]
        walk_at "dl"
        refine ⟨hBp, _, _, seqD_put hp hx, _, row_at (by omega) (by omega), ?_⟩
        walk_at "dl"
        by_cases hz : F ((j : Int) + c - P) - F ((j : Int) % B + c - B) = 0
        · rw [if_neg (by simpa using hz), fin0 (by rw [hv0]; exact hz)]
        · rw [if_pos (by simpa using hz)]
          refine ⟨by decide, hlenl, ?_⟩
          rw [← fin _ hv0.symm hz]; rfl
    · rintro ρ cs' ⟨rfl, a6, a7, rfl⟩
      walk_at "dl"
      rw [rangeD_len]
      have e : nordFrom c F 0 (ps.take (i + 1)) = acc ++ nordP c F B P P.toNat := by
        rw [take_snoc hP, nordFrom_snoc, hacc, prev_last (by omega), hB]
      have hn := nordP_le c F B P P.toNat
      have e2 : prevV ps (i + 1) = .int P := by
        unfold prevV prevOf
        rw [if_neg (by omega), if_neg (by omega), Nat.add_sub_cancel, hP]; rfl
      rw [e, e2]
      refine ⟨rfl, ?_, rfl⟩
      rw [List.length_append]; omega
  · rintro ρ cs' ⟨rfl, hlen, a5, a6, a7, rfl⟩
    walk_at "dl"
    rw [iV_len, List.take_of_length_le (Nat.le_refl _)]
    refine ⟨_, _, Gh.frz Cells.put_same, ?_⟩
    rw [Cells.del_put hp]
    exact q
def sp_normal_orders : DSp := fun xs cs Q _ => ∃ (ps : List Int) (os : List Ord) (b : Bool), xs = [.dat (cal ps), .dat (seqd b (ordsD os))] ∧ CalOk ps ∧ OrdsOk ps os ∧ Q (.dat (.lst (ordsD (norm ps (flowAt os))))) cs
theorem len_normal_orders : ∀ xs cs Q XP, sp_normal_orders xs cs Q XP → xs.length = 2 := by rintro xs cs Q XP ⟨ps, F, x, rfl, _⟩; rfl
def w_normal_orders : WS := (wSeq (wDrop (wCall sp_validate_orders (wCons (wVar 0) (wCons (wVar 1) wNil))))
    (wRet (wCall sp_normal_list (wCons (wVar 0) (wCons (wCall sp_flow_list (wCons (wVar 0) (wCons (wVar 1) wNil))) wNil)))))
theorem pure_normal_orders (K : Frag) : ∀ xs cs Q XP, sp_normal_orders xs cs Q XP → w_normal_orders (retE K Q) (startD 2 xs) cs := by
  rintro xs cs Q XP ⟨ps, os, b, rfl, hc, ho, q⟩
  unfold w_normal_orders
  walk_at "dl"
  refine ⟨ps, os, b, rfl, hc, ho, ps, os, b, rfl, hc, ho, fun p hp => ⟨ps, flowAt os, .cell p, rfl, hc, ?_, ?_⟩⟩
  · rw [seqD_cell, Cells.put_same, coSeq_lst]; rfl
  · exact .drop (SubC.put hp) q
end DL
set_option maxRecDepth 100000
set_option maxHeartbeats 4000000
namespace DL
open PySem L2
local macro_rules | `(tactic| walk_at "dl") => `(tactic| simp only [wRet, wRetN, wSeq, wAsg, wIfS, wDrop, wNext, wVar, wC, wOp, wUn, wFn, wNil, wCons, wTest, wNot, wAnd, wOr, wAndV, wOrV, wNotV, wIf, wChain, wTup, wLst, wCall, wNever, gN, gT, gNil, gCons, gIx, wI, wI0, wNeg, wMax2, wMin2, wLen, wIsN, wNotN, isNon_non, isNon_bl, isNon_int, isNon_str, isNon_lst, isNon_tup, isNon_cell, wIx, wTuple, wAug, wAugIx, wPar, wPar3, wSlL, wSlT, wPart, wNoPart, wCatT, wIsi, wIsi2, isiT, tyD_non, tyD_bl, tyD_int, tyD_str, tyD_lst, tyD_tup, tyD_cell, coTy_lst, seqD_lst, seqD_tp, seqD_cell, coSeq_lst, seen_dat, seen_cell, coDat_lst, startD, wYes, wApp, wEq_int, wEq_bl, allDat_nil, allDat_cons, allDat_map, Option.map_some, List.map_cons, List.map_nil, List.cons_append, List.nil_append, List.length_cons, List.length_nil, List.replicate, List.getElem?_cons_zero, List.getElem?_cons_succ, List.set_cons_zero, List.set_cons_succ, Option.some.injEq, exists_eq_left', exists_eq_left, exists_and_left, exists_eq', exists_eq, Vl.dat.injEq, Vl.raw.injEq, V.ref.injEq, CO.lst.injEq, Dat.int.injEq, Dat.bl.injEq, Dat.tup.injEq, Dat.lst.injEq, List.cons.injEq, and_true, true_and, retE, Nat.reduceAdd, Nat.reduceSub, and_assoc, Prod.mk.injEq, if_true, if_false, Bool.false_eq_true, decide_eq_true_eq, Bool.not_true, Bool.not_false, Bool.not_eq_true', decide_eq_false_iff_not, if_false_left, if_false_right, beq_iff_eq, Bool.or_eq_true, Bool.and_eq_true, Bool.or_self, Bool.or_true, Bool.true_or, Bool.or_false, Bool.false_or, decide_true, decide_false, reduceCtorEq, Cells.put_same, gt_iff_lt, ge_iff_le, beq_self_eq_true, bne_self_eq_false, Bool.decide_eq_true, not_true_eq_false, not_false_eq_true, Decidable.not_not, false_and, and_false, Bool.not_eq_false, at_0, at_1, at_2, at_3, at_4, at_5, ix_0, ix_1, ix_2, ix_3, Nat.reduceLT, Int.reduceLT, Int.reduceLE, Int.reduceNeg, Int.reduceAdd, Int.reduceSub, Int.reduceEq, Int.reducePow, Int.reduceToNat, Cells.put_put])
/-! ### _law_is_last_child -/
def sp_law_is_last_child : DSp := fun xs cs Q _ => ∃ (ps : List Int) (o : Ord) (b : Int), xs = [.dat (cal ps), .dat (ord o)] ∧ CalOk ps ∧ Ahead 0 ps b o.1 ∧ (0 < b → o.2.1 < o.1 - b) ∧ Q (.bl false) cs
theorem len_law_is_last_child : ∀ xs cs Q XP, sp_law_is_last_child xs cs Q XP → xs.length = 2 := by rintro xs cs Q XP ⟨ps, F, x, rfl, _⟩; rfl
def w_law_is_last_child : WS := (wSeq (wAsg (wLc (wiSeq (wVar 0)) (gN 3) (wTest (wOp wLt (wVar 3) (wOp wIx (wVar 1) (wC (.int 0))))) (wVar 3) [3]) (gN 2))
    (wRet (wAndV (wOp (wEqD true) (wVar 2) (wLst wNil)) (wOp wGe (wOp wIx (wVar 1) (wC (.int 1))) (wOp wSub (wOp wIx (wVar 1) (wC (.int 0))) (wFn wMax (wCons (wVar 2) wNil)))))))
theorem take_filter {α : Type} {f : α → Bool} {xs : List α} {i : Nat} {x : α} (h : xs[i]? = some x) : (xs.take (i + 1)).filter f = (xs.take i).filter f ++ if f x then [x] else [] := by
  rw [take_snoc h, List.filter_append]
  congr 1
  rw [List.filter_cons]
  split <;> simp_all
theorem lvI (ns : List Int) (h : ns.length ≤ 16777216) : (Dat.lst (iD ns)).lv 1 := ⟨by simpa [iD] using h, fun x hx => by
  unfold iD at hx
  obtain ⟨n, _, rfl⟩ := List.mem_map.mp hx
  trivial⟩
theorem pure_law_is_last_child (K : Frag) : ∀ xs cs Q XP, sp_law_is_last_child xs cs Q XP → w_law_is_last_child (retE K Q) (startD 4 xs) cs := by
  rintro xs cs Q XP ⟨ps, ⟨P, D, a⟩, b, rfl, hc, hb, hlt, q⟩
  have C := cal_cyc hc
  obtain ⟨m1, m2, m3, m4, m5⟩ := ahead_max (Int.le_refl 0) hc.2.2 hb
  simp only at m1 m3 m4 m5 hlt
  unfold w_law_is_last_child
  walk_at "dl"
  simp only [wLc, wiSeq]
  walk_at "dl"
  refine ⟨_, _, seqD_cal, fun N hN => ?_⟩
  refine ⟨fun i cs' => cs' = cs.put N (.lst (iV ((ps.take i).filter fun x => decide (x < P)))), rfl, fun _ _ _ _ => seqD_cal, ?_, ?_⟩
  · rintro i v cs' hv rfl
    unfold iV at hv
    rw [List.getElem?_map] at hv
    obtain ⟨x, hx, rfl⟩ := Option.map_eq_some_iff.mp hv
    have hil := (List.getElem?_eq_some_iff.mp hx).1
    have h5 := hc.2.1
    simp only [wipeD, ord]
    walk_at "dl"
    rw [take_filter hx]
    by_cases h : x < P
    · rw [if_pos h, if_pos (by simpa using h)]
      refine ⟨?_, by rw [← iV_app]; rfl⟩
      rw [iV_len]
      have := List.length_filter_le (fun x => decide (x < P)) (ps.take i)
      rw [List.length_take] at this
      omega
    · rw [if_neg h, if_neg (by simpa using h), List.append_nil]
  · rintro cs' rfl
    rw [iV_len, List.take_of_length_le (Nat.le_refl _)]
    generalize hfl : ps.filter (fun x => decide (x < P)) = bs
    have hmem : ∀ x, x ∈ bs ↔ x ∈ ps ∧ x < P := fun x => by rw [← hfl, List.mem_filter]; simp
    have hbl : bs.length ≤ 5 := by
      have := List.length_filter_le (fun x => decide (x < P)) ps
      rw [hfl] at this
      have := hc.2.1
      omega
    refine ⟨_, Cells.put_same, .inr ⟨_, allDat_iV _, ?_⟩⟩
    rw [Cells.del_put hN]
    walk_at "dl"
    refine ⟨by decide, .inr ⟨[], rfl, ?_⟩⟩
    refine wEq_of 1 (by decide) rfl rfl (lvI bs (by omega)) lst_nil_lv (fun he => ?_) (fun he => ?_)
    · walk_at "dl"
      exact .now q
    · simp only [ord]
      walk_at "dl"
      have hne : bs ≠ [] := fun z => he (by rw [z]; rfl)
      obtain ⟨x0, hx0⟩ := List.exists_mem_of_ne_nil bs hne
      have hx0' := (hmem x0).mp hx0
      have hbm : b ∈ bs := by
        rcases m2 with z | z
        · have := m5 x0 hx0'.1 hx0'.2
          have := (C.per x0 hx0'.1).1
          omega
        · exact (hmem b).mpr ⟨z, m3⟩
      have hb0 := (C.per b ((hmem b).mp hbm).1).1
      simp only [wMax]
      walk_at "dl"
      refine ⟨bs, by rw [iD_map]; rfl, List.length_pos_of_mem hbm, fun m hm hle => ?_⟩
      have h1 := hle b hbm
      have h2 := m5 m ((hmem m).mp hm).1 ((hmem m).mp hm).2
      have : m = b := by omega
      subst this
      refine .now ?_
      have := hlt hb0
      rw [decide_eq_false (by omega)]
      exact q
end DL
set_option maxRecDepth 100000
set_option maxHeartbeats 4000000
namespace DL
open PySem L2
local macro_rules | `(tactic| walk_at "dl") => `(tactic| simp only [wRet, wRetN, wSeq, wAsg, wIfS, wDrop, wNext, wVar, wC, wOp, wUn, wFn, wNil, wCons, wTest, wNot, wAnd, wOr, wAndV, wOrV, wNotV, wIf, wChain, wTup, wLst, wCall, wNever, gN, gT, gNil, gCons, gIx, wI, wI0, wNeg, wMax2, wMin2, wLen, wIsN, wNotN, isNon_non, isNon_bl, isNon_int, isNon_str, isNon_lst, isNon_tup, isNon_cell, wIx, wTuple, wAug, wAugIx, wPar, wPar3, wSlL, wSlT, wPart, wNoPart, wCatT, wIsi, wIsi2, isiT, tyD_non, tyD_bl, tyD_int, tyD_str, tyD_lst, tyD_tup, tyD_cell, coTy_lst, seqD_lst, seqD_tp, seqD_cell, coSeq_lst, seen_dat, seen_cell, coDat_lst, startD, wYes, wApp, wEq_int, wEq_bl, allDat_nil, allDat_cons, allDat_map, Option.map_some, List.map_cons, List.map_nil, List.cons_append, List.nil_append, List.length_cons, List.length_nil, List.replicate, List.getElem?_cons_zero, List.getElem?_cons_succ, List.set_cons_zero, List.set_cons_succ, Option.some.injEq, exists_eq_left', exists_eq_left, exists_and_left, exists_eq', exists_eq, Vl.dat.injEq, Vl.raw.injEq, V.ref.injEq, CO.lst.injEq, Dat.int.injEq, Dat.bl.injEq, Dat.tup.injEq, Dat.lst.injEq, List.cons.injEq, and_true, true_and, retE, Nat.reduceAdd, Nat.reduceSub, and_assoc, Prod.mk.injEq, if_true, if_false, Bool.false_eq_true, decide_eq_true_eq, Bool.not_true, Bool.not_false, Bool.not_eq_true', decide_eq_false_iff_not, if_false_left, if_false_right, beq_iff_eq, Bool.or_eq_true, Bool.and_eq_true, Bool.or_self, Bool.or_true, Bool.true_or, Bool.or_false, Bool.false_or, decide_true, decide_false, reduceCtorEq, Cells.put_same, gt_iff_lt, ge_iff_le, beq_self_eq_true, bne_self_eq_false, Bool.decide_eq_true, not_true_eq_false, not_false_eq_true, Decidable.not_not, false_and, and_false, Bool.not_eq_false, at_0, at_1, at_2, at_3, at_4, at_5, ix_0, ix_1, ix_2, ix_3, Nat.reduceLT, Int.reduceLT, Int.reduceLE, Int.reduceNeg, Int.reduceAdd, Int.reduceSub, Int.reduceEq, Int.reducePow, Int.reduceToNat, Cells.put_put])
/-! ### children of a residue -/
theorem cal_dvd : ∀ {ps : List Int} {b P L : Int}, 0 ≤ b → calFrom b ps → P ∈ ps → L ∈ ps → P < L → P ∣ L
  | a :: r, b, P, L, hb, hc, hP, hL, hlt => by
    obtain ⟨k1, k2, k3, k4⟩ := hc
    rcases List.mem_cons.mp hP with z | z
    · subst z
      rcases List.mem_cons.mp hL with y | y
      · omega
      · exact calFrom_dvdR (by omega) k4 L y
    · rcases List.mem_cons.mp hL with y | y
      · have := (calFrom_all (by omega) k4 P z).1
        omega
      · exact cal_dvd (by omega) k4 z y hlt
def kids (L D P a : Int) (n : Nat) : List Ord := (List.range n).map fun (k : Nat) => (L, D + (k : Int) * P, a)
theorem kids_succ (L D P a : Int) (n : Nat) : kids L D P a (n + 1) = kids L D P a n ++ [(L, D + (n : Int) * P, a)] := by simp [kids, List.range_succ]
theorem kid_iff {x D P : Int} {j : Nat} (hP : 0 < P) (h0 : 0 ≤ D) (h1 : D < P) : (x % P = D ∧ x < D + ((j + 1 : Nat) : Int) * P) ↔ ((x % P = D ∧ x < D + (j : Int) * P) ∨ x = D + (j : Int) * P) := by
  have e1 : ((j + 1 : Nat) : Int) * P = (j : Int) * P + P := by rw [Int.natCast_add, Int.add_mul]; simp
  constructor
  · rintro ⟨z1, z2⟩
    by_cases h : x < D + (j : Int) * P
    · exact .inl ⟨z1, h⟩
    · right
      have e2 := Int.emod_add_mul_ediv x P
      rw [z1] at e2
      have l1 : P * (x / P) < P * ((j : Int) + 1) := by rw [Int.mul_add, Int.mul_comm P j]; omega
      have l2 : P * (j : Int) ≤ P * (x / P) := by rw [Int.mul_comm P j]; omega
      have l3 := Int.lt_of_mul_lt_mul_left l1 (by omega)
      have l4 := Int.le_of_mul_le_mul_left l2 hP
      have : x / P = j := by omega
      rw [this, Int.mul_comm] at e2
      omega
  · rintro (⟨z1, z2⟩ | z)
    · exact ⟨z1, by omega⟩
    · subst z
      exact ⟨mod_near (t := 0) hP h0 h1, by omega⟩
theorem flow_kids {L D P a t : Int} (hP : 0 < P) (h0 : 0 ≤ D) (h1 : D < P) (hL : 0 < L) : ∀ n : Nat, flowAt (kids L D P a n) t = if t % L % P = D ∧ t % L < D + (n : Int) * P then a else 0
  | 0 => by
    have hm := Int.emod_nonneg t (show L ≠ 0 by omega)
    rw [if_neg]
    · rfl
    · rintro ⟨z1, z2⟩
      have z3 : t % L < D := by simpa using z2
      rw [Int.emod_eq_of_lt (by omega) (by omega)] at z1
      omega
  | n + 1 => by
    rw [kids_succ, flowAt_snoc, flow_kids hP h0 h1 hL n]
    have k := kid_iff (x := t % L) (j := n) hP h0 h1
    by_cases hx : t % L = D + (n : Int) * P
    · rw [if_neg (fun z => by omega), if_pos hx, if_pos (k.mpr (.inr hx)), Int.zero_add]
    · rw [if_neg (show ¬ t % (L, D + (n : Int) * P, a).1 = (L, D + (n : Int) * P, a).2.1 from hx), Int.add_zero]
      by_cases hy : t % L % P = D ∧ t % L < D + (n : Int) * P
      · rw [if_pos hy, if_pos (k.mpr (.inl hy))]
      · rw [if_neg hy, if_neg (fun z => (k.mp z).elim hy hx)]
theorem flow_allKids {L D P a t : Int} (hP : 0 < P) (h0 : 0 ≤ D) (h1 : D < P) (hPL : P ∣ L) (hlt : P < L) : flowAt (kids L D P a ((L - D - 1) / P + 1).toNat) t = flowAt [(P, D, a)] t := by
  have hq : 0 ≤ (L - D - 1) / P := Int.ediv_nonneg (by omega) (by omega)
  rw [flow_kids hP h0 h1 (by omega), flowAt_one, Int.emod_emod_of_dvd _ hPL, Int.toNat_of_nonneg (by omega)]
  have hb : L - D - 1 < ((L - D - 1) / P + 1) * P := Int.lt_ediv_add_one_mul_self _ hP
  have hm := Int.emod_lt_of_pos t (show 0 < L by omega)
  by_cases h : t % P = D
  · rw [if_pos ⟨h, by omega⟩, if_pos h]
  · rw [if_neg (fun z => h z.1), if_neg h]
theorem mem_kids {L D P a : Int} {n : Nat} {o : Ord} (h : o ∈ kids L D P a n) : ∃ k : Nat, k < n ∧ o = (L, D + (k : Int) * P, a) := by
  unfold kids at h
  obtain ⟨k, hk, rfl⟩ := List.mem_map.mp h
  exact ⟨k, List.mem_range.mp hk, rfl⟩
theorem kids_ok {ps : List Int} {L D P a : Int} (hL : L ∈ ps) (hP : 0 < P) (h0 : 0 ≤ D) (h1 : D < P) (hlt : P < L) (ha : a ≠ 0) : OrdsOk ps (kids L D P a ((L - D - 1) / P + 1).toNat) := fun o ho => by
  obtain ⟨k, hk, rfl⟩ := mem_kids ho
  have hq : 0 ≤ (L - D - 1) / P := Int.ediv_nonneg (by omega) (by omega)
  have hkm : (k : Int) * P ≤ L - D - 1 := Int.le_trans (Int.mul_le_mul_of_nonneg_right (show (k : Int) ≤ (L - D - 1) / P by omega) (by omega)) (Int.ediv_mul_le _ (by omega))
  have hk0 : 0 ≤ (k : Int) * P := Int.mul_nonneg (by omega) (by omega)
  exact ordB_iff.mpr ⟨hL, by show 0 ≤ D + (k : Int) * P; omega, by show D + (k : Int) * P < L; omega, ha⟩
theorem kids_len {L D P a : Int} {n : Nat} : (kids L D P a n).length = n := by simp [kids]
/-! ### _law_other -/
def sp_law_other : DSp := fun xs cs Q _ => ∃ (st : Addr) (ps : List Int) (os : List Ord) (c : CO), xs = [.cell st, .dat (cal ps), .dat (.lst (ordsD os))] ∧ cs st = some c ∧ DrSt c ∧ CalOk ps ∧ OrdsOk ps os ∧ os.length ≤ 100 ∧
  ∀ os' c', OrdsOk ps os' → (∀ t, flowAt os' t = flowAt os t) → DrSt c' → Q (.dat (.lst (ordsD os'))) (cs.put st c')
theorem len_law_other : ∀ xs cs Q XP, sp_law_other xs cs Q XP → xs.length = 3 := by rintro xs cs Q XP ⟨a, ps, n, c, rfl, _⟩; rfl
def w_law_other_b0_5 : WS := (wRet (wOp wCat (wSlL (wVar 3) (wPart (wVar 12)) wNoPart) (wSlL (wVar 3) wNoPart (wPart (wVar 12)))))
def w_law_other_b0_4 : WS := (wSeq (wAsg (wCall sp_law_drawn (wCons (wVar 0) (wCons (wFn wLen (wCons (wVar 3) wNil)) wNil))) (gN 12))
    w_law_other_b0_5)
def w_law_other_b0_3 : WS := (wSeq (wAsg (wOp wCat (wVar 3) (wLst (wCons (wVar 11) (wCons (wOp wCatT (wSlT (wVar 11) wNoPart (wPart (wC (.int 2)))) (wTup (wCons (wOp wSub (wC (.int 0)) (wOp wIx (wVar 11) (wC (.int 2)))) wNil))) wNil)))) (gN 3))
    w_law_other_b0_4)
def w_law_other_b0_2 : WS := (wSeq (wAsg (wCall sp_law_order (wCons (wVar 0) (wCons (wVar 1) (wCons (wC (.int 9)) wNil)))) (gN 11))
    w_law_other_b0_3)
def w_law_other_b0_1 : WS := (wSeq (wFor (wiSeq (wVar 2)) (gT 3 (gCons (gN 4) (gCons (gN 5) (gCons (gN 6) gNil)))) (wSeq (wPar 7 8 (wCons (wCall sp_law_drawn (wCons (wVar 0) (wCons (wC (.int 3)) wNil))) (wCons (wLc (wiSeq (wVar 1)) (gN 13) (wTest (wOp wGt (wVar 13) (wVar 4))) (wVar 13) [13]) wNil)))
    (wIfS (wAnd (wTest (wOp (wEqD false) (wVar 7) (wC (.int 0)))) (wTest (wOp (wEqD true) (wVar 8) (wLst wNil)))) (wSeq (wAsg (wOp wIx (wVar 8) (wCall sp_law_drawn (wCons (wVar 0) (wCons (wFn wLen (wCons (wVar 8) wNil)) wNil)))) (gN 9))
    (wAsg (wOp wCat (wVar 3) (wLc (wiRng3 (wCons (wVar 5) (wCons (wVar 9) (wCons (wVar 4) wNil)))) (gN 13) wYes (wTup (wCons (wVar 9) (wCons (wVar 13) (wCons (wVar 6) wNil)))) [13])) (gN 3))) (wIfS (wTest (wOp (wEqD false) (wVar 7) (wC (.int 1)))) (wSeq (wAsg (wOp wAdd (wC (.int 1)) (wCall sp_law_drawn (wCons (wVar 0) (wCons (wC (.int 9)) wNil)))) (gN 10))
    (wAsg (wOp wCat (wOp wCat (wVar 3) (wLst (wCons (wTup (wCons (wVar 4) (wCons (wVar 5) (wCons (wVar 10) wNil)))) wNil))) (wOp wRep (wLst (wCons (wTup (wCons (wVar 4) (wCons (wVar 5) (wCons (wOp wSub (wVar 6) (wVar 10)) wNil)))) wNil)) (wFn wInt (wCons (wOp (wEqD true) (wVar 6) (wVar 10)) wNil)))) (gN 3))) (wDrop (wApp (wVar 3) (wTup (wCons (wVar 4) (wCons (wVar 5) (wCons (wVar 6) wNil))))))))))
    w_law_other_b0_2)
def w_law_other_b0_0 : WS := (wSeq (wAsg (wLst wNil) (gN 3))
    w_law_other_b0_1)
def w_law_other : WS := w_law_other_b0_0
theorem ne_put {cs : Cells} {a p : Addr} {c : CO} (h : cs.put a c p = none) : p ≠ a ∧ cs p = none := by
  have : p ≠ a := by
    intro z; rw [z, Cells.put_same] at h; cases h
  exact ⟨this, by rwa [Cells.put_ne this] at h⟩
theorem ordsOk_app {ps : List Int} {xs ys : List Ord} (h1 : OrdsOk ps xs) (h2 : OrdsOk ps ys) : OrdsOk ps (xs ++ ys) := fun o ho => by
  rcases List.mem_append.mp ho with z | z
  · exact h1 o z
  · exact h2 o z
theorem ordsOk_one {ps : List Int} {o : Ord} (h : ordB ps o = true) : OrdsOk ps [o] := fun o' ho => by
  simp at ho; rw [ho]; exact h
/-- what holds ahead of turn i -/
def OtInv (cs : Cells) (st : Addr) (ps : List Int) (os : List Ord) (i : Nat) (ρ : DEnv) (cs' : Cells) : Prop := ∃ p os' c', cs' = (cs.put st c').put p (.lst ((ordsD os').map .dat)) ∧ cs p = none ∧ p ≠ st ∧ DrSt c' ∧ OrdsOk ps os' ∧ (∀ t, flowAt os' t = flowAt (os.take i) t) ∧ os'.length ≤ 500 * i ∧
  ∃ a4 a5 a6 a7 a8 a9 a10 a11 a12 a13, ρ = [some (.cell st), some (.dat (cal ps)), some (.dat (.lst (ordsD os))), some (.cell p), a4, a5, a6, a7, a8, a9, a10, a11, a12, a13]
theorem pure_law_other (K : Frag) : ∀ xs cs Q XP, sp_law_other xs cs Q XP → w_law_other (retE K Q) (startD 14 xs) cs := by
  rintro xs cs Q XP ⟨st, ps, os, c, rfl, hst, hD, hc, ho, hos, q⟩
  have C := cal_cyc hc
  have hcle := C.le
  unfold w_law_other w_law_other_b0_0
  walk_at "dl"
  refine ⟨by decide, .inl fun p0 hp0 => ?_⟩
  unfold w_law_other_b0_1
  walk_at "dl"
  simp only [wFor, wiSeq]
  walk_at "dl"
  refine ⟨OtInv cs st ps os, ⟨p0, [], c, by rw [Cells.put_self hst]; rfl, hp0, put_fresh hst hp0 (c' := c), hD, fun _ h => by simp at h, fun t => rfl, by simp, _, _, _, _, _, _, _, _, _, _, rfl⟩, fun _ _ _ _ _ => trivial, ?_, ?_⟩
  · rintro i v ρ cs' hv ⟨p, os', c', rfl, hp, hps, hD', hok, hfl, hlen, a4, a5, a6, a7, a8, a9, a10, a11, a12, a13, rfl⟩
    rw [ordsD_map, List.getElem?_map] at hv
    obtain ⟨⟨P, D, a⟩, hoi, rfl⟩ := Option.map_eq_some_iff.mp hv
    have hil := (List.getElem?_eq_some_iff.mp hoi).1
    have hthis := ho _ (List.mem_of_getElem? hoi)
    obtain ⟨k1, k2, k3, k4⟩ := ordB_iff.mp hthis
    simp only at k1 k2 k3 k4
    obtain ⟨p1, p2, p3⟩ := C.per _ k1
    have htake : ∀ t, flowAt (os.take (i + 1)) t = flowAt os' t + flowAt [(P, D, a)] t := fun t => by
      rw [take_snoc hoi, flowAt_app, hfl]
    simp only [ord]
    walk_at "dl"
    refine ⟨st, 3, c', rfl, by rw [Cells.put_ne hps.symm, Cells.put_same], hD', by decide, by decide, fun br c1 hr0 hr1 hD1 => ?_⟩
    rw [Cells.put_comm hps, Cells.put_put]
    walk_at "dl"
    simp only [wLc, wiSeq]
    walk_at "dl"
    refine ⟨_, _, seqD_cal, fun N hN => ?_⟩
    refine ⟨fun i cs' => cs' = ((cs.put st c1).put p (.lst ((ordsD os').map .dat))).put N (.lst (iV ((ps.take i).filter fun x => decide (P < x)))), rfl, fun _ _ _ _ => seqD_cal, ?_, ?_⟩
    · rintro i v cs' hv rfl
      unfold iV at hv
      rw [List.getElem?_map] at hv
      obtain ⟨x, hx, rfl⟩ := Option.map_eq_some_iff.mp hv
      have hil := (List.getElem?_eq_some_iff.mp hx).1
      have h5 := hc.2.1
      simp only [wipeD]
      walk_at "dl"
      rw [take_filter hx]
      by_cases h : P < x
      · rw [if_pos h, if_pos (by simpa using h)]
        refine ⟨?_, by rw [← iV_app]; rfl⟩
        rw [iV_len]
        have := List.length_filter_le (fun x => decide (P < x)) (ps.take i)
        rw [List.length_take] at this
        omega
      · rw [if_neg h, if_neg (by simpa using h), List.append_nil]
    rintro cs' rfl
    rw [iV_len, List.take_of_length_le (Nat.le_refl _)]
    generalize hfl : ps.filter (fun x => decide (P < x)) = ls
    have hmem : ∀ x, x ∈ ls ↔ x ∈ ps ∧ P < x := fun x => by rw [← hfl, List.mem_filter]; simp
    have hll : ls.length ≤ 5 := by
      have := List.length_filter_le (fun x => decide (P < x)) ps
      rw [hfl] at this
      have := hc.2.1
      omega
    refine ⟨_, Cells.put_same, .inr ⟨_, allDat_iV _, ?_⟩⟩
    rw [Cells.del_put hN]
    have fin : ∀ (p' : Addr) (ys : List Ord) (c2 : CO) (ρ : DEnv), cs p' = none → p' ≠ st → DrSt c2 → OrdsOk ps ys → (∀ t, flowAt ys t = flowAt [(P, D, a)] t) → ys.length ≤ 500 →
        (∃ a4 a5 a6 a7 a8 a9 a10 a11 a12 a13, ρ = [some (.cell st), some (.dat (cal ps)), some (.dat (.lst (ordsD os))), some (.cell p'), a4, a5, a6, a7, a8, a9, a10, a11, a12, a13]) →
        OtInv cs st ps os (i + 1) ρ ((cs.put st c2).put p' (.lst ((ordsD os').map Vl.dat ++ (ordsD ys).map Vl.dat))) := fun p' ys c2 ρ h1 h2 h3 h4 h5 h6 h7 =>
      ⟨p', os' ++ ys, c2, by rw [ordsD_app, List.map_append], h1, h2, h3, ordsOk_app hok h4, fun t => by rw [htake, flowAt_app, h5], by rw [List.length_append]; omega, h7⟩
    have hlenl : ((ordsD os').map Vl.dat).length = os'.length := by simp [ordsD]
    have h51 : os'.length ≤ 50000 := by omega
    have hsub : ∀ c2 : CO, SubC (cs.put st c2) ((cs.put st c2).put p (.lst ((ordsD os').map .dat))) := fun c2 => SubC.put (by rw [Cells.put_ne hps]; exact hp)
    walk_at "dl"
    by_cases h0 : br = 0
    · rw [if_pos h0]
      subst h0
      refine ⟨by decide, .inr ⟨[], rfl, ?_⟩⟩
      refine wEq_of 1 (by decide) rfl rfl (lvI ls (by omega)) lst_nil_lv (fun he => ?_) (fun he => ?_)
      · walk_at "dl"
        exact ⟨by decide, by omega, fin p [(P, D, a)] c1 _ hp hps hD1 (ordsOk_one hthis) (fun _ => rfl) (by simp) ⟨_, _, _, _, _, _, _, _, _, _, rfl⟩⟩
      · walk_at "dl"
        have hne : ls ≠ [] := fun z => he (by rw [z]; rfl)
        have hlp := List.length_pos_iff.mpr hne
        rw [iD_map, iV_len]
        refine ⟨st, _, c1, rfl, by rw [Cells.put_ne hps.symm, Cells.put_same], hD1, by omega, by omega, fun r c2 hq0 hq1 hD2 => ?_⟩
        rw [Cells.put_comm hps, Cells.put_put]
        obtain ⟨L, hL⟩ : ∃ L, ls[r.toNat]? = some L := ⟨_, List.getElem?_eq_getElem (by omega)⟩
        obtain ⟨hLp, hPL⟩ := (hmem L).mp (List.mem_of_getElem? hL)
        obtain ⟨l1, l2, l3⟩ := C.per L hLp
        refine ⟨r, rfl, .int L, atI_int hq0 (iV_get hL), ?_⟩
        simp only [wiRng3]
        walk_at "dl"
        refine ⟨_, rgC_pos k2 (by omega) (by omega) p1 (by omega), fun N2 hN2 => ?_⟩
        refine ⟨fun j cs' => j ≤ 400 ∧ cs' = ((cs.put st c2).put p (.lst ((ordsD os').map .dat))).put N2 (.lst ((ordsD (kids L D P a j)).map .dat)), ⟨by omega, rfl⟩, fun _ _ _ _ => trivial, ?_, ?_⟩
        · rintro j v cs' hv ⟨hj4, rfl⟩
          obtain ⟨hj, rfl⟩ := rangeD_at hv
          have hq : (L - D - 1) / P ≤ L - D - 1 := Int.ediv_le_self _ (by omega)
          have hq0 : 0 ≤ (L - D - 1) / P := Int.ediv_nonneg (by omega) (by omega)
          simp only [wipeD]
          walk_at "dl"
          refine ⟨by decide, by simp [ordsD, kids_len]; omega, by omega, ?_⟩
          rw [kids_succ, ordsD_app, List.map_append]; rfl
        · rintro cs' ⟨hj4, rfl⟩
          rw [rangeD_len] at hj4 ⊢
          refine ⟨_, Cells.put_same, .inl ?_⟩
          have hN2p := ne_put hN2
          refine ⟨p, N2, _, _, cs.put st c2, rfl, rfl, by rw [Cells.put_ne hN2p.1.symm, Cells.put_same], Cells.put_same, by simp [ordsD, kids_len]; omega, (hsub c2).trans (SubC.put hN2), .inl fun p2 hp2 => ?_⟩
          obtain ⟨e1, e2⟩ := ne_put hp2
          exact fin p2 _ c2 _ e2 e1 hD2 (kids_ok hLp p1 k2 k3 hPL k4) (fun t => flow_allKids p1 k2 k3 (cal_dvd (Int.le_refl 0) hc.2.2 k1 hLp hPL) hPL) (by rw [kids_len]; omega) ⟨_, _, _, _, _, _, _, _, _, _, rfl⟩
    · rw [if_neg h0]
      split
      · refine ⟨st, 9, c1, rfl, by rw [Cells.put_ne hps.symm, Cells.put_same], hD1, by decide, by decide, fun r c2 hq0 hq1 hD2 => ?_⟩
        rw [Cells.put_comm hps, Cells.put_put]
        refine ⟨r, rfl, by decide, by decide, .inl fun p1 hp1 => ?_⟩
        have hp1p := ne_put hp1
        refine ⟨p, p1, _, _, cs.put st c2, rfl, rfl, by rw [Cells.put_ne hp1p.1.symm, Cells.put_same], Cells.put_same, by simp [ordsD]; omega, (hsub c2).trans (SubC.put hp1), .inl fun p2 hp2 => ?_⟩
        obtain ⟨e1, e2⟩ := ne_put hp2
        refine ⟨by decide, by decide, .inl fun p3 hp3 => ?_⟩
        have hp3p := ne_put hp3
        refine .inr ⟨_, rfl, ?_⟩
        simp only [wRep]
        walk_at "dl"
        refine ⟨by split <;> decide, by split <;> decide, by split <;> decide, _, SubC.put hp3, .inl fun p4 hp4 => ?_⟩
        have hp4p := ne_put hp4
        refine ⟨p2, p4, _, _, cs.put st c2, rfl, rfl, by rw [Cells.put_ne hp4p.1.symm, Cells.put_same], Cells.put_same, ?_, (SubC.put hp2).trans (SubC.put hp4), .inl fun p5 hp5 => ?_⟩
        · simp [ordsD]
          split <;> omega
        obtain ⟨f1, f2⟩ := ne_put hp5
        rw [List.append_assoc]
        by_cases hz : a = 1 + r
        · have hrep : (List.replicate (if (a == 1 + r) = false then (1 : Int) else 0).toNat [Vl.dat (Dat.tup [Dat.int P, Dat.int D, Dat.int (a - (1 + r))])]).flatten = [] := by
            rw [hz]; simp
          rw [hrep, List.append_nil]
          exact fin p5 [(P, D, 1 + r)] c2 _ f2 f1 hD2 (ordsOk_one (by rw [← hz]; exact hthis)) (fun t => by rw [← hz]) (by simp) ⟨_, _, _, _, _, _, _, _, _, _, rfl⟩
        · have hrep : (List.replicate (if (a == 1 + r) = false then (1 : Int) else 0).toNat [Vl.dat (Dat.tup [Dat.int P, Dat.int D, Dat.int (a - (1 + r))])]).flatten = [Vl.dat (Dat.tup [Dat.int P, Dat.int D, Dat.int (a - (1 + r))])] := by
            rw [if_pos (by simpa using hz)]; rfl
          rw [hrep]
          refine fin p5 [(P, D, 1 + r), (P, D, a - (1 + r))] c2 _ f2 f1 hD2 ?_ (fun t => ?_) (by simp) ⟨_, _, _, _, _, _, _, _, _, _, rfl⟩
          · intro o ho
            simp only [List.mem_cons, List.not_mem_nil, or_false] at ho
            rcases ho with rfl | rfl
            · exact ordB_iff.mpr ⟨k1, k2, k3, by show 1 + r ≠ 0; omega⟩
            · exact ordB_iff.mpr ⟨k1, k2, k3, by show a - (1 + r) ≠ 0; omega⟩
          · rw [flowAt_cons, flowAt_one, flowAt_one, flowAt_one]
            simp only
            split <;> omega
      · exact ⟨by decide, by omega, fin p [(P, D, a)] c1 _ hp hps hD1 (ordsOk_one hthis) (fun _ => rfl) (by simp) ⟨_, _, _, _, _, _, _, _, _, _, rfl⟩⟩
  · rintro ρ cs' ⟨p, os', c', rfl, hp, hps, hD', hok, hfl, hlen, a4, a5, a6, a7, a8, a9, a10, a11, a12, a13, rfl⟩
    rw [ordsD_map, List.length_map] at hfl hlen
    rw [List.take_of_length_le (Nat.le_refl _)] at hfl
    have hlenl : ((ordsD os').map Vl.dat).length = os'.length := by simp [ordsD]
    unfold w_law_other_b0_2
    walk_at "dl"
    refine ⟨st, ps, 9, c', rfl, by rw [Cells.put_ne hps.symm, Cells.put_same], hD', hc, by decide, by decide, ?_⟩
    rintro ⟨P, D, a⟩ c1 hb hl1 hl2 hD1
    obtain ⟨k1, k2, k3, k4⟩ := ordB_iff.mp hb
    simp only at k1 k2 k3 k4
    rw [Cells.put_comm hps, Cells.put_put]
    unfold w_law_other_b0_3
    simp only [ord]
    walk_at "dl"
    simp only [show cutD [Dat.int P, Dat.int D, Dat.int a] none (some 2) = [Dat.int P, Dat.int D] from rfl]
    walk_at "dl"
    refine ⟨by decide, by decide, by decide, .inl fun p1 hp1 => ?_⟩
    have hp1p := ne_put hp1
    refine ⟨p, p1, _, _, cs.put st c1, rfl, rfl, by rw [Cells.put_ne hp1p.1.symm, Cells.put_same], Cells.put_same, by simp [ordsD]; omega, SubC.trans (SubC.put (by rw [Cells.put_ne hps]; exact hp)) (SubC.put hp1), .inl fun p2 hp2 => ?_⟩
    obtain ⟨e1, e2⟩ := ne_put hp2
    generalize hall : os' ++ [(P, D, a), (P, D, 0 - a)] = al
    have hal : (ordsD os').map Vl.dat ++ [Vl.dat (Dat.tup [Dat.int P, Dat.int D, Dat.int a]), Vl.dat (Dat.tup [Dat.int P, Dat.int D, Dat.int (0 - a)])] = (ordsD al).map Vl.dat := by
      rw [← hall, ordsD_app, List.map_append]; rfl
    rw [hal]
    have halen : al.length = os'.length + 2 := by rw [← hall, List.length_append]; rfl
    have halok : OrdsOk ps al := by
      rw [← hall]
      refine ordsOk_app hok fun o ho => ?_
      simp only [List.mem_cons, List.not_mem_nil, or_false] at ho
      rcases ho with rfl | rfl
      · exact hb
      · exact ordB_iff.mpr ⟨k1, k2, k3, by show 0 - a ≠ 0; omega⟩
    have halfl : ∀ t, flowAt al t = flowAt os t := fun t => by
      rw [← hall, flowAt_app, hfl, flowAt_cons, flowAt_one, flowAt_one]
      simp only
      split <;> omega
    have hl3 : ((ordsD al).map Vl.dat).length = al.length := by simp [ordsD]
    unfold w_law_other_b0_4
    walk_at "dl"
    rw [hl3]
    refine ⟨st, _, c1, rfl, by rw [Cells.put_ne e1.symm, Cells.put_same], hD1, by omega, by omega, fun r c2 hq0 hq1 hD2 => ?_⟩
    rw [Cells.put_comm e1, Cells.put_put]
    unfold w_law_other_b0_5
    walk_at "dl"
    have hr : r.toNat ≤ al.length := by omega
    have cut1 : cutD ((ordsD al).map Vl.dat) (some r) none = (ordsD (al.drop r.toNat)).map Vl.dat := by
      unfold cutD
      rw [hl3]
      have e : HT.sIx al.length 0 (some r) = r.toNat := by
        show (if r < 0 then _ else min r.toNat al.length) = _
        rw [if_neg (by omega)]; omega
      rw [e]
      show List.take (al.length - r.toNat) _ = _
      simp only [ordsD, List.map_drop]
      rw [List.take_of_length_le (by simp)]
    have cut2 : cutD ((ordsD al).map Vl.dat) none (some r) = (ordsD (al.take r.toNat)).map Vl.dat := by
      unfold cutD
      rw [hl3]
      have e : HT.sIx al.length al.length (some r) = r.toNat := by
        show (if r < 0 then _ else min r.toNat al.length) = _
        rw [if_neg (by omega)]; omega
      rw [e]
      show List.take (r.toNat - 0) (List.drop 0 _) = _
      simp only [ordsD, List.map_take, Nat.sub_zero, List.drop_zero]
    rw [cut1]
    refine .inl fun p3 hp3 => ?_
    have hp3p := ne_put hp3
    refine ⟨_, by rw [Cells.put_ne hp3p.1.symm, Cells.put_same, coSeq_lst], ?_⟩
    rw [cut2]
    refine .inl fun p4 hp4 => ?_
    have hp4p := ne_put hp4
    refine ⟨p3, p4, _, _, cs.put st c2, rfl, rfl, by rw [Cells.put_ne hp4p.1.symm, Cells.put_same], Cells.put_same, by simp [ordsD]; omega, (SubC.put (by rw [Cells.put_ne e1]; exact e2)).trans ((SubC.put hp3).trans (SubC.put hp4)), .inr ⟨_, by rw [← List.map_append]; exact allDat_map _, .now ?_⟩⟩
    rw [← ordsD_app]
    refine q _ c2 (fun o ho => ?_) (fun t => ?_) hD2
    · refine halok o ?_
      rcases List.mem_append.mp ho with z | z
      · exact List.mem_of_mem_drop z
      · exact List.mem_of_mem_take z
    · rw [flowAt_app, Int.add_comm, ← flowAt_app, List.take_append_drop]
      exact halfl t
end DL
set_option maxRecDepth 100000
set_option maxHeartbeats 4000000
namespace DL
open PySem L2
/-! ### the calendar's tree: which amounts most children want -/
/-- how many of the lists hold x -/
def cnt (css : List (List Int)) (x : Int) : Nat := (css.filter fun c => decide (x ∈ c)).length
/-- x is held by most lists -/
def IsMost (css : List (List Int)) (x : Int) : Prop := (∃ c ∈ css, x ∈ c) ∧ ∀ y, cnt css y ≤ cnt css x
/-- best is what best_sums returns of the children's choices: sorted, just the amounts that most hold -/
structure Best (css : List (List Int)) (best : List Int) : Prop where
  srt : best.Pairwise (· < ·)
  mem : ∀ x, x ∈ best ↔ IsMost css x
theorem best_unique {css : List (List Int)} {a b : List Int} (ha : Best css a) (hb : Best css b) : a = b := by
  have key : ∀ (a b : List Int), a.Pairwise (· < ·) → b.Pairwise (· < ·) → (∀ x, x ∈ a ↔ x ∈ b) → a = b := by
    intro a
    induction a with
    | nil =>
      intro b _ _ h
      cases b with
      | nil => rfl
      | cons y b => exact absurd ((h y).mpr (by simp)) (by simp)
    | cons x a ih =>
      intro b ha hb h
      cases b with
      | nil => exact absurd ((h x).mp (by simp)) (by simp)
      | cons y b =>
        obtain ⟨hx, ha'⟩ := List.pairwise_cons.mp ha
        obtain ⟨hy, hb'⟩ := List.pairwise_cons.mp hb
        have exy : x = y := by
          rcases List.mem_cons.mp ((h x).mp (by simp)) with z | z
          · exact z
          · rcases List.mem_cons.mp ((h y).mpr (by simp)) with w | w
            · exact w.symm
            · have := hy x z; have := hx y w; omega
        subst exy
        rw [ih b ha' hb' fun z => ?_]
        constructor
        · intro hz
          rcases List.mem_cons.mp ((h z).mp (by simp [hz])) with w | w
          · have := hx z hz; omega
          · exact w
        · intro hz
          rcases List.mem_cons.mp ((h z).mpr (by simp [hz])) with w | w
          · have := hy z hz; omega
          · exact w
  exact key a b ha.srt hb.srt fun x => (ha.mem x).trans (hb.mem x).symm
/-! ### best, as a function -/
def bestOf (css : List (List Int)) : List Int := ((css.flatten.eraseDups).filter fun x => css.flatten.all fun y => decide (cnt css y ≤ cnt css x)).mergeSort fun x y => decide (x ≤ y)
theorem cnt_zero {css : List (List Int)} {x : Int} (h : ∀ c ∈ css, x ∉ c) : cnt css x = 0 := by
  unfold cnt
  rw [List.filter_eq_nil_iff.mpr fun c hc => by simpa using h c hc]; rfl
theorem nodup_eraseDups (l : List Int) : l.eraseDups.Nodup := by
  generalize hn : l.length = n
  induction n using Nat.strongRecOn generalizing l with
  | ind n ih =>
    cases l with
    | nil => simp
    | cons x l =>
      rw [List.eraseDups_cons]
      refine List.nodup_cons.mpr ⟨fun h => ?_, ih _ ?_ _ rfl⟩
      · rw [List.mem_eraseDups, List.mem_filter] at h
        simp at h
      · have := List.length_filter_le (fun b => !b == x) l
        rw [← hn, List.length_cons]
        omega
theorem best_bestOf (css : List (List Int)) : Best css (bestOf css) := by
  unfold bestOf
  refine ⟨?_, fun x => ?_⟩
  · have h1 := List.pairwise_mergeSort (le := fun x y : Int => decide (x ≤ y)) (fun a b c h1 h2 => by simp at *; omega) (fun a b => by simp; omega) ((css.flatten.eraseDups).filter fun x => css.flatten.all fun y => decide (cnt css y ≤ cnt css x))
    have h2 : (((css.flatten.eraseDups).filter fun x => css.flatten.all fun y => decide (cnt css y ≤ cnt css x)).mergeSort fun x y => decide (x ≤ y)).Nodup :=
      (List.mergeSort_perm _ _).nodup_iff.mpr ((nodup_eraseDups _).sublist List.filter_sublist)
    refine (h1.and h2).imp fun {a b} hab => ?_
    obtain ⟨q1, q2⟩ := hab
    simp at q1
    omega
  · rw [(List.mergeSort_perm _ _).mem_iff, List.mem_filter, List.mem_eraseDups, List.mem_flatten, List.all_eq_true]
    constructor
    · rintro ⟨⟨c, hc, hx⟩, hall⟩
      refine ⟨⟨c, hc, hx⟩, fun y => ?_⟩
      by_cases hy : ∃ c ∈ css, y ∈ c
      · have := hall y (List.mem_flatten.mpr hy)
        simpa using this
      · rw [cnt_zero fun c hc z => hy ⟨c, hc, z⟩]; exact Nat.zero_le _
    · rintro ⟨⟨c, hc, hx⟩, hall⟩
      exact ⟨⟨c, hc, hx⟩, fun y _ => by simpa using hall y⟩
/-! ### the tree -/
def kidDays (p q d : Int) : List Int := (List.range ((q - d - 1) / p + 1).toNat).map fun (k : Nat) => d + (k : Int) * p
def ch (F : Int → Int) : List Int → Int → Int → List Int
  | [], _, d => [F d]
  | q :: r, p, d => bestOf ((kidDays p q d).map (ch F r q))
def mostN (css : List (List Int)) : Nat := cnt css ((bestOf css).headD 0)
def ms (F : Int → Int) : List Int → Int → Int → Nat
  | [], _, _ => 0
  | q :: r, p, d => ((kidDays p q d).map (ms F r q)).sum + ((kidDays p q d).length - mostN ((kidDays p q d).map (ch F r q)))
/-- what a labelling costs below above -/
def lcost (L : Int → Int → Int) : List Int → Int → Int → Int → Nat
  | [], p, d, ab => if L p d = ab then 0 else 1
  | q :: r, p, d, ab => (if L p d = ab then 0 else 1) + ((kidDays p q d).map fun k => lcost L r q k (L p d)).sum
theorem cnt_le (css : List (List Int)) (x : Int) : cnt css x ≤ css.length := List.length_filter_le _ _
theorem most_of {css : List (List Int)} {x : Int} (h : x ∈ bestOf css) : cnt css x = mostN css := by
  have hB := best_bestOf css
  have hx := (hB.mem x).mp h
  cases e : bestOf css with
  | nil => rw [e] at h; simp at h
  | cons y r =>
    have hy := (hB.mem y).mp (by rw [e]; simp)
    unfold mostN
    rw [e]
    have h1 := hx.2 y
    have h2 := hy.2 x
    show cnt css x = cnt css y
    omega
theorem most_max (css : List (List Int)) (x : Int) : cnt css x ≤ mostN css := by
  by_cases hx : ∃ c ∈ css, x ∈ c
  · -- some amount is held by most
    cases e : bestOf css with
    | cons y r =>
      have hy := ((best_bestOf css).mem y).mp (by rw [e]; simp)
      unfold mostN
      rw [e]
      exact hy.2 x
    | nil =>
      exfalso
      -- take a maximum over the finitely many amounts
      obtain ⟨c, hc, hxc⟩ := hx
      have hne : css.flatten ≠ [] := fun z => by
        have : x ∈ css.flatten := List.mem_flatten.mpr ⟨c, hc, hxc⟩
        rw [z] at this; simp at this
      have : ∀ l : List Int, l ≠ [] → ∃ m ∈ l, ∀ y ∈ l, cnt css y ≤ cnt css m := by
        intro l
        induction l with
        | nil => intro h; exact absurd rfl h
        | cons a l ih =>
          intro _
          by_cases hl : l = []
          · exact ⟨a, by simp, fun y hy => by rw [hl] at hy; simp at hy; rw [hy]; exact Nat.le_refl _⟩
          · obtain ⟨m, hm, hall⟩ := ih hl
            by_cases ham : cnt css m ≤ cnt css a
            · exact ⟨a, by simp, fun y hy => by
                rcases List.mem_cons.mp hy with z | z
                · rw [z]; exact Nat.le_refl _
                · exact Nat.le_trans (hall y z) ham⟩
            · exact ⟨m, by simp [hm], fun y hy => by
                rcases List.mem_cons.mp hy with z | z
                · rw [z]; omega
                · exact hall y z⟩
      obtain ⟨m, hm, hall⟩ := this _ hne
      have : m ∈ bestOf css := ((best_bestOf css).mem m).mpr ⟨List.mem_flatten.mp hm, fun y => by
        by_cases hy : ∃ c ∈ css, y ∈ c
        · exact hall y (List.mem_flatten.mpr hy)
        · rw [cnt_zero fun c hc z => hy ⟨c, hc, z⟩]; exact Nat.zero_le _⟩
      rw [e] at this; simp at this
  · rw [cnt_zero fun c hc z => hx ⟨c, hc, z⟩]; exact Nat.zero_le _
theorem most_lt {css : List (List Int)} {x : Int} (h : x ∉ bestOf css) (hne : ∃ c ∈ css, c ≠ []) : cnt css x < mostN css := by
  have hle := most_max css x
  apply Nat.lt_of_le_of_ne hle
  intro z
  apply h
  refine ((best_bestOf css).mem x).mpr ⟨?_, fun y => by rw [z]; exact most_max css y⟩
  apply Decidable.byContradiction
  intro hx
  have h0 : cnt css x = 0 := cnt_zero fun c hc w => hx ⟨c, hc, w⟩
  obtain ⟨c, hc, hcn⟩ := hne
  obtain ⟨y, hy⟩ := List.exists_mem_of_ne_nil c hcn
  have : 0 < cnt css y := by
    unfold cnt
    exact List.length_pos_of_mem (List.mem_filter.mpr ⟨hc, by simpa using hy⟩)
  have := most_max css y
  omega
theorem sum_cnt {α : Type} (f : α → Nat) (g : α → List Int) (x : Int) : ∀ ks : List α, (ks.map fun k => f k + if x ∈ g k then 0 else 1).sum + cnt (ks.map g) x = (ks.map f).sum + ks.length
  | [] => by simp [cnt]
  | k :: ks => by
    have ih := sum_cnt f g x ks
    unfold cnt at ih ⊢
    simp only [List.map_cons, List.sum_cons, List.length_cons, List.filter_cons]
    by_cases h : x ∈ g k
    · simp only [h, if_true, decide_true, List.length_cons]; omega
    · simp only [h, if_false, decide_false]; simp only [Bool.false_eq_true, if_false]; omega
theorem sum_le_sum {α : Type} {f g : α → Nat} : ∀ {ks : List α}, (∀ k ∈ ks, f k ≤ g k) → (ks.map f).sum ≤ (ks.map g).sum
  | [], _ => Nat.le_refl _
  | k :: ks, h => by
    simp only [List.map_cons, List.sum_cons]
    exact Nat.add_le_add (h k (by simp)) (sum_le_sum fun j hj => h j (by simp [hj]))
theorem kid_bounds {p q d k : Int} (hp : 0 < p) (h0 : 0 ≤ d) (hdq : d < q) (hk : k ∈ kidDays p q d) : 0 ≤ k ∧ k < q := by
  unfold kidDays at hk
  obtain ⟨j, hj, rfl⟩ := List.mem_map.mp hk
  have hj := List.mem_range.mp hj
  have hq : 0 ≤ (q - d - 1) / p := Int.ediv_nonneg (by omega) (by omega)
  have hm : (j : Int) * p ≤ q - d - 1 := Int.le_trans (Int.mul_le_mul_of_nonneg_right (show (j : Int) ≤ (q - d - 1) / p by omega) (by omega)) (Int.ediv_mul_le _ (by omega))
  have h1 : 0 ≤ (j : Int) * p := Int.mul_nonneg (by omega) (by omega)
  constructor <;> omega
theorem kid_ne {p q d : Int} (hp : 0 < p) (hdq : d < q) : kidDays p q d ≠ [] := by
  have hq : 0 ≤ (q - d - 1) / p := Int.ediv_nonneg (by omega) (by omega)
  intro z
  have := congrArg List.length z
  unfold kidDays at this
  rw [List.length_map, List.length_range] at this
  simp at this
  omega
/-- periods that grow -/
def chain (p : Int) : List Int → Prop
  | [] => True
  | q :: r => p < q ∧ p ∣ q ∧ chain q r
theorem ch_ne (F : Int → Int) : ∀ (r : List Int) (p d : Int), 0 < p → 0 ≤ d → d < p → chain p r → ch F r p d ≠ []
  | [], p, d, _, _, _, _ => by simp [ch]
  | q :: r, p, d, hp, h0, hd, hc => by
    obtain ⟨h1, h2, h3⟩ := hc
    unfold ch
    obtain ⟨k, hk⟩ := List.exists_mem_of_ne_nil _ (kid_ne (q := q) hp (show d < q by omega))
    obtain ⟨k0, k1⟩ := kid_bounds hp h0 (by omega) hk
    have hkn := ch_ne F r q k (by omega) k0 k1 h3
    intro z
    obtain ⟨y, hy⟩ := List.exists_mem_of_ne_nil _ hkn
    have hmax := most_max ((kidDays p q d).map (ch F r q)) y
    have hpos : 0 < cnt ((kidDays p q d).map (ch F r q)) y := by
      unfold cnt
      exact List.length_pos_of_mem (List.mem_filter.mpr ⟨List.mem_map.mpr ⟨k, hk, rfl⟩, by simpa using hy⟩)
    have h0 : mostN ((kidDays p q d).map (ch F r q)) = cnt ((kidDays p q d).map (ch F r q)) 0 := by unfold mostN; rw [z]; rfl
    have hm0 : (0 : Int) ∈ bestOf ((kidDays p q d).map (ch F r q)) := by
      refine ((best_bestOf _).mem 0).mpr ⟨?_, fun w => by rw [← h0]; exact most_max _ w⟩
      apply Decidable.byContradiction
      intro hx
      have : cnt ((kidDays p q d).map (ch F r q)) 0 = 0 := cnt_zero fun c hc w => hx ⟨c, hc, w⟩
      omega
    rw [z] at hm0
    simp at hm0
/-- every labelling costs at least this -/
theorem opt_le (F : Int → Int) (L : Int → Int → Int) (c : Int) (hL : ∀ d, 0 ≤ d → d < c → L c d = F d) : ∀ (r : List Int) (p d ab : Int), 0 < p → 0 ≤ d → d < p → chain p r → lastD p r = c → ms F r p d + (if ab ∈ ch F r p d then 0 else 1) ≤ lcost L r p d ab
  | [], p, d, ab, hp, h0, hd, _, hl => by
    have hl : p = c := hl
    subst hl
    unfold ms lcost ch
    rw [hL d h0 hd]
    by_cases h : F d = ab
    · rw [if_pos h, if_pos (by simp [h])]; omega
    · rw [if_neg h, if_neg (by simp; exact fun z => h z.symm)]; omega
  | q :: r, p, d, ab, hp, h0, hd, hc, hl => by
    obtain ⟨h1, h2, h3⟩ := hc
    rw [lastD_cons] at hl
    unfold ms lcost ch
    have kb := fun k hk => kid_bounds (k := k) (q := q) hp h0 (show d < q by omega) hk
    generalize hks : kidDays p q d = ks at kb
    have hlow : (ks.map fun k => ms F r q k + if L p d ∈ ch F r q k then 0 else 1).sum ≤ (ks.map fun k => lcost L r q k (L p d)).sum :=
      sum_le_sum fun k hk => opt_le F L c hL r q k (L p d) (by omega) (kb k hk).1 (kb k hk).2 h3 hl
    have hsum := sum_cnt (ms F r q) (ch F r q) (L p d) ks
    have hm := most_max (ks.map (ch F r q)) (L p d)
    have hml : mostN (ks.map (ch F r q)) ≤ ks.length := by
      have := cnt_le (ks.map (ch F r q)) ((bestOf (ks.map (ch F r q))).headD 0)
      rw [List.length_map] at this
      exact this
    by_cases hx : L p d = ab
    · rw [if_pos hx]
      by_cases hab : ab ∈ bestOf (ks.map (ch F r q))
      · rw [if_pos hab]; omega
      · rw [if_neg hab]
        have hne : ∃ c ∈ ks.map (ch F r q), c ≠ [] := by
          obtain ⟨k, hk⟩ := List.exists_mem_of_ne_nil _ (kid_ne (q := q) hp (show d < q by omega))
          rw [hks] at hk
          exact ⟨_, List.mem_map.mpr ⟨k, hk, rfl⟩, ch_ne F r q k (by omega) (kb k hk).1 (kb k hk).2 h3⟩
        have := most_lt hab hne
        rw [hx] at hsum hlow ⊢
        omega
    · rw [if_neg hx]
      split <;> omega
end DL
set_option maxRecDepth 100000
set_option maxHeartbeats 4000000
namespace DL
open PySem L2 GT
local macro_rules | `(tactic| walk_at "dl") => `(tactic| simp only [wGSeq, wGIf, wGP, wG0, GDs.at, wFld, wSetF, wMeth, wMake, wGMeth, wGCall, wDNewK, wDNewT, CO.ins.injEq, CO.dk.injEq, CO.dt.injEq, Cells.put_put, wRet, wRetN, wSeq, wAsg, wIfS, wDrop, wNext, wVar, wC, wOp, wUn, wFn, wNil, wCons, wTest, wNot, wAnd, wOr, wAndV, wOrV, wNotV, wIf, wChain, wTup, wLst, wCall, wNever, gN, gT, gNil, gCons, gIx, wI, wI0, wNeg, wMax2, wMin2, wLen, wIsN, wNotN, isNon_non, isNon_bl, isNon_int, isNon_str, isNon_lst, isNon_tup, isNon_cell, wIx, wTuple, wAug, wAugIx, wPar, wPar3, wSlL, wSlT, wPart, wNoPart, wCatT, wIsi, wIsi2, isiT, tyD_non, tyD_bl, tyD_int, tyD_str, tyD_lst, tyD_tup, tyD_cell, coTy_lst, seqD_lst, seqD_tp, seqD_cell, coSeq_lst, seen_dat, seen_cell, coDat_lst, startD, wYes, wApp, wEq_int, wEq_bl, allDat_nil, allDat_cons, allDat_map, Option.map_some, List.map_cons, List.map_nil, List.cons_append, List.nil_append, List.length_cons, List.length_nil, List.replicate, List.getElem?_cons_zero, List.getElem?_cons_succ, List.set_cons_zero, List.set_cons_succ, Option.some.injEq, exists_eq_left', exists_eq_left, exists_and_left, exists_eq', exists_eq, Vl.dat.injEq, Vl.raw.injEq, V.ref.injEq, CO.lst.injEq, Dat.int.injEq, Dat.bl.injEq, Dat.tup.injEq, Dat.lst.injEq, List.cons.injEq, and_true, true_and, retE, Nat.reduceAdd, Nat.reduceSub, and_assoc, Prod.mk.injEq, if_true, if_false, Bool.false_eq_true, decide_eq_true_eq, Bool.not_true, Bool.not_false, Bool.not_eq_true', decide_eq_false_iff_not, if_false_left, if_false_right, beq_iff_eq, Bool.or_eq_true, Bool.and_eq_true, Bool.or_self, Bool.or_true, Bool.true_or, Bool.or_false, Bool.false_or, decide_true, decide_false, reduceCtorEq, Cells.put_same, gt_iff_lt, ge_iff_le, beq_self_eq_true, bne_self_eq_false, Bool.decide_eq_true, not_true_eq_false, not_false_eq_true, Decidable.not_not, false_and, and_false, Bool.not_eq_false, at_0, at_1, at_2, at_3, at_4, at_5, ix_0, ix_1, ix_2, ix_3, Nat.reduceLT, Int.reduceLT, Int.reduceLE, Int.reduceNeg, Int.reduceAdd, Int.reduceSub, Int.reduceEq, Int.reducePow, Int.reduceToNat, Cells.put_put])

/-! ### Tree.children -/
def kidsD (i : Nat) (p : Int) : List Int → Int → List Dat
  | [], _ => []
  | q :: _, d => (kidDays p q d).map fun k => .tup [.int ((i : Int) + 1), .int k]
def TreeCal (C : CE) (a : Addr) (ps : List Int) : Cells → Prop := fun c => ∃ fs, c a = some (.ins C.Tree fs) ∧ fs.lookup ("calendar" : Str) = some (.dat (cal ps))
def sp_Tree_children (C : CE) : GSpec := fun xs cs ds fin Gd => ∃ (a : Addr) (ps : List Int) (i : Nat) (p d : Int), xs = [.cell a, .int i, .int d] ∧ CalOk ps ∧ ps[i]? = some p ∧ 0 ≤ d ∧ d < p ∧ ds = kidsD i p (ps.drop (i + 1)) d ∧ fin = true ∧ Gd = TreeCal C a ps
theorem len_Tree_children {C : CE} : ∀ xs cs ds fin Gd, sp_Tree_children C xs cs ds fin Gd → xs.length = 3 := by rintro xs cs ds fin Gd ⟨a, ps, i, p, d, rfl, _⟩; rfl
def w_Tree_children (C : CE) (Gd : Cells → Prop) (fin : Bool) : WGn := (wGSeq (wGIf (wTest (wOp wLt (wOp wAdd (wVar 1) (wC (.int 1))) (wFn wLen (wCons (wFld C.Tree "calendar" (wVar 0)) wNil)))) (wGSeq (wGFor (wiRng3 (wCons (wVar 2) (wCons (wOp wIx (wFld C.Tree "calendar" (wVar 0)) (wOp wAdd (wVar 1) (wC (.int 1)))) (wCons (wOp wIx (wFld C.Tree "calendar" (wVar 0)) (wVar 1)) wNil)))) (gN 3) (wGSeq (wGY Gd fin (wTup (wCons (wOp wAdd (wVar 1) (wC (.int 1))) (wCons (wVar 3) wNil))))
    wG0))
    wG0) wG0)
    wG0)
theorem cal_at {ps : List Int} {i : Nat} {p : Int} (h : ps[i]? = some p) : atI (iV ps) (i : Int) = some (.int p) := atI_nat (iV_get h)
theorem pure_Tree_children (C : CE) : ∀ xs cs ds fin Gd, sp_Tree_children C xs cs ds fin Gd → ∀ c1, Gd c1 → w_Tree_children C Gd fin genD ds c1 (startD 4 xs) c1 := by
  rintro xs cs ds fin Gd ⟨a, ps, i, p, d, rfl, hc, hp, h0, hd, rfl, rfl, rfl⟩ c1 ⟨fs, hfs, hcal⟩
  have Cy := cal_cyc hc
  have hpm := List.mem_of_getElem? hp
  obtain ⟨pp, ple, pdv⟩ := Cy.per p hpm
  unfold w_Tree_children
  walk_at "dl"
  refine ⟨_, hfs, _, hcal, _, _, seqD_cal, ?_⟩
  rw [iV_len]
  cases hr : ps.drop (i + 1) with
  | nil =>
    have : ps.length ≤ i + 1 := by
      have := congrArg List.length hr
      rw [List.length_drop] at this
      simp at this; omega
    rw [if_neg (by omega)]
    simp only [genD]
    exact ⟨rfl, SubC.refl _⟩
  | cons q r =>
    have hlt : i + 1 < ps.length := by
      have := congrArg List.length hr
      rw [List.length_drop] at this
      simp at this; omega
    have hq : ps[i + 1]? = some q := by
      have : (ps.drop (i + 1))[0]? = some q := by rw [hr]; rfl
      rw [List.getElem?_drop] at this
      exact this
    rw [if_pos (by omega)]
    obtain ⟨qp, qle, qdv⟩ := Cy.per q (List.mem_of_getElem? hq)
    have hcl := Cy.le
    have hpq : p < q := by
      have := (calFrom_prev hc.2.2 hq).1
      unfold prevOf at this
      rw [if_neg (by omega), show i + 1 - 1 = i by omega, hp] at this
      exact this
    simp only [wGFor, wiRng3]
    walk_at "dl"
    refine ⟨_, hfs, _, hcal, _, _, seqD_cal, _, cal_at hq, ?_⟩
    walk_at "dl"
    refine ⟨_, hfs, _, hcal, _, _, seqD_cal, _, cal_at hp, ?_⟩
    walk_at "dl"
    refine ⟨_, rgC_pos h0 (by omega) (by omega) pp (by omega), ?_⟩
    refine ⟨fun j xs c0 ρ cs' => c0 = cs' ∧ xs = (kidsD i p (q :: r) d).drop j ∧ TreeCal C a ps cs' ∧ ∃ a3, ρ = [some (.cell a), some (.int (i : Int)), some (.int d), a3], ⟨rfl, rfl, ⟨fs, hfs, hcal⟩, _, rfl⟩, fun _ _ _ _ _ _ _ => trivial, ?_, ?_⟩
    · rintro j x xs c0 ρ cs' hx ⟨rfl, rfl, ht, a3, rfl⟩
      obtain ⟨hj, rfl⟩ := rangeD_at hx
      simp only [wGY]
      walk_at "dl"
      refine ⟨by decide, SubC.refl _, ?_⟩
      have hg : (kidsD i p (q :: r) d)[j]? = some (.tup [.int ((i : Int) + 1), .int (d + (j : Int) * p)]) := by
        unfold kidsD kidDays
        rw [List.getElem?_map, List.getElem?_map, List.getElem?_range hj]
        rfl
      rw [drop_cons hg]
      exact .inr ⟨_, rfl, fun c2 h2 => ⟨rfl, h2⟩⟩
    · rintro xs c0 ρ cs' ⟨rfl, rfl, ht, a3, rfl⟩
      rw [rangeD_len]
      simp only [genD]
      refine ⟨?_, SubC.refl _⟩
      rw [List.drop_eq_nil_iff]
      unfold kidsD kidDays
      simp

/-! ### Tree.best_sums -/
def kvT (p : Int × Int) : Key × Vl := (Sum.inl p.1, .int p.2)
structure Tally (l : List (Int × Int)) (f : Int → Nat) : Prop where
  nd : (l.map (·.1)).Nodup
  val : ∀ p ∈ l, p.2 = f p.1 ∧ 0 < f p.1
  mem : ∀ x, 0 < f x → x ∈ l.map (·.1)
theorem valD_kvT : ∀ (l : List (Int × Int)) (x : Int), valD (l.map kvT) (Sum.inl x) = (l.find? fun p => decide (p.1 = x)).map fun p => Vl.int p.2
  | [], _ => rfl
  | p :: l, x => by
    have ih := valD_kvT l x
    unfold valD at ih ⊢
    simp only [List.map_cons, List.find?_cons, kvT, Sum.inl.injEq] at ih ⊢
    by_cases h : p.1 = x
    · simp [h]
    · simp only [h, decide_false]; exact ih
theorem Tally.find {l : List (Int × Int)} {f : Int → Nat} (T : Tally l f) (x : Int) : (l.find? fun p => decide (p.1 = x)) = if 0 < f x then some (x, (f x : Int)) else none := by
  by_cases h : 0 < f x
  · rw [if_pos h]
    cases e : l.find? fun p => decide (p.1 = x) with
    | none =>
      exfalso
      obtain ⟨p, hp, rfl⟩ := List.mem_map.mp (T.mem x h)
      have := List.find?_eq_none.mp e p hp
      simp at this
    | some p =>
      have h1 := List.find?_some e
      have h2 := List.mem_of_find?_eq_some e
      simp only [decide_eq_true_eq] at h1
      obtain ⟨h3, _⟩ := T.val p h2
      rw [← h1, ← h3]
  · rw [if_neg h]
    refine List.find?_eq_none.mpr fun p hp => ?_
    simp only [decide_eq_true_eq]
    intro z
    have := (T.val p hp).2
    rw [z] at this
    exact h this
theorem Tally.get {l : List (Int × Int)} {f : Int → Nat} (T : Tally l f) (x : Int) : (valD (l.map kvT) (Sum.inl x)).getD (.int 0) = .int (f x) := by
  rw [valD_kvT, T.find]
  by_cases h : 0 < f x
  · rw [if_pos h]; rfl
  · rw [if_neg h]
    have : f x = 0 := by omega
    rw [this]; rfl
theorem Tally.put {l : List (Int × Int)} {f : Int → Nat} (T : Tally l f) (x : Int) : ∃ l', putD (l.map kvT) (Sum.inl x) (.int ((f x : Int) + 1)) = l'.map kvT ∧ Tally l' (fun y => if y = x then f y + 1 else f y) := by
  unfold putD
  have hany : ((l.map kvT).any fun kv => decide (kv.1 = Sum.inl x)) = decide (0 < f x) := by
    rw [Bool.eq_iff_iff]
    simp only [List.any_eq_true, List.mem_map, decide_eq_true_eq]
    constructor
    · rintro ⟨_, ⟨p, hp, rfl⟩, h⟩
      simp only [kvT, Sum.inl.injEq] at h
      rw [← h]; exact (T.val p hp).2
    · intro h
      obtain ⟨p, hp, e⟩ := List.mem_map.mp (T.mem x h)
      exact ⟨_, ⟨p, hp, rfl⟩, by simp only [kvT, Sum.inl.injEq]; exact e⟩
  rw [hany]
  by_cases h : 0 < f x
  · simp only [h, decide_true, if_true]
    refine ⟨l.map fun p => if p.1 = x then (p.1, (f x : Int) + 1) else p, ?_, ?_, ?_, ?_⟩
    · rw [List.map_map, List.map_map]
      refine List.map_congr_left fun p _ => ?_
      simp only [Function.comp, kvT, Sum.inl.injEq]
      split <;> rfl
    · rw [List.map_map]
      have : ((fun p : Int × Int => p.1) ∘ fun p : Int × Int => if p.1 = x then (p.1, (f x : Int) + 1) else p) = fun p => p.1 := by
        funext p; simp only [Function.comp]; split <;> rfl
      rw [this]; exact T.nd
    · intro p hp
      obtain ⟨q, hq, rfl⟩ := List.mem_map.mp hp
      obtain ⟨h1, h2⟩ := T.val q hq
      by_cases e : q.1 = x
      · simp only [e, if_true]; constructor
        · rfl
        · omega
      · simp only [e, if_false]; exact ⟨h1, h2⟩
    · intro y hy
      have hy' : 0 < f y := by
        by_cases e : y = x
        · rw [e]; exact h
        · simpa [e] using hy
      obtain ⟨p, hp, e⟩ := List.mem_map.mp (T.mem y hy')
      refine List.mem_map.mpr ⟨_, List.mem_map.mpr ⟨p, hp, rfl⟩, ?_⟩
      split <;> exact e
  · simp only [h, decide_false, Bool.false_eq_true, if_false]
    have h0 : f x = 0 := by omega
    have hx : x ∉ l.map (·.1) := fun z => by
      obtain ⟨p, hp, rfl⟩ := List.mem_map.mp z
      exact h (T.val p hp).2
    refine ⟨l ++ [(x, (f x : Int) + 1)], by rw [List.map_append]; rfl, ?_, ?_, ?_⟩
    · rw [List.map_append, List.nodup_append]
      refine ⟨T.nd, by simp, fun a ha b hb => ?_⟩
      simp at hb
      rw [hb]
      exact fun z => hx (z ▸ ha)
    · intro p hp
      rcases List.mem_append.mp hp with z | z
      · obtain ⟨h1, h2⟩ := T.val p z
        have : p.1 ≠ x := fun e => h (e ▸ h2)
        simp only [this, if_false]; exact ⟨h1, h2⟩
      · simp at z
        rw [z]; simp
    · intro y hy
      rw [List.map_append, List.mem_append]
      by_cases e : y = x
      · right; simp [e]
      · left; exact T.mem y (by simpa [e] using hy)

/-! ### how long the lists are -/
theorem kid_len {p q d : Int} (hp : 0 < p) (h0 : 0 ≤ d) (hd : d < p) (hpq : p ∣ q) (hq : 0 < q) : ((kidDays p q d).length : Int) * p = q := by
  obtain ⟨m, rfl⟩ := hpq
  have hm : 0 < m := by
    apply Decidable.byContradiction
    intro h
    have : p * m ≤ 0 := Int.mul_nonpos_of_nonneg_of_nonpos (by omega) (by omega)
    omega
  unfold kidDays
  rw [List.length_map, List.length_range]
  have : (p * m - d - 1) / p = m - 1 := by
    have e : p * m - d - 1 = (p - 1 - d) + (m - 1) * p := by rw [Int.sub_mul, Int.mul_comm p m]; omega
    rw [e, Int.add_mul_ediv_right _ _ (by omega), Int.ediv_eq_zero_of_lt (by omega) (by omega)]
    omega
  rw [this, show ((m - 1 + 1).toNat : Int) = m by omega, Int.mul_comm]
theorem sum_bound {α : Type} {q c : Int} {f : α → Nat} : ∀ {ks : List α}, (∀ k ∈ ks, (f k : Int) * q ≤ c) → (((ks.map f).sum : Nat) : Int) * q ≤ ks.length * c
  | [], _ => by simp
  | k :: ks, h => by
    have ih := sum_bound (ks := ks) fun j hj => h j (by simp [hj])
    have h1 := h k (by simp)
    simp only [List.map_cons, List.sum_cons, List.length_cons]
    rw [Int.natCast_add, Int.add_mul, Int.natCast_add, Int.add_mul]
    omega
theorem len_up {p q c S n : Int} (hp : 0 < p) (hq : 0 < q) (hn : n * p = q) (h : S * q ≤ n * c) : S * p ≤ c := by
  have h1 : S * q * p ≤ n * c * p := Int.mul_le_mul_of_nonneg_right h (by omega)
  have h2 : n * c * p = c * q := by rw [← hn, Int.mul_assoc, Int.mul_comm c p, ← Int.mul_assoc, Int.mul_comm]
  have h3 : S * q * p = S * p * q := by rw [Int.mul_assoc, Int.mul_comm q p, ← Int.mul_assoc]
  rw [h2, h3] at h1
  exact Int.le_of_mul_le_mul_right h1 hq
theorem bestOf_len (css : List (List Int)) : (bestOf css).length ≤ css.flatten.length := by
  unfold bestOf
  rw [List.length_mergeSort]
  refine Nat.le_trans (List.length_filter_le _ _) (nodupLen (nodup_eraseDups _) fun x hx => ?_)
  exact List.mem_eraseDups.mp hx
theorem chain_pos : ∀ {r : List Int} {p : Int}, 0 < p → chain p r → 0 < lastD p r ∧ p ≤ lastD p r
  | [], p, hp, _ => ⟨hp, Int.le_refl _⟩
  | q :: r, p, hp, ⟨h1, _, h3⟩ => by
    rw [lastD_cons]
    have := chain_pos (show 0 < q by omega) h3
    exact ⟨this.1, by omega⟩
theorem ch_len (F : Int → Int) (c : Int) : ∀ (r : List Int) (p d : Int), 0 < p → 0 ≤ d → d < p → chain p r → lastD p r = c → ((ch F r p d).length : Int) * p ≤ c
  | [], p, d, hp, _, _, _, hl => by
    have hl : p = c := hl
    simp [ch, hl]
  | q :: r, p, d, hp, h0, hd, ⟨h1, h2, h3⟩, hl => by
    rw [lastD_cons] at hl
    have hsum : (((kidDays p q d).map fun k => (ch F r q k).length).sum : Int) * q ≤ (kidDays p q d).length * c := sum_bound fun k hk => by
      obtain ⟨k0, k1⟩ := kid_bounds hp h0 (show d < q by omega) hk
      exact ch_len F c r q k (by omega) k0 k1 h3 hl
    have hu := len_up hp (show 0 < q by omega) (kid_len hp h0 hd h2 (by omega)) hsum
    have hb := bestOf_len ((kidDays p q d).map (ch F r q))
    have e : ((kidDays p q d).map (ch F r q)).flatten.length = ((kidDays p q d).map fun k => (ch F r q k).length).sum := by
      rw [List.length_flatten, List.map_map]; rfl
    rw [e] at hb
    unfold ch
    exact Int.le_trans (Int.mul_le_mul_of_nonneg_right (Int.ofNat_le.mpr hb) (by omega)) hu
theorem ch_srt (F : Int → Int) : ∀ (r : List Int) (p d : Int), (ch F r p d).Pairwise (· < ·)
  | [], _, _ => by simp [ch]
  | q :: r, p, d => (best_bestOf _).srt
end DL
set_option maxRecDepth 100000
set_option maxHeartbeats 4000000
namespace DL
open PySem L2 GT
local macro_rules | `(tactic| walk_at "dl") => `(tactic| simp only [wGSeq, wGIf, wGP, wG0, GDs.at, wFld, wSetF, wMeth, wMake, wGMeth, wGCall, wDNewK, wDNewT, CO.ins.injEq, CO.dk.injEq, CO.dt.injEq, Cells.put_put, wRet, wRetN, wSeq, wAsg, wIfS, wDrop, wNext, wVar, wC, wOp, wUn, wFn, wNil, wCons, wTest, wNot, wAnd, wOr, wAndV, wOrV, wNotV, wIf, wChain, wTup, wLst, wCall, wNever, gN, gT, gNil, gCons, gIx, wI, wI0, wNeg, wMax2, wMin2, wLen, wIsN, wNotN, isNon_non, isNon_bl, isNon_int, isNon_str, isNon_lst, isNon_tup, isNon_cell, wIx, wTuple, wAug, wAugIx, wPar, wPar3, wSlL, wSlT, wPart, wNoPart, wCatT, wIsi, wIsi2, isiT, tyD_non, tyD_bl, tyD_int, tyD_str, tyD_lst, tyD_tup, tyD_cell, coTy_lst, seqD_lst, seqD_tp, seqD_cell, coSeq_lst, seen_dat, seen_cell, coDat_lst, startD, wYes, wApp, wEq_int, wEq_bl, allDat_nil, allDat_cons, allDat_map, Option.map_some, List.map_cons, List.map_nil, List.cons_append, List.nil_append, List.length_cons, List.length_nil, List.replicate, List.getElem?_cons_zero, List.getElem?_cons_succ, List.set_cons_zero, List.set_cons_succ, Option.some.injEq, exists_eq_left', exists_eq_left, exists_and_left, exists_eq', exists_eq, Vl.dat.injEq, Vl.raw.injEq, V.ref.injEq, CO.lst.injEq, Dat.int.injEq, Dat.bl.injEq, Dat.tup.injEq, Dat.lst.injEq, List.cons.injEq, and_true, true_and, retE, Nat.reduceAdd, Nat.reduceSub, and_assoc, Prod.mk.injEq, if_true, if_false, Bool.false_eq_true, decide_eq_true_eq, Bool.not_true, Bool.not_false, Bool.not_eq_true', decide_eq_false_iff_not, if_false_left, if_false_right, beq_iff_eq, Bool.or_eq_true, Bool.and_eq_true, Bool.or_self, Bool.or_true, Bool.true_or, Bool.or_false, Bool.false_or, decide_true, decide_false, reduceCtorEq, Cells.put_same, gt_iff_lt, ge_iff_le, beq_self_eq_true, bne_self_eq_false, Bool.decide_eq_true, not_true_eq_false, not_false_eq_true, Decidable.not_not, false_and, and_false, Bool.not_eq_false, at_0, at_1, at_2, at_3, at_4, at_5, ix_0, ix_1, ix_2, ix_3, Nat.reduceLT, Int.reduceLT, Int.reduceLE, Int.reduceNeg, Int.reduceAdd, Int.reduceSub, Int.reduceEq, Int.reducePow, Int.reduceToNat, Cells.put_put])

/-! ### a tree as it stands -/
def tfs (ps : List Int) (d : Addr) : List (Str × Vl) := [("calendar", .dat (cal ps)), ("choices", .cell d)]
theorem tfs_cal (ps : List Int) (d : Addr) : (tfs ps d).lookup ("calendar" : Str) = some (.dat (cal ps)) := by
  unfold tfs; rw [List.lookup_cons]; rfl
theorem tfs_ch (ps : List Int) (d : Addr) : (tfs ps d).lookup ("choices" : Str) = some (.cell d) := by
  unfold tfs
  rw [List.lookup_cons, show (("choices" : Str) == "calendar") = false by decide +kernel, List.lookup_cons]; rfl
theorem tfs_no (ps : List Int) (d : Addr) {m : Str} (h1 : (m == ("calendar" : Str)) = false) (h2 : (m == ("choices" : Str)) = false) : (tfs ps d).lookup m = none := by
  unfold tfs
  rw [List.lookup_cons, h1, List.lookup_cons, h2]; rfl
def key2 (i k : Int) : List Key := [Sum.inl i, Sum.inl k]
structure TreeAt (C : CE) (cs : Cells) (a d : Addr) (ps : List Int) (kvs : List (List Key × Vl)) : Prop where
  ob : cs a = some (.ins C.Tree (tfs ps d))
  dc : cs d = some (.dt kvs)
theorem TreeAt.cal {C : CE} {cs : Cells} {a d : Addr} {ps : List Int} {kvs : List (List Key × Vl)} (h : TreeAt C cs a d ps kvs) : TreeCal C a ps cs := ⟨_, h.ob, tfs_cal ps d⟩
theorem TreeAt.put {C : CE} {cs : Cells} {a d c : Addr} {ps : List Int} {kvs : List (List Key × Vl)} {o : CO} (h : TreeAt C cs a d ps kvs) (hc : cs c = none) : TreeAt C (cs.put c o) a d ps kvs :=
  ⟨by rw [Cells.put_ne (fun z => by rw [← z, h.ob] at hc; cases hc)]; exact h.ob, by rw [Cells.put_ne (fun z => by rw [← z, h.dc] at hc; cases hc)]; exact h.dc⟩
def sp_Tree_best_sums (C : CE) : DSp := fun xs cs Q _ => ∃ (a d : Addr) (kvs : List (List Key × Vl)) (ps : List Int) (i : Nat) (p q : Int) (r : List Int) (day : Int) (F : Int → Int), xs = [.cell a, .int i, .int day] ∧ CalOk ps ∧ ps[i]? = some p ∧ ps.drop (i + 1) = q :: r ∧ 0 ≤ day ∧ day < p ∧ TreeAt C cs a d ps kvs ∧
  (∀ k ∈ kidDays p q day, valD kvs (key2 ((i : Int) + 1) k) = some (.dat (.lst (iD (ch F r q k))))) ∧ Q (.dat (.lst (iD (ch F (q :: r) p day)))) cs
theorem len_Tree_best_sums {C : CE} : ∀ xs cs Q XP, sp_Tree_best_sums C xs cs Q XP → xs.length = 3 := by rintro xs cs Q XP ⟨a, d, kvs, ps, i, p, q, r, day, F, rfl, _⟩; rfl
def w_Tree_best_sums (C : CE) : WS := (wSeq (wAsg wDNewK (gN 3))
    (wSeq (wForG (wGMeth C.Tree "children" (sp_Tree_children C) (wVar 0) (wCons (wVar 1) (wCons (wVar 2) wNil))) (gN 4) (wFor (wiSeq (wOp wDGet (wFld C.Tree "choices" (wVar 0)) (wVar 4))) (gN 5) (wDPut (wVar 3) (wVar 5) (wOp wAdd (wDGet2 (wVar 3) (wVar 5) (wC (.int 0))) (wC (.int 1))))))
    (wSeq (wAsg (wMaxVals (wVar 3)) (gN 6))
    (wRet (wFn wSortI (wCons (wLock (wLc (wiItems (wVar 3)) (gT 2 (gCons (gN 5) (gCons (gN 7) gNil))) (wTest (wOp (wEqD false) (wVar 7) (wVar 6))) (wVar 5) [5, 7])) wNil))))))
theorem cal_chain : ∀ {ps : List Int} {i : Nat} {p : Int}, calFrom 0 ps → ps[i]? = some p → chain p (ps.drop (i + 1)) := by
  have key : ∀ (r : List Int) (b : Int), 0 < b → calFrom b r → chain b r := by
    intro r
    induction r with
    | nil => intro b _ _; trivial
    | cons q r ih =>
      intro b hb h
      obtain ⟨h1, h2, h3, h4⟩ := h
      exact ⟨h1, Int.dvd_of_emod_eq_zero (h3 hb), ih q (by omega) h4⟩
  intro ps
  have : ∀ (ps : List Int) (b : Int), 0 ≤ b → calFrom b ps → ∀ (i : Nat) (p : Int), ps[i]? = some p → chain p (ps.drop (i + 1)) := by
    intro ps
    induction ps with
    | nil => intro b _ _ i p h; cases h
    | cons q r ih =>
      intro b hb h i p hp
      obtain ⟨h1, h2, h3, h4⟩ := h
      cases i with
      | zero => cases hp; exact key r q (by omega) h4
      | succ i => exact ih q (by omega) h4 i p hp
  intro i p h hp
  exact this ps 0 (Int.le_refl 0) h i p hp
theorem last_drop {ps : List Int} {i : Nat} {p : Int} (hp : ps[i]? = some p) : lastD p (ps.drop (i + 1)) = cyc ps := by
  induction ps generalizing i with
  | nil => cases hp
  | cons q r ih =>
    cases i with
    | zero => cases hp; rw [← lastD_cyc, lastD_cons]; rfl
    | succ i =>
      rw [← lastD_cyc, lastD_cons]
      have hp' : r[i]? = some p := hp
      have := ih hp'
      rw [← lastD_cyc] at this
      cases r with
      | nil => cases hp'
      | cons x r => rw [lastD_cons] at this; rw [lastD_cons]; exact this
theorem cnt_snoc (css : List (List Int)) (c : List Int) (x : Int) : cnt (css ++ [c]) x = cnt css x + if x ∈ c then 1 else 0 := by
  unfold cnt
  rw [List.filter_append, List.length_append]
  by_cases h : x ∈ c <;> simp [h]
theorem tally_len {l : List (Int × Int)} {f : Int → Nat} (T : Tally l f) {m : List Int} (h : ∀ x, 0 < f x → x ∈ m) : l.length ≤ m.length := by
  have := nodupLen (m := m) T.nd fun x hx => by
    obtain ⟨p, hp, rfl⟩ := List.mem_map.mp hx
    exact h _ (T.val p hp).2
  rw [List.length_map] at this
  exact this
theorem cnt_pos {css : List (List Int)} {x : Int} (h : 0 < cnt css x) : ∃ c ∈ css, x ∈ c := by
  unfold cnt at h
  obtain ⟨c, hc⟩ := List.exists_mem_of_length_pos h
  have := List.mem_filter.mp hc
  exact ⟨c, this.1, by simpa using this.2⟩

theorem best_of_tally {css : List (List Int)} {l : List (Int × Int)} (T : Tally l (cnt css)) (hne : l ≠ []) {m : Int} (hm : m ∈ l.map (·.2)) (hmax : ∀ j ∈ l.map (·.2), j ≤ m) {ns : List Int} (hp : ns.Perm ((l.filter fun p => p.2 == m).map (·.1))) (hs : ns.Pairwise (· ≤ ·)) : ns = bestOf css := by
  refine best_unique ⟨?_, fun x => ?_⟩ (best_bestOf css)
  · have hnd : ns.Nodup := hp.nodup_iff.mpr (T.nd.sublist (List.Sublist.map _ List.filter_sublist))
    refine (hs.and hnd).imp fun {a b} h => ?_
    obtain ⟨h1, h2⟩ := h
    omega
  · rw [hp.mem_iff, List.mem_map]
    obtain ⟨pm, hpm, epm⟩ := List.mem_map.mp hm
    constructor
    · rintro ⟨p, hp, rfl⟩
      obtain ⟨hp1, hp2⟩ := List.mem_filter.mp hp
      have hp2 : p.2 = m := by simpa using hp2
      obtain ⟨v1, v2⟩ := T.val p hp1
      refine ⟨cnt_pos v2, fun y => ?_⟩
      by_cases hy : 0 < cnt css y
      · obtain ⟨p', hp', e⟩ := List.mem_map.mp (T.mem y hy)
        have := hmax p'.2 (List.mem_map.mpr ⟨p', hp', rfl⟩)
        have := (T.val p' hp').1
        rw [e] at this
        omega
      · omega
    · rintro ⟨⟨c, hc, hx⟩, hall⟩
      have h0 : 0 < cnt css x := by
        unfold cnt
        exact List.length_pos_of_mem (List.mem_filter.mpr ⟨hc, by simpa using hx⟩)
      obtain ⟨p, hp, rfl⟩ := List.mem_map.mp (T.mem x h0)
      refine ⟨p, List.mem_filter.mpr ⟨hp, ?_⟩, rfl⟩
      have h1 := hmax p.2 (List.mem_map.mpr ⟨p, hp, rfl⟩)
      have h2 := (T.val p hp).1
      have h3 := (T.val pm hpm).1
      have h4 := hall pm.1
      have : p.2 = m := by omega
      simp [this]
theorem pure_Tree_best_sums (K : Frag) (C : CE) : ∀ xs cs Q XP, sp_Tree_best_sums C xs cs Q XP → w_Tree_best_sums C (retE K Q) (startD 8 xs) cs := by
  rintro xs cs Q XP ⟨a, d, kvs, ps, i, p, q, r, day, F, rfl, hc, hp, hr, h0, hd, T, hkv, hQ⟩
  have Cy := cal_cyc hc
  obtain ⟨pp, ple, pdv⟩ := Cy.per p (List.mem_of_getElem? hp)
  have hch := cal_chain hc.2.2 hp
  have hla := last_drop hp
  rw [hr] at hch hla
  obtain ⟨c1, c2, c3⟩ := id hch
  rw [lastD_cons] at hla
  have hcl := Cy.le
  unfold w_Tree_best_sums
  walk_at "dl"
  intro cc hcc
  have Tc : ∀ o, TreeAt C (cs.put cc o) a d ps kvs := fun o => T.put hcc
  generalize hks : kidDays p q day = ks at hkv
  have hflat : ((ks.map (ch F r q)).flatten.length : Int) ≤ 400 := by
    have hsum : (((kidDays p q day).map fun k => (ch F r q k).length).sum : Int) * q ≤ (kidDays p q day).length * cyc ps := sum_bound fun k hk => by
      obtain ⟨k0, k1⟩ := kid_bounds pp h0 (show day < q by omega) hk
      exact ch_len F _ r q k (by omega) k0 k1 c3 hla
    have hu := len_up pp (show 0 < q by omega) (kid_len pp h0 hd c2 (by omega)) hsum
    rw [hks] at hu
    rw [List.length_flatten, List.map_map]
    have e : (List.length ∘ ch F r q) = fun k => (ch F r q k).length := rfl
    rw [e]
    generalize ((ks.map fun k => (ch F r q k).length).sum : Int) = S at hu
    by_cases hS : S ≤ 0
    · omega
    · have : S * 1 ≤ S * p := Int.mul_le_mul_of_nonneg_left (by omega) (by omega)
      omega
  have key : ∀ (j : Nat) (x : Int) (cj : List Int), ∀ m, (ks.map (ch F r q))[j]? = some cj → 0 < cnt ((ks.map (ch F r q)).take j) x + (if x ∈ cj.take m then 1 else 0) → x ∈ (ks.map (ch F r q)).flatten := by
    intro j x cj m hcj h
    by_cases hx : x ∈ cj.take m
    · exact List.mem_flatten.mpr ⟨cj, List.mem_of_getElem? hcj, List.mem_of_mem_take hx⟩
    · rw [if_neg hx] at h
      obtain ⟨c, hc, hxc⟩ := cnt_pos (show 0 < cnt ((ks.map (ch F r q)).take j) x by omega)
      exact List.mem_flatten.mpr ⟨c, List.mem_of_mem_take hc, hxc⟩
  simp only [wForG]
  walk_at "dl"
  refine ⟨_, (Tc _).ob, tfs_no ps d (by decide +kernel) (by decide +kernel), _, _, _, ⟨a, ps, i, p, day, rfl, hc, hp, h0, hd, rfl, rfl, rfl⟩, ?_⟩
  rw [hr]
  have hdsl : (kidsD i p (q :: r) day).length = ks.length := by simp [kidsD, hks]
  refine ⟨fun j ρ cs' => ∃ l a4 a5, cs' = cs.put cc (.dk (l.map kvT)) ∧ Tally l (cnt ((ks.map (ch F r q)).take j)) ∧ ρ = [some (.cell a), some (.int i), some (.int day), some (.cell cc), a4, a5, none, none], ⟨[], _, _, rfl, ⟨by simp, by simp, fun x hx => by simp [cnt] at hx⟩, rfl⟩, ?_, ?_, ?_⟩
  · rintro j ρ cs' _ ⟨l, a4, a5, rfl, _, rfl⟩
    exact (Tc _).cal
  · rintro j dd ρ cs' hdd ⟨l, a4, a5, rfl, hT, rfl⟩
    have hjl : j < ks.length := by rw [← hdsl]; exact (List.getElem?_eq_some_iff.mp hdd).1
    have hkj : ks[j]? = some ks[j] := List.getElem?_eq_getElem hjl
    have hdd' : dd = .tup [.int ((i : Int) + 1), .int ks[j]] := by
      unfold kidsD at hdd
      simp only [hks] at hdd
      rw [List.getElem?_map, hkj] at hdd
      cases hdd; rfl
    subst hdd'
    have hmem : ks[j] ∈ ks := List.getElem_mem hjl
    have hval := hkv _ hmem
    generalize ks[j] = k at hkj hmem hval
    have hcj : (ks.map (ch F r q))[j]? = some (ch F r q k) := by rw [List.getElem?_map, hkj]; rfl
    simp only [wFor, wiSeq]
    walk_at "dl"
    refine ⟨_, (Tc _).ob, _, tfs_ch ps d, ?_⟩
    refine ⟨_, ⟨d, rfl, .inr ⟨kvs, key2 ((i : Int) + 1) k, (Tc _).dc, rfl, hval.symm⟩⟩, ?_⟩
    refine ⟨true, _, rfl, fun m ρ cs' => ∃ l a5, cs' = cs.put cc (.dk (l.map kvT)) ∧ Tally l (fun x => cnt ((ks.map (ch F r q)).take j) x + if x ∈ (ch F r q k).take m then 1 else 0) ∧ ρ = [some (.cell a), some (.int i), some (.int day), some (.cell cc), some (.dat (.tup [.int ((i : Int) + 1), .int k])), a5, none, none], ⟨l, _, rfl, ?_, rfl⟩, ?_, ?_, ?_⟩
    · have e : (fun x => cnt ((ks.map (ch F r q)).take j) x + if x ∈ (ch F r q k).take 0 then 1 else 0) = cnt ((ks.map (ch F r q)).take j) := by funext x; simp
      rw [e]; exact hT
    · rintro m ρ cs' _ ⟨l, a5, rfl, _, rfl⟩; rfl
    · rintro m x ρ cs' hx ⟨l, a5, rfl, hT, rfl⟩
      rw [iD_map] at hx
      unfold iV at hx
      rw [List.getElem?_map] at hx
      obtain ⟨am, ham, rfl⟩ := Option.map_eq_some_iff.mp hx
      simp only [wDPut, wDGet2]
      walk_at "dl"
      simp only [wDGet2]
      walk_at "dl"
      have hnot : am ∉ (ch F r q k).take m := fun z => by
        have hs := (ch_srt F r q k).sublist (List.take_sublist (m + 1) _)
        rw [take_snoc ham, List.pairwise_append] at hs
        have := hs.2.2 am z am (by simp)
        omega
      obtain ⟨l', hl', hT'⟩ := hT.put am
      refine ⟨.inl trivial, _, ⟨cc, rfl, .inl ⟨_, Sum.inl am, Cells.put_same, rfl, rfl⟩⟩, _, hT.get am, _, Sum.inl am, rfl, rfl, ?_, l', ?_, ?_⟩
      · have := tally_len hT fun x hx => key j x _ m hcj hx
        rw [List.length_map]
        omega
      · rw [← hl']
      · have e : (fun x => cnt ((ks.map (ch F r q)).take j) x + if x ∈ (ch F r q k).take (m + 1) then 1 else 0) = fun y => if y = am then (cnt ((ks.map (ch F r q)).take j) y + if y ∈ (ch F r q k).take m then 1 else 0) + 1 else cnt ((ks.map (ch F r q)).take j) y + if y ∈ (ch F r q k).take m then 1 else 0 := by
          funext x
          rw [take_snoc ham]
          by_cases hxa : x = am
          · subst hxa; simp [hnot]
          · simp [hxa]
        rw [e]; exact hT'
    · rintro ρ cs' ⟨l, a5, rfl, hT, rfl⟩
      refine ⟨l, rfl, ?_, _, _, rfl⟩
      rw [take_snoc hcj]
      have e : (fun x => cnt ((ks.map (ch F r q)).take j) x + if x ∈ (ch F r q k).take ((iD (ch F r q k)).map Vl.dat).length then 1 else 0) = cnt ((ks.map (ch F r q)).take j ++ [ch F r q k]) := by
        funext x
        rw [cnt_snoc, List.take_of_length_le (l := ch F r q k) (by rw [iD_map, iV_len]; exact Nat.le_refl _)]
      rw [← e]; exact hT
  · rintro ρ cs' ⟨l, a4, a5, rfl, hT, rfl⟩
    rw [hdsl, List.take_of_length_le (by rw [List.length_map]; exact Nat.le_refl _)] at hT
    refine ⟨rfl, ?_⟩
    have hlne : l ≠ [] := by
      obtain ⟨k, hk⟩ := List.exists_mem_of_ne_nil _ (kid_ne (q := q) pp (show day < q by omega))
      obtain ⟨k0, k1⟩ := kid_bounds pp h0 (show day < q by omega) hk
      obtain ⟨y, hy⟩ := List.exists_mem_of_ne_nil _ (ch_ne F r q k (by omega) k0 k1 c3)
      rw [hks] at hk
      have : 0 < cnt (ks.map (ch F r q)) y := by
        unfold cnt
        exact List.length_pos_of_mem (List.mem_filter.mpr ⟨List.mem_map.mpr ⟨k, hk, rfl⟩, by simpa using hy⟩)
      have := hT.mem y this
      intro z; rw [z] at this; simp at this
    simp only [wMaxVals]
    walk_at "dl"
    refine ⟨l.map fun p => (Sum.inl p.1, p.2), by rw [List.map_map]; rfl, by simpa using hlne, fun m hm hmax => ?_⟩
    rw [List.map_map] at hm hmax
    have hm' : m ∈ l.map (·.2) := hm
    have hmax' : ∀ j ∈ l.map (·.2), j ≤ m := hmax
    simp only [wLock]
    refine ⟨cc, l.map kvT, Cells.put_same, fun od u => ?_⟩
    rw [Cells.put_put]
    simp only [wLc, wiItems]
    walk_at "dl"
    refine ⟨od, u, l.map fun p => (Sum.inl p.1, .int p.2), ?_, ?_⟩
    · rw [List.map_map]; rfl
    · intro D hD
      have hDc : D ≠ cc := fun z => by rw [z, Cells.put_same] at hD; cases hD
      refine ⟨fun j cs' => cs' = (cs.put cc (.lk od u (l.map kvT))).put D (.lst (iV (((l.take j).filter fun p => p.2 == m).map (·.1)))), rfl, ?_, ?_, ?_⟩
      · rintro j cs' _ rfl
        rw [Cells.put_ne hDc.symm, Cells.put_same, List.map_map]; rfl
      · rintro j x cs' hx rfl
        rw [List.map_map, List.getElem?_map] at hx
        obtain ⟨pq, hpq, rfl⟩ := Option.map_eq_some_iff.mp hx
        simp only [Function.comp, keyD, wipeD]
        walk_at "dl"
        have hz : (((l.take j).filter fun p => p.2 == m).map (·.1)).length ≤ 400 := by
          have h1 := tally_len hT (m := (ks.map (ch F r q)).flatten) fun x hx => by
            obtain ⟨c, hc, hxc⟩ := cnt_pos hx
            exact List.mem_flatten.mpr ⟨c, hc, hxc⟩
          have h2 := List.length_filter_le (fun p : Int × Int => p.2 == m) (l.take j)
          have h3 := List.length_take_le' j l
          rw [List.length_map]
          omega
        by_cases hq : pq.2 = m
        · rw [if_pos hq]
          rw [iV_len]
          refine ⟨by omega, ?_⟩
          rw [take_snoc hpq, List.filter_append, List.map_append]
          simp [hq, iV]
        · rw [if_neg hq]
          rw [take_snoc hpq, List.filter_append, List.map_append]
          simp [hq, iV]
      · rintro cs' rfl
        rw [List.length_map, List.length_map, List.take_of_length_le (Nat.le_refl _)]
        refine ⟨_, Cells.put_same, .inl ?_⟩
        refine ⟨by rw [Cells.put_ne hDc.symm, Cells.put_same], ?_⟩
        simp only [wSortI]
        refine ⟨_, (l.filter fun p => p.2 == m).map (·.1), rfl, ?_, fun ns' hpm hps => .inr ⟨iD ns', allDat_iV ns', ?_⟩⟩
        · rw [seqD_cell, Cells.put_ne hDc, Cells.put_same]; rfl
        · have e := best_of_tally hT hlne hm' hmax' hpm hps
          subst e
          unfold ch at hQ
          rw [hks] at hQ
          refine GhK.drop (cs' := cs) (fun b c hb => ?_) hQ
          have hbc : b ≠ cc := fun z => by rw [z, hcc] at hb; cases hb
          have hbD : b ≠ D := fun z => by
            rw [Cells.put_ne hDc] at hD
            rw [z, hD] at hb; cases hb
          rw [Cells.put_ne hbc, Cells.put_ne hbD, Cells.put_ne hbc]
          exact hb
end DL
set_option maxRecDepth 100000
set_option maxHeartbeats 4000000
namespace DL
open PySem L2 GT
local macro_rules | `(tactic| walk_at "dl") => `(tactic| simp only [wGSeq, wGIf, wGP, wG0, GDs.at, wFld, wSetF, wMeth, wMake, wGMeth, wGCall, wDNewK, wDNewT, CO.ins.injEq, CO.dk.injEq, CO.dt.injEq, Cells.put_put, wRet, wRetN, wSeq, wAsg, wIfS, wDrop, wNext, wVar, wC, wOp, wUn, wFn, wNil, wCons, wTest, wNot, wAnd, wOr, wAndV, wOrV, wNotV, wIf, wChain, wTup, wLst, wCall, wNever, gN, gT, gNil, gCons, gIx, wI, wI0, wNeg, wMax2, wMin2, wLen, wIsN, wNotN, isNon_non, isNon_bl, isNon_int, isNon_str, isNon_lst, isNon_tup, isNon_cell, wIx, wTuple, wAug, wAugIx, wPar, wPar3, wSlL, wSlT, wPart, wNoPart, wCatT, wIsi, wIsi2, isiT, tyD_non, tyD_bl, tyD_int, tyD_str, tyD_lst, tyD_tup, tyD_cell, coTy_lst, seqD_lst, seqD_tp, seqD_cell, coSeq_lst, seen_dat, seen_cell, coDat_lst, startD, wYes, wApp, wEq_int, wEq_bl, allDat_nil, allDat_cons, allDat_map, Option.map_some, List.map_cons, List.map_nil, List.cons_append, List.nil_append, List.length_cons, List.length_nil, List.replicate, List.getElem?_cons_zero, List.getElem?_cons_succ, List.set_cons_zero, List.set_cons_succ, Option.some.injEq, exists_eq_left', exists_eq_left, exists_and_left, exists_eq', exists_eq, Vl.dat.injEq, Vl.raw.injEq, V.ref.injEq, CO.lst.injEq, Dat.int.injEq, Dat.bl.injEq, Dat.tup.injEq, Dat.lst.injEq, List.cons.injEq, and_true, true_and, retE, Nat.reduceAdd, Nat.reduceSub, and_assoc, Prod.mk.injEq, if_true, if_false, Bool.false_eq_true, decide_eq_true_eq, Bool.not_true, Bool.not_false, Bool.not_eq_true', decide_eq_false_iff_not, if_false_left, if_false_right, beq_iff_eq, Bool.or_eq_true, Bool.and_eq_true, Bool.or_self, Bool.or_true, Bool.true_or, Bool.or_false, Bool.false_or, decide_true, decide_false, reduceCtorEq, Cells.put_same, gt_iff_lt, ge_iff_le, beq_self_eq_true, bne_self_eq_false, Bool.decide_eq_true, not_true_eq_false, not_false_eq_true, Decidable.not_not, false_and, and_false, Bool.not_eq_false, at_0, at_1, at_2, at_3, at_4, at_5, ix_0, ix_1, ix_2, ix_3, Nat.reduceLT, Int.reduceLT, Int.reduceLE, Int.reduceNeg, Int.reduceAdd, Int.reduceSub, Int.reduceEq, Int.reducePow, Int.reduceToNat, Cells.put_put])

section
variable {κ : Type} [DecidableEq κ]
theorem valD_nil (k : κ) : valD ([] : List (κ × Vl)) k = none := rfl
theorem valD_cons (p : κ × Vl) (l : List (κ × Vl)) (k : κ) : valD (p :: l) k = if p.1 = k then some p.2 else valD l k := by
  unfold valD
  rw [List.find?_cons]
  by_cases h : p.1 = k
  · simp [h]
  · simp [h]
theorem valD_app (l m : List (κ × Vl)) (k : κ) : valD (l ++ m) k = match valD l k with | some v => some v | none => valD m k := by
  induction l with
  | nil => rfl
  | cons p l ih =>
    rw [List.cons_append, valD_cons, valD_cons]
    by_cases h : p.1 = k
    · simp [h]
    · simp only [h, if_false]; exact ih
theorem valD_none {l : List (κ × Vl)} {k : κ} (h : (l.any fun kv => decide (kv.1 = k)) = false) : valD l k = none := by
  unfold valD
  rw [List.find?_eq_none.mpr fun p hp => ?_]; rfl
  have := List.any_eq_false.mp h p hp
  exact this
theorem valD_put (l : List (κ × Vl)) (k k' : κ) (v : Vl) : valD (putD l k v) k' = if k' = k then some v else valD l k' := by
  unfold putD
  by_cases h : (l.any fun kv => decide (kv.1 = k)) = true
  · rw [if_pos h]
    have key : ∀ l : List (κ × Vl), valD (l.map fun kv => if kv.1 = k then (kv.1, v) else kv) k' = if k' = k then (if (l.any fun kv => decide (kv.1 = k)) = true then some v else none) else valD l k' := by
      intro l
      induction l with
      | nil => by_cases e : k' = k <;> simp [e, valD_nil]
      | cons p l ih =>
        rw [List.map_cons, valD_cons, valD_cons, ih, List.any_cons]
        by_cases hp : p.1 = k
        · simp only [hp, if_true, decide_true, Bool.true_or]
          by_cases e : k' = k
          · subst e; simp
          · have e' : ¬ k = k' := fun z => e z.symm
            simp [e, e']
        · simp only [hp, if_false, decide_false, Bool.false_or]
          by_cases e : k' = k
          · subst e; simp [hp]
          · simp [e]
    rw [key, if_pos h]
  · rw [if_neg h, valD_app]
    have h' : (l.any fun kv => decide (kv.1 = k)) = false := (Bool.not_eq_true _).mp h
    by_cases e : k' = k
    · subst e
      rw [valD_none h', if_pos rfl, valD_cons, if_pos rfl]
    · rw [if_neg e, valD_cons, if_neg (fun z => e z.symm), valD_nil]
      cases valD l k' <;> rfl
theorem putD_len (l : List (κ × Vl)) (k : κ) (v : Vl) : (putD l k v).length ≤ l.length + 1 := by
  unfold putD
  split
  · rw [List.length_map]; omega
  · simp
end

theorem seqD_putN {cs : Cells} {x : Vl} {r : Bool × List Vl} {p : Addr} {o : CO} (h : seqD cs x = some r) (hp : coSeq (cs p) = none) : seqD (cs.put p o) x = some r := by
  match x, h with
  | .dat (.lst ds), h => exact h
  | .dat (.tup ds), h => exact h
  | .raw (.ref a), h =>
    have h : coSeq (cs a) = some r := h
    have : a ≠ p := fun z => by rw [z, hp] at h; cases h
    show coSeq ((cs.put p o) a) = some r
    rw [Cells.put_ne this]; exact h
/-! ### Tree.__init__ -/
def ChOk (F : Int → Int) (ps : List Int) (kvs : List (List Key × Vl)) : Prop := ∀ (i : Nat) (p day : Int), ps[i]? = some p → 0 ≤ day → day < p → valD kvs (key2 i day) = some (.dat (.lst (iD (ch F (ps.drop (i + 1)) p day))))
def sp_Tree___init__ (C : CE) : DSp := fun xs cs Q _ => ∃ (a : Addr) (ps : List Int) (F : Int → Int) (x : Vl), xs = [.cell a, .dat (cal ps), x] ∧ CalOk ps ∧ cs a = some (.ins C.Tree []) ∧ seqD cs x = some (true, iV (rowF (cyc ps).toNat fun t => F (t : Int))) ∧
  ∀ d kvs, cs d = none → ChOk F ps kvs → Q .non ((cs.put a (.ins C.Tree (tfs ps d))).put d (.dt kvs))
theorem len_Tree___init__ {C : CE} : ∀ xs cs Q XP, sp_Tree___init__ C xs cs Q XP → xs.length = 3 := by rintro xs cs Q XP ⟨a, ps, F, x, rfl, _⟩; rfl
def w_Tree___init__ (C : CE) : WS := (wSeq (wSetF C.Tree "calendar" (wVar 0) (wVar 1))
    (wSeq (wSetF C.Tree "choices" (wVar 0) wDNewT)
    (wSeq (wFor (wiEnum (wCons (wVar 2) wNil)) (gT 2 (gCons (gN 3) (gCons (gN 4) gNil))) (wDPutT (wFld C.Tree "choices" (wVar 0)) (wCons (wOp wSub (wFn wLen (wCons (wVar 1) wNil)) (wC (.int 1))) (wCons (wVar 3) wNil)) (wLst (wCons (wVar 4) wNil))))
    (wFor (wiRng3 (wCons (wOp wSub (wFn wLen (wCons (wVar 1) wNil)) (wC (.int 2))) (wCons (wUn wNeg (wC (.int 1))) (wCons (wUn wNeg (wC (.int 1))) wNil)))) (gN 5) (wFor (wiRng1 (wCons (wOp wIx (wVar 1) (wVar 5)) wNil)) (gN 3) (wDPutT (wFld C.Tree "choices" (wVar 0)) (wCons (wVar 5) (wCons (wVar 3) wNil)) (wMeth C.Tree "best_sums" (sp_Tree_best_sums C) (wVar 0) (wCons (wVar 5) (wCons (wVar 3) wNil)))))))))
theorem rgC_down {n : Nat} (h : 1 ≤ n) (h2 : n ≤ 1000) : RgC ((n : Int) - 2) (-1) (-1) (n - 1) := by
  have hs : Builtin.Range.rangeSize ((n : Int) - 2) (-1) (-1) = (n : Int) - 1 := by
    unfold Builtin.Range.rangeSize
    rw [if_neg (by omega)]
    by_cases e : (-1 : Int) < (n : Int) - 2
    · rw [if_pos (by simpa using e), show (- -1 : Int) = 1 by decide, Int.ediv_one]; omega
    · rw [if_neg (by simpa using e)]; omega
  refine ⟨by omega, by omega, ?_, ?_⟩
  · unfold Builtin.Range.small
    rw [hs]
    simp only [Builtin.Range.rangeFitsLong, Bool.and_eq_true, Bool.or_eq_true, decide_eq_true_eq, beq_iff_eq]
    simp
    omega
  · rw [hs]; omega
theorem putV_cal (y : Vl) : putV ("calendar" : Str) y [] = ([(("calendar" : Str), y)] : List (Str × Vl)) := rfl
theorem putV_ch (ps : List Int) (d : Addr) : putV ("choices" : Str) (.cell d) ([(("calendar" : Str), .dat (cal ps))] : List (Str × Vl)) = tfs ps d := by
  show (if (("calendar" : Str) = "choices") then _ else _) = _
  rw [if_neg (by decide +kernel)]; rfl
theorem pure_Tree___init__ (K : Frag) (C : CE) : ∀ xs cs Q XP, sp_Tree___init__ C xs cs Q XP → w_Tree___init__ C (retE K Q) (startD 6 xs) cs := by
  rintro xs cs Q XP ⟨a, ps, F, x, rfl, hc, ha, hx, q⟩
  have Cy := cal_cyc hc
  unfold w_Tree___init__
  walk_at "dl"
  refine ⟨_, ha, by decide, ?_⟩
  rw [putV_cal]
  intro d hd
  have hda : d ≠ a := fun z => by rw [z, Cells.put_same] at hd; cases hd
  rw [Cells.put_ne hda] at hd
  refine ⟨_, by rw [Cells.put_ne hda.symm, Cells.put_same], by show 1 < 1000; decide, ?_⟩
  rw [putV_ch, Cells.put_comm hda.symm, Cells.put_put, Cells.put_comm hda]
  have TA : ∀ kvs, TreeAt C ((cs.put a (.ins C.Tree (tfs ps d))).put d (.dt kvs)) a d ps kvs := fun kvs => ⟨by rw [Cells.put_ne hda.symm, Cells.put_same], Cells.put_same⟩
  have SX : ∀ kvs, seqD ((cs.put a (.ins C.Tree (tfs ps d))).put d (.dt kvs)) x = some (true, iV (rowF (cyc ps).toNat fun t => F (t : Int))) := fun kvs =>
    seqD_putN (seqD_putN hx (by rw [ha]; rfl)) (by rw [Cells.put_ne hda, hd]; rfl)
  have q' : ∀ kvs, ChOk F ps kvs → Q .non ((cs.put a (.ins C.Tree (tfs ps d))).put d (.dt kvs)) := fun kvs h => q d kvs hd h
  generalize cs.put a (.ins C.Tree (tfs ps d)) = B at TA SX q'
  obtain ⟨n1, n5, hcf⟩ := id hc
  have hpos := Cy.pos
  have hle := Cy.le
  have hlast : ps[ps.length - 1]? = some (cyc ps) := by have := Cy.last; rw [List.getLast?_eq_getElem?] at this; exact this
  simp only [wFor, wiEnum]
  walk_at "dl"
  refine ⟨_, _, SX _, _, allDat_iV _, fun j ρ cs' => ∃ kvs a3 a4, cs' = B.put d (.dt kvs) ∧ kvs.length ≤ j ∧ (∀ t : Nat, t < j → valD kvs (key2 ((ps.length : Int) - 1) t) = some (.dat (.lst (iD [F t])))) ∧ ρ = [some (.cell a), some (.dat (cal ps)), some x, a3, a4, none], ⟨[], _, _, rfl, Nat.le_refl _, fun t ht => by omega, rfl⟩, ?_, ?_, ?_⟩
  · rintro j ρ cs' _ ⟨kvs, a3, a4, rfl, _⟩
    exact SX _
  · rintro j y ρ cs' hy ⟨kvs, a3, a4, rfl, hkl, hkv, rfl⟩
    obtain ⟨dd, hdd, rfl⟩ := enumF_at hy
    unfold iD at hdd
    rw [List.getElem?_map] at hdd
    obtain ⟨am, ham, rfl⟩ := Option.map_eq_some_iff.mp hdd
    have hj : j < (cyc ps).toNat := by
      have := (List.getElem?_eq_some_iff.mp ham).1
      rw [rowF_len] at this; exact this
    rw [rowF_get hj] at ham
    cases ham
    simp only [wDPutT]
    walk_at "dl"
    refine ⟨by decide, .inr ⟨[.int (F j)], rfl, ?_⟩⟩
    refine ⟨_, (TA _).ob, _, tfs_ch ps d, _, _, seqD_cal, _, rfl, _, key2 ((ps.length : Int) - 1) j, ?_, by show 2 ≤ 1000; decide, Cells.put_same, by omega, putD kvs (key2 ((ps.length : Int) - 1) j) (.dat (.lst (iD [F j]))), Cells.put_put, ?_, fun t ht => ?_⟩
    · rw [iV_len]; rfl
    · have := putD_len kvs (key2 ((ps.length : Int) - 1) j) (.dat (.lst (iD [F j])))
      omega
    · rw [valD_put]
      by_cases e : t = j
      · rw [if_pos (by rw [e]), e]
      · rw [if_neg (fun z => e (by simp [key2] at z; omega))]
        exact hkv t (by omega)
  · rintro ρ cs' ⟨kvs, a3, a4, rfl, hkl, hkv, rfl⟩
    rw [enumF_len] at hkl hkv
    rw [show (iD (rowF (cyc ps).toNat fun t => F (t : Int))).length = (cyc ps).toNat by unfold iD; rw [List.length_map, rowF_len]] at hkl hkv
    simp only [wFor, wiRng3]
    walk_at "dl"
    refine ⟨_, _, seqD_cal, ps.length - 1, by rw [iV_len]; exact rgC_down n1 (by omega), ?_⟩
    rw [iV_len]
    refine ⟨fun i ρ cs' => ∃ kvs, cs' = B.put d (.dt kvs) ∧ kvs.length ≤ 400 + 400 * i ∧ (∀ (dep : Nat) (p day : Int), ps.length - 1 ≤ dep + i → ps[dep]? = some p → 0 ≤ day → day < p → valD kvs (key2 dep day) = some (.dat (.lst (iD (ch F (ps.drop (dep + 1)) p day))))) ∧ ∃ a3 a4 a5, ρ = [some (.cell a), some (.dat (cal ps)), some x, a3, a4, a5], ⟨kvs, rfl, by omega, ?_, _, _, _, rfl⟩, fun _ _ _ _ _ => trivial, ?_, ?_⟩
    · intro dep p day hdep hp h0 h1
      have hl := (List.getElem?_eq_some_iff.mp hp).1
      have e : dep = ps.length - 1 := by omega
      subst e
      rw [hlast] at hp
      cases hp
      rw [show ps.length - 1 + 1 = ps.length by omega, List.drop_length]
      have := hkv day.toNat (by omega)
      rw [show ((ps.length - 1 : Nat) : Int) = (ps.length : Int) - 1 by omega]
      rw [Int.toNat_of_nonneg h0] at this
      exact this
    · rintro i y ρ cs' hy ⟨kvs, rfl, hkl, hkv, a3, a4, a5, rfl⟩
      obtain ⟨hi, rfl⟩ := rangeD_at hy
      have e0 : (ps.length : Int) - 2 + (i : Int) * (-1) = ((ps.length - 2 - i : Nat) : Int) := by omega
      rw [e0]
      generalize hdep : ps.length - 2 - i = dep0 at *
      have hdl : dep0 + 1 < ps.length := by omega
      have hp0 : ps[dep0]? = some ps[dep0] := List.getElem?_eq_getElem (by omega)
      generalize ps[dep0] = p0 at hp0
      have hq0 : ps[dep0 + 1]? = some ps[dep0 + 1] := List.getElem?_eq_getElem (by omega)
      have hdrop : ps.drop (dep0 + 1) = ps[dep0 + 1] :: ps.drop (dep0 + 1 + 1) := List.drop_eq_getElem_cons hdl
      generalize ps[dep0 + 1] = q0 at hq0 hdrop
      obtain ⟨pp, ple, pdv⟩ := Cy.per p0 (List.mem_of_getElem? hp0)
      have hch := cal_chain hcf hp0
      rw [hdrop] at hch
      obtain ⟨k1, k2, k3⟩ := id hch
      simp only [wiRng1]
      walk_at "dl"
      refine ⟨_, _, seqD_cal, _, cal_at hp0, p0, rfl, by omega, by omega, ?_⟩
      refine ⟨fun j ρ cs' => ∃ kvs, cs' = B.put d (.dt kvs) ∧ kvs.length ≤ 400 + 400 * i + j ∧ (∀ (dep : Nat) (p day : Int), ps.length - 1 ≤ dep + i → ps[dep]? = some p → 0 ≤ day → day < p → valD kvs (key2 dep day) = some (.dat (.lst (iD (ch F (ps.drop (dep + 1)) p day))))) ∧ (∀ t : Nat, t < j → valD kvs (key2 dep0 t) = some (.dat (.lst (iD (ch F (ps.drop (dep0 + 1)) p0 t))))) ∧ ∃ a3 a4, ρ = [some (.cell a), some (.dat (cal ps)), some x, a3, a4, some (.int dep0)], ⟨kvs, rfl, by omega, hkv, fun t ht => by omega, _, _, rfl⟩, fun _ _ _ _ _ => trivial, ?_, ?_⟩
      · rintro j y ρ cs' hy ⟨kvs, rfl, hkl, hkv, hkt, a3, a4, rfl⟩
        obtain ⟨hj, rfl⟩ := rangeD_at hy
        rw [show (0 : Int) + (j : Int) * 1 = j by omega]
        simp only [wDPutT]
        walk_at "dl"
        refine ⟨_, (TA _).ob, tfs_no ps d (by decide +kernel) (by decide +kernel), ?_⟩
        refine ⟨a, d, kvs, ps, dep0, p0, q0, _, j, F, rfl, hc, hp0, hdrop, by omega, by omega, TA _, fun k hk => ?_, ?_⟩
        · obtain ⟨b0, b1⟩ := kid_bounds pp (by omega) (show (j : Int) < q0 by omega) hk
          have := hkv (dep0 + 1) q0 k (by omega) hq0 b0 b1
          rw [show ((dep0 + 1 : Nat) : Int) = (dep0 : Int) + 1 by omega] at this
          exact this
        · refine ⟨_, (TA _).ob, _, tfs_ch ps d, _, rfl, _, key2 dep0 j, rfl, by show 2 ≤ 1000; decide, Cells.put_same, by omega, putD kvs (key2 dep0 j) (.dat (.lst (iD (ch F (q0 :: ps.drop (dep0 + 1 + 1)) p0 j)))), Cells.put_put, ?_, ?_, ?_⟩
          · have := putD_len kvs (key2 dep0 j) (.dat (.lst (iD (ch F (q0 :: ps.drop (dep0 + 1 + 1)) p0 j))))
            omega
          · intro dep p day h1 h2 h3 h4
            rw [valD_put, if_neg (fun z => ?_)]
            · exact hkv dep p day h1 h2 h3 h4
            · simp [key2] at z; omega
          · intro t ht
            rw [valD_put]
            by_cases e : t = j
            · rw [if_pos (by rw [e]), e, hdrop]
            · rw [if_neg (fun z => e (by simp [key2] at z; omega))]
              exact hkt t (by omega)
      · rintro ρ cs' ⟨kvs, rfl, hkl, hkv, hkt, a3, a4, rfl⟩
        rw [rangeD_len] at hkl hkt
        refine ⟨kvs, rfl, by omega, ?_, _, _, _, rfl⟩
        intro dep p day h1 h2 h3 h4
        by_cases e : dep = dep0
        · subst e
          rw [hp0] at h2
          cases h2
          have := hkt day.toNat (by omega)
          rw [Int.toNat_of_nonneg h3] at this
          exact this
        · exact hkv dep p day (by omega) h2 h3 h4
    · rintro ρ cs' ⟨kvs, rfl, hkl, hkv, a3, a4, a5, rfl⟩
      refine GhK.now (q' kvs fun i p day hp h0 h1 => hkv i p day ?_ hp h0 h1)
      rw [rangeD_len]; omega
end DL
set_option maxRecDepth 100000
set_option maxHeartbeats 4000000
namespace DL
open PySem L2 GT
local macro_rules | `(tactic| walk_at "dl") => `(tactic| simp only [wGSeq, wGIf, wGP, wG0, GDs.at, wFld, wSetF, wMeth, wMake, wGMeth, wGCall, wDNewK, wDNewT, CO.ins.injEq, CO.dk.injEq, CO.dt.injEq, Cells.put_put, wRet, wRetN, wSeq, wAsg, wIfS, wDrop, wNext, wVar, wC, wOp, wUn, wFn, wNil, wCons, wTest, wNot, wAnd, wOr, wAndV, wOrV, wNotV, wIf, wChain, wTup, wLst, wCall, wNever, gN, gT, gNil, gCons, gIx, wI, wI0, wNeg, wMax2, wMin2, wLen, wIsN, wNotN, isNon_non, isNon_bl, isNon_int, isNon_str, isNon_lst, isNon_tup, isNon_cell, wIx, wTuple, wAug, wAugIx, wPar, wPar3, wSlL, wSlT, wPart, wNoPart, wCatT, wIsi, wIsi2, isiT, tyD_non, tyD_bl, tyD_int, tyD_str, tyD_lst, tyD_tup, tyD_cell, coTy_lst, seqD_lst, seqD_tp, seqD_cell, coSeq_lst, seen_dat, seen_cell, coDat_lst, startD, wYes, wApp, wEq_int, wEq_bl, allDat_nil, allDat_cons, allDat_map, Option.map_some, List.map_cons, List.map_nil, List.cons_append, List.nil_append, List.length_cons, List.length_nil, List.replicate, List.getElem?_cons_zero, List.getElem?_cons_succ, List.set_cons_zero, List.set_cons_succ, Option.some.injEq, exists_eq_left', exists_eq_left, exists_and_left, exists_eq', exists_eq, Vl.dat.injEq, Vl.raw.injEq, V.ref.injEq, CO.lst.injEq, Dat.int.injEq, Dat.bl.injEq, Dat.tup.injEq, Dat.lst.injEq, List.cons.injEq, and_true, true_and, retE, Nat.reduceAdd, Nat.reduceSub, and_assoc, Prod.mk.injEq, if_true, if_false, Bool.false_eq_true, decide_eq_true_eq, Bool.not_true, Bool.not_false, Bool.not_eq_true', decide_eq_false_iff_not, if_false_left, if_false_right, beq_iff_eq, Bool.or_eq_true, Bool.and_eq_true, Bool.or_self, Bool.or_true, Bool.true_or, Bool.or_false, Bool.false_or, decide_true, decide_false, reduceCtorEq, Cells.put_same, gt_iff_lt, ge_iff_le, beq_self_eq_true, bne_self_eq_false, Bool.decide_eq_true, not_true_eq_false, not_false_eq_true, Decidable.not_not, false_and, and_false, Bool.not_eq_false, at_0, at_1, at_2, at_3, at_4, at_5, ix_0, ix_1, ix_2, ix_3, Nat.reduceLT, Int.reduceLT, Int.reduceLE, Int.reduceNeg, Int.reduceAdd, Int.reduceSub, Int.reduceEq, Int.reducePow, Int.reduceToNat, Cells.put_put])

/-! ### what collect gathers -/
def lab (F : Int → Int) (r : List Int) (p d ab : Int) : Int := if ab ∈ ch F r p d then ab else (ch F r p d).headD 0
def ownO (F : Int → Int) (r : List Int) (p d ab : Int) : List Ord := if ab ∈ ch F r p d then [] else [(p, d, (ch F r p d).headD 0 - ab)]
def coll (F : Int → Int) : List Int → Int → Int → Int → List Ord
  | [], p, d, ab => ownO F [] p d ab
  | q :: r, p, d, ab => ownO F (q :: r) p d ab ++ (kidDays p q d).flatMap fun k => coll F r q k (lab F (q :: r) p d ab)
def ordsV (os : List Ord) : List Vl := (ordsD os).map .dat
theorem ordsV_app (xs ys : List Ord) : ordsV (xs ++ ys) = ordsV xs ++ ordsV ys := by simp [ordsV, ordsD]
theorem ordsV_len (xs : List Ord) : (ordsV xs).length = xs.length := by simp [ordsV, ordsD]
theorem own_le (F : Int → Int) (r : List Int) (p d ab : Int) : (ownO F r p d ab).length ≤ 1 := by unfold ownO; split <;> simp
theorem coll_len (F : Int → Int) (c : Int) : ∀ (r : List Int) (p d ab : Int), 0 < p → 0 ≤ d → d < p → chain p r → lastD p r = c → ((coll F r p d ab).length : Int) * p ≤ ((r.length : Int) + 1) * c
  | [], p, d, ab, hp, _, _, _, hl => by
    have hl : p = c := hl
    have := own_le F [] p d ab
    unfold coll
    rw [hl] at hp ⊢
    simp
    have h2 : ((ownO F [] c d ab).length : Int) ≤ 1 := by rw [← hl]; omega
    have := Int.mul_le_mul_of_nonneg_right h2 (show 0 ≤ c by omega)
    omega
  | q :: r, p, d, ab, hp, h0, hd, ⟨h1, h2, h3⟩, hl => by
    rw [lastD_cons] at hl
    have hcp := chain_pos (show 0 < q by omega) h3
    rw [hl] at hcp
    have hsum : (((kidDays p q d).map fun k => (coll F r q k (lab F (q :: r) p d ab)).length).sum : Int) * q ≤ (kidDays p q d).length * (((r.length : Int) + 1) * c) := sum_bound fun k hk => by
      obtain ⟨k0, k1⟩ := kid_bounds hp h0 (show d < q by omega) hk
      exact coll_len F c r q k _ (by omega) k0 k1 h3 hl
    have hu := len_up hp (show 0 < q by omega) (kid_len hp h0 hd h2 (by omega)) hsum
    unfold coll
    rw [List.length_append, List.length_flatMap, List.length_cons]
    have ho := own_le F (q :: r) p d ab
    have ho2 := Int.mul_le_mul_of_nonneg_right (show ((ownO F (q :: r) p d ab).length : Int) ≤ 1 by omega) (show 0 ≤ p by omega)
    rw [Int.natCast_add, Int.add_mul]
    rw [show (((r.length + 1 : Nat) : Int) + 1) * c = ((r.length : Int) + 1) * c + c by rw [Int.natCast_add, Int.add_mul, Int.add_mul, Int.add_mul]; simp]
    omega
theorem TreeAt.sub {C : CE} {cs cs' : Cells} {a d : Addr} {ps : List Int} {kvs : List (List Key × Vl)} (h : TreeAt C cs a d ps kvs) (s : SubC cs cs') : TreeAt C cs' a d ps kvs := ⟨s _ _ h.ob, s _ _ h.dc⟩
/-! ### Tree.collect -/
def sp_Tree_collect (C : CE) (n : Nat) : DSp := fun xs cs Q _ => ∃ (a d : Addr) (kvs : List (List Key × Vl)) (ps : List Int) (i : Nat) (p day ab : Int) (F : Int → Int), xs = [.cell a, .int i, .int day, .int ab] ∧ CalOk ps ∧ ps[i]? = some p ∧ 0 ≤ day ∧ day < p ∧ ps.length - i ≤ n ∧ TreeAt C cs a d ps kvs ∧ ChOk F ps kvs ∧
  ∀ l, cs l = none → Q (.cell l) (cs.put l (.lst (ordsV (coll F (ps.drop (i + 1)) p day ab))))
theorem len_Tree_collect {C : CE} {n : Nat} : ∀ xs cs Q XP, sp_Tree_collect C n xs cs Q XP → xs.length = 4 := by rintro xs cs Q XP ⟨a, d, kvs, ps, i, p, day, ab, F, rfl, _⟩; rfl
theorem never_Tree_collect {C : CE} : ∀ xs cs Q XP, ¬ sp_Tree_collect C 0 xs cs Q XP := by
  rintro xs cs Q XP ⟨a, d, kvs, ps, i, p, day, ab, F, rfl, hc, hp, _, _, hn, _⟩
  have := (List.getElem?_eq_some_iff.mp hp).1
  omega
def w_Tree_collect (C : CE) (n : Nat) : WS := (wSeq (wPar 4 5 (wCons (wLst wNil) (wCons (wVar 3) wNil)))
    (wSeq (wIfS (wTest (wOp (wIn true) (wVar 3) (wOp wDGet (wFld C.Tree "choices" (wVar 0)) (wTup (wCons (wVar 1) (wCons (wVar 2) wNil)))))) (wSeq (wAsg (wOp wIx (wOp wDGet (wFld C.Tree "choices" (wVar 0)) (wTup (wCons (wVar 1) (wCons (wVar 2) wNil)))) (wC (.int 0))) (gN 5))
    (wDrop (wApp (wVar 4) (wTup (wCons (wOp wIx (wFld C.Tree "calendar" (wVar 0)) (wVar 1)) (wCons (wVar 2) (wCons (wOp wSub (wVar 5) (wVar 3)) wNil))))))) wNext)
    (wSeq (wForG (wGMeth C.Tree "children" (sp_Tree_children C) (wVar 0) (wCons (wVar 1) (wCons (wVar 2) wNil))) (gT 2 (gCons (gN 6) (gCons (gN 7) gNil))) (wDrop (wExt (wVar 4) (wMeth C.Tree "collect" (sp_Tree_collect C n) (wVar 0) (wCons (wVar 6) (wCons (wVar 7) (wCons (wVar 5) wNil)))))))
    (wRet (wVar 4)))))
theorem pure_Tree_collect (K : Frag) (C : CE) (n : Nat) : ∀ xs cs Q XP, sp_Tree_collect C (n + 1) xs cs Q XP → w_Tree_collect C n (retE K Q) (startD 8 xs) cs := by
  rintro xs cs Q XP ⟨a, d, kvs, ps, i, p, day, ab, F, rfl, hc, hp, h0, hd, hn, T, hch, q⟩
  have Cy := cal_cyc hc
  obtain ⟨pp, ple, pdv⟩ := Cy.per p (List.mem_of_getElem? hp)
  have hcc := cal_chain hc.2.2 hp
  have hla := last_drop hp
  have hil := (List.getElem?_eq_some_iff.mp hp).1
  have hcl := Cy.le
  obtain ⟨n1, n5, hcf⟩ := id hc
  unfold w_Tree_collect
  walk_at "dl"
  refine ⟨by decide, .inl fun l hl => ?_⟩
  have TA : ∀ o, TreeAt C (cs.put l o) a d ps kvs := fun o => T.put hl
  have hval := hch i p day hp h0 hd
  have hlen := coll_len F _ (ps.drop (i + 1)) p day ab pp h0 hd hcc hla
  -- the loop and the end, from the own order on
  have rest : ∀ (am : Int), am = lab F (ps.drop (i + 1)) p day ab → ∀ ρ, ρ = [some (.cell a), some (.int i), some (.int day), some (.int ab), some (.cell l), some (.int am), none, none] →
      wSeq (wForG (wGMeth C.Tree "children" (sp_Tree_children C) (wVar 0) (wCons (wVar 1) (wCons (wVar 2) wNil))) (gT 2 (gCons (gN 6) (gCons (gN 7) gNil))) (wDrop (wExt (wVar 4) (wMeth C.Tree "collect" (sp_Tree_collect C n) (wVar 0) (wCons (wVar 6) (wCons (wVar 7) (wCons (wVar 5) wNil))))))) (wRet (wVar 4)) (retE K Q) ρ (cs.put l (.lst (ordsV (ownO F (ps.drop (i + 1)) p day ab)))) := by
    rintro am ham ρ rfl
    simp only [wSeq, wForG]
    walk_at "dl"
    refine ⟨_, (TA _).ob, tfs_no ps d (by decide +kernel) (by decide +kernel), _, _, _, ⟨a, ps, i, p, day, rfl, hc, hp, h0, hd, rfl, rfl, rfl⟩, ?_⟩
    have hlen2 : ((coll F (ps.drop (i + 1)) p day ab).length : Int) ≤ 2000 := by
      have h1 : (((ps.drop (i + 1)).length : Int) + 1) * cyc ps ≤ 5 * 400 := Int.mul_le_mul (by rw [List.length_drop]; omega) hcl (by have := Cy.pos; omega) (by omega)
      have h2 := Int.mul_le_mul_of_nonneg_left (show 1 ≤ p by omega) (show 0 ≤ ((coll F (ps.drop (i + 1)) p day ab).length : Int) by omega)
      omega
    cases hr : ps.drop (i + 1) with
    | nil =>
      rw [hr] at q
      simp only [kidsD]
      refine ⟨fun j ρ cs' => cs' = cs.put l (.lst (ordsV (ownO F [] p day ab))) ∧ ρ = [some (.cell a), some (.int i), some (.int day), some (.int ab), some (.cell l), some (.int am), none, none], ⟨rfl, rfl⟩, ?_, ?_, ?_⟩
      · rintro j ρ cs' _ ⟨rfl, rfl⟩
        exact (TA _).cal
      · rintro j dd ρ cs' hdd; cases hdd
      · rintro ρ cs' ⟨rfl, rfl⟩
        refine ⟨trivial, ?_⟩
        walk_at "dl"
        exact GhK.now (q l hl)
    | cons q0 r =>
      have hdl : i + 1 < ps.length := by
        have := congrArg List.length hr
        rw [List.length_drop, List.length_cons] at this
        omega
      have hq0 : ps[i + 1]? = some q0 := by
        have : (ps.drop (i + 1))[0]? = some q0 := by rw [hr]; rfl
        rw [List.getElem?_drop] at this
        exact this
      have hdr : ps.drop (i + 1 + 1) = r := by
        have := congrArg (List.drop 1) hr
        rw [List.drop_drop] at this
        simpa using this
      rw [hr] at q hcc hlen2 ham
      obtain ⟨k1, k2, k3⟩ := id hcc
      generalize hks : kidDays p q0 day = ks
      have hdsl : (kidsD i p (q0 :: r) day).length = ks.length := by simp [kidsD, hks]
      have hcoll : coll F (q0 :: r) p day ab = ownO F (q0 :: r) p day ab ++ ks.flatMap fun k => coll F r q0 k am := by
        rw [coll, hks, ham]
      have hpart : ∀ j, (ownO F (q0 :: r) p day ab ++ (ks.take j).flatMap fun k => coll F r q0 k am).length ≤ 2000 := fun j => by
        have : (ownO F (q0 :: r) p day ab ++ (ks.take j).flatMap fun k => coll F r q0 k am).Sublist (coll F (q0 :: r) p day ab) := by
          rw [hcoll]
          refine List.Sublist.append (List.Sublist.refl _) ?_
          conv => rhs; rw [← List.take_append_drop j ks, List.flatMap_append]
          exact List.sublist_append_left _ _
        have := this.length_le
        omega
      refine ⟨fun j ρ cs' => SubC (cs.put l (.lst (ordsV (ownO F (q0 :: r) p day ab ++ (ks.take j).flatMap fun k => coll F r q0 k am)))) cs' ∧ ∃ a6 a7, ρ = [some (.cell a), some (.int i), some (.int day), some (.int ab), some (.cell l), some (.int am), a6, a7], ⟨?_, _, _, rfl⟩, ?_, ?_, ?_⟩
      · simp only [List.take_zero, List.flatMap_nil, List.append_nil]
        exact SubC.refl _
      · rintro j ρ cs' _ ⟨hs, a6, a7, rfl⟩
        exact ((TA _).sub hs).cal
      · rintro j dd ρ cs' hdd ⟨hs, a6, a7, rfl⟩
        have hjl : j < ks.length := by rw [← hdsl]; exact (List.getElem?_eq_some_iff.mp hdd).1
        have hkj : ks[j]? = some ks[j] := List.getElem?_eq_getElem hjl
        have hdd' : dd = .tup [.int ((i : Int) + 1), .int ks[j]] := by
          unfold kidsD at hdd
          simp only [hks] at hdd
          rw [List.getElem?_map, hkj] at hdd
          cases hdd; rfl
        subst hdd'
        have hmem : ks[j] ∈ ks := List.getElem_mem hjl
        generalize ks[j] = k at hkj hmem
        rw [← hks] at hmem
        obtain ⟨b0, b1⟩ := kid_bounds pp h0 (show day < q0 by omega) hmem
        have TS := (TA _).sub hs
        have hL := hs l _ Cells.put_same
        simp only [wExt]
        walk_at "dl"
        refine ⟨_, hL, _, TS.ob, tfs_no ps d (by decide +kernel) (by decide +kernel), ?_⟩
        refine ⟨a, d, kvs, ps, i + 1, q0, k, am, F, ?_, hc, hq0, b0, b1, by omega, TS, hch, fun l2 hl2 => ?_⟩
        · rw [show ((i + 1 : Nat) : Int) = (i : Int) + 1 by omega]
        · have hne : l ≠ l2 := fun z => by rw [z, hl2] at hL; cases hL
          rw [hdr]
          refine ⟨l2, rfl, _, by rw [Cells.put_ne hne]; exact hL, _, Cells.put_same, ?_, ?_⟩
          · have := hpart (j + 1)
            rw [take_snoc hkj, List.flatMap_append, ← List.append_assoc, List.length_append] at this
            simp only [List.flatMap_cons, List.flatMap_nil, List.append_nil] at this
            rw [ordsV_len, ordsV_len]
            omega
          · intro b c hb
            by_cases hbl : b = l
            · subst hbl
              rw [Cells.put_same] at hb ⊢
              rw [← hb, take_snoc hkj, List.flatMap_append, ordsV_app]
              simp [ordsV_app]
            · rw [Cells.put_ne hbl] at hb ⊢
              have hb2 : b ≠ l2 := fun z => by
                have := hs b c (by rw [Cells.put_ne hbl]; exact hb)
                rw [z, hl2] at this; cases this
              rw [Cells.put_ne hb2]
              exact hs b c (by rw [Cells.put_ne hbl]; exact hb)
      · rintro ρ cs' ⟨hs, a6, a7, rfl⟩
        refine ⟨rfl, ?_⟩
        walk_at "dl"
        rw [hdsl, List.take_of_length_le (Nat.le_refl _), ← hcoll] at hs
        exact GhK.drop hs (q l hl)
  refine ⟨_, (TA _).ob, _, tfs_ch ps d, by decide, _, ⟨d, rfl, .inr ⟨kvs, key2 i day, (TA _).dc, rfl, hval.symm⟩⟩, ?_⟩
  refine wIn_ints (b := true) (ps := ch F (ps.drop (i + 1)) p day) (by rw [seqD_lst, iD_map]) ⟨_, rfl, ?_⟩
  by_cases hm : ab ∈ ch F (ps.drop (i + 1)) p day
  · simp only [hm, decide_true, if_true, Bool.not_true, Bool.false_eq_true, if_false]
    have := rest ab (by unfold lab; rw [if_pos hm]) _ rfl
    unfold ownO at this
    rw [if_pos hm] at this
    exact this
  · simp only [hm, decide_false, if_true, Bool.not_false]
    have hne := ch_ne F (ps.drop (i + 1)) p day pp h0 hd hcc
    obtain ⟨y, ys, hys⟩ := List.exists_cons_of_ne_nil hne
    refine ⟨_, (TA _).ob, _, tfs_ch ps d, by decide, _, ⟨d, rfl, .inr ⟨kvs, key2 i day, (TA _).dc, rfl, hval.symm⟩⟩, ?_⟩
    refine ⟨_, _, by rw [seqD_lst, iD_map], .int y, by rw [hys]; exact at_0, _, rfl, _, Cells.put_same, _, (TA _).ob, _, tfs_cal ps d, _, _, seqD_cal, _, cal_at hp, _, rfl, ?_⟩
    walk_at "dl"
    refine ⟨by decide, ?_⟩
    have := rest y (by unfold lab; rw [if_neg hm, hys]; rfl) _ rfl
    unfold ownO at this
    rw [if_neg hm, hys] at this
    exact this

/-! ### fewest_list and what calls it -/
def ordI (o : Ord) : List Int := [o.1, o.2.1, o.2.2]
def ordLe (x y : Ord) : Bool := leI (ordI x) (ordI y)
def gath (F : Int → Int) : List Int → List Ord
  | [] => []
  | p :: r => (List.range p.toNat).flatMap fun (d : Nat) => coll F r p d 0
def fewL (ps : List Int) (F : Int → Int) : List Ord := (gath F ps).mergeSort ordLe
theorem ordsV_I (os : List Ord) : ordsV os = (os.map ordI).map fun ns => Vl.dat (tupI ns) := by
  unfold ordsV ordsD
  rw [List.map_map, List.map_map]; rfl
theorem sort_I (os : List Ord) : (os.map ordI).mergeSort leI = (os.mergeSort ordLe).map ordI := (List.map_mergeSort (f := ordI) (r := ordLe) (s := leI) fun _ _ _ _ => rfl).symm
def sp_fewest_list (C : CE) : DSp := fun xs cs Q _ => ∃ (ps : List Int) (F : Int → Int) (x : Vl), xs = [.dat (cal ps), x] ∧ CalOk ps ∧ seqD cs x = some (true, iV (rowF (cyc ps).toNat fun t => F (t : Int))) ∧ Q (.dat (.lst (ordsD (fewL ps F)))) cs
theorem len_fewest_list {C : CE} : ∀ xs cs Q XP, sp_fewest_list C xs cs Q XP → xs.length = 2 := by rintro xs cs Q XP ⟨ps, F, x, rfl, _⟩; rfl
def w_fewest_list (C : CE) : WS := (wSeq (wPar 2 3 (wCons (wMake C.Tree (sp_Tree___init__ C) (wCons (wVar 0) (wCons (wVar 1) wNil))) (wCons (wLst wNil) wNil)))
    (wSeq (wFor (wiRng1 (wCons (wOp wIx (wVar 0) (wC (.int 0))) wNil)) (gN 4) (wDrop (wExt (wVar 3) (wMeth C.Tree "collect" (sp_Tree_collect C 6) (wVar 2) (wCons (wC (.int 0)) (wCons (wVar 4) (wCons (wC (.int 0)) wNil)))))))
    (wRet (wFn wSortT (wCons (wVar 3) wNil)))))
theorem pure_fewest_list (K : Frag) (C : CE) : ∀ xs cs Q XP, sp_fewest_list C xs cs Q XP → w_fewest_list C (retE K Q) (startD 5 xs) cs := by
  rintro xs cs Q XP ⟨ps, F, x, rfl, hc, hx, q⟩
  have Cy := cal_cyc hc
  obtain ⟨n1, n5, hcf⟩ := id hc
  obtain ⟨p, r, rfl⟩ : ∃ p r, ps = p :: r := by
    cases ps with
    | nil => simp at n1
    | cons p r => exact ⟨p, r, rfl⟩
  have hp : (p :: r)[0]? = some p := rfl
  obtain ⟨pp, ple, pdv⟩ := Cy.per p (by simp)
  have hcc := cal_chain hcf hp
  have hla := last_drop hp
  have hcl := Cy.le
  have hcp := Cy.pos
  rw [show (p :: r).drop (0 + 1) = r from rfl] at hcc hla
  unfold w_fewest_list
  walk_at "dl"
  intro a ha
  refine ⟨a, _, F, x, rfl, hc, Cells.put_same, seqD_putN hx (by rw [ha]; rfl), fun d kvs hd hch => ?_⟩
  rw [Cells.put_put]
  have hda : d ≠ a := fun z => by rw [z, Cells.put_same] at hd; cases hd
  rw [Cells.put_ne hda] at hd
  walk_at "dl"
  refine ⟨by decide, .inl fun l hl => ?_⟩
  have hla' : l ≠ d := fun z => by rw [z, Cells.put_same] at hl; cases hl
  rw [Cells.put_ne hla'] at hl
  have hlb : l ≠ a := fun z => by rw [z, Cells.put_same] at hl; cases hl
  rw [Cells.put_ne hlb] at hl
  have TA : ∀ o, TreeAt C (((cs.put a (.ins C.Tree (tfs (p :: r) d))).put d (.dt kvs)).put l o) a d (p :: r) kvs := fun o => ⟨by rw [Cells.put_ne hlb.symm, Cells.put_ne hda.symm, Cells.put_same], by rw [Cells.put_ne hla'.symm, Cells.put_same]⟩
  have hsub : SubC cs ((cs.put a (.ins C.Tree (tfs (p :: r) d))).put d (.dt kvs)) := fun b c hb => by
    have h1 : b ≠ a := fun z => by rw [z, ha] at hb; cases hb
    have h2 : b ≠ d := fun z => by rw [z, hd] at hb; cases hb
    rw [Cells.put_ne h2, Cells.put_ne h1]; exact hb
  have hlB : ((cs.put a (.ins C.Tree (tfs (p :: r) d))).put d (.dt kvs)) l = none := by rw [Cells.put_ne hla', Cells.put_ne hlb]; exact hl
  generalize (cs.put a (.ins C.Tree (tfs (p :: r) d))).put d (.dt kvs) = B at TA hsub hlB
  have hlen : ∀ d : Int, 0 ≤ d → d < p → ((coll F r p d 0).length : Int) * p ≤ 2000 := fun d h0 h1 => by
    have := coll_len F _ r p d 0 pp h0 h1 hcc hla
    have h1 : ((r.length : Int) + 1) * cyc (p :: r) ≤ 5 * 400 := Int.mul_le_mul (by rw [List.length_cons] at n5; omega) hcl (by omega) (by omega)
    omega
  have htot : ∀ j : Nat, (j : Int) ≤ p → (((List.range j).flatMap fun (d : Nat) => coll F r p d 0).length : Int) ≤ 2000 := fun j hj => by
    rw [List.length_flatMap]
    have := sum_bound (q := p) (c := 2000) (f := fun (d : Nat) => (coll F r p d 0).length) (ks := List.range j) fun k hk => by
      have := List.mem_range.mp hk
      exact hlen k (by omega) (by omega)
    rw [List.length_range] at this
    have h2 : (j : Int) * 2000 ≤ p * 2000 := by omega
    have h3 : (((List.range j).map fun (d : Nat) => (coll F r p d 0).length).sum : Int) * p ≤ 2000 * p := by omega
    exact Int.le_of_mul_le_mul_right h3 pp
  simp only [wFor, wiRng1]
  walk_at "dl"
  refine ⟨_, _, seqD_cal, _, cal_at hp, p, rfl, by omega, by omega, ?_⟩
  refine ⟨fun j ρ cs' => SubC (B.put l (.lst (ordsV ((List.range j).flatMap fun (d : Nat) => coll F r p d 0)))) cs' ∧ ∃ a4, ρ = [some (.dat (cal (p :: r))), some x, some (.cell a), some (.cell l), a4], ⟨SubC.refl _, _, rfl⟩, fun _ _ _ _ _ => trivial, ?_, ?_⟩
  · rintro j y ρ cs' hy ⟨hs, a4, rfl⟩
    obtain ⟨hj, rfl⟩ := rangeD_at hy
    rw [show (0 : Int) + (j : Int) * 1 = j by omega]
    have TS := (TA _).sub hs
    have hL := hs l _ Cells.put_same
    simp only [wExt]
    walk_at "dl"
    refine ⟨_, hL, _, TS.ob, tfs_no _ d (by decide +kernel) (by decide +kernel), ?_⟩
    refine ⟨a, d, kvs, p :: r, 0, p, j, 0, F, rfl, hc, hp, by omega, by omega, by omega, TS, hch, fun l2 hl2 => ?_⟩
    have hne : l ≠ l2 := fun z => by rw [z, hl2] at hL; cases hL
    rw [show (p :: r).drop (0 + 1) = r from rfl]
    refine ⟨l2, rfl, _, by rw [Cells.put_ne hne]; exact hL, _, Cells.put_same, ?_, ?_⟩
    · have := htot (j + 1) (by omega)
      rw [List.range_succ, List.flatMap_append, List.length_append] at this
      simp only [List.flatMap_cons, List.flatMap_nil, List.append_nil] at this
      rw [ordsV_len, ordsV_len]
      omega
    · intro b c hb
      by_cases hbl : b = l
      · subst hbl
        rw [Cells.put_same] at hb ⊢
        rw [← hb, List.range_succ, List.flatMap_append, ordsV_app]
        simp
      · rw [Cells.put_ne hbl] at hb ⊢
        have hb2 : b ≠ l2 := fun z => by
          have := hs b c (by rw [Cells.put_ne hbl]; exact hb)
          rw [z, hl2] at this; cases this
        rw [Cells.put_ne hb2]
        exact hs b c (by rw [Cells.put_ne hbl]; exact hb)
  · rintro ρ cs' ⟨hs, a4, rfl⟩
    rw [rangeD_len] at hs
    walk_at "dl"
    simp only [wSortT]
    refine ⟨_, (gath F (p :: r)).map ordI, rfl, ?_, ?_, .inr ⟨ordsD (fewL (p :: r) F), ?_, ?_⟩⟩
    · rw [seqD_cell, hs l _ Cells.put_same, coSeq_lst, ← ordsV_I]; rfl
    · intro n hn
      obtain ⟨o, _, rfl⟩ := List.mem_map.mp hn
      simp [ordI]
    · rw [sort_I, ← ordsV_I]; exact allDat_map _
    · refine GhK.drop (fun b c hb => ?_) q
      have : b ≠ l := fun z => by rw [z, hl] at hb; cases hb
      exact hs b c (by rw [Cells.put_ne this]; exact hsub b c hb)
def sp_fewest_orders (C : CE) : DSp := fun xs cs Q _ => ∃ (ps : List Int) (os : List Ord) (b : Bool), xs = [.dat (cal ps), .dat (seqd b (ordsD os))] ∧ CalOk ps ∧ OrdsOk ps os ∧ Q (.dat (.lst (ordsD (fewL ps (flowAt os))))) cs
theorem len_fewest_orders {C : CE} : ∀ xs cs Q XP, sp_fewest_orders C xs cs Q XP → xs.length = 2 := by rintro xs cs Q XP ⟨ps, F, x, rfl, _⟩; rfl
def w_fewest_orders (C : CE) : WS := (wSeq (wDrop (wCall sp_validate_orders (wCons (wVar 0) (wCons (wVar 1) wNil))))
    (wRet (wCall (sp_fewest_list C) (wCons (wVar 0) (wCons (wCall sp_flow_list (wCons (wVar 0) (wCons (wVar 1) wNil))) wNil)))))
theorem pure_fewest_orders (K : Frag) (C : CE) : ∀ xs cs Q XP, sp_fewest_orders C xs cs Q XP → w_fewest_orders C (retE K Q) (startD 2 xs) cs := by
  rintro xs cs Q XP ⟨ps, os, b, rfl, hc, ho, q⟩
  unfold w_fewest_orders
  walk_at "dl"
  refine ⟨ps, os, b, rfl, hc, ho, ps, os, b, rfl, hc, ho, fun p hp => ?_⟩
  walk_at "dl"
  exact ⟨ps, flowAt os, _, rfl, hc, by rw [seqD_cell, Cells.put_same]; rfl, GhK.drop (SubC.put hp) q⟩
def sp_fewest_count (C : CE) : DSp := fun xs cs Q _ => ∃ (ps : List Int) (os : List Ord) (b : Bool), xs = [.dat (cal ps), .dat (seqd b (ordsD os))] ∧ CalOk ps ∧ OrdsOk ps os ∧ Q (.int ((fewL ps (flowAt os)).length : Nat)) cs
theorem len_fewest_count {C : CE} : ∀ xs cs Q XP, sp_fewest_count C xs cs Q XP → xs.length = 2 := by rintro xs cs Q XP ⟨ps, F, x, rfl, _⟩; rfl
def w_fewest_count (C : CE) : WS := (wRet (wFn wLen (wCons (wCall (sp_fewest_orders C) (wCons (wVar 0) (wCons (wVar 1) wNil))) wNil)))
theorem pure_fewest_count (K : Frag) (C : CE) : ∀ xs cs Q XP, sp_fewest_count C xs cs Q XP → w_fewest_count C (retE K Q) (startD 2 xs) cs := by
  rintro xs cs Q XP ⟨ps, os, b, rfl, hc, ho, q⟩
  unfold w_fewest_count
  walk_at "dl"
  refine ⟨ps, os, b, rfl, hc, ho, ?_⟩
  walk_at "dl"
  refine GhK.now ?_
  simpa [ordsD] using q
def sp_spared (C : CE) : DSp := fun xs cs Q _ => ∃ (ps : List Int) (os : List Ord) (b : Bool), xs = [.dat (cal ps), .dat (seqd b (ordsD os))] ∧ CalOk ps ∧ OrdsOk ps os ∧ Q (.int ((os.length : Int) - ((fewL ps (flowAt os)).length : Nat))) cs
theorem len_spared {C : CE} : ∀ xs cs Q XP, sp_spared C xs cs Q XP → xs.length = 2 := by rintro xs cs Q XP ⟨ps, F, x, rfl, _⟩; rfl
def w_spared (C : CE) : WS := (wRet (wOp wSub (wFn wLen (wCons (wVar 1) wNil)) (wCall (sp_fewest_count C) (wCons (wVar 0) (wCons (wVar 1) wNil)))))
theorem pure_spared (K : Frag) (C : CE) : ∀ xs cs Q XP, sp_spared C xs cs Q XP → w_spared C (retE K Q) (startD 2 xs) cs := by
  rintro xs cs Q XP ⟨ps, os, b, rfl, hc, ho, q⟩
  unfold w_spared
  walk_at "dl"
  refine ⟨_, _, seqD_seqd, ps, os, b, rfl, hc, ho, ?_⟩
  walk_at "dl"
  refine GhK.now ?_
  simpa [ordsD] using q
end DL
set_option maxRecDepth 100000
set_option maxHeartbeats 4000000
namespace DL
open PySem L2 GT
/-! ### kids -/
theorem mem_kid {p q d : Int} (hp : 0 < p) (h0 : 0 ≤ d) (hd : d < p) (hpq : p ∣ q) (hq : 0 < q) {x : Int} : x ∈ kidDays p q d ↔ 0 ≤ x ∧ x < q ∧ x % p = d := by
  have hdq : d < q := by have := Int.le_of_dvd hq hpq; omega
  constructor
  · intro h
    obtain ⟨b0, b1⟩ := kid_bounds hp h0 hdq h
    refine ⟨b0, b1, ?_⟩
    unfold kidDays at h
    obtain ⟨j, _, rfl⟩ := List.mem_map.mp h
    rw [Int.add_mul_emod_self_right, Int.emod_eq_of_lt h0 hd]
  · rintro ⟨b0, b1, h⟩
    have e := Int.emod_add_mul_ediv x p
    rw [h] at e
    have hxp : 0 ≤ x / p := Int.ediv_nonneg b0 (by omega)
    unfold kidDays
    refine List.mem_map.mpr ⟨(x / p).toNat, List.mem_range.mpr ?_, ?_⟩
    · have : x / p ≤ (q - d - 1) / p := by
        have e2 : x / p * p ≤ q - d - 1 := by rw [Int.mul_comm]; omega
        exact (Int.le_ediv_iff_mul_le hp).mpr e2
      omega
    · rw [Int.toNat_of_nonneg hxp, Int.mul_comm]; omega
theorem nodup_kid {p q d : Int} (hp : 0 < p) : (kidDays p q d).Nodup := by
  unfold kidDays
  rw [List.nodup_iff_pairwise_ne, List.pairwise_map]
  refine (List.nodup_iff_pairwise_ne.mp List.nodup_range).imp fun {a b} h z => h ?_
  have : (a : Int) * p = (b : Int) * p := by omega
  have := Int.eq_of_mul_eq_mul_right (by omega) this
  omega
theorem sum_ind {x v : Int} : ∀ {ks : List Int}, ks.Nodup → (ks.map fun k => if x = k then v else 0).sum = if x ∈ ks then v else 0
  | [], _ => by simp
  | k :: ks, h => by
    obtain ⟨h1, h2⟩ := List.nodup_cons.mp h
    rw [List.map_cons, List.sum_cons, sum_ind h2]
    by_cases e : x = k
    · subst e; simp [h1]
    · simp [e]
theorem flow_flat {α : Type} (f : α → List Ord) (t : Int) : ∀ ks : List α, flowAt (ks.flatMap f) t = (ks.map fun k => flowAt (f k) t).sum
  | [] => rfl
  | k :: ks => by rw [List.flatMap_cons, flowAt_app, flow_flat f t ks, List.map_cons, List.sum_cons]
theorem head_mem {l : List Int} (h : l ≠ []) : l.headD 0 ∈ l := by
  cases l with
  | nil => exact absurd rfl h
  | cons a l => simp
theorem flow_own (F : Int → Int) (r : List Int) (p d ab t : Int) : flowAt (ownO F r p d ab) t = if t % p = d then lab F r p d ab - ab else 0 := by
  unfold ownO lab
  by_cases h : ab ∈ ch F r p d
  · rw [if_pos h, if_pos h, flowAt_nil]; split <;> omega
  · rw [if_neg h, if_neg h, flowAt_one]
theorem flow_coll (F : Int → Int) (c t : Int) : ∀ (r : List Int) (p d ab : Int), 0 < p → 0 ≤ d → d < p → chain p r → lastD p r = c → flowAt (coll F r p d ab) t = if t % p = d then F (t % c) - ab else 0
  | [], p, d, ab, hp, h0, hd, _, hl => by
    have hl : p = c := hl
    subst hl
    unfold coll
    rw [flow_own]
    by_cases e : t % p = d
    · rw [if_pos e, if_pos e]
      unfold lab ch
      rw [e]
      by_cases h : ab ∈ [F d]
      · rw [if_pos h]; simp at h; omega
      · rw [if_neg h]; rfl
    · rw [if_neg e, if_neg e]
  | q :: r, p, d, ab, hp, h0, hd, ⟨h1, h2, h3⟩, hl => by
    rw [lastD_cons] at hl
    unfold coll
    rw [flowAt_app, flow_own, flow_flat]
    have e1 : ((kidDays p q d).map fun k => flowAt (coll F r q k (lab F (q :: r) p d ab)) t) = (kidDays p q d).map fun k => if t % q = k then F (t % c) - lab F (q :: r) p d ab else 0 := by
      refine List.map_congr_left fun k hk => ?_
      obtain ⟨k0, k1⟩ := kid_bounds hp h0 (show d < q by omega) hk
      exact flow_coll F c t r q k _ (by omega) k0 k1 h3 hl
    rw [e1, sum_ind (nodup_kid hp)]
    have e2 : t % q ∈ kidDays p q d ↔ t % p = d := by
      rw [mem_kid hp h0 hd h2 (by omega), Int.emod_emod_of_dvd t h2]
      constructor
      · exact fun h => h.2.2
      · exact fun h => ⟨Int.emod_nonneg _ (by omega), Int.emod_lt_of_pos _ (by omega), h⟩
    by_cases e : t % p = d
    · rw [if_pos e, if_pos e, if_pos (e2.mpr e)]; omega
    · rw [if_neg e, if_neg e, if_neg (fun z => e (e2.mp z))]; rfl
theorem chain_gt : ∀ {r : List Int} {p : Int}, chain p r → ∀ x ∈ r, p < x
  | q :: r, p, ⟨h1, h2, h3⟩, x, hx => by
    rcases List.mem_cons.mp hx with z | z
    · rw [z]; exact h1
    · have := chain_gt h3 x z; omega
theorem chain_dvd : ∀ {r : List Int} {p : Int}, chain p r → ∀ x ∈ r, p ∣ x
  | q :: r, p, ⟨h1, h2, h3⟩, x, hx => by
    rcases List.mem_cons.mp hx with z | z
    · rw [z]; exact h2
    · exact Int.dvd_trans h2 (chain_dvd h3 x z)
theorem coll_ok (F : Int → Int) : ∀ (r : List Int) (p d ab : Int), 0 < p → 0 ≤ d → d < p → chain p r → ∀ o ∈ coll F r p d ab, (o.1 = p ∧ o.2.1 = d ∨ o.1 ∈ r) ∧ 0 ≤ o.2.1 ∧ o.2.1 < o.1 ∧ o.2.2 ≠ 0 ∧ o.2.1 % p = d := by
  have own : ∀ (r : List Int) (p d ab : Int), 0 < p → 0 ≤ d → d < p → chain p r → ∀ o ∈ ownO F r p d ab, o.1 = p ∧ o.2.1 = d ∧ o.2.2 ≠ 0 := by
    intro r p d ab hp h0 hd hc o ho
    unfold ownO at ho
    split at ho
    · simp at ho
    · rename_i hn
      simp only [List.mem_singleton] at ho
      subst ho
      refine ⟨rfl, rfl, fun z => hn ?_⟩
      have := head_mem (ch_ne F r p d hp h0 hd hc)
      have z : (ch F r p d).headD 0 - ab = 0 := z
      rw [show (ch F r p d).headD 0 = ab by omega] at this
      exact this
  intro r
  induction r with
  | nil =>
    intro p d ab hp h0 hd hc o ho
    obtain ⟨e1, e2, e3⟩ := own [] p d ab hp h0 hd hc o ho
    exact ⟨.inl ⟨e1, e2⟩, by omega, by omega, e3, by rw [e2]; exact Int.emod_eq_of_lt h0 hd⟩
  | cons q r ih =>
    intro p d ab hp h0 hd hc o ho
    obtain ⟨h1, h2, h3⟩ := id hc
    unfold coll at ho
    rcases List.mem_append.mp ho with ho | ho
    · obtain ⟨e1, e2, e3⟩ := own (q :: r) p d ab hp h0 hd hc o ho
      exact ⟨.inl ⟨e1, e2⟩, by omega, by omega, e3, by rw [e2]; exact Int.emod_eq_of_lt h0 hd⟩
    · obtain ⟨k, hk, ho⟩ := List.mem_flatMap.mp ho
      obtain ⟨k0, k1⟩ := kid_bounds hp h0 (show d < q by omega) hk
      obtain ⟨a1, a2, a3, a4, a5⟩ := ih q k _ (by omega) k0 k1 h3 o ho
      refine ⟨.inr ?_, a2, a3, a4, ?_⟩
      · rcases a1 with ⟨z, _⟩ | z
        · rw [z]; simp
        · simp [z]
      · have := (mem_kid hp h0 hd h2 (by omega)).mp hk
        rw [← a5, Int.emod_emod_of_dvd _ h2] at this
        exact this.2.2
def resNe (x y : Ord) : Prop := ¬ (x.1 = y.1 ∧ x.2.1 = y.2.1)
theorem coll_nd (F : Int → Int) : ∀ (r : List Int) (p d ab : Int), 0 < p → 0 ≤ d → d < p → chain p r → (coll F r p d ab).Pairwise resNe
  | [], p, d, ab, hp, h0, hd, hc => by unfold coll ownO; split <;> simp
  | q :: r, p, d, ab, hp, h0, hd, hc => by
    obtain ⟨h1, h2, h3⟩ := id hc
    unfold coll
    rw [List.pairwise_append]
    refine ⟨by unfold ownO; split <;> simp, ?_, ?_⟩
    · rw [List.pairwise_flatMap]
      refine ⟨fun k hk => ?_, (List.nodup_iff_pairwise_ne.mp (nodup_kid hp)).imp_of_mem fun {a b} ha hb hab x hx y hy z => ?_⟩
      · obtain ⟨k0, k1⟩ := kid_bounds hp h0 (show d < q by omega) hk
        exact coll_nd F r q k _ (by omega) k0 k1 h3
      · obtain ⟨a0, a1⟩ := kid_bounds hp h0 (show d < q by omega) ha
        obtain ⟨b0, b1⟩ := kid_bounds hp h0 (show d < q by omega) hb
        have hx := (coll_ok F r q a _ (by omega) a0 a1 h3 x hx).2.2.2.2
        have hy := (coll_ok F r q b _ (by omega) b0 b1 h3 y hy).2.2.2.2
        rw [z.2] at hx
        omega
    · intro x hx y hy z
      have ex : x.1 = p := by
        unfold ownO at hx
        split at hx
        · simp at hx
        · simp at hx; rw [hx]
      obtain ⟨k, hk, hy⟩ := List.mem_flatMap.mp hy
      obtain ⟨k0, k1⟩ := kid_bounds hp h0 (show d < q by omega) hk
      have hy := (coll_ok F r q k _ (by omega) k0 k1 h3 y hy).1
      rw [ex] at z
      rcases hy with ⟨w, _⟩ | w
      · omega
      · have := chain_gt h3 _ w; omega
/-- how many orders are gathered -/
theorem coll_count (F : Int → Int) : ∀ (r : List Int) (p d ab : Int), 0 < p → 0 ≤ d → d < p → chain p r → (coll F r p d ab).length = ms F r p d + if ab ∈ ch F r p d then 0 else 1
  | [], p, d, ab, hp, h0, hd, hc => by
    unfold coll ownO ms
    split <;> simp
  | q :: r, p, d, ab, hp, h0, hd, hc => by
    obtain ⟨h1, h2, h3⟩ := id hc
    have hown : (ownO F (q :: r) p d ab).length = if ab ∈ ch F (q :: r) p d then 0 else 1 := by unfold ownO; split <;> simp
    have hlab : lab F (q :: r) p d ab ∈ bestOf ((kidDays p q d).map (ch F r q)) := by
      have : lab F (q :: r) p d ab ∈ ch F (q :: r) p d := by
        unfold lab
        by_cases h : ab ∈ ch F (q :: r) p d
        · rw [if_pos h]; exact h
        · rw [if_neg h]; exact head_mem (ch_ne F (q :: r) p d hp h0 hd hc)
      exact this
    have hmost := most_of hlab
    unfold coll ms
    rw [List.length_append, hown, List.length_flatMap]
    have e : ((kidDays p q d).map fun k => (coll F r q k (lab F (q :: r) p d ab)).length) = (kidDays p q d).map fun k => ms F r q k + if lab F (q :: r) p d ab ∈ ch F r q k then 0 else 1 := by
      refine List.map_congr_left fun k hk => ?_
      obtain ⟨k0, k1⟩ := kid_bounds hp h0 (show d < q by omega) hk
      exact coll_count F r q k _ (by omega) k0 k1 h3
    rw [e]
    have hs := sum_cnt (ms F r q) (ch F r q) (lab F (q :: r) p d ab) (kidDays p q d)
    have hle := cnt_le ((kidDays p q d).map (ch F r q)) (lab F (q :: r) p d ab)
    rw [List.length_map] at hle
    omega
/-! ### every list of orders labels the tree -/
theorem sum_filter {α β : Type} {P : β → α → Bool} {Q : α → Bool} {g : α → β} : ∀ {os : List α} {ks : List β}, ks.Nodup → (∀ o ∈ os, ∀ k ∈ ks, P k o = true → Q o = true ∧ k = g o) → (ks.map fun k => (os.filter (P k)).length).sum ≤ (os.filter Q).length
  | [], ks, _, _ => by
    have : (ks.map fun k => (([] : List α).filter (P k)).length) = ks.map fun _ => 0 := List.map_congr_left fun k _ => by simp
    rw [this]
    have z : ∀ ks : List β, (ks.map fun _ => 0).sum = 0 := by
      intro ks
      induction ks with
      | nil => rfl
      | cons k ks ih => simpa using ih
    rw [z]; exact Nat.zero_le _
  | o :: os, ks, hn, h => by
    have ih := sum_filter (P := P) (Q := Q) (g := g) (os := os) hn fun o' ho' => h o' (by simp [ho'])
    have key : ∀ ks : List β, ks.Nodup → (∀ k ∈ ks, P k o = true → Q o = true ∧ k = g o) → (ks.map fun k => ((o :: os).filter (P k)).length).sum ≤ (ks.map fun k => (os.filter (P k)).length).sum + (if Q o = true then 1 else 0) := by
      intro ks
      induction ks with
      | nil => intro _ _; simp
      | cons k ks ih =>
        intro hn h
        obtain ⟨n1, n2⟩ := List.nodup_cons.mp hn
        simp only [List.map_cons, List.sum_cons, List.filter_cons]
        by_cases hk : P k o = true
        · obtain ⟨q1, q2⟩ := h k (by simp) hk
          have hrest : (ks.map fun k => ((o :: os).filter (P k)).length) = ks.map fun k => (os.filter (P k)).length := by
            refine List.map_congr_left fun k' hk' => ?_
            rw [List.filter_cons]
            by_cases z : P k' o = true
            · exact absurd (q2.trans ((h k' (by simp [hk']) z).2).symm) (fun w => n1 (w ▸ hk'))
            · rw [if_neg z]
          simp only [List.filter_cons] at hrest
          rw [hrest, if_pos hk, if_pos q1, List.length_cons]
          omega
        · rw [if_neg hk]
          have := ih n2 fun k' hk' => h k' (by simp [hk'])
          simp only [List.filter_cons] at this
          omega
    have := key ks hn (h o (by simp))
    rw [List.filter_cons]
    split
    · rename_i hq; rw [if_pos hq] at this; rw [List.length_cons]; omega
    · rename_i hq; rw [if_neg hq] at this; omega

/-- what the orders with a period up to p pay -/
def upTo (os : List Ord) (p d : Int) : Int := flowAt (os.filter fun o => decide (o.1 ≤ p)) d
def below (os : List Ord) (p d : Int) : Int := flowAt (os.filter fun o => decide (o.1 < p)) d
theorem flow_filter (P : Ord → Bool) (t : Int) : ∀ os : List Ord, flowAt (os.filter P) t = (os.map fun o => if P o = true ∧ t % o.1 = o.2.1 then o.2.2 else 0).sum
  | [] => rfl
  | o :: os => by
    rw [List.filter_cons, List.map_cons, List.sum_cons, ← flow_filter P t os]
    by_cases h : P o = true
    · rw [if_pos h, flowAt_cons, flowAt_one]; simp [h]
    · rw [if_neg h]; simp [h]
theorem sum_eq {f g : Ord → Int} : ∀ {os : List Ord}, (∀ o ∈ os, f o = g o) → (os.map f).sum = (os.map g).sum := fun h => by rw [List.map_congr_left h]
theorem upTo_below {os : List Ord} {p d : Int} (h0 : 0 ≤ d) (hd : d < p) (h : ∀ o ∈ os, ¬ (o.1 = p ∧ o.2.1 = d)) : upTo os p d = below os p d := by
  unfold upTo below
  rw [flow_filter, flow_filter]
  refine sum_eq fun o ho => ?_
  simp only [decide_eq_true_eq]
  by_cases e : o.1 = p
  · have hne : ¬ d % o.1 = o.2.1 := fun z => h o ho ⟨e, by rw [e, Int.emod_eq_of_lt h0 hd] at z; exact z.symm⟩
    rw [if_neg (fun z => hne z.2), if_neg (fun z => hne z.2)]
  · have : o.1 ≤ p ↔ o.1 < p := by omega
    simp only [this]
theorem lcost_le (os : List Ord) : ∀ (r : List Int) (p d : Int), 0 < p → 0 ≤ d → d < p → chain p r → (∀ o ∈ os, 0 ≤ o.2.1 ∧ o.2.1 < o.1) → (∀ o ∈ os, (o.1 ≤ p ∧ o.1 ∣ p) ∨ o.1 ∈ r) →
    lcost (upTo os) r p d (below os p d) ≤ (os.filter fun o => decide ((o.1 = p ∧ o.2.1 = d) ∨ (o.1 ∈ r ∧ o.2.1 % p = d))).length := by
  have own : ∀ (p d : Int), 0 ≤ d → d < p → (if upTo os p d = below os p d then 0 else 1) ≤ (os.filter fun o => decide (o.1 = p ∧ o.2.1 = d)).length := by
    intro p d h0 hd
    split
    · exact Nat.zero_le _
    · rename_i hn
      apply Decidable.byContradiction
      intro z
      apply hn
      refine upTo_below h0 hd fun o ho w => ?_
      have : o ∈ os.filter fun o => decide (o.1 = p ∧ o.2.1 = d) := List.mem_filter.mpr ⟨ho, by simpa using w⟩
      have := List.length_pos_of_mem this
      omega
  intro r
  induction r with
  | nil =>
    intro p d hp h0 hd hc hr ho
    unfold lcost
    simp only [List.not_mem_nil, false_and, or_false]
    exact own p d h0 hd
  | cons q r ih =>
    intro p d hp h0 hd hc hr ho
    obtain ⟨h1, h2, h3⟩ := id hc
    unfold lcost
    have hb : ∀ k ∈ kidDays p q d, upTo os p d = below os q k := by
      intro k hk
      have hk' := (mem_kid hp h0 hd h2 (by omega)).mp hk
      unfold upTo below
      rw [flow_filter, flow_filter]
      refine sum_eq fun o ho' => ?_
      simp only [decide_eq_true_eq]
      rcases ho o ho' with ⟨a1, a2⟩ | a
      · have e : k % o.1 = d % o.1 := by rw [← hk'.2.2, Int.emod_emod_of_dvd _ a2]
        rw [e]
        simp [a1, show o.1 < q by omega]
      · have : ¬ o.1 ≤ p := by have := chain_gt hc o.1 a; omega
        have : ¬ o.1 < q := by
          rcases List.mem_cons.mp a with z | z
          · omega
          · have := chain_gt h3 _ z; omega
        simp [*]
    have hsum : ((kidDays p q d).map fun k => lcost (upTo os) r q k (upTo os p d)).sum ≤ ((kidDays p q d).map fun k => (os.filter fun o => decide ((o.1 = q ∧ o.2.1 = k) ∨ (o.1 ∈ r ∧ o.2.1 % q = k))).length).sum := by
      refine sum_le_sum fun k hk => ?_
      obtain ⟨k0, k1⟩ := kid_bounds hp h0 (show d < q by omega) hk
      rw [hb k hk]
      refine ih q k (by omega) k0 k1 h3 hr fun o ho' => ?_
      rcases ho o ho' with ⟨a1, a2⟩ | a
      · exact .inl ⟨by omega, Int.dvd_trans a2 h2⟩
      · rcases List.mem_cons.mp a with z | z
        · exact .inl ⟨by omega, by rw [z]; exact Int.dvd_refl _⟩
        · exact .inr z
    have hfil := sum_filter (os := os) (ks := kidDays p q d) (P := fun k o => decide ((o.1 = q ∧ o.2.1 = k) ∨ (o.1 ∈ r ∧ o.2.1 % q = k))) (Q := fun o => decide (o.1 ∈ q :: r ∧ o.2.1 % p = d)) (g := fun o => o.2.1 % q) (nodup_kid hp) fun o ho' k hk hP => by
      have hk' := (mem_kid hp h0 hd h2 (by omega)).mp hk
      simp only [decide_eq_true_eq] at hP ⊢
      rcases hP with ⟨a1, a2⟩ | ⟨a1, a2⟩
      · refine ⟨⟨by simp [a1], by rw [a2]; exact hk'.2.2⟩, ?_⟩
        rw [a2, Int.emod_eq_of_lt hk'.1 hk'.2.1]
      · refine ⟨⟨by simp [a1], ?_⟩, a2.symm⟩
        rw [← a2, Int.emod_emod_of_dvd _ h2] at hk'
        exact hk'.2.2
    have hown := own p d h0 hd
    have hsplit : (os.filter fun o => decide (o.1 = p ∧ o.2.1 = d)).length + (os.filter fun o => decide (o.1 ∈ q :: r ∧ o.2.1 % p = d)).length ≤ (os.filter fun o => decide ((o.1 = p ∧ o.2.1 = d) ∨ (o.1 ∈ q :: r ∧ o.2.1 % p = d))).length := by
      clear hfil hsum hb own ih hown ho hr
      induction os with
      | nil => simp
      | cons o os ih =>
        simp only [List.filter_cons]
        by_cases a : o.1 = p ∧ o.2.1 = d
        · have b : ¬ (o.1 ∈ q :: r ∧ o.2.1 % p = d) := fun z => by have := chain_gt hc _ z.1; omega
          rw [if_pos (decide_eq_true a), if_neg (fun z => b (of_decide_eq_true z)), if_pos (decide_eq_true (Or.inl a)), List.length_cons, List.length_cons]
          omega
        · by_cases b : o.1 ∈ q :: r ∧ o.2.1 % p = d
          · rw [if_neg (fun z => a (of_decide_eq_true z)), if_pos (decide_eq_true b), if_pos (decide_eq_true (Or.inr b)), List.length_cons, List.length_cons]
            omega
          · rw [if_neg (fun z => a (of_decide_eq_true z)), if_neg (fun z => b (of_decide_eq_true z)), if_neg (fun z => (of_decide_eq_true z).elim a b)]
            exact ih
    omega
theorem ch_congr {F G : Int → Int} {c : Int} (h : ∀ t, 0 ≤ t → t < c → F t = G t) : ∀ (r : List Int) (p d : Int), 0 < p → 0 ≤ d → d < p → chain p r → lastD p r = c → ch F r p d = ch G r p d
  | [], p, d, hp, h0, hd, _, hl => by
    have hl : p = c := hl
    unfold ch; rw [h d h0 (by omega)]
  | q :: r, p, d, hp, h0, hd, ⟨h1, h2, h3⟩, hl => by
    rw [lastD_cons] at hl
    unfold ch
    congr 1
    refine List.map_congr_left fun k hk => ?_
    obtain ⟨k0, k1⟩ := kid_bounds hp h0 (show d < q by omega) hk
    exact ch_congr h r q k (by omega) k0 k1 h3 hl
theorem coll_congr {F G : Int → Int} {c : Int} (h : ∀ t, 0 ≤ t → t < c → F t = G t) : ∀ (r : List Int) (p d ab : Int), 0 < p → 0 ≤ d → d < p → chain p r → lastD p r = c → coll F r p d ab = coll G r p d ab
  | [], p, d, ab, hp, h0, hd, hc, hl => by
    unfold coll ownO; rw [ch_congr h [] p d hp h0 hd hc hl]
  | q :: r, p, d, ab, hp, h0, hd, hc, hl => by
    have e := ch_congr h (q :: r) p d hp h0 hd hc hl
    obtain ⟨h1, h2, h3⟩ := id hc
    rw [lastD_cons] at hl
    unfold coll ownO lab
    rw [e]
    congr 1
    rw [List.flatMap_def, List.flatMap_def]
    congr 1
    refine List.map_congr_left fun k hk => ?_
    obtain ⟨k0, k1⟩ := kid_bounds hp h0 (show d < q by omega) hk
    exact coll_congr h r q k _ (by omega) k0 k1 h3 hl
/-! ### scaling -/
theorem scale_ch {F : Int → Int} {g : Int → Int} (hg : ∀ x y, g x = g y → x = y) : ∀ (r : List Int) (p d : Int), 0 < p → 0 ≤ d → d < p → chain p r → (∀ y, y ∈ ch (fun t => g (F t)) r p d ↔ ∃ x ∈ ch F r p d, g x = y) ∧ ms (fun t => g (F t)) r p d = ms F r p d
  | [], p, d, _, _, _, _ => ⟨fun y => by simp [ch]; exact ⟨fun z => z.symm, fun z => z.symm⟩, rfl⟩
  | q :: r, p, d, hp, h0, hd, hc => by
    obtain ⟨h1, h2, h3⟩ := id hc
    have ih : ∀ k ∈ kidDays p q d, (∀ y, y ∈ ch (fun t => g (F t)) r q k ↔ ∃ x ∈ ch F r q k, g x = y) ∧ ms (fun t => g (F t)) r q k = ms F r q k := fun k hk => by
      obtain ⟨k0, k1⟩ := kid_bounds hp h0 (show d < q by omega) hk
      exact scale_ch hg r q k (by omega) k0 k1 h3
    have hcnt : ∀ x, cnt ((kidDays p q d).map (ch (fun t => g (F t)) r q)) (g x) = cnt ((kidDays p q d).map (ch F r q)) x := by
      intro x
      unfold cnt
      rw [List.filter_map, List.filter_map, List.length_map, List.length_map]
      congr 1
      refine List.filter_congr fun k hk => ?_
      simp only [Function.comp, decide_eq_decide]
      rw [(ih k hk).1]
      constructor
      · rintro ⟨z, hz, e⟩; rw [← hg _ _ e]; exact hz
      · exact fun z => ⟨x, z, rfl⟩
    have himg : ∀ y, (∃ c ∈ (kidDays p q d).map (ch (fun t => g (F t)) r q), y ∈ c) → ∃ x, g x = y ∧ ∃ c ∈ (kidDays p q d).map (ch F r q), x ∈ c := by
      rintro y ⟨c, hc, hy⟩
      obtain ⟨k, hk, rfl⟩ := List.mem_map.mp hc
      obtain ⟨x, hx, e⟩ := ((ih k hk).1 y).mp hy
      exact ⟨x, e, _, List.mem_map.mpr ⟨k, hk, rfl⟩, hx⟩
    have hmost : ∀ y, IsMost ((kidDays p q d).map (ch (fun t => g (F t)) r q)) y ↔ ∃ x, IsMost ((kidDays p q d).map (ch F r q)) x ∧ g x = y := by
      intro y
      constructor
      · rintro ⟨hy, hall⟩
        obtain ⟨x, rfl, hx⟩ := himg y hy
        exact ⟨x, ⟨hx, fun z => by rw [← hcnt, ← hcnt]; exact hall _⟩, rfl⟩
      · rintro ⟨x, ⟨⟨c, hc, hx⟩, hall⟩, rfl⟩
        obtain ⟨k, hk, rfl⟩ := List.mem_map.mp hc
        refine ⟨⟨_, List.mem_map.mpr ⟨k, hk, rfl⟩, ((ih k hk).1 _).mpr ⟨x, hx, rfl⟩⟩, fun z => ?_⟩
        by_cases hz : ∃ c ∈ (kidDays p q d).map (ch (fun t => g (F t)) r q), z ∈ c
        · obtain ⟨w, rfl, _⟩ := himg z hz
          rw [hcnt, hcnt]; exact hall w
        · rw [cnt_zero fun c hc w => hz ⟨c, hc, w⟩]; exact Nat.zero_le _
    have hmem : ∀ y, y ∈ ch (fun t => g (F t)) (q :: r) p d ↔ ∃ x ∈ ch F (q :: r) p d, g x = y := by
      intro y
      unfold ch
      rw [(best_bestOf _).mem, hmost]
      constructor
      · rintro ⟨x, hx, e⟩; exact ⟨x, ((best_bestOf _).mem x).mpr hx, e⟩
      · rintro ⟨x, hx, e⟩; exact ⟨x, ((best_bestOf _).mem x).mp hx, e⟩
    refine ⟨hmem, ?_⟩
    unfold ms
    have e1 : (kidDays p q d).map (ms (fun t => g (F t)) r q) = (kidDays p q d).map (ms F r q) := List.map_congr_left fun k hk => (ih k hk).2
    obtain ⟨x, hx⟩ := List.exists_mem_of_ne_nil _ (ch_ne F (q :: r) p d hp h0 hd hc)
    have m1 := most_of (show x ∈ bestOf ((kidDays p q d).map (ch F r q)) from hx)
    have m2 := most_of (show g x ∈ bestOf ((kidDays p q d).map (ch (fun t => g (F t)) r q)) from (hmem _).mpr ⟨x, hx, rfl⟩)
    rw [hcnt] at m2
    rw [e1, ← m1, ← m2]
end DL
set_option maxRecDepth 100000
set_option maxHeartbeats 4000000
namespace DL
open PySem L2
/-! ### the fewest orders, as mathematics -/
structure CalP (ps : List Int) (p : Int) (r : List Int) : Prop where
  e : ps = p :: r
  pos : 0 < p
  ch : chain p r
  la : lastD p r = cyc ps
theorem cal_parts {ps : List Int} (hc : CalOk ps) : ∃ p r, CalP ps p r := by
  obtain ⟨n1, n5, hcf⟩ := id hc
  cases ps with
  | nil => simp at n1
  | cons p r =>
    have hp : (p :: r)[0]? = some p := rfl
    have h1 := cal_chain hcf hp
    have h2 := last_drop hp
    exact ⟨p, r, rfl, ((cal_cyc hc).per p (by simp)).1, h1, h2⟩
theorem few_perm (ps : List Int) (F : Int → Int) : (fewL ps F).Perm (gath F ps) := List.mergeSort_perm _ _
theorem flow_perm {xs ys : List Ord} (h : xs.Perm ys) (t : Int) : flowAt xs t = flowAt ys t := by
  induction h with
  | nil => rfl
  | cons o _ ih => rw [flowAt_cons, ih, ← flowAt_cons]
  | swap x y l => rw [flowAt_cons y (x :: l), flowAt_cons x l, flowAt_cons x (y :: l), flowAt_cons y l]; omega
  | trans _ _ a b => rw [a, b]
theorem ordLe_trans : ∀ (x y z : Ord), ordLe x y = true → ordLe y z = true → ordLe x z = true := fun x y z h1 h2 => by
  unfold ordLe leI at *
  exact decide_eq_true (List.le_trans (of_decide_eq_true h1) (of_decide_eq_true h2))
theorem ordLe_total : ∀ (x y : Ord), (ordLe x y || ordLe y x) = true := fun x y => by
  unfold ordLe leI
  rw [Bool.or_eq_true, decide_eq_true_eq, decide_eq_true_eq]
  exact List.le_total _ _
theorem few_sorted (ps : List Int) (F : Int → Int) : (fewL ps F).Pairwise fun x y => ordLe x y = true := List.pairwise_mergeSort ordLe_trans ordLe_total _
theorem flow_few {ps : List Int} (hc : CalOk ps) (F : Int → Int) (t : Int) : flowAt (fewL ps F) t = F (t % cyc ps) := by
  obtain ⟨p, r, cp⟩ := cal_parts hc
  rw [flow_perm (few_perm ps F)]
  have e : gath F ps = (List.range p.toNat).flatMap fun (d : Nat) => coll F r p d 0 := by rw [cp.e]; rfl
  rw [e, flow_flat]
  have hp := cp.pos
  have : ((List.range p.toNat).map fun (k : Nat) => flowAt (coll F r p k 0) t) = ((List.range p.toNat).map fun (k : Nat) => if (t % p).toNat = k then F (t % cyc ps) else 0) := by
    refine List.map_congr_left fun k hk => ?_
    have hk := List.mem_range.mp hk
    rw [flow_coll F (cyc ps) t r p k 0 hp (by omega) (by omega) cp.ch cp.la]
    have h0 := Int.emod_nonneg t (show p ≠ 0 by omega)
    have : (t % p = (k : Int)) ↔ (t % p).toNat = k := by omega
    simp only [this, Int.sub_zero]
  rw [this]
  have h0 := Int.emod_nonneg t (show p ≠ 0 by omega)
  have h1 := Int.emod_lt_of_pos t hp
  have gen : ∀ n m : Nat, ((List.range n).map fun k => if m = k then F (t % cyc ps) else 0).sum = if m < n then F (t % cyc ps) else 0 := by
    intro n m
    induction n with
    | zero => simp
    | succ n ih =>
      rw [List.range_succ, List.map_append, List.sum_append, ih]
      simp only [List.map_cons, List.map_nil, List.sum_cons, List.sum_nil, Int.add_zero]
      by_cases h : m < n
      · rw [if_pos h, if_neg (by omega), if_pos (by omega)]; omega
      · by_cases h2 : m = n
        · rw [if_neg h, if_pos h2, if_pos (by omega)]; omega
        · rw [if_neg h, if_neg h2, if_neg (by omega)]; omega
  rw [gen, if_pos (by omega)]
theorem few_ok {ps : List Int} (hc : CalOk ps) (F : Int → Int) : OrdsOk ps (fewL ps F) := by
  obtain ⟨p, r, cp⟩ := cal_parts hc
  intro o ho
  rw [(few_perm ps F).mem_iff] at ho
  have e : gath F ps = (List.range p.toNat).flatMap fun (d : Nat) => coll F r p d 0 := by rw [cp.e]; rfl
  rw [e] at ho
  obtain ⟨d, hd, ho⟩ := List.mem_flatMap.mp ho
  have hd := List.mem_range.mp hd
  obtain ⟨h1, h2, h3, h4, _⟩ := coll_ok F r p d 0 cp.pos (by omega) (by omega) cp.ch o ho
  rw [ordB_iff, cp.e]
  refine ⟨?_, h2, h3, h4⟩
  rcases h1 with ⟨z, _⟩ | z
  · rw [z]; exact List.mem_cons_self
  · exact List.mem_cons_of_mem _ z
theorem few_nd {ps : List Int} (hc : CalOk ps) (F : Int → Int) : (fewL ps F).Pairwise resNe := by
  obtain ⟨p, r, cp⟩ := cal_parts hc
  have hs : ∀ x y, resNe x y → resNe y x := fun x y h z => h ⟨z.1.symm, z.2.symm⟩
  refine (few_perm ps F).symm.pairwise ?_ (fun {x y} h => hs x y h)
  have e : gath F ps = (List.range p.toNat).flatMap fun (d : Nat) => coll F r p d 0 := by rw [cp.e]; rfl
  rw [e]
  have gen : ∀ n : Nat, n ≤ p.toNat → ((List.range n).flatMap fun (d : Nat) => coll F r p d 0).Pairwise resNe := by
    intro n hn
    induction n with
    | zero => simp
    | succ n ih =>
      rw [List.range_succ, List.flatMap_append, List.pairwise_append]
      refine ⟨ih (by omega), by simpa using coll_nd F r p n 0 cp.pos (by omega) (by omega) cp.ch, ?_⟩
      intro x hx y hy ⟨z1, z2⟩
      obtain ⟨d, hd, hx⟩ := List.mem_flatMap.mp hx
      have hd := List.mem_range.mp hd
      simp only [List.flatMap_cons, List.flatMap_nil, List.append_nil] at hy
      have a := (coll_ok F r p d 0 cp.pos (by omega) (by omega) cp.ch x hx).2.2.2.2
      have b := (coll_ok F r p n 0 cp.pos (by omega) (by omega) cp.ch y hy).2.2.2.2
      rw [z2] at a
      omega
  exact gen _ (Nat.le_refl _)
theorem few_congr {ps : List Int} (hc : CalOk ps) {F G : Int → Int} (h : ∀ t, 0 ≤ t → t < cyc ps → F t = G t) : fewL ps F = fewL ps G := by
  obtain ⟨p, r, cp⟩ := cal_parts hc
  unfold fewL
  congr 1
  have e : ∀ F, gath F ps = (List.range p.toNat).flatMap fun (d : Nat) => coll F r p d 0 := fun F => by rw [cp.e]; rfl
  rw [e, e, List.flatMap_def, List.flatMap_def]
  congr 1
  refine List.map_congr_left fun d hd => ?_
  have hd := List.mem_range.mp hd
  exact coll_congr h r p d 0 cp.pos (by omega) (by omega) cp.ch cp.la
theorem few_len {ps : List Int} (F : Int → Int) {p : Int} {r : List Int} (cp : CalP ps p r) : (fewL ps F).length = ((List.range p.toNat).map fun (d : Nat) => ms F r p d + if 0 ∈ ch F r p d then 0 else 1).sum := by
  rw [(few_perm ps F).length_eq]
  have e : gath F ps = (List.range p.toNat).flatMap fun (d : Nat) => coll F r p d 0 := by rw [cp.e]; rfl
  rw [e, List.length_flatMap]
  congr 1
  refine List.map_congr_left fun d hd => ?_
  have hd := List.mem_range.mp hd
  exact coll_count F r p d 0 cp.pos (by omega) (by omega) cp.ch
/-- no list of orders with these flows is shorter -/
theorem few_least {ps : List Int} (hc : CalOk ps) {F : Int → Int} {os : List Ord} (ho : OrdsOk ps os) (h : ∀ t, 0 ≤ t → t < cyc ps → flowAt os t = F t) : (fewL ps F).length ≤ os.length := by
  obtain ⟨p, r, cp⟩ := cal_parts hc
  rw [few_len F cp]
  have hp := cp.pos
  have hin : ∀ o ∈ os, (o.1 = p ∨ o.1 ∈ r) ∧ 0 ≤ o.2.1 ∧ o.2.1 < o.1 := fun o h => by
    have := ordB_iff.mp (ho o h)
    rw [cp.e, List.mem_cons] at this
    exact ⟨this.1, this.2.1, this.2.2.1⟩
  have hcp : 0 < cyc ps := (cal_cyc hc).pos
  have hcl : ∀ o ∈ os, o.1 ≤ cyc ps := fun o h => ((cal_cyc hc).per o.1 (ordB_iff.mp (ho o h)).1).2.1
  have hL : ∀ d, 0 ≤ d → d < cyc ps → upTo os (cyc ps) d = F d := fun d h0 h1 => by
    unfold upTo
    rw [List.filter_eq_self.mpr fun o h => decide_eq_true (hcl o h)]
    exact h d h0 h1
  have hb : ∀ d, 0 ≤ d → d < p → below os p d = 0 := fun d h0 h1 => by
    unfold below
    rw [List.filter_eq_nil_iff.mpr fun o h => by
      rcases (hin o h).1 with z | z
      · simp [z]
      · have := chain_gt cp.ch _ z
        simp; omega]
    rfl
  have h1 : ∀ d ∈ List.range p.toNat, (ms F r p d + if 0 ∈ ch F r p d then 0 else 1) ≤ (os.filter fun o => decide ((o.1 = p ∧ o.2.1 = (d : Int)) ∨ (o.1 ∈ r ∧ o.2.1 % p = (d : Int)))).length := fun d hd => by
    have hd := List.mem_range.mp hd
    have a := opt_le F (upTo os) (cyc ps) hL r p d 0 hp (by omega) (by omega) cp.ch cp.la
    have b := lcost_le os r p d hp (by omega) (by omega) cp.ch (fun o h => (hin o h).2) fun o h => by
      rcases (hin o h).1 with z | z
      · exact .inl ⟨by omega, by rw [z]; exact Int.dvd_refl _⟩
      · exact .inr z
    rw [hb d (by omega) (by omega)] at b
    exact Nat.le_trans a b
  refine Nat.le_trans (sum_le_sum h1) ?_
  refine Nat.le_trans (sum_filter (Q := fun _ => true) (g := fun o : Ord => (o.2.1 % p).toNat) List.nodup_range fun o ho k hk hP => ⟨rfl, ?_⟩) (List.length_filter_le _ _)
  have hk := List.mem_range.mp hk
  rcases of_decide_eq_true hP with ⟨z1, z2⟩ | ⟨_, z⟩
  · show k = (o.2.1 % p).toNat
    rw [z2, Int.emod_eq_of_lt (by omega) (by omega)]; omega
  · show k = (o.2.1 % p).toNat
    rw [z]; omega
theorem few_scale {ps : List Int} (hc : CalOk ps) {F : Int → Int} {g : Int → Int} (hg : ∀ x y, g x = g y → x = y) (h0 : g 0 = 0) : (fewL ps fun t => g (F t)).length = (fewL ps F).length := by
  obtain ⟨p, r, cp⟩ := cal_parts hc
  rw [few_len _ cp, few_len _ cp]
  congr 1
  refine List.map_congr_left fun d hd => ?_
  have hd := List.mem_range.mp hd
  obtain ⟨a, b⟩ := scale_ch (F := F) hg r p d cp.pos (by omega) (by omega) cp.ch
  rw [b]
  congr 1
  have : (0 ∈ ch (fun t => g (F t)) r p d) ↔ 0 ∈ ch F r p d := by
    rw [a]
    constructor
    · rintro ⟨x, hx, e⟩
      have : x = 0 := hg _ _ (by rw [e, h0])
      rw [← this]; exact hx
    · exact fun z => ⟨0, z, h0⟩
  simp only [this]
theorem flow_cyc {ps : List Int} (hc : CalOk ps) {os : List Ord} (ho : OrdsOk ps os) (t : Int) : flowAt os (t % cyc ps) = flowAt os t := by
  unfold flowAt
  congr 1
  refine List.map_congr_left fun o h => ?_
  have := ((cal_cyc hc).per o.1 (ordB_iff.mp (ho o h)).1).2.2
  rw [Int.emod_emod_of_dvd _ this]
theorem few_flow {ps : List Int} (hc : CalOk ps) {os : List Ord} (ho : OrdsOk ps os) (t : Int) : flowAt (fewL ps (flowAt os)) t = flowAt os t := by
  rw [flow_few hc, flow_cyc hc ho]
theorem few_few {ps : List Int} (hc : CalOk ps) {os : List Ord} (ho : OrdsOk ps os) : fewL ps (flowAt (fewL ps (flowAt os))) = fewL ps (flowAt os) :=
  few_congr hc fun t _ _ => few_flow hc ho t
theorem ords_snoc {ps : List Int} {os : List Ord} {o : Ord} (ho : OrdsOk ps os) (h : ordB ps o = true) : OrdsOk ps (os ++ [o]) := fun x hx => by
  rcases List.mem_append.mp hx with z | z
  · exact ho x z
  · rw [List.mem_singleton.mp z]; exact h
/-- one more order changes the number by at most one -/
theorem few_more {ps : List Int} (hc : CalOk ps) {os : List Ord} {o : Ord} (ho : OrdsOk ps os) (h : ordB ps o = true) :
    (fewL ps (flowAt (os ++ [o]))).length ≤ (fewL ps (flowAt os)).length + 1 ∧ (fewL ps (flowAt os)).length ≤ (fewL ps (flowAt (os ++ [o]))).length + 1 := by
  have h' : ordB ps (o.1, o.2.1, - o.2.2) = true := by
    rw [ordB_iff] at h ⊢
    exact ⟨h.1, h.2.1, h.2.2.1, by have := h.2.2.2; simp only; omega⟩
  have hm := ords_snoc ho h
  constructor
  · have := few_least hc (F := flowAt (os ++ [o])) (ords_snoc (few_ok hc (flowAt os)) h) fun t _ _ => by
      rw [flowAt_snoc, flowAt_snoc, few_flow hc ho]
    simpa using this
  · have := few_least hc (F := flowAt os) (ords_snoc (few_ok hc (flowAt (os ++ [o]))) h') fun t _ _ => by
      rw [flowAt_snoc, few_flow hc hm, flowAt_snoc]
      simp only
      split <;> omega
    simpa using this
theorem few_le {ps : List Int} (hc : CalOk ps) {os : List Ord} (ho : OrdsOk ps os) : (fewL ps (flowAt os)).length ≤ os.length := few_least hc ho fun _ _ _ => rfl
theorem few_le_norm {ps : List Int} (hc : CalOk ps) {os : List Ord} (ho : OrdsOk ps os) : (fewL ps (flowAt os)).length ≤ (norm ps (flowAt os)).length :=
  few_least hc (norm_ok hc _) fun t _ _ => by rw [flow_norm hc, flow_cyc hc ho]
def scaleO (f : Int) (o : Ord) : Ord := (o.1, o.2.1, 0 - o.2.2 * f)
theorem flow_scale (f : Int) (t : Int) : ∀ os : List Ord, flowAt (os.map (scaleO f)) t = 0 - flowAt os t * f
  | [] => by simp [flowAt]
  | o :: os => by
    rw [List.map_cons, flowAt_cons, flow_scale f t os, flowAt_cons o os, flowAt_one, flowAt_one]
    unfold scaleO
    simp only
    split
    · rw [Int.add_mul]; omega
    · rw [Int.add_mul]; omega
theorem scale_ok {ps : List Int} {os : List Ord} {f : Int} (hf : 0 < f) (ho : OrdsOk ps os) : OrdsOk ps (os.map (scaleO f)) := fun x hx => by
  obtain ⟨o, h, rfl⟩ := List.mem_map.mp hx
  have := ordB_iff.mp (ho o h)
  rw [ordB_iff]
  refine ⟨this.1, this.2.1, this.2.2.1, ?_⟩
  unfold scaleO
  simp only
  have : o.2.2 * f ≠ 0 := Int.mul_ne_zero this.2.2.2 (by omega)
  omega
theorem few_scaled {ps : List Int} (hc : CalOk ps) {os : List Ord} {f : Int} (hf : 0 < f) : (fewL ps (flowAt (os.map (scaleO f)))).length = (fewL ps (flowAt os)).length := by
  rw [← few_scale hc (F := flowAt os) (g := fun x => 0 - x * f) (fun x y h => by
    have h : 0 - x * f = 0 - y * f := h
    have h : x * f = y * f := by omega
    exact Int.eq_of_mul_eq_mul_right (by omega) h) (by simp)]
  congr 2
  funext t
  exact flow_scale f t os
end DL
set_option maxRecDepth 100000
set_option maxHeartbeats 4000000
namespace DL
open PySem L2
/-! ### k08: the search over all sets of residues -/
abbrev Res := Int × Int
def hit (rs : List Res) (bs : List Bool) (t : Int) (k : Nat) : Prop := bs[k]? = some true ∧ ∃ r, rs[k]? = some r ∧ t % r.1 = r.2
instance (rs : List Res) (bs : List Bool) (t : Int) (k : Nat) : Decidable (hit rs bs t k) :=
  match h : rs[k]? with
  | none => isFalse fun ⟨_, r, e, _⟩ => by rw [h] at e; cases e
  | some r => if hb : bs[k]? = some true then (if ht : t % r.1 = r.2 then isTrue ⟨hb, r, h, ht⟩ else isFalse fun ⟨_, r', e, z⟩ => by rw [h] at e; cases e; exact ht z) else isFalse fun z => hb z.1
/-- the last of the first n residues that is chosen and holds t, or -1 -/
def nearN (rs : List Res) (bs : List Bool) (t : Int) : Nat → Int
  | 0 => -1
  | n + 1 => if hit rs bs t n then (n : Int) else nearN rs bs t n
abbrev near (rs : List Res) (bs : List Bool) (t : Int) : Int := nearN rs bs t rs.length
theorem nearN_lt (rs : List Res) (bs : List Bool) (t : Int) : ∀ n : Nat, -1 ≤ nearN rs bs t n ∧ nearN rs bs t n < n
  | 0 => by simp [nearN]
  | n + 1 => by
    have := nearN_lt rs bs t n
    unfold nearN
    split <;> omega
theorem nearN_hit (rs : List Res) (bs : List Bool) (t : Int) : ∀ {n : Nat} {k : Nat}, nearN rs bs t n = (k : Int) → hit rs bs t k
  | 0, k, h => by simp only [nearN] at h; omega
  | n + 1, k, h => by
    unfold nearN at h
    split at h
    · rename_i hh
      have : n = k := by omega
      exact this ▸ hh
    · exact nearN_hit rs bs t h
theorem nearN_ge (rs : List Res) (bs : List Bool) (t : Int) : ∀ {n : Nat} {k : Nat}, k < n → hit rs bs t k → (k : Int) ≤ nearN rs bs t n
  | 0, k, h, _ => by omega
  | n + 1, k, h, hk => by
    unfold nearN
    split
    · omega
    · rename_i hn
      have : k ≠ n := fun z => hn (z ▸ hk)
      exact nearN_ge rs bs t (by omega) hk
structure Expl (rs : List Res) (bs : List Bool) (c : Int) (F : Int → Int) : Prop where
  none : ∀ t, 0 ≤ t → t < c → near rs bs t = -1 → F t = 0
  same : ∀ t u, 0 ≤ t → t < c → 0 ≤ u → u < c → near rs bs t = near rs bs u → F t = F u
/-- the residues of a calendar -/
def resL (ps : List Int) : List Res := ps.flatMap fun p => (List.range p.toNat).map fun (d : Nat) => (p, (d : Int))
theorem mem_resL {ps : List Int} {r : Res} : r ∈ resL ps ↔ r.1 ∈ ps ∧ 0 ≤ r.2 ∧ r.2 < r.1 := by
  unfold resL
  rw [List.mem_flatMap]
  constructor
  · rintro ⟨p, hp, h⟩
    obtain ⟨d, hd, rfl⟩ := List.mem_map.mp h
    have := List.mem_range.mp hd
    exact ⟨hp, by simp only; omega, by simp only; omega⟩
  · rintro ⟨h1, h2, h3⟩
    refine ⟨r.1, h1, List.mem_map.mpr ⟨r.2.toNat, List.mem_range.mpr (by omega), ?_⟩⟩
    obtain ⟨a, b⟩ := r
    simp only at *
    rw [Int.toNat_of_nonneg h2]
theorem resL_dvd {ps : List Int} (h : ps.Pairwise (· ∣ ·)) : (resL ps).Pairwise fun a b => a.1 ∣ b.1 := by
  induction ps with
  | nil => exact List.Pairwise.nil
  | cons p r ih =>
    obtain ⟨h1, h2⟩ := List.pairwise_cons.mp h
    unfold resL
    rw [List.flatMap_cons, List.pairwise_append]
    refine ⟨?_, ih h2, ?_⟩
    · rw [List.pairwise_map]
      exact (List.nodup_iff_pairwise_ne.mp List.nodup_range).imp fun _ => Int.dvd_refl _
    · intro a ha b hb
      obtain ⟨d, _, rfl⟩ := List.mem_map.mp ha
      exact h1 _ (mem_resL.mp hb).1
theorem resL_nodup {ps : List Int} (h : ps.Nodup) : (resL ps).Nodup := by
  induction ps with
  | nil => exact List.Pairwise.nil
  | cons p r ih =>
    obtain ⟨h1, h2⟩ := List.nodup_cons.mp h
    unfold resL
    rw [List.flatMap_cons, List.nodup_append]
    refine ⟨?_, ih h2, ?_⟩
    · rw [List.nodup_iff_pairwise_ne, List.pairwise_map]
      refine List.Pairwise.imp ?_ (List.nodup_iff_pairwise_ne.mp List.nodup_range)
      intro a b hab z
      simp only [Prod.mk.injEq, true_and] at z
      omega
    · intro a ha b hb z
      obtain ⟨d, _, rfl⟩ := List.mem_map.mp ha
      rw [← z] at hb
      exact h1 (mem_resL.mp hb).1
theorem pw_get {α : Type} {R : α → α → Prop} {l : List α} (h : l.Pairwise R) {i j : Nat} {a b : α} (hij : i < j) (ha : l[i]? = some a) (hb : l[j]? = some b) : R a b := by
  obtain ⟨hi, rfl⟩ := List.getElem?_eq_some_iff.mp ha
  obtain ⟨hj, rfl⟩ := List.getElem?_eq_some_iff.mp hb
  exact List.pairwise_iff_getElem.mp h i j hi hj hij
/-! (A) what explains the flows gives orders, no more than are chosen -/
section
variable {rs : List Res} {bs : List Bool} (V : Int → Int)
def ordAt (rs : List Res) (bs : List Bool) (V : Int → Int) (k : Nat) : List Ord :=
  match rs[k]? with
  | none => []
  | some r => if bs[k]? = some true ∧ V k - V (nearN rs bs r.2 k) ≠ 0 then [(r.1, r.2, V k - V (nearN rs bs r.2 k))] else []
def ordsTo (rs : List Res) (bs : List Bool) (V : Int → Int) : Nat → List Ord
  | 0 => []
  | n + 1 => ordsTo rs bs V n ++ ordAt rs bs V n
theorem near_day (hd : rs.Pairwise fun a b => a.1 ∣ b.1) {k : Nat} {r : Res} (hk : rs[k]? = some r) (hr : 0 ≤ r.2 ∧ r.2 < r.1) {t : Int} (ht : t % r.1 = r.2) : ∀ n, n ≤ k → nearN rs bs t n = nearN rs bs r.2 n
  | 0, _ => rfl
  | n + 1, h => by
    unfold nearN
    rw [near_day hd hk hr ht n (by omega)]
    have : hit rs bs t n ↔ hit rs bs r.2 n := by
      unfold hit
      have : ∀ q, rs[n]? = some q → (t % q.1 = q.2 ↔ r.2 % q.1 = q.2) := fun q hq => by
        have := pw_get hd (show n < k by omega) hq hk
        rw [← Int.emod_emod_of_dvd t this, ht]
      constructor
      · rintro ⟨h1, q, hq, h2⟩; exact ⟨h1, q, hq, (this q hq).mp h2⟩
      · rintro ⟨h1, q, hq, h2⟩; exact ⟨h1, q, hq, (this q hq).mpr h2⟩
    simp only [this]
theorem flow_ordsTo (hd : rs.Pairwise fun a b => a.1 ∣ b.1) (hr : ∀ r ∈ rs, 0 ≤ r.2 ∧ r.2 < r.1) (t : Int) : ∀ n, n ≤ rs.length → flowAt (ordsTo rs bs V n) t = V (nearN rs bs t n) - V (-1)
  | 0, _ => by simp [ordsTo, flowAt, nearN]
  | n + 1, h => by
    have hn : n < rs.length := by omega
    have e := List.getElem?_eq_getElem hn
    have hrr := hr _ (List.getElem_mem hn)
    unfold ordsTo nearN ordAt
    rw [flowAt_app, flow_ordsTo hd hr t n (by omega), e]
    simp only
    by_cases hh : hit rs bs t n
    · rw [if_pos hh]
      obtain ⟨h1, r, hr', h2⟩ := id hh
      rw [e] at hr'; cases hr'
      have hnd := near_day (bs := bs) hd e hrr h2 n (Nat.le_refl _)
      by_cases hz : V n - V (nearN rs bs (rs[n]).2 n) ≠ 0
      · rw [if_pos ⟨h1, hz⟩, flowAt_one, if_pos h2, ← hnd]; simp only; omega
      · rw [if_neg (fun z => hz z.2), hnd]
        simp only [flowAt_nil]
        omega
    · rw [if_neg hh]
      have : flowAt (if bs[n]? = some true ∧ V n - V (nearN rs bs (rs[n]).2 n) ≠ 0 then [((rs[n]).1, (rs[n]).2, V n - V (nearN rs bs (rs[n]).2 n))] else []) t = 0 := by
        split
        · rename_i hz
          rw [flowAt_one, if_neg]
          exact fun z => hh ⟨hz.1, _, e, z⟩
        · rfl
      rw [this]; omega
theorem ordsTo_len : ∀ n, (ordsTo rs bs V n).length ≤ (bs.take n).countP id
  | 0 => by simp [ordsTo]
  | n + 1 => by
    have ih := ordsTo_len n
    unfold ordsTo ordAt
    rw [List.length_append, List.take_succ, List.countP_append]
    cases e : rs[n]? with
    | none => simp only [List.length_nil]; omega
    | some r =>
      simp only
      split
      · rename_i hz
        rw [hz.1]
        simp only [Option.toList_some, List.length_cons, List.length_nil, List.countP_cons, List.countP_nil, id, if_true]
        omega
      · simp only [List.length_nil]; omega
theorem ordsTo_mem {o : Ord} : ∀ {n}, o ∈ ordsTo rs bs V n → (o.1, o.2.1) ∈ rs ∧ o.2.2 ≠ 0
  | 0, h => by simp [ordsTo] at h
  | n + 1, h => by
    unfold ordsTo ordAt at h
    rcases List.mem_append.mp h with z | z
    · exact ordsTo_mem z
    · cases e : rs[n]? with
      | none => rw [e] at z; simp at z
      | some r =>
        rw [e] at z
        simp only at z
        split at z
        · rename_i hz
          rw [List.mem_singleton.mp z]
          exact ⟨List.mem_of_getElem? e, hz.2⟩
        · simp at z
end
theorem cal_pw : ∀ {ps : List Int} {b : Int}, 0 ≤ b → calFrom b ps → ps.Pairwise (· ∣ ·) ∧ ps.Pairwise (· < ·)
  | [], _, _, _ => ⟨.nil, .nil⟩
  | p :: r, b, hb, ⟨h1, h2, h3, h4⟩ => by
    have ih := cal_pw (show 0 ≤ p by omega) h4
    exact ⟨List.pairwise_cons.mpr ⟨fun q hq => calFrom_dvdR (by omega) h4 q hq, ih.1⟩, List.pairwise_cons.mpr ⟨fun q hq => (calFrom_all (by omega) h4 q hq).1, ih.2⟩⟩
open Classical in
theorem least_of_expl {ps : List Int} (hc : CalOk ps) {bs : List Bool} {F : Int → Int} (hb : bs.length = (resL ps).length) (E : Expl (resL ps) bs (cyc ps) F) : (fewL ps F).length ≤ bs.countP id := by
  have pw := cal_pw (Int.le_refl 0) hc.2.2
  have hd := resL_dvd pw.1
  have hr : ∀ r ∈ resL ps, 0 ≤ r.2 ∧ r.2 < r.1 := fun r h => (mem_resL.mp h).2
  let V : Int → Int := fun k => if h : ∃ t, 0 ≤ t ∧ t < cyc ps ∧ near (resL ps) bs t = k ∧ k ≠ -1 then F h.choose else 0
  have hV1 : V (-1) = 0 := by
    show (if h : _ then _ else _) = _
    rw [dif_neg]
    rintro ⟨_, _, _, _, z⟩
    exact z rfl
  have hV : ∀ t, 0 ≤ t → t < cyc ps → V (near (resL ps) bs t) = F t := fun t h0 h1 => by
    by_cases hn : near (resL ps) bs t = -1
    · rw [hn, hV1, E.none t h0 h1 hn]
    · have hx : ∃ u, 0 ≤ u ∧ u < cyc ps ∧ near (resL ps) bs u = near (resL ps) bs t ∧ near (resL ps) bs t ≠ -1 := ⟨t, h0, h1, rfl, hn⟩
      show (if h : _ then _ else _) = _
      rw [dif_pos hx]
      exact E.same _ _ hx.choose_spec.1 hx.choose_spec.2.1 h0 h1 hx.choose_spec.2.2.1
  have hl := few_least hc (F := F) (os := ordsTo (resL ps) bs V (resL ps).length) (fun o ho => by
    obtain ⟨m1, m2⟩ := ordsTo_mem V ho
    have := mem_resL.mp m1
    rw [ordB_iff]
    exact ⟨this.1, this.2.1, this.2.2, m2⟩) fun t h0 h1 => by
    rw [flow_ordsTo V hd hr t _ (Nat.le_refl _), hV t h0 h1, hV1]; omega
  refine Nat.le_trans hl (Nat.le_trans (ordsTo_len V _) ?_)
  rw [← hb, List.take_of_length_le (Nat.le_refl _)]
  exact Nat.le_refl _
/-! (B) the residues of the fewest orders explain the flows -/
def choose (rs : List Res) (os : List Ord) : List Bool := rs.map fun r => decide (r ∈ os.map fun o => (o.1, o.2.1))
theorem choose_len (rs : List Res) (os : List Ord) : (choose rs os).length = rs.length := by simp [choose]
theorem choose_count {rs : List Res} (h : rs.Nodup) (os : List Ord) : (choose rs os).countP id ≤ os.length := by
  unfold choose
  rw [List.countP_map]
  have := nodupLen (l := rs.filter fun r => decide (r ∈ os.map fun o => (o.1, o.2.1))) (m := os.map fun o => (o.1, o.2.1)) (h.filter _) fun x hx => of_decide_eq_true (List.mem_filter.mp hx).2
  rw [List.length_map] at this
  rw [List.countP_eq_length_filter]
  exact this
theorem choose_hit {rs : List Res} {os : List Ord} {t : Int} {o : Ord} (ho : o ∈ os) (hm : (o.1, o.2.1) ∈ rs) (ht : t % o.1 = o.2.1) : ∃ k, k < rs.length ∧ rs[k]? = some (o.1, o.2.1) ∧ hit rs (choose rs os) t k := by
  obtain ⟨k, hk⟩ := List.getElem?_of_mem hm
  refine ⟨k, (List.getElem?_eq_some_iff.mp hk).1, hk, ?_, _, hk, ht⟩
  unfold choose
  rw [List.getElem?_map, hk, Option.map_some, decide_eq_true]
  exact List.mem_map.mpr ⟨o, ho, rfl⟩
theorem expl_choose {ps : List Int} (hc : CalOk ps) {os : List Ord} (ho : OrdsOk ps os) {F : Int → Int} (hF : ∀ t, 0 ≤ t → t < cyc ps → flowAt os t = F t) : Expl (resL ps) (choose (resL ps) os) (cyc ps) F := by
  have pw := cal_pw (Int.le_refl 0) hc.2.2
  have hd := resL_dvd pw.1
  have hm : ∀ o ∈ os, (o.1, o.2.1) ∈ resL ps := fun o h => by
    have := ordB_iff.mp (ho o h)
    exact mem_resL.mpr ⟨this.1, this.2.1, this.2.2.1⟩
  constructor
  · intro t h0 h1 hn
    rw [← hF t h0 h1]
    unfold flowAt
    have : (os.map fun o => if t % o.1 = o.2.1 then o.2.2 else 0) = os.map fun _ => 0 := by
      refine List.map_congr_left fun o h => ?_
      rw [if_neg]
      intro ht
      obtain ⟨k, hk, _, hh⟩ := choose_hit h (hm o h) ht
      have := nearN_ge _ _ _ hk hh
      rw [show nearN (resL ps) (choose (resL ps) os) t (resL ps).length = -1 from hn] at this
      omega
    rw [this]
    clear this hF hm ho hn
    induction os with
    | nil => rfl
    | cons o os ih => rw [List.map_cons, List.sum_cons, ih]; rfl
  · intro t u t0 t1 u0 u1 e
    rw [← hF t t0 t1, ← hF u u0 u1]
    have key : ∀ (t u : Int), near (resL ps) (choose (resL ps) os) t = near (resL ps) (choose (resL ps) os) u → ∀ o ∈ os, t % o.1 = o.2.1 → u % o.1 = o.2.1 := by
      intro t u e o h ht
      obtain ⟨k, hk, hrk, hh⟩ := choose_hit h (hm o h) ht
      have hge : (k : Int) ≤ near (resL ps) (choose (resL ps) os) t := nearN_ge _ _ _ hk hh
      obtain ⟨j, hj⟩ : ∃ j : Nat, near (resL ps) (choose (resL ps) os) t = j := ⟨(near (resL ps) (choose (resL ps) os) t).toNat, by omega⟩
      obtain ⟨_, q, hq, hqt⟩ := nearN_hit _ _ _ hj
      obtain ⟨_, q', hq', hqu⟩ := nearN_hit _ _ _ (e.symm.trans hj)
      rw [hq] at hq'; cases hq'
      have hdv : o.1 ∣ q.1 := by
        by_cases hkj : k = j
        · rw [hkj, hq] at hrk; cases hrk; exact Int.dvd_refl _
        · exact pw_get hd (show k < j by omega) hrk hq
      rw [← Int.emod_emod_of_dvd u hdv, hqu, ← hqt, Int.emod_emod_of_dvd t hdv, ht]
    unfold flowAt
    congr 1
    refine List.map_congr_left fun o h => ?_
    have : (t % o.1 = o.2.1) ↔ (u % o.1 = o.2.1) := ⟨key t u e o h, key u t e.symm o h⟩
    simp only [this]
/-! ### numbers and their bits -/
def bitsOf (n : Nat) (i : Int) : List Bool := (List.range n).map fun (k : Nat) => (Builtin.bitAnd (i / 2 ^ k) 1 == 1)
theorem bit_of (i : Int) (k : Nat) : Builtin.bitAnd (i / 2 ^ k) 1 = i / 2 ^ k % 2 := PyProof.Rows.bitAnd_m1 _
def numOf : List Bool → Int
  | [] => 0
  | b :: r => (if b then 1 else 0) + 2 * numOf r
theorem numOf_bound : ∀ bs : List Bool, 0 ≤ numOf bs ∧ numOf bs < 2 ^ bs.length
  | [] => by simp [numOf]
  | b :: r => by
    have := numOf_bound r
    unfold numOf
    rw [List.length_cons, Int.pow_succ]
    split <;> omega
theorem numOf_bit : ∀ (bs : List Bool) (k : Nat), numOf bs / 2 ^ k % 2 = if bs[k]? = some true then 1 else 0
  | [], k => by simp [numOf]
  | b :: r, 0 => by
    unfold numOf
    cases b <;> simp <;> omega
  | b :: r, k + 1 => by
    have ih := numOf_bit r k
    unfold numOf
    rw [List.getElem?_cons_succ, ← ih]
    have e : ((if b then 1 else 0) + 2 * numOf r) / 2 ^ (k + 1) = numOf r / 2 ^ k := by
      rw [Int.pow_succ, Int.mul_comm (2 ^ k) 2, ← Int.ediv_ediv_of_nonneg (by omega)]
      congr 1
      split <;> omega
    rw [e]
theorem bits_num (bs : List Bool) : bitsOf bs.length (numOf bs) = bs := by
  unfold bitsOf
  refine List.ext_getElem? fun k => ?_
  rw [List.getElem?_map]
  by_cases h : k < bs.length
  · rw [List.getElem?_range h, Option.map_some, bit_of, numOf_bit, List.getElem?_eq_getElem h]
    cases bs[k] <;> simp
  · rw [List.getElem?_eq_none (by simp; omega), List.getElem?_eq_none (by omega)]; rfl
theorem bitsOf_len (n : Nat) (i : Int) : (bitsOf n i).length = n := by simp [bitsOf]
/-- the least number of chosen residues is the number of the fewest orders -/
theorem search_end {ps : List Int} (hc : CalOk ps) {F : Int → Int} {m : Int} (h1 : ((fewL ps F).length : Int) ≤ m)
    (h2 : ∀ i : Int, 0 ≤ i → i < 2 ^ (resL ps).length → Expl (resL ps) (bitsOf (resL ps).length i) (cyc ps) F → m ≤ ((bitsOf (resL ps).length i).countP id : Nat)) : m = (fewL ps F).length := by
  have pw := cal_pw (Int.le_refl 0) hc.2.2
  have hnd := resL_nodup (List.nodup_iff_pairwise_ne.mpr (pw.2.imp fun h => by omega))
  have hF : ∀ t, 0 ≤ t → t < cyc ps → flowAt (fewL ps F) t = F t := fun t h0 hlt => by rw [flow_few hc, Int.emod_eq_of_lt h0 hlt]
  have ex := expl_choose hc (few_ok hc F) hF
  have hl := choose_len (resL ps) (fewL ps F)
  have hn := numOf_bound (choose (resL ps) (fewL ps F))
  have hb := bits_num (choose (resL ps) (fewL ps F))
  rw [hl] at hn hb
  have := h2 _ hn.1 hn.2 (by rw [hb]; exact ex)
  rw [hb] at this
  have := choose_count hnd (fewL ps F)
  omega
end DL
set_option maxRecDepth 100000
set_option maxHeartbeats 4000000
namespace DL
open PySem L2 GT
local macro_rules | `(tactic| walk_at "dl") => `(tactic| simp only [wGSeq, wGIf, wGP, wG0, GDs.at, wFld, wSetF, wMeth, wMake, wGMeth, wGCall, wDNewK, wDNewT, CO.ins.injEq, CO.dk.injEq, CO.dt.injEq, Cells.put_put, wRet, wRetN, wSeq, wAsg, wIfS, wDrop, wNext, wVar, wC, wOp, wUn, wFn, wNil, wCons, wTest, wNot, wAnd, wOr, wAndV, wOrV, wNotV, wIf, wChain, wTup, wLst, wCall, wNever, gN, gT, gNil, gCons, gIx, wI, wI0, wNeg, wMax2, wMin2, wLen, wIsN, wNotN, isNon_non, isNon_bl, isNon_int, isNon_str, isNon_lst, isNon_tup, isNon_cell, wIx, wTuple, wAug, wAugIx, wPar, wPar3, wSlL, wSlT, wPart, wNoPart, wCatT, wIsi, wIsi2, isiT, tyD_non, tyD_bl, tyD_int, tyD_str, tyD_lst, tyD_tup, tyD_cell, coTy_lst, seqD_lst, seqD_tp, seqD_cell, coSeq_lst, seen_dat, seen_cell, coDat_lst, startD, wYes, wApp, wEq_int, wEq_bl, allDat_nil, allDat_cons, allDat_map, Option.map_some, List.map_cons, List.map_nil, List.cons_append, List.nil_append, List.length_cons, List.length_nil, List.replicate, List.getElem?_cons_zero, List.getElem?_cons_succ, List.set_cons_zero, List.set_cons_succ, Option.some.injEq, exists_eq_left', exists_eq_left, exists_and_left, exists_eq', exists_eq, Vl.dat.injEq, Vl.raw.injEq, V.ref.injEq, CO.lst.injEq, Dat.int.injEq, Dat.bl.injEq, Dat.tup.injEq, Dat.lst.injEq, List.cons.injEq, and_true, true_and, retE, Nat.reduceAdd, Nat.reduceSub, and_assoc, Prod.mk.injEq, if_true, if_false, Bool.false_eq_true, decide_eq_true_eq, Bool.not_true, Bool.not_false, Bool.not_eq_true', decide_eq_false_iff_not, if_false_left, if_false_right, beq_iff_eq, Bool.or_eq_true, Bool.and_eq_true, Bool.or_self, Bool.or_true, Bool.true_or, Bool.or_false, Bool.false_or, decide_true, decide_false, reduceCtorEq, Cells.put_same, gt_iff_lt, ge_iff_le, beq_self_eq_true, bne_self_eq_false, Bool.decide_eq_true, not_true_eq_false, not_false_eq_true, Decidable.not_not, false_and, and_false, Bool.not_eq_false, at_0, at_1, at_2, at_3, at_4, at_5, ix_0, ix_1, ix_2, ix_3, Nat.reduceLT, Int.reduceLT, Int.reduceLE, Int.reduceNeg, Int.reduceAdd, Int.reduceSub, Int.reduceEq, Int.reducePow, Int.reduceToNat, Cells.put_put])
def resD (rs : List Res) : List Dat := rs.map fun r => .tup [.int r.1, .int r.2]
def blD (bs : List Bool) : List Dat := bs.map .bl
def atF (ws : List Int) : Int → Int := fun t => (ws[t.toNat]?).getD 0
def sp_law_explains : DSp := fun xs cs Q _ => ∃ (rs : List Res) (bs : List Bool) (ws : List Int), xs = [.dat (.lst (resD rs)), .dat (.lst (blD bs)), .dat (.lst (iD ws))] ∧ bs.length = rs.length ∧ (∀ r ∈ rs, 0 < r.1) ∧ rs.length ≤ 1000 ∧ ws.length ≤ 1000 ∧
  ∀ b, (b = true ↔ Expl rs bs ws.length (atF ws)) → Q (.bl b) cs
theorem len_law_explains : ∀ xs cs Q XP, sp_law_explains xs cs Q XP → xs.length = 3 := by rintro xs cs Q XP ⟨rs, bs, ws, rfl, _⟩; rfl
/-- _law_explains: slots _law_residues, _law_chosen, _law_wanted, _law_sums, _law_day, _law_nearest, _law_k, _law_due -/
def w_law_explains : WS := (wSeq (wAsg wDNewK (gN 3))
    (wSeq (wFor (wiRng1 (wCons (wFn wLen (wCons (wVar 2) wNil)) wNil)) (gN 4) (wSeq (wAsg (wOp wSub (wC (.int 0)) (wC (.int 1))) (gN 5))
    (wSeq (wFor (wiRng1 (wCons (wFn wLen (wCons (wVar 0) wNil)) wNil)) (gN 6) (wIfS (wAnd (wTest (wOp wIx (wVar 1) (wVar 6))) (wTest (wOp (wEqD false) (wOp wMod (wVar 4) (wOp wIx (wOp wIx (wVar 0) (wVar 6)) (wC (.int 0)))) (wOp wIx (wOp wIx (wVar 0) (wVar 6)) (wC (.int 1)))))) (wAsg (wVar 6) (gN 5)) wNext))
    (wSeq (wAsg (wDGet2 (wVar 3) (wVar 5) (wIf (wTest (wOp wLt (wVar 5) (wC (.int 0)))) (wC (.int 0)) (wOp wIx (wVar 2) (wVar 4)))) (gN 7))
    (wSeq (wIfS (wTest (wOp (wEqD true) (wVar 7) (wOp wIx (wVar 2) (wVar 4)))) (wRet (wC (.bl false))) wNext)
    (wDPut (wVar 3) (wVar 5) (wVar 7)))))))
    (wRet (wC (.bl true)))))
theorem resD_at {rs : List Res} {k : Nat} {r : Res} (h : rs[k]? = some r) : atI ((resD rs).map Vl.dat) (k : Int) = some (.dat (.tup [.int r.1, .int r.2])) := atI_nat (by simp [resD, h])
theorem blD_at {bs : List Bool} {k : Nat} {b : Bool} (h : bs[k]? = some b) : atI ((blD bs).map Vl.dat) (k : Int) = some (.dat (.bl b)) := atI_nat (by simp [blD, h])
theorem iD_at {ws : List Int} {k : Nat} {w : Int} (h : ws[k]? = some w) : atI ((iD ws).map Vl.dat) (k : Int) = some (.dat (.int w)) := atI_nat (by simp [iD, h])
theorem resD_len (rs : List Res) : ((resD rs).map Vl.dat).length = rs.length := by simp [resD]
theorem iD_len (ws : List Int) : ((iD ws).map Vl.dat).length = ws.length := by simp [iD]
structure Sums (rs : List Res) (bs : List Bool) (F : Int → Int) (i : Nat) (kvs : List (Key × Vl)) : Prop where
  len : kvs.length ≤ i
  has : ∀ t : Nat, t < i → valD kvs (Sum.inl (near rs bs t)) = some (.int (F t))
  all : ∀ k v, valD kvs (Sum.inl k) = some v → ∃ t : Nat, t < i ∧ near rs bs t = k ∧ v = .int (F t)
  none : ∀ t : Nat, t < i → near rs bs t = -1 → F t = 0
theorem pure_law_explains (K : Frag) : ∀ xs cs Q XP, sp_law_explains xs cs Q XP → w_law_explains (retE K Q) (startD 8 xs) cs := by
  rintro xs cs Q XP ⟨rs, bs, ws, rfl, hbl, hpos, hrl, hwl, q⟩
  unfold w_law_explains
  walk_at "dl"
  intro d hd
  simp only [wFor, wiRng1]
  walk_at "dl"
  rw [iD_len]
  refine ⟨by omega, by omega, fun i ρ cs' => i ≤ ws.length ∧ ∃ kvs, cs' = cs.put d (.dk kvs) ∧ Sums rs bs (atF ws) i kvs ∧ ∃ x4 x5 x6 x7, ρ = [some (.dat (.lst (resD rs))), some (.dat (.lst (blD bs))), some (.dat (.lst (iD ws))), some (.cell d), x4, x5, x6, x7], ⟨Nat.zero_le _, [], rfl, { len := Nat.le_refl _, has := fun t h => absurd h (by omega), all := fun k v h => by simp [valD] at h, none := fun t h => absurd h (by omega) }, _, _, _, _, rfl⟩, fun _ _ _ _ _ => trivial, ?_, ?_⟩
  · rintro i x ρ cs' hx ⟨_, kvs, rfl, S, x4, x5, x6, x7, rfl⟩
    obtain ⟨hi, rfl⟩ := rangeD_at hx
    have hi : i < ws.length := by omega
    clear hx
    rw [show (0 : Int) + (i : Int) * 1 = i by omega]
    walk_at "dl"
    simp only [wFor, wiRng1]
    walk_at "dl"
    rw [resD_len]
    refine ⟨by omega, by omega, fun k ρ cs' => k ≤ rs.length ∧ cs' = cs.put d (.dk kvs) ∧ ∃ x6, ρ = [some (.dat (.lst (resD rs))), some (.dat (.lst (blD bs))), some (.dat (.lst (iD ws))), some (.cell d), some (.int i), some (.int (nearN rs bs i k)), x6, x7], ⟨Nat.zero_le _, rfl, _, rfl⟩, fun _ _ _ _ _ => trivial, ?_, ?_⟩
    · rintro k x ρ cs' hx ⟨_, rfl, x6, rfl⟩
      obtain ⟨hk, rfl⟩ := rangeD_at hx
      have hk : k < rs.length := by omega
      clear hx
      rw [show (0 : Int) + (k : Int) * 1 = k by omega]
      have hrk := List.getElem?_eq_getElem hk
      have hbk := List.getElem?_eq_getElem (show k < bs.length by omega)
      have hp := hpos _ (List.getElem_mem hk)
      walk_at "dl"
      refine ⟨_, blD_at hbk, ?_⟩
      walk_at "dl"
      have hnx : nearN rs bs i (k + 1) = if hit rs bs i k then (k : Int) else nearN rs bs i k := rfl
      by_cases hb : bs[k] = true
      · rw [if_pos hb]
        refine ⟨_, resD_at hrk, ?_⟩
        walk_at "dl"
        refine ⟨hp, _, resD_at hrk, ?_⟩
        walk_at "dl"
        by_cases hh : (i : Int) % rs[k].1 = rs[k].2
        · rw [if_pos hh]
          have : hit rs bs i k := ⟨by rw [hbk, hb], _, hrk, hh⟩
          rw [hnx, if_pos this]
          exact ⟨by omega, rfl⟩
        · rw [if_neg hh]
          have : ¬ hit rs bs i k := fun ⟨_, r, e, z⟩ => by rw [hrk] at e; cases e; exact hh z
          rw [hnx, if_neg this]
          exact ⟨by omega, rfl⟩
      · rw [if_neg hb]
        have : ¬ hit rs bs i k := fun ⟨z, _⟩ => by rw [hbk] at z; exact hb (Option.some.inj z)
        rw [hnx, if_neg this]
        exact ⟨by omega, rfl⟩
    · rintro ρ cs' ⟨_, rfl, x6, rfl⟩
      rw [rangeD_len]
      have hwi := List.getElem?_eq_getElem hi
      have hFi : atF ws i = ws[i] := by unfold atF; rw [Int.toNat_natCast, hwi]; rfl
      have hwi := iD_at hwi
      rw [← hFi] at hwi
      have hlt := nearN_lt rs bs i rs.length
      rw [Int.toNat_natCast]
      generalize hnr : nearN rs bs i rs.length = nr at hlt
      walk_at "dl"
      simp only [wDGet2]
      walk_at "dl"
      have hval : valD kvs (Sum.inl nr) = none ∨ ∃ t : Nat, t < i ∧ near rs bs t = nr ∧ valD kvs (Sum.inl nr) = some (.int (atF ws t)) := by
        cases hv : valD kvs (Sum.inl nr) with
        | none => exact .inl rfl
        | some v =>
          obtain ⟨t, h1, h2, h3⟩ := S.all nr v hv
          exact .inr ⟨t, h1, h2, by rw [h3]⟩
      have hat : atD (cs.put d (.dk kvs)) (.cell d) (.int nr) (valD kvs (Sum.inl nr)) := ⟨d, rfl, .inl ⟨kvs, Sum.inl nr, Cells.put_same, rfl, rfl⟩⟩
      have hnr' : near rs bs i = nr := hnr
      have hno : ∀ t : Nat, t < i → near rs bs t = nr → atF ws t ≠ atF ws i → ¬ Expl rs bs ws.length (atF ws) := fun t h1 h2 h3 E => h3 (E.same t i (by omega) (by omega) (by omega) (by omega) (by rw [h2, hnr']))
      have hno0 : nr = -1 → 0 ≠ atF ws i → ¬ Expl rs bs ws.length (atF ws) := fun h1 h2 E => h2 (E.none i (by omega) (by omega) (by rw [hnr', h1])).symm
      have hput : (∀ v, valD kvs (Sum.inl nr) = some v → v = .int (atF ws i)) → (nr = -1 → atF ws i = 0) → Sums rs bs (atF ws) (i + 1) (putD kvs (Sum.inl nr) (.int (atF ws i))) := fun h1 h2 => by
        refine { len := Nat.le_trans (putD_len _ _ _) (by have := S.len; omega), has := fun t ht => ?_, all := fun k v hv => ?_, none := fun t ht hn => ?_ }
        · rw [valD_put]
          split
          · rename_i e
            by_cases hti : t = i
            · rw [hti]
            · have := S.has t (by omega)
              rw [e] at this
              rw [← h1 _ this]
          · rename_i e
            refine S.has t ?_
            have : t ≠ i := fun z => e (by rw [z, hnr'])
            omega
        · rw [valD_put] at hv
          split at hv
          · rename_i e
            cases e
            exact ⟨i, by omega, hnr', (Option.some.inj hv).symm⟩
          · obtain ⟨t, a, b, c⟩ := S.all k v hv
            exact ⟨t, by omega, b, c⟩
        · by_cases hti : t = i
          · rw [hti] at hn ⊢
            exact h2 (by rw [← hnr', hn])
          · exact S.none t (by omega) hn
      have fin : ∀ v : Int, (v ≠ atF ws i → ¬ Expl rs bs ws.length (atF ws)) → (v = atF ws i → (∀ u, valD kvs (Sum.inl nr) = some u → u = .int (atF ws i)) ∧ (nr = -1 → atF ws i = 0)) →
          if v = atF ws i then (i + 1 ≤ ws.length ∧ kvs.length < 16777216 ∧ Sums rs bs (atF ws) (i + 1) (putD kvs (Sum.inl nr) (.int v))) else GhK K Q (.dat (.bl false)) (cs.put d (.dk kvs)) := fun v h1 h2 => by
        split
        · rename_i e
          rw [e]
          exact ⟨by omega, by have := S.len; omega, hput (h2 e).1 (h2 e).2⟩
        · rename_i e
          exact GhK.drop (SubC.put hd) (q false ⟨fun z => (by cases z), fun z => absurd z (h1 e)⟩)
      have close : ∀ v : Int, (if v = atF ws i then (i + 1 ≤ ws.length ∧ kvs.length < 16777216 ∧ Sums rs bs (atF ws) (i + 1) (putD kvs (Sum.inl nr) (.int v))) else GhK K Q (.dat (.bl false)) (cs.put d (.dk kvs))) → True := fun _ _ => trivial
      refine ⟨.inl trivial, ?_⟩
      split
      · rename_i hneg
        have hm1 : nr = -1 := by omega
        refine ⟨_, hat, _, hwi, ?_⟩
        obtain ⟨v, hv, hv1, hv2⟩ : ∃ v : Int, (valD kvs (Sum.inl nr)).getD (.int 0) = .int v ∧ (v ≠ atF ws i → ¬ Expl rs bs ws.length (atF ws)) ∧ (v = atF ws i → (∀ u, valD kvs (Sum.inl nr) = some u → u = .int (atF ws i)) ∧ (nr = -1 → atF ws i = 0)) := by
          rcases hval with z | ⟨t, z1, z2, z3⟩
          · rw [z]
            exact ⟨0, rfl, fun h => hno0 hm1 h, fun h => ⟨fun u hu => (by cases hu), fun _ => h.symm⟩⟩
          · rw [z3]
            exact ⟨_, rfl, fun h => hno t z1 z2 h, fun h => ⟨fun u hu => by rw [← Option.some.inj hu, h], fun hh => by rw [← h]; exact S.none t z1 (by rw [z2, hh])⟩⟩
        have := fin v hv1 hv2
        rw [hv]
        simp only [wDPut]
        walk_at "dl"
        by_cases e : v = atF ws i
        · rw [if_pos e] at this
          rw [if_neg (by simp [e])]
          exact ⟨_, Sum.inl nr, rfl, rfl, this.2.1, this.1, _, rfl, this.2.2⟩
        · rw [if_neg e] at this
          rw [if_pos (by simp [e])]
          exact this
      · rename_i hneg
        refine ⟨_, hwi, _, hat, _, hwi, ?_⟩
        obtain ⟨v, hv, hv1, hv2⟩ : ∃ v : Int, (valD kvs (Sum.inl nr)).getD (.int (atF ws i)) = .int v ∧ (v ≠ atF ws i → ¬ Expl rs bs ws.length (atF ws)) ∧ (v = atF ws i → (∀ u, valD kvs (Sum.inl nr) = some u → u = .int (atF ws i)) ∧ (nr = -1 → atF ws i = 0)) := by
          rcases hval with z | ⟨t, z1, z2, z3⟩
          · rw [z]
            exact ⟨_, rfl, fun h => absurd rfl h, fun h => ⟨fun u hu => (by cases hu), fun z => by omega⟩⟩
          · rw [z3]
            exact ⟨_, rfl, fun h => hno t z1 z2 h, fun h => ⟨fun u hu => by rw [← Option.some.inj hu, h], fun hh => by omega⟩⟩
        have := fin v hv1 hv2
        rw [hv]
        simp only [wDPut]
        walk_at "dl"
        by_cases e : v = atF ws i
        · rw [if_pos e] at this
          rw [if_neg (by simp [e])]
          exact ⟨_, Sum.inl nr, rfl, rfl, this.2.1, this.1, _, rfl, this.2.2⟩
        · rw [if_neg e] at this
          rw [if_pos (by simp [e])]
          exact this
  · rintro ρ cs' ⟨_, kvs, rfl, S, x4, x5, x6, x7, rfl⟩
    rw [rangeD_len, Int.toNat_natCast] at S
    refine GhK.drop (SubC.put hd) (q true ⟨fun _ => ⟨fun t h0 h1 hn => ?_, fun t u t0 t1 u0 u1 e => ?_⟩, fun _ => rfl⟩)
    · have := S.none t.toNat (by omega)
      rw [Int.toNat_of_nonneg h0] at this
      exact this hn
    · have a := S.has t.toNat (by omega)
      have b := S.has u.toNat (by omega)
      rw [Int.toNat_of_nonneg t0] at a
      rw [Int.toNat_of_nonneg u0, ← e, a] at b
      simpa using b
def sp_law_least : DSp := fun xs cs Q _ => ∃ (ps ws : List Int), xs = [.dat (cal ps), .dat (.lst (iD ws))] ∧ CalOk ps ∧ (resL ps).length ≤ 12 ∧ (ws.length : Int) = cyc ps ∧ Q (.int (fewL ps (atF ws)).length) cs
theorem len_law_least : ∀ xs cs Q XP, sp_law_least xs cs Q XP → xs.length = 2 := by rintro xs cs Q XP ⟨ps, ws, rfl, _⟩; rfl
/-- _law_least: slots _law_calendar, _law_wanted, _law_residues, _law_period, _law_best, _law_number, _law_chosen, _law_day, _law_k -/
def w_law_least : WS := (wSeq (wAsg (wLst wNil) (gN 2))
    (wSeq (wFor (wiSeq (wVar 0)) (gN 3) (wAsg (wOp wCatS (wVar 2) (wLc (wiRng1 (wCons (wVar 3) wNil)) (gN 7) wYes (wTup (wCons (wVar 3) (wCons (wVar 7) wNil))) [7])) (gN 2)))
    (wSeq (wAsg (wFn wLen (wCons (wVar 1) wNil)) (gN 4))
    (wSeq (wFor (wiRng1 (wCons (wOp wPow (wC (.int 2)) (wC (.int 12))) wNil)) (gN 5) (wSeq (wIfS (wTest (wOp wGe (wVar 5) (wOp wShr (wOp wPow (wC (.int 2)) (wC (.int 12))) (wOp wSub (wC (.int 12)) (wFn wLen (wCons (wVar 2) wNil)))))) (wRet (wVar 4)) wNext)
    (wSeq (wAsg (wLc (wiRng1 (wCons (wFn wLen (wCons (wVar 2) wNil)) wNil)) (gN 8) wYes (wOp (wEqD false) (wOp wBAnd (wOp wShr (wVar 5) (wVar 8)) (wC (.int 1))) (wC (.int 1))) [8]) (gN 6))
    (wIfS (wAnd (wTest (wOp wLt (wFn wSumF (wCons (wVar 6) wNil)) (wVar 4))) (wTest (wCall sp_law_explains (wCons (wVar 2) (wCons (wVar 6) (wCons (wVar 1) wNil)))))) (wAsg (wFn wSumF (wCons (wVar 6) wNil)) (gN 4)) wNext))))
    (wRet (wVar 4))))))
theorem resL_snoc (ps : List Int) (p : Int) : resL (ps ++ [p]) = resL ps ++ (List.range p.toNat).map fun (d : Nat) => (p, (d : Int)) := by simp [resL]
theorem resL_le {ps : List Int} (i : Nat) : (resL (ps.take i)).length ≤ (resL ps).length := by
  have : resL ps = resL (ps.take i) ++ resL (ps.drop i) := by
    unfold resL
    rw [← List.flatMap_append, List.take_append_drop]
  rw [this, List.length_append]
  omega
def ordW (c : Int) (F : Int → Int) (n : Nat) : List Ord := (List.range n).filterMap fun (d : Nat) => if F d = 0 then none else some (c, (d : Int), F d)
theorem ordW_succ (c : Int) (F : Int → Int) (n : Nat) : ordW c F (n + 1) = ordW c F n ++ if F n = 0 then [] else [(c, (n : Int), F n)] := by
  unfold ordW
  rw [List.range_succ, List.filterMap_append]
  simp only [List.filterMap_cons, List.filterMap_nil]
  split <;> simp_all
theorem ordW_len (c : Int) (F : Int → Int) (n : Nat) : (ordW c F n).length ≤ n := by
  have : (ordW c F n).length ≤ (List.range n).length := List.length_filterMap_le _ _
  rwa [List.length_range] at this
theorem flow_ordW {c t : Int} (h0 : 0 ≤ t) (h1 : t < c) (F : Int → Int) : ∀ n : Nat, flowAt (ordW c F n) t = if t < n then F t else 0
  | 0 => by rw [if_neg (by omega)]; rfl
  | n + 1 => by
    rw [ordW_succ, flowAt_app, flow_ordW h0 h1 F n]
    by_cases hz : F n = 0
    · rw [if_pos hz]
      simp only [flowAt_nil, Int.add_zero]
      by_cases ht : t < n
      · rw [if_pos ht, if_pos (show t < ((n + 1 : Nat) : Int) by omega)]
      · rw [if_neg ht]
        by_cases hn : t = n
        · rw [if_pos (show t < ((n + 1 : Nat) : Int) by omega), hn, hz]
        · rw [if_neg (show ¬ t < ((n + 1 : Nat) : Int) by omega)]
    · rw [if_neg hz]
      simp only [flowAt_one, Int.emod_eq_of_lt h0 h1]
      by_cases ht : t < n
      · rw [if_pos ht, if_pos (show t < ((n + 1 : Nat) : Int) by omega), if_neg (show ¬ t = (n : Int) by omega)]; omega
      · rw [if_neg ht]
        by_cases hn : t = n
        · rw [if_pos hn, if_pos (show t < ((n + 1 : Nat) : Int) by omega), hn]; omega
        · rw [if_neg hn, if_neg (show ¬ t < ((n + 1 : Nat) : Int) by omega)]; omega
theorem ordW_ok {ps : List Int} (hc : CalOk ps) (F : Int → Int) : OrdsOk ps (ordW (cyc ps) F (cyc ps).toNat) := fun o ho => by
  have Cy := cal_cyc hc
  have hp := Cy.pos
  obtain ⟨d, hd, e⟩ := List.mem_filterMap.mp ho
  have hd := List.mem_range.mp hd
  split at e
  · cases e
  · rename_i hz
    rw [← Option.some.inj e, ordB_iff]
    exact ⟨List.mem_of_getLast? Cy.last, by simp only; omega, by simp only; omega, hz⟩
theorem few_le_cyc {ps : List Int} (hc : CalOk ps) (F : Int → Int) : ((fewL ps F).length : Int) ≤ cyc ps := by
  have Cy := cal_cyc hc
  have hp := Cy.pos
  have := few_least hc (F := F) (ordW_ok hc F) fun t h0 h1 => by rw [flow_ordW h0 h1, if_pos (by omega)]
  have h2 := ordW_len (cyc ps) F (cyc ps).toNat
  omega
theorem pure_law_least (K : Frag) : ∀ xs cs Q XP, sp_law_least xs cs Q XP → w_law_least (retE K Q) (startD 9 xs) cs := by
  rintro xs cs Q XP ⟨ps, ws, rfl, hc, hr, hw, q⟩
  have Cy := cal_cyc hc
  have hcl := Cy.le
  unfold w_law_least
  walk_at "dl"
  refine ⟨by decide, .inr ⟨[], rfl, ?_⟩⟩
  simp only [wFor, wiSeq]
  walk_at "dl"
  refine ⟨_, _, seqD_cal, fun i ρ cs' => i ≤ ps.length ∧ cs = cs' ∧ ∃ x3 x4 x5 x6 x7 x8, ρ = [some (.dat (cal ps)), some (.dat (.lst (iD ws))), some (.dat (.lst (resD (resL (ps.take i))))), x3, x4, x5, x6, x7, x8], ⟨Nat.zero_le _, rfl, _, _, _, _, _, _, rfl⟩, fun _ _ _ _ _ => seqD_cal, ?_, ?_⟩
  · rintro i x ρ cs' hx ⟨hi, rfl, x3, x4, x5, x6, x7, x8, rfl⟩
    unfold iV at hx
    rw [List.getElem?_map] at hx
    obtain ⟨p, hp, rfl⟩ := Option.map_eq_some_iff.mp hx
    have hil := (List.getElem?_eq_some_iff.mp hp).1
    obtain ⟨pp, ple, _⟩ := Cy.per p (List.mem_of_getElem? hp)
    walk_at "dl"
    simp only [wLc, wiRng1]
    walk_at "dl"
    refine ⟨by omega, by omega, fun D hD => ⟨fun j cs' => (j : Int) ≤ p ∧ cs' = cs.put D (.lst ((resD ((List.range j).map fun (d : Nat) => (p, (d : Int)))).map .dat)), ⟨by omega, rfl⟩, fun _ _ _ _ => trivial, ?_, ?_⟩⟩
    · rintro j v cs' hv ⟨hj, rfl⟩
      obtain ⟨hjp, rfl⟩ := rangeD_at hv
      rw [show (0 : Int) + (j : Int) * 1 = j by omega]
      simp only [wipeD]
      walk_at "dl"
      refine ⟨by decide, by simp [resD]; omega, by omega, ?_⟩
      rw [List.range_succ]
      simp [resD]
    · rintro cs' ⟨_, rfl⟩
      rw [rangeD_len]
      refine ⟨_, Cells.put_same, .inr ⟨resD ((List.range p.toNat).map fun (d : Nat) => (p, (d : Int))), allDat_map _, ?_⟩⟩
      rw [Cells.del_put hD]
      simp only [wCatS]
      have hsn : resL (ps.take (i + 1)) = resL (ps.take i) ++ (List.range p.toNat).map fun (d : Nat) => (p, (d : Int)) := by rw [take_snoc hp, resL_snoc]
      have hle := resL_le (ps := ps) (i + 1)
      rw [hsn, List.length_append] at hle
      refine ⟨(resD (resL (ps.take i))).map .dat, (resD ((List.range p.toNat).map fun (d : Nat) => (p, (d : Int)))).map .dat, rfl, rfl, by rw [resD_len, resD_len]; omega, .inr ⟨resD (resL (ps.take (i + 1))), ?_, ?_⟩⟩
      · rw [hsn, ← List.map_append]
        rw [show resD (resL (ps.take i)) ++ resD ((List.range p.toNat).map fun (d : Nat) => (p, (d : Int))) = resD (resL (ps.take i) ++ (List.range p.toNat).map fun (d : Nat) => (p, (d : Int))) by simp [resD]]
        exact allDat_map _
      · walk_at "dl"
        omega
  · rintro ρ cs' ⟨_, rfl, x3, x4, x5, x6, x7, x8, rfl⟩
    rw [iV_len, List.take_of_length_le (Nat.le_refl _)]
    have hfc := few_le_cyc hc (atF ws)
    walk_at "dl"
    simp only [wFor, wiRng1]
    walk_at "dl"
    rw [iD_len]
    have hF : ∀ i : Nat, i < 2 ^ (resL ps).length → True := fun _ _ => trivial
    have hpw : (4096 : Int) / 2 ^ (12 - ((resL ps).length : Int)).toNat = 2 ^ (resL ps).length := by
      have : (12 - ((resL ps).length : Int)).toNat = 12 - (resL ps).length := by omega
      rw [this]
      generalize (resL ps).length = n at hr
      have : n = 0 ∨ n = 1 ∨ n = 2 ∨ n = 3 ∨ n = 4 ∨ n = 5 ∨ n = 6 ∨ n = 7 ∨ n = 8 ∨ n = 9 ∨ n = 10 ∨ n = 11 ∨ n = 12 := by omega
      rcases this with z | z | z | z | z | z | z | z | z | z | z | z | z <;> subst z <;> decide
    have hp12 : (2 : Int) ^ (resL ps).length ≤ 4096 := by
      rw [← hpw]
      exact Int.ediv_le_self _ (by decide)
    have hpos : ∀ r ∈ resL ps, 0 < r.1 := fun r h => by have := mem_resL.mp h; omega
    refine ⟨⟨by decide, by decide, by decide⟩, fun i ρ cs' => cs = cs' ∧ ∃ (m : Int) (x3 x5 x6 x7 x8 : Option Vl), ρ = [some (.dat (cal ps)), some (.dat (.lst (iD ws))), some (.dat (.lst (resD (resL ps)))), x3, some (.int m), x5, x6, x7, x8] ∧
      ((fewL ps (atF ws)).length : Int) ≤ m ∧ ∀ j : Int, 0 ≤ j → j < i → j < 2 ^ (resL ps).length → Expl (resL ps) (bitsOf (resL ps).length j) (cyc ps) (atF ws) → m ≤ ((bitsOf (resL ps).length j).countP id : Nat),
      ⟨rfl, _, _, _, _, _, _, rfl, by omega, fun j h0 h1 => absurd h1 (by omega)⟩, fun _ _ _ _ _ => trivial, ?_, ?_⟩
    · rintro i x ρ cs' hx ⟨rfl, m, x3, x5, x6, x7, x8, rfl, hm1, hm2⟩
      obtain ⟨hi, rfl⟩ := rangeD_at hx
      clear hx
      rw [show (0 : Int) + (i : Int) * 1 = i by omega]
      walk_at "dl"
      rw [resD_len, hpw]
      refine ⟨⟨by decide, by decide, by decide⟩, by omega, ?_⟩
      split
      · rename_i hge
        rw [← search_end hc hm1 fun j h0 h1 => hm2 j h0 (by omega) h1] at q
        exact GhK.now q
      · rename_i hlt
        simp only [wLc, wiRng1]
        walk_at "dl"
        rw [resD_len]
        refine ⟨by omega, by omega, fun D hD => ⟨fun j cs' => j ≤ (resL ps).length ∧ cs' = cs.put D (.lst ((blD ((bitsOf (resL ps).length i).take j)).map .dat)), ⟨by omega, rfl⟩, fun _ _ _ _ => trivial, ?_, ?_⟩⟩
        · rintro j v cs' hv ⟨hj, rfl⟩
          obtain ⟨hjp, rfl⟩ := rangeD_at hv
          rw [show (0 : Int) + (j : Int) * 1 = j by omega]
          simp only [wipeD]
          walk_at "dl"
          have hg : (bitsOf (resL ps).length i)[j]? = some (Builtin.bitAnd ((i : Int) / 2 ^ j) 1 == 1) := by
            unfold bitsOf
            rw [List.getElem?_map, List.getElem?_range (by omega)]; rfl
          refine ⟨by omega, by simp [blD]; omega, by omega, ?_⟩
          rw [take_snoc hg, Int.toNat_natCast]
          simp [blD]
        · rintro cs' ⟨_, rfl⟩
          rw [rangeD_len, Int.toNat_natCast, List.take_of_length_le (by rw [bitsOf_len]; exact Nat.le_refl _)]
          refine ⟨_, Cells.put_same, .inr ⟨blD (bitsOf (resL ps).length i), allDat_map _, ?_⟩⟩
          rw [Cells.del_put hD]
          walk_at "dl"
          have hbl := bitsOf_len (resL ps).length i
          have hbd : (blD (bitsOf (resL ps).length i)).map Vl.dat = (bitsOf (resL ps).length i).map fun b => Vl.dat (.bl b) := by simp [blD]
          refine ⟨_, bitsOf (resL ps).length i, rfl, by rw [seqD_lst, hbd], by omega, ?_⟩
          walk_at "dl"
          have step : ∀ m' : Int, m' ≤ m → (Expl (resL ps) (bitsOf (resL ps).length i) (cyc ps) (atF ws) → m' ≤ ((bitsOf (resL ps).length i).countP id : Nat)) →
              ∀ j : Int, 0 ≤ j → j < ((i + 1 : Nat) : Int) → j < 2 ^ (resL ps).length → Expl (resL ps) (bitsOf (resL ps).length j) (cyc ps) (atF ws) → m' ≤ ((bitsOf (resL ps).length j).countP id : Nat) := fun m' h1 h2 j j0 j1 j2 E => by
            by_cases hji : j = i
            · rw [hji] at E ⊢; exact h2 E
            · exact Int.le_trans h1 (hm2 j j0 (by omega) j2 E)
          split
          · rename_i hcm
            refine ⟨resL ps, bitsOf (resL ps).length i, ws, rfl, hbl, hpos, by omega, by omega, fun b hb => ⟨b, rfl, ?_⟩⟩
            rw [hw] at hb
            split
            · rename_i hbt
              refine ⟨_, bitsOf (resL ps).length i, rfl, by rw [seqD_lst, hbd], by omega, rfl, _, rfl, ?_, step _ (by omega) fun _ => Int.le_refl _⟩
              have := least_of_expl hc hbl (hb.mp hbt)
              omega
            · rename_i hbt
              exact ⟨rfl, hm1, step _ (Int.le_refl _) fun E => absurd (hb.mpr E) hbt⟩
          · rename_i hcm
            exact ⟨hm1, step _ (Int.le_refl _) fun _ => by omega⟩
    · rintro ρ cs' ⟨rfl, m, x3, x5, x6, x7, x8, rfl, hm1, hm2⟩
      rw [rangeD_len] at hm2
      walk_at "dl"
      rw [← search_end hc hm1 fun j h0 h1 => hm2 j h0 (by omega) h1] at q
      exact GhK.now q
end DL
set_option maxRecDepth 100000
set_option maxHeartbeats 4000000
namespace DL
open PySem L2 GT
local macro_rules | `(tactic| walk_at "dl") => `(tactic| simp only [wGSeq, wGIf, wGP, wG0, GDs.at, wFld, wSetF, wMeth, wMake, wGMeth, wGCall, wDNewK, wDNewT, CO.ins.injEq, CO.dk.injEq, CO.dt.injEq, Cells.put_put, wRet, wRetN, wSeq, wAsg, wIfS, wDrop, wNext, wVar, wC, wOp, wUn, wFn, wNil, wCons, wTest, wNot, wAnd, wOr, wAndV, wOrV, wNotV, wIf, wChain, wTup, wLst, wCall, wNever, gN, gT, gNil, gCons, gIx, wI, wI0, wNeg, wMax2, wMin2, wLen, wIsN, wNotN, isNon_non, isNon_bl, isNon_int, isNon_str, isNon_lst, isNon_tup, isNon_cell, wIx, wTuple, wAug, wAugIx, wPar, wPar3, wSlL, wSlT, wPart, wNoPart, wCatT, wIsi, wIsi2, isiT, tyD_non, tyD_bl, tyD_int, tyD_str, tyD_lst, tyD_tup, tyD_cell, coTy_lst, seqD_lst, seqD_tp, seqD_cell, coSeq_lst, seen_dat, seen_cell, coDat_lst, startD, wYes, wApp, wEq_int, wEq_bl, allDat_nil, allDat_cons, allDat_map, Option.map_some, List.map_cons, List.map_nil, List.cons_append, List.nil_append, List.length_cons, List.length_nil, List.replicate, List.getElem?_cons_zero, List.getElem?_cons_succ, List.set_cons_zero, List.set_cons_succ, Option.some.injEq, exists_eq_left', exists_eq_left, exists_and_left, exists_eq', exists_eq, Vl.dat.injEq, Vl.raw.injEq, V.ref.injEq, CO.lst.injEq, Dat.int.injEq, Dat.bl.injEq, Dat.tup.injEq, Dat.lst.injEq, List.cons.injEq, and_true, true_and, retE, Nat.reduceAdd, Nat.reduceSub, and_assoc, Prod.mk.injEq, if_true, if_false, Bool.false_eq_true, decide_eq_true_eq, Bool.not_true, Bool.not_false, Bool.not_eq_true', decide_eq_false_iff_not, if_false_left, if_false_right, beq_iff_eq, Bool.or_eq_true, Bool.and_eq_true, Bool.or_self, Bool.or_true, Bool.true_or, Bool.or_false, Bool.false_or, decide_true, decide_false, reduceCtorEq, Cells.put_same, gt_iff_lt, ge_iff_le, beq_self_eq_true, bne_self_eq_false, Bool.decide_eq_true, not_true_eq_false, not_false_eq_true, Decidable.not_not, false_and, and_false, Bool.not_eq_false, at_0, at_1, at_2, at_3, at_4, at_5, ix_0, ix_1, ix_2, ix_3, Nat.reduceLT, Int.reduceLT, Int.reduceLE, Int.reduceNeg, Int.reduceAdd, Int.reduceSub, Int.reduceEq, Int.reducePow, Int.reduceToNat, Cells.put_put])
def sp_law (C : CE) : DSp := fun xs cs Q _ => ∃ ns : List Int, xs = [.dat (.lst (iD ns))] ∧ ∀ cs', Q (.bl true) cs'
theorem len_law {C : CE} : ∀ xs cs Q XP, sp_law C xs cs Q XP → xs.length = 1 := by rintro xs cs Q XP ⟨ns, rfl, _⟩; rfl
/-- law: slots _law_script, _law_state, _law_calendars, _law_turn, _law_calendar, _law_wanted, _law_orders, _law_least_here, _law_found, _law_day -/
def w_law_b1_4 (C : CE) : WS := (wIfS (wOr (wTest (wOp (wEqD true) (wCall (sp_fewest_count C) (wCons (wVar 4) (wCons (wVar 6) wNil))) (wVar 7))) (wOr (wTest (wOp (wEqD true) (wFn wLen (wCons (wVar 8) wNil)) (wVar 7))) (wTest (wOp (wEqD true) (wCall sp_flows (wCons (wVar 4) (wCons (wVar 8) wNil))) (wVar 5))))) (wRet (wC (.bl false))) wNext)
def w_law_b1_3 (C : CE) : WS := (wSeq (wPar 7 8 (wCons (wCall sp_law_least (wCons (wVar 4) (wCons (wVar 5) wNil))) (wCons (wCall (sp_fewest_orders C) (wCons (wVar 4) (wCons (wVar 6) wNil))) wNil)))
    (w_law_b1_4 C))
def w_law_b1_2 (C : CE) : WS := (wSeq (wAsg (wLc (wiRng1 (wCons (wFn wLen (wCons (wVar 5) wNil)) wNil)) (gN 9) (wTest (wOp (wEqD true) (wOp wIx (wVar 5) (wVar 9)) (wC (.int 0)))) (wTup (wCons (wOp wIx (wVar 4) (wOp wSub (wC (.int 0)) (wC (.int 1)))) (wCons (wVar 9) (wCons (wOp wIx (wVar 5) (wVar 9)) wNil)))) [9]) (gN 6))
    (w_law_b1_3 C))
def w_law_b1_1 (C : CE) : WS := (wSeq (wAsg (wLc (wiRng1 (wCons (wOp wIx (wVar 4) (wOp wSub (wC (.int 0)) (wC (.int 1)))) wNil)) (gN 9) wYes (wOp wSub (wCall sp_law_drawn (wCons (wVar 1) (wCons (wOp wIx (wLst (wCons (wC (.int 2)) (wCons (wC (.int 3)) (wCons (wC (.int 5)) wNil)))) (wCall sp_law_drawn (wCons (wVar 1) (wCons (wC (.int 3)) wNil)))) wNil))) (wC (.int 1))) [9]) (gN 5))
    (w_law_b1_2 C))
def w_law_b1_0 (C : CE) : WS := (wSeq (wAsg (wOp wIx (wVar 2) (wCall sp_law_drawn (wCons (wVar 1) (wCons (wC (.int 13)) wNil)))) (gN 4))
    (w_law_b1_1 C))
def w_law_b0_4 (C : CE) : WS := (wRet (wC (.bl true)))
def w_law_b0_3 (C : CE) : WS := (wSeq (wFor (wiRng1 (wCons (wC (.int 2)) wNil)) (gN 3) (w_law_b1_0 C))
    (w_law_b0_4 C))
def w_law_b0_2 (C : CE) : WS := (wSeq (wAsg (wOp wCatS (wVar 2) (wLst (wCons (wTup (wCons (wC (.int 3)) (wCons (wC (.int 6)) wNil))) (wCons (wTup (wCons (wC (.int 1)) (wCons (wC (.int 5)) wNil))) (wCons (wTup (wCons (wC (.int 2)) (wCons (wC (.int 6)) wNil))) wNil))))) (gN 2))
    (w_law_b0_3 C))
def w_law_b0_1 (C : CE) : WS := (wSeq (wAsg (wLst (wCons (wTup (wCons (wC (.int 1)) wNil)) (wCons (wTup (wCons (wC (.int 3)) wNil)) (wCons (wTup (wCons (wC (.int 1)) (wCons (wC (.int 2)) wNil))) (wCons (wTup (wCons (wC (.int 1)) (wCons (wC (.int 2)) (wCons (wC (.int 4)) wNil)))) (wCons (wTup (wCons (wC (.int 1)) (wCons (wC (.int 4)) wNil))) (wCons (wTup (wCons (wC (.int 2)) (wCons (wC (.int 4)) wNil))) (wCons (wTup (wCons (wC (.int 1)) (wCons (wC (.int 3)) wNil))) (wCons (wTup (wCons (wC (.int 1)) (wCons (wC (.int 2)) (wCons (wC (.int 6)) wNil)))) (wCons (wTup (wCons (wC (.int 1)) (wCons (wC (.int 3)) (wCons (wC (.int 6)) wNil)))) (wCons (wTup (wCons (wC (.int 1)) (wCons (wC (.int 6)) wNil))) wNil))))))))))) (gN 2))
    (w_law_b0_2 C))
def w_law_b0_0 (C : CE) : WS := (wSeq (wAsg (wCall sp_law_start (wCons (wVar 0) wNil)) (gN 1))
    (w_law_b0_1 C))
def w_law (C : CE) : WS := (w_law_b0_0 C)

theorem pick3 {a b c : Vl} {r : Int} (h0 : 0 ≤ r) (h1 : r < 3) : ∃ v, atI [a, b, c] r = some v ∧ (v = a ∨ v = b ∨ v = c) := by
  have : r = 0 ∨ r = 1 ∨ r = 2 := by omega
  rcases this with z | z | z <;> subst z
  · exact ⟨a, at_0, .inl rfl⟩
  · exact ⟨b, at_1, .inr (.inl rfl)⟩
  · exact ⟨c, at_2, .inr (.inr rfl)⟩
def calL : List (List Int) := [[1], [3], [1, 2], [1, 2, 4], [1, 4], [2, 4], [1, 3], [1, 2, 6], [1, 3, 6], [1, 6], [3, 6], [1, 5], [2, 6]]
theorem calL_ok {ps : List Int} (h : ps ∈ calL) : CalOk ps ∧ (resL ps).length ≤ 12 := by
  unfold calL at h
  simp only [List.mem_cons, List.not_mem_nil, or_false] at h
  rcases h with rfl | rfl | rfl | rfl | rfl | rfl | rfl | rfl | rfl | rfl | rfl | rfl | rfl <;> exact ⟨⟨by decide, by decide, by simp [calFrom]⟩, by decide⟩
theorem calL_at {r : Int} (h0 : 0 ≤ r) (h1 : r < 13) : ∃ ps ∈ calL, atI ((calL.map cal).map Vl.dat) r = some (.dat (cal ps)) := by
  have hl : r.toNat < calL.length := by show r.toNat < 13; omega
  refine ⟨calL[r.toNat], List.getElem_mem hl, atI_int h0 ?_⟩
  rw [List.getElem?_map, List.getElem?_map, List.getElem?_eq_getElem hl]; rfl
def Inv0 (ns : List Int) (a : Addr) (i : Nat) (ρ : DEnv) (cs : Cells) : Prop := (∃ c, cs a = some c ∧ DrSt c) ∧ ∃ x3 x4 x5 x6 x7 x8 x9, ρ = [some (.dat (.lst (iD ns))), some (.cell a), some (.dat (.lst (calL.map cal))), x3, x4, x5, x6, x7, x8, x9]
theorem pure_law (K : Frag) (C : CE) : ∀ xs cs Q XP, sp_law C xs cs Q XP → w_law C (retE K Q) (startD 10 xs) cs := by
  rintro xs cs Q XP ⟨ns, rfl, q⟩
  unfold w_law w_law_b0_0
  walk_at "dl"
  refine ⟨ns, rfl, fun a c ha hD => ?_⟩
  unfold w_law_b0_1
  walk_at "dl"
  refine ⟨by decide, by decide, by decide, by decide, by decide, by decide, by decide, by decide, by decide, by decide, by decide, .inr ⟨_, rfl, ?_⟩⟩
  unfold w_law_b0_2
  walk_at "dl"
  refine ⟨by decide, by decide, by decide, by decide, .inr ⟨_, rfl, ?_⟩⟩
  simp only [wCatS]
  refine ⟨_, _, rfl, rfl, by decide, .inr ⟨calL.map cal, rfl, ?_⟩⟩
  unfold w_law_b0_3
  walk_at "dl"
  simp only [wFor, wiRng1]
  walk_at "dl"
  refine ⟨Inv0 ns a, ⟨⟨c, Cells.put_same, hD⟩, _, _, _, _, _, _, _, rfl⟩, fun _ _ _ _ _ => trivial, ?_, ?_⟩
  · rintro i x ρ cs1 hx ⟨⟨c1, hc1, hD1⟩, x3, x4, x5, x6, x7, x8, x9, rfl⟩
    obtain ⟨hi, rfl⟩ := rangeD_at hx
    clear hx
    unfold w_law_b1_0
    walk_at "dl"
    refine ⟨a, 13, c1, rfl, hc1, hD1, by decide, by decide, fun r c2 hr0 hr1 hD2 => ?_⟩
    walk_at "dl"
    obtain ⟨ps, hps, hat⟩ := calL_at hr0 hr1
    obtain ⟨hcal, hres⟩ := calL_ok hps
    have Cy := cal_cyc hcal
    have hcp := Cy.pos
    have hcl := Cy.le
    refine ⟨_, hat, ?_⟩
    generalize hcs2 : cs1.put a c2 = cs2
    have h2a : cs2 a = some c2 := by rw [← hcs2, Cells.put_same]
    clear hcs2
    unfold w_law_b1_1
    walk_at "dl"
    simp only [wLc, wiRng1]
    walk_at "dl"
    refine ⟨_, _, seqD_cal, _, atI_cyc Cy, _, rfl, by omega, by omega, fun D hD' => ?_⟩
    have hDa : D ≠ a := fun z => by rw [z, h2a] at hD'; cases hD'
    refine ⟨fun j cs' => ∃ ws c, ws.length = j ∧ DrSt c ∧ cs' = (cs2.put a c).put D (.lst (iV ws)), ⟨[], c2, rfl, hD2, by rw [Cells.put_self h2a]; rfl⟩, fun _ _ _ _ => trivial, ?_, ?_⟩
    · rintro j v cs' hv ⟨ws, c3, hwl, hD3, rfl⟩
      obtain ⟨hjp, rfl⟩ := rangeD_at hv
      simp only [wipeD]
      walk_at "dl"
      refine ⟨by decide, .inr ⟨_, rfl, a, 3, c3, rfl, by rw [Cells.put_ne hDa.symm, Cells.put_same], hD3, by decide, by decide, fun r1 c4 hr10 hr11 hD4 => ?_⟩⟩
      walk_at "dl"
      obtain ⟨v, hv, hv2⟩ := pick3 (a := Vl.int 2) (b := Vl.int 3) (c := Vl.int 5) hr10 hr11
      obtain ⟨n, rfl, hn1, hn2⟩ : ∃ n : Int, v = .int n ∧ 0 < n ∧ n ≤ 5 := by
        rcases hv2 with z | z | z
        · exact ⟨2, z, by decide, by decide⟩
        · exact ⟨3, z, by decide, by decide⟩
        · exact ⟨5, z, by decide, by decide⟩
      refine ⟨_, hv, a, n, c4, rfl, Cells.put_same, hD4, hn1, by omega, fun r2 c5 hr20 hr21 hD5 => ?_⟩
      rw [Cells.put_put, Cells.put_comm hDa, Cells.put_put]
      walk_at "dl"
      refine ⟨by rw [iV_len]; omega, ws ++ [r2 - 1], by simp [hwl], c5, hD5, ?_⟩
      rw [← iV_app]; rfl
    rintro cs' ⟨ws, c3, hwl, hD3, rfl⟩
    rw [rangeD_len] at hwl
    refine ⟨_, Cells.put_same, .inr ⟨iD ws, allDat_iV ws, ?_⟩⟩
    have hD2' : (cs2.put a c3) D = none := by rw [Cells.put_ne hDa]; exact hD'
    rw [Cells.del_put hD2']
    generalize hcs3 : cs2.put a c3 = cs3
    have h3a : cs3 a = some c3 := by rw [← hcs3, Cells.put_same]
    clear hcs3 hD2'
    unfold w_law_b1_2
    walk_at "dl"
    simp only [wLc, wiRng1]
    walk_at "dl"
    rw [iD_len, hwl]
    have hcN : ((cyc ps).toNat : Int) = cyc ps := by omega
    refine ⟨by omega, by omega, fun D hD'' => ⟨fun j cs' => (j : Int) ≤ cyc ps ∧ cs' = cs3.put D (.lst (ordsV (ordW (cyc ps) (atF ws) j))), ⟨by omega, rfl⟩, fun _ _ _ _ => trivial, ?_, ?_⟩⟩
    · rintro j v cs' hv ⟨hj, rfl⟩
      obtain ⟨hjp, rfl⟩ := rangeD_at hv
      rw [show (0 : Int) + (j : Int) * 1 = j by omega]
      have hwj := List.getElem?_eq_getElem (show j < ws.length by omega)
      have hFj : atF ws j = ws[j] := by unfold atF; rw [Int.toNat_natCast, hwj]; rfl
      have hwj := iD_at hwj
      rw [← hFj] at hwj
      simp only [wipeD]
      walk_at "dl"
      refine ⟨_, hwj, ?_⟩
      rw [ordW_succ]
      walk_at "dl"
      by_cases hz : atF ws j = 0
      · rw [if_neg (by simp [hz]), if_pos hz]
        exact ⟨by omega, by simp⟩
      · rw [if_pos (by simp [hz]), if_neg hz]
        refine ⟨_, _, seqD_cal, _, atI_cyc Cy, _, hwj, ?_⟩
        have := ordW_len (cyc ps) (atF ws) j
        walk_at "dl"
        refine ⟨by decide, by rw [ordsV_len]; omega, by omega, ?_⟩
        rw [ordsV_app]; rfl
    rintro cs' ⟨_, rfl⟩
    rw [rangeD_len, Int.toNat_natCast]
    refine ⟨_, Cells.put_same, .inr ⟨ordsD (ordW (cyc ps) (atF ws) (cyc ps).toNat), allDat_map _, ?_⟩⟩
    rw [Cells.del_put hD'']
    have hok := ordW_ok hcal (atF ws)
    have hfl : ∀ t, 0 ≤ t → t < cyc ps → flowAt (ordW (cyc ps) (atF ws) (cyc ps).toNat) t = atF ws t := fun t h0 h1 => by rw [flow_ordW h0 h1, if_pos (by omega)]
    generalize ordW (cyc ps) (atF ws) (cyc ps).toNat = os at hok hfl
    have hcg := few_congr hcal hfl
    have hfew := few_flow hcal hok
    have hfok := few_ok hcal (flowAt os)
    unfold w_law_b1_3
    walk_at "dl"
    refine ⟨ps, ws, rfl, hcal, hres, by omega, ps, os, true, rfl, hcal, hok, ?_⟩
    walk_at "dl"
    rw [hcg] at hfew hfok ⊢
    have hlf : ((ordsD (fewL ps (atF ws))).map Vl.dat).length = (fewL ps (atF ws)).length := by simp [ordsD]
    unfold w_law_b1_4
    walk_at "dl"
    refine ⟨ps, os, true, rfl, hcal, hok, ?_⟩
    rw [hcg]
    walk_at "dl"
    rw [hlf, if_neg (by simp)]
    refine ⟨ps, fewL ps (atF ws), true, rfl, hcal, hfok, fun f hf => ?_⟩
    have hfa : f ≠ a := by intro z; rw [z, h3a] at hf; cases hf
    have hrow : flowsL (cyc ps) (fewL ps (atF ws)) = ws := by
      unfold flowsL
      refine List.ext_getElem? fun t => ?_
      by_cases ht : t < (cyc ps).toNat
      · rw [rowF_get ht, hfew, hfl t (by omega) (by omega)]
        have := List.getElem?_eq_getElem (show t < ws.length by omega)
        unfold atF
        rw [Int.toNat_natCast, this]; rfl
      · rw [List.getElem?_eq_none (by rw [rowF_len]; omega), List.getElem?_eq_none (by omega)]
    rw [hrow]
    refine wEq_of 1 (by decide) (d := .lst (iD ws)) (e := .lst (iD ws)) (by rw [seen_cell, Cells.put_same, coDat_lst, allDat_iV]; rfl) rfl (lvI ws (by omega)) (lvI ws (by omega)) (fun _ => ?_) (fun z => absurd rfl z)
    walk_at "dl"
    exact ⟨⟨c3, by rw [Cells.put_ne hfa.symm]; exact h3a, hD3⟩, _, _, _, _, _, _, _, rfl⟩
  · rintro ρ cs' ⟨_, x3, x4, x5, x6, x7, x8, x9, rfl⟩
    unfold w_law_b0_4
    walk_at "dl"
    exact .now (q _)
theorem law_start (C : CE) (ns : List Int) (cs : Cells) (Q : Vl → Cells → Prop) (XP : DXP) (hl : ns.length ≤ 63) (q : ∀ cs', Q (.dat (.bl true)) cs') : sp_law C [.dat (.lst (ns.map .int))] cs Q XP := ⟨ns, rfl, q⟩
end DL
namespace Law
open PySem L2 DL GT
def top (i : Nat) : Stmt := PySem.Challenge.pw_standingorders_k08_fewest_by_search.main.body.getD i (.Pass ⟨0, 0, 0, 0⟩)
abbrev s_is_integer : Stmt := top 7
abbrev s_validate_calendar : Stmt := top 8
abbrev s_is_order : Stmt := top 9
abbrev s_first_invalid_order : Stmt := top 10
abbrev s_validate_orders : Stmt := top 11
abbrev s_flow_list : Stmt := top 12
abbrev s_flows : Stmt := top 13
abbrev s_Tree_children : Stmt := inClass (top 15) 1
abbrev s_Tree_best_sums : Stmt := inClass (top 15) 2
abbrev s_Tree___init__ : Stmt := inClass (top 15) 0
abbrev s_Tree_collect : Stmt := inClass (top 15) 3
abbrev s_fewest_list : Stmt := top 16
abbrev s_fewest_orders : Stmt := top 17
abbrev s_fewest_count : Stmt := top 18
abbrev s_law_start : Stmt := top 20
abbrev s_law_drawn : Stmt := top 21
abbrev s_law_explains : Stmt := top 23
abbrev s_law_least : Stmt := top 24
abbrev s_law : Stmt := top 25
structure Bi (K : Frag) (mg : Str → Option Value) (C : CE) : Prop where
  b_bool : mg "bool" = none
  b_enumerate : mg "enumerate" = none
  b_int : mg "int" = none
  b_isinstance : mg "isinstance" = none
  b_len : mg "len" = none
  b_max : mg "max" = none
  b_range : mg "range" = none
  b_sorted : mg "sorted" = none
  b_sum : mg "sum" = none
  g_MAX_PERIOD : ∃ t, mg "MAX_PERIOD" = some (.int 400 t)
  g_MAX_PERIODS : ∃ t, mg "MAX_PERIODS" = some (.int 5 t)
  cl_Tree : Cls K C.Tree
  na_Tree_calendar : NoAttr K C.Tree "calendar"
  na_Tree_choices : NoAttr K C.Tree "choices"
section
variable {P : Program} {w : World} {K : Frag} {mg : Str → Option Value} {base : Heap} {C : CE}
theorem sc_is_integer : FnScope ["value"] ["value"] (defScope s_is_integer) := ⟨rfl, rfl, rfl, by decide +kernel, rfl, by decide +kernel, by decide +kernel⟩
theorem ok_is_integer {f : Addr} {fd : FuncData} (F : Fun K "is_integer" "is_integer" s_is_integer f fd) (hm : mg "is_integer" = some (.ref f)) (B : Bi K mg C)  : DOk P w K mg base CX0 "is_integer" ["value"] 1 sp_is_integer :=
  ⟨f, fd, fn_dataQ F sc_is_integer len_is_integer (fun cdv A outer s H E hr =>
      (dss_one (ds_ret (de_and (de_isi .int B.b_isinstance B.b_int (by decide +kernel) (de_var 0)) (de_one (de_not (de_isi .bool B.b_isinstance B.b_bool (by decide +kernel) (de_var 0)))))))) (fun xs cs Q XP h => pure_is_integer K xs cs Q XP h), hm, F.kp, (F.binds (ps := ["value"]) (fun _ _ _ _ _ _ us hl => match us, hl with | [_], _ => rfl))⟩
theorem sc_validate_calendar : FnScope ["calendar", "before", "index", "period"] ["calendar"] (defScope s_validate_calendar) := ⟨rfl, rfl, rfl, by decide +kernel, rfl, by decide +kernel, by decide +kernel⟩
theorem ok_validate_calendar {f : Addr} {fd : FuncData} (F : Fun K "validate_calendar" "validate_calendar" s_validate_calendar f fd) (hm : mg "validate_calendar" = some (.ref f)) (B : Bi K mg C) (G_is_integer : DOk P w K mg base CX0 "is_integer" ["value"] 1 sp_is_integer) : DOk P w K mg base CX0 "validate_calendar" ["calendar"] 2 sp_validate_calendar :=
  ⟨f, fd, fn_dataQ F sc_validate_calendar len_validate_calendar (fun cdv A outer s H E hr =>
      (dss_cons (ds_if (dt_not (dt_chainD c_le c_le de_int (de_len B.b_len (da_cons (de_var 0) da_nil)) (de_gintE B.g_MAX_PERIODS))) (dss_one ds_never) dss_nil)
      (dss_cons (ds_set (i := 1) sc_validate_calendar.nd de_int)
      (dss_one (ds_for (di_enum B.b_enumerate (da_cons (de_var 0) da_nil)) (dg_tup rfl (dgs_cons (dg_name (i := 2) sc_validate_calendar.nd) (dgs_cons (dg_name (i := 3) sc_validate_calendar.nd) dgs_nil))) (dss_cons (ds_if (DW.dt (dw_or (dt_not (dt_val (de_call G_is_integer (hr.mono (by decide)) (da_cons (de_var 3) da_nil)))) (dw_or (dt_not (dt_chainD c_lt c_le (de_var 1) (de_var 3) (de_gintE B.g_MAX_PERIOD))) (dw_or1 (DW.dt (dw_and (dt_cmpD c_gt (de_var 1) de_int) (dw_and1 (dt_cmpD (c_ne hr.units) (de_mod (de_var 3) (de_var 1)) de_int)))))))) (dss_one ds_never) dss_nil)
      (dss_one (ds_set (i := 1) sc_validate_calendar.nd (de_var 3))))))))) (fun xs cs Q XP h => pure_validate_calendar K xs cs Q XP h), hm, F.kp, (F.binds (ps := ["calendar"]) (fun _ _ _ _ _ _ us hl => match us, hl with | [_], _ => rfl))⟩
theorem sc_is_order : FnScope ["calendar", "order", "period", "day", "amount"] ["calendar", "order"] (defScope s_is_order) := ⟨rfl, rfl, rfl, by decide +kernel, rfl, by decide +kernel, by decide +kernel⟩
theorem ok_is_order {f : Addr} {fd : FuncData} (F : Fun K "is_order" "is_order" s_is_order f fd) (hm : mg "is_order" = some (.ref f)) (B : Bi K mg C) (G_is_integer : DOk P w K mg base CX0 "is_integer" ["value"] 1 sp_is_integer) : DOk P w K mg base CX0 "is_order" ["calendar", "order"] 2 sp_is_order :=
  ⟨f, fd, fn_dataQ F sc_is_order len_is_order (fun cdv A outer s H E hr =>
      (dss_cons (ds_asg (de_var 1) (dg_tup rfl (dgs_cons (dg_name (i := 2) sc_is_order.nd) (dgs_cons (dg_name (i := 3) sc_is_order.nd) (dgs_cons (dg_name (i := 4) sc_is_order.nd) dgs_nil)))))
      (dss_cons (ds_if (DW.dt (dw_or (dt_notin (de_var 2) (de_var 0)) (dw_or (dt_not (dt_val (de_call G_is_integer (hr.mono (by decide)) (da_cons (de_var 3) da_nil)))) (dw_or1 (dt_not (dt_chainD c_le c_lt de_int (de_var 3) (de_var 2))))))) (dss_one (ds_ret de_bl)) dss_nil)
      (dss_one (ds_ret (de_and (de_call G_is_integer (hr.mono (by decide)) (da_cons (de_var 4) da_nil)) (de_one (de_cmpD (c_ne hr.units) (de_var 4) de_int)))))))) (fun xs cs Q XP h => pure_is_order K xs cs Q XP h), hm, F.kp, (F.binds (ps := ["calendar", "order"]) (fun _ _ _ _ _ _ us hl => match us, hl with | [_, _], _ => rfl))⟩
theorem sc_first_invalid_order : FnScope ["calendar", "orders", "index", "order"] ["calendar", "orders"] (defScope s_first_invalid_order) := ⟨rfl, rfl, rfl, by decide +kernel, rfl, by decide +kernel, by decide +kernel⟩
theorem ok_first_invalid_order {f : Addr} {fd : FuncData} (F : Fun K "first_invalid_order" "first_invalid_order" s_first_invalid_order f fd) (hm : mg "first_invalid_order" = some (.ref f)) (B : Bi K mg C) (G_is_order : DOk P w K mg base CX0 "is_order" ["calendar", "order"] 2 sp_is_order) : DOk P w K mg base CX0 "first_invalid_order" ["calendar", "orders"] 3 sp_first_invalid_order :=
  ⟨f, fd, fn_dataQ F sc_first_invalid_order len_first_invalid_order (fun cdv A outer s H E hr =>
      (dss_cons (ds_for (di_enum B.b_enumerate (da_cons (de_var 1) da_nil)) (dg_tup rfl (dgs_cons (dg_name (i := 2) sc_first_invalid_order.nd) (dgs_cons (dg_name (i := 3) sc_first_invalid_order.nd) dgs_nil))) (dss_one (ds_if (dt_not (dt_val (de_call G_is_order (hr.mono (by decide)) (da_cons (de_var 0) (da_cons (de_var 3) da_nil))))) (dss_one (ds_ret (de_var 2))) dss_nil)))
      (dss_one (ds_ret de_non)))) (fun xs cs Q XP h => pure_first_invalid_order K xs cs Q XP h), hm, F.kp, (F.binds (ps := ["calendar", "orders"]) (fun _ _ _ _ _ _ us hl => match us, hl with | [_, _], _ => rfl))⟩
theorem sc_validate_orders : FnScope ["calendar", "orders", "index"] ["calendar", "orders"] (defScope s_validate_orders) := ⟨rfl, rfl, rfl, by decide +kernel, rfl, by decide +kernel, by decide +kernel⟩
theorem ok_validate_orders {f : Addr} {fd : FuncData} (F : Fun K "validate_orders" "validate_orders" s_validate_orders f fd) (hm : mg "validate_orders" = some (.ref f)) (B : Bi K mg C) (G_validate_calendar : DOk P w K mg base CX0 "validate_calendar" ["calendar"] 2 sp_validate_calendar) (G_first_invalid_order : DOk P w K mg base CX0 "first_invalid_order" ["calendar", "orders"] 3 sp_first_invalid_order) : DOk P w K mg base CX0 "validate_orders" ["calendar", "orders"] 4 sp_validate_orders :=
  ⟨f, fd, fn_dataQ F sc_validate_orders len_validate_orders (fun cdv A outer s H E hr =>
      (dss_cons (ds_expr (de_call G_validate_calendar (hr.mono (by decide)) (da_cons (de_var 0) da_nil)))
      (dss_cons (ds_set (i := 2) sc_validate_orders.nd (de_call G_first_invalid_order (hr.mono (by decide)) (da_cons (de_var 0) (da_cons (de_var 1) da_nil))))
      (dss_one (ds_if (dt_cmpD c_notN (de_var 2) de_non) (dss_one ds_never) dss_nil))))) (fun xs cs Q XP h => pure_validate_orders K xs cs Q XP h), hm, F.kp, (F.binds (ps := ["calendar", "orders"]) (fun _ _ _ _ _ _ us hl => match us, hl with | [_, _], _ => rfl))⟩
theorem sc_flow_list : FnScope ["calendar", "orders", "amounts", "period", "day", "amount", "residue"] ["calendar", "orders"] (defScope s_flow_list) := ⟨rfl, rfl, rfl, by decide +kernel, rfl, by decide +kernel, by decide +kernel⟩
theorem ok_flow_list {f : Addr} {fd : FuncData} (F : Fun K "flow_list" "flow_list" s_flow_list f fd) (hm : mg "flow_list" = some (.ref f)) (B : Bi K mg C)  : DOk P w K mg base CX0 "flow_list" ["calendar", "orders"] 1 sp_flow_list :=
  ⟨f, fd, fn_dataQ F sc_flow_list len_flow_list (fun cdv A outer s H E hr =>
      (dss_cons (ds_set (i := 2) sc_flow_list.nd (de_rep (de_lst (da_cons de_int da_nil)) (de_ix (de_var 0) (de_neg de_int))))
      (dss_cons (ds_for (di_seq (de_var 1)) (dg_tup rfl (dgs_cons (dg_name (i := 3) sc_flow_list.nd) (dgs_cons (dg_name (i := 4) sc_flow_list.nd) (dgs_cons (dg_name (i := 5) sc_flow_list.nd) dgs_nil)))) (dss_one (ds_for (di_range3 B.b_range (da_cons (de_var 4) (da_cons (de_ix (de_var 0) (de_neg de_int)) (da_cons (de_var 3) da_nil)))) (dg_name (i := 6) sc_flow_list.nd) (dss_one (ds_augIx (de_var 2) (de_var 6) (de_var 5) ip_add)))))
      (dss_one (ds_ret (de_var 2)))))) (fun xs cs Q XP h => pure_flow_list K xs cs Q XP h), hm, F.kp, (F.binds (ps := ["calendar", "orders"]) (fun _ _ _ _ _ _ us hl => match us, hl with | [_, _], _ => rfl))⟩
theorem sc_flows : FnScope ["calendar", "orders"] ["calendar", "orders"] (defScope s_flows) := ⟨rfl, rfl, rfl, by decide +kernel, rfl, by decide +kernel, by decide +kernel⟩
theorem ok_flows {f : Addr} {fd : FuncData} (F : Fun K "flows" "flows" s_flows f fd) (hm : mg "flows" = some (.ref f)) (B : Bi K mg C) (G_validate_orders : DOk P w K mg base CX0 "validate_orders" ["calendar", "orders"] 4 sp_validate_orders) (G_flow_list : DOk P w K mg base CX0 "flow_list" ["calendar", "orders"] 1 sp_flow_list) : DOk P w K mg base CX0 "flows" ["calendar", "orders"] 5 sp_flows :=
  ⟨f, fd, fn_dataQ F sc_flows len_flows (fun cdv A outer s H E hr =>
      (dss_cons (ds_expr (de_call G_validate_orders (hr.mono (by decide)) (da_cons (de_var 0) (da_cons (de_var 1) da_nil))))
      (dss_one (ds_ret (de_call G_flow_list (hr.mono (by decide)) (da_cons (de_var 0) (da_cons (de_var 1) da_nil))))))) (fun xs cs Q XP h => pure_flows K xs cs Q XP h), hm, F.kp, (F.binds (ps := ["calendar", "orders"]) (fun _ _ _ _ _ _ us hl => match us, hl with | [_, _], _ => rfl))⟩
theorem sc_Tree_children : GScope ["self", "depth", "day", "child"] ["self", "depth", "day"] (defScope s_Tree_children) := ⟨rfl, rfl, rfl, by decide +kernel, rfl, by decide +kernel, by decide +kernel⟩
theorem ok_Tree_children {f : Addr} {fd : FuncData} (F : Fun K "children" "Tree.children" s_Tree_children f fd) (hm : Meth K C.Tree "children" f) (B : Bi K mg C)  : DGMok P w K mg base C.Tree "children" ["self", "depth", "day"] 1 (sp_Tree_children C) :=
  ⟨f, fd, gfn_data F sc_Tree_children (by decide +kernel) len_Tree_children (fun cdv A outer L pn Gd fin hr =>
      (dgss_cons (dgs_if (fun _ _ => (dt_cmpD c_lt (de_add (de_var 1) de_int) (de_len B.b_len (da_cons (de_fld B.cl_Tree B.na_Tree_calendar (de_var 0)) da_nil)))) (dgss_cons (dgs_for (fun _ _ => (di_range3 B.b_range (da_cons (de_var 2) (da_cons (de_ix (de_fld B.cl_Tree B.na_Tree_calendar (de_var 0)) (de_add (de_var 1) de_int)) (da_cons (de_ix (de_fld B.cl_Tree B.na_Tree_calendar (de_var 0)) (de_var 1)) da_nil))))) (fun _ _ => (dg_name (i := 3) sc_Tree_children.nd)) (dgss_cons (dgs_yield (fun _ _ => (de_tup (da_cons (de_add (de_var 1) de_int) (da_cons (de_var 3) da_nil)))))
      dgss_nil))
      dgss_nil) dgss_nil)
      dgss_nil)) (fun xs cs ds fin Gd h c1 hg => pure_Tree_children C xs cs ds fin Gd h c1 hg), B.cl_Tree, hm, (F.binds (ps := ["self", "depth", "day"]) (fun _ _ _ _ _ _ us hl => match us, hl with | [_, _, _], _ => rfl))⟩
theorem sc_Tree_best_sums : FnScope ["self", "depth", "day", "counts", "child", "amount", "most", "count"] ["self", "depth", "day"] (defScope s_Tree_best_sums) := ⟨rfl, rfl, rfl, by decide +kernel, rfl, by decide +kernel, by decide +kernel⟩
theorem ok_Tree_best_sums {f : Addr} {fd : FuncData} (F : Fun K "best_sums" "Tree.best_sums" s_Tree_best_sums f fd) (hm : Meth K C.Tree "best_sums" f) (B : Bi K mg C) (G_Tree_children : DGMok P w K mg base C.Tree "children" ["self", "depth", "day"] 1 (sp_Tree_children C)) : DMok P w K mg base C.Tree "best_sums" ["self", "depth", "day"] 3 (sp_Tree_best_sums C) :=
  ⟨f, fd, fn_dataQ F sc_Tree_best_sums len_Tree_best_sums (fun cdv A outer s H E hr =>
      (dss_cons (ds_set (i := 3) sc_Tree_best_sums.nd de_dnewK)
      (dss_cons (ds_forG (fun _ _ h => h) rfl (hr.mono (by decide)) (dge_meth G_Tree_children (hr.mono (by decide)) (de_var 0) (da_cons (de_var 1) (da_cons (de_var 2) da_nil))) (dg_name (i := 4) sc_Tree_best_sums.nd) (dss_one (ds_for (di_seq (de_dget hr.units (de_fld B.cl_Tree B.na_Tree_choices (de_var 0)) (de_var 4))) (dg_name (i := 5) sc_Tree_best_sums.nd) (dss_one (ds_dput hr.units (de_var 3) (de_var 5) (de_add (de_dget2 hr.units (de_var 3) (de_var 5) de_int) de_int))))))
      (dss_cons (ds_set (i := 6) sc_Tree_best_sums.nd (de_maxVals rfl B.b_max (de_var 3)))
      (dss_one (ds_ret (de_sortI B.b_sorted (da_cons (de_lock (de_lc (own := [("amount", 5), ("count", 7)]) sc_Tree_best_sums.nd (di_items (de_var 3)) (blkOk_by (N := ["self", "depth", "day", "counts", "child", "amount", "most", "count"]) (sc := defScope s_Tree_best_sums) (by decide +kernel)) (fun _ _ _ _ _ => (dg_tup rfl (dgs_cons (dg_name (i := 5) sc_Tree_best_sums.nd) (dgs_cons (dg_name (i := 7) sc_Tree_best_sums.nd) dgs_nil)))) (fun _ _ _ _ _ => (dts_one (dt_cmpD (c_eq hr.units) (de_var 7) (de_var 6)))) (fun _ _ _ _ _ => (de_var 5)) (by decide))) da_nil)))))))) (fun xs cs Q XP h => pure_Tree_best_sums K C xs cs Q XP h), B.cl_Tree, hm, (F.binds (ps := ["self", "depth", "day"]) (fun _ _ _ _ _ _ us hl => match us, hl with | [_, _, _], _ => rfl))⟩
theorem sc_Tree___init__ : FnScope ["self", "calendar", "amounts", "day", "amount", "depth"] ["self", "calendar", "amounts"] (defScope s_Tree___init__) := ⟨rfl, rfl, rfl, by decide +kernel, rfl, by decide +kernel, by decide +kernel⟩
theorem ok_Tree___init__ {f : Addr} {fd : FuncData} (F : Fun K "__init__" "Tree.__init__" s_Tree___init__ f fd) (hm : Mk K C.Tree f) (hc : mg "Tree" = some (.ref C.Tree)) (B : Bi K mg C) (G_Tree_best_sums : DMok P w K mg base C.Tree "best_sums" ["self", "depth", "day"] 3 (sp_Tree_best_sums C)) : DKok P w K mg base C.Tree "Tree" ["self", "calendar", "amounts"] 4 (sp_Tree___init__ C) :=
  ⟨f, fd, hm, fn_dataQ F sc_Tree___init__ len_Tree___init__ (fun cdv A outer s H E hr =>
      (dss_cons (ds_fld B.cl_Tree B.na_Tree_calendar (de_var 0) (de_var 1))
      (dss_cons (ds_fld B.cl_Tree B.na_Tree_choices (de_var 0) de_dnewT)
      (dss_cons (ds_for (di_enum B.b_enumerate (da_cons (de_var 2) da_nil)) (dg_tup rfl (dgs_cons (dg_name (i := 3) sc_Tree___init__.nd) (dgs_cons (dg_name (i := 4) sc_Tree___init__.nd) dgs_nil))) (dss_one (ds_dputT hr.units (de_fld B.cl_Tree B.na_Tree_choices (de_var 0)) (da_cons (de_sub (de_len B.b_len (da_cons (de_var 1) da_nil)) de_int) (da_cons (de_var 3) da_nil)) (de_lst (da_cons (de_var 4) da_nil)))))
      (dss_one (ds_for (di_range3 B.b_range (da_cons (de_sub (de_len B.b_len (da_cons (de_var 1) da_nil)) de_int) (da_cons (de_neg de_int) (da_cons (de_neg de_int) da_nil)))) (dg_name (i := 5) sc_Tree___init__.nd) (dss_one (ds_for (di_range1 B.b_range (da_cons (de_ix (de_var 1) (de_var 5)) da_nil)) (dg_name (i := 3) sc_Tree___init__.nd) (dss_one (ds_dputT hr.units (de_fld B.cl_Tree B.na_Tree_choices (de_var 0)) (da_cons (de_var 5) (da_cons (de_var 3) da_nil)) (de_meth G_Tree_best_sums (hr.mono (by decide)) (de_var 0) (da_cons (de_var 5) (da_cons (de_var 3) da_nil))))))))))))) (fun xs cs Q XP h => pure_Tree___init__ K C xs cs Q XP h), (F.binds (ps := ["self", "calendar", "amounts"]) (fun _ _ _ _ _ _ us hl => match us, hl with | [_, _, _], _ => rfl)), hc⟩
theorem sc_Tree_collect : FnScope ["self", "depth", "day", "above", "orders", "amount", "child_depth", "child"] ["self", "depth", "day", "above"] (defScope s_Tree_collect) := ⟨rfl, rfl, rfl, by decide +kernel, rfl, by decide +kernel, by decide +kernel⟩
theorem step_Tree_collect {f : Addr} {fd : FuncData} (F : Fun K "collect" "Tree.collect" s_Tree_collect f fd) {k : Nat} {n : Nat} (hk : 2 ≤ k) (hm : Meth K C.Tree "collect" f) (B : Bi K mg C) (G_Tree_children : DGMok P w K mg base C.Tree "children" ["self", "depth", "day"] 1 (sp_Tree_children C)) (R : DMok P w K mg base C.Tree "collect" ["self", "depth", "day", "above"] k (sp_Tree_collect C n)) : DMok P w K mg base C.Tree "collect" ["self", "depth", "day", "above"] (k + 1) (sp_Tree_collect C (n + 1)) :=
  ⟨f, fd, fn_dataQ F sc_Tree_collect len_Tree_collect (fun cdv A outer s H E hr =>
      (dss_cons (ds_par (i := 4) (j := 5) rfl sc_Tree_collect.nd (da_cons (de_lst da_nil) (da_cons (de_var 3) da_nil)))
      (dss_cons (ds_if (dt_notin (de_var 3) (de_dget hr.units (de_fld B.cl_Tree B.na_Tree_choices (de_var 0)) (de_tup (da_cons (de_var 1) (da_cons (de_var 2) da_nil))))) (dss_cons (ds_set (i := 5) sc_Tree_collect.nd (de_ix (de_dget hr.units (de_fld B.cl_Tree B.na_Tree_choices (de_var 0)) (de_tup (da_cons (de_var 1) (da_cons (de_var 2) da_nil)))) de_int))
      (dss_one (ds_expr (de_append (de_var 4) (de_tup (da_cons (de_ix (de_fld B.cl_Tree B.na_Tree_calendar (de_var 0)) (de_var 1)) (da_cons (de_var 2) (da_cons (de_sub (de_var 5) (de_var 3)) da_nil)))))))) dss_nil)
      (dss_cons (ds_forG (fun _ _ h => h) rfl (hr.mono (Nat.le_trans (by decide) hk)) (dge_meth G_Tree_children (hr.mono (Nat.le_trans (by decide) hk)) (de_var 0) (da_cons (de_var 1) (da_cons (de_var 2) da_nil))) (dg_tup rfl (dgs_cons (dg_name (i := 6) sc_Tree_collect.nd) (dgs_cons (dg_name (i := 7) sc_Tree_collect.nd) dgs_nil))) (dss_one (ds_expr (de_extend (de_var 4) (de_meth R hr (de_var 0) (da_cons (de_var 6) (da_cons (de_var 7) (da_cons (de_var 5) da_nil))))))))
      (dss_one (ds_ret (de_var 4))))))) (fun xs cs Q XP h => pure_Tree_collect K C n xs cs Q XP h), B.cl_Tree, hm, (F.binds (ps := ["self", "depth", "day", "above"]) (fun _ _ _ _ _ _ us hl => match us, hl with | [_, _, _, _], _ => rfl))⟩
theorem ok_Tree_collect {f : Addr} {fd : FuncData} (F : Fun K "collect" "Tree.collect" s_Tree_collect f fd) (hm : Meth K C.Tree "collect" f) (B : Bi K mg C) (G_Tree_children : DGMok P w K mg base C.Tree "children" ["self", "depth", "day"] 1 (sp_Tree_children C)) : DMok P w K mg base C.Tree "collect" ["self", "depth", "day", "above"] 8 (sp_Tree_collect C 6) := by
  have R0 : DMok P w K mg base C.Tree "collect" ["self", "depth", "day", "above"] 2 (sp_Tree_collect C 0) := ⟨f, fd, never_fn never_Tree_collect, B.cl_Tree, hm, (F.binds (ps := ["self", "depth", "day", "above"]) (fun _ _ _ _ _ _ us hl => match us, hl with | [_, _, _, _], _ => rfl))⟩
  have R1 : DMok P w K mg base C.Tree "collect" ["self", "depth", "day", "above"] 3 (sp_Tree_collect C 1) := step_Tree_collect F (by decide) hm B G_Tree_children R0
  have R2 : DMok P w K mg base C.Tree "collect" ["self", "depth", "day", "above"] 4 (sp_Tree_collect C 2) := step_Tree_collect F (by decide) hm B G_Tree_children R1
  have R3 : DMok P w K mg base C.Tree "collect" ["self", "depth", "day", "above"] 5 (sp_Tree_collect C 3) := step_Tree_collect F (by decide) hm B G_Tree_children R2
  have R4 : DMok P w K mg base C.Tree "collect" ["self", "depth", "day", "above"] 6 (sp_Tree_collect C 4) := step_Tree_collect F (by decide) hm B G_Tree_children R3
  have R5 : DMok P w K mg base C.Tree "collect" ["self", "depth", "day", "above"] 7 (sp_Tree_collect C 5) := step_Tree_collect F (by decide) hm B G_Tree_children R4
  have R6 : DMok P w K mg base C.Tree "collect" ["self", "depth", "day", "above"] 8 (sp_Tree_collect C 6) := step_Tree_collect F (by decide) hm B G_Tree_children R5
  exact R6
theorem sc_fewest_list : FnScope ["calendar", "amounts", "tree", "orders", "day"] ["calendar", "amounts"] (defScope s_fewest_list) := ⟨rfl, rfl, rfl, by decide +kernel, rfl, by decide +kernel, by decide +kernel⟩
theorem ok_fewest_list {f : Addr} {fd : FuncData} (F : Fun K "fewest_list" "fewest_list" s_fewest_list f fd) (hm : mg "fewest_list" = some (.ref f)) (B : Bi K mg C) (G_Tree___init__ : DKok P w K mg base C.Tree "Tree" ["self", "calendar", "amounts"] 4 (sp_Tree___init__ C)) (G_Tree_collect : DMok P w K mg base C.Tree "collect" ["self", "depth", "day", "above"] 8 (sp_Tree_collect C 6)) : DOk P w K mg base CX0 "fewest_list" ["calendar", "amounts"] 9 (sp_fewest_list C) :=
  ⟨f, fd, fn_dataQ F sc_fewest_list len_fewest_list (fun cdv A outer s H E hr =>
      (dss_cons (ds_par (i := 2) (j := 3) rfl sc_fewest_list.nd (da_cons (de_makeD G_Tree___init__ (hr.mono (by decide)) (da_cons (de_var 0) (da_cons (de_var 1) da_nil))) (da_cons (de_lst da_nil) da_nil)))
      (dss_cons (ds_for (di_range1 B.b_range (da_cons (de_ix (de_var 0) de_int) da_nil)) (dg_name (i := 4) sc_fewest_list.nd) (dss_one (ds_expr (de_extend (de_var 3) (de_meth G_Tree_collect (hr.mono (by decide)) (de_var 2) (da_cons de_int (da_cons (de_var 4) (da_cons de_int da_nil))))))))
      (dss_one (ds_ret (de_sortT hr.units B.b_sorted (da_cons (de_var 3) da_nil))))))) (fun xs cs Q XP h => pure_fewest_list K C xs cs Q XP h), hm, F.kp, (F.binds (ps := ["calendar", "amounts"]) (fun _ _ _ _ _ _ us hl => match us, hl with | [_, _], _ => rfl))⟩
theorem sc_fewest_orders : FnScope ["calendar", "orders"] ["calendar", "orders"] (defScope s_fewest_orders) := ⟨rfl, rfl, rfl, by decide +kernel, rfl, by decide +kernel, by decide +kernel⟩
theorem ok_fewest_orders {f : Addr} {fd : FuncData} (F : Fun K "fewest_orders" "fewest_orders" s_fewest_orders f fd) (hm : mg "fewest_orders" = some (.ref f)) (B : Bi K mg C) (G_validate_orders : DOk P w K mg base CX0 "validate_orders" ["calendar", "orders"] 4 sp_validate_orders) (G_flow_list : DOk P w K mg base CX0 "flow_list" ["calendar", "orders"] 1 sp_flow_list) (G_fewest_list : DOk P w K mg base CX0 "fewest_list" ["calendar", "amounts"] 9 (sp_fewest_list C)) : DOk P w K mg base CX0 "fewest_orders" ["calendar", "orders"] 10 (sp_fewest_orders C) :=
  ⟨f, fd, fn_dataQ F sc_fewest_orders len_fewest_orders (fun cdv A outer s H E hr =>
      (dss_cons (ds_expr (de_call G_validate_orders (hr.mono (by decide)) (da_cons (de_var 0) (da_cons (de_var 1) da_nil))))
      (dss_one (ds_ret (de_call G_fewest_list (hr.mono (by decide)) (da_cons (de_var 0) (da_cons (de_call G_flow_list (hr.mono (by decide)) (da_cons (de_var 0) (da_cons (de_var 1) da_nil))) da_nil))))))) (fun xs cs Q XP h => pure_fewest_orders K C xs cs Q XP h), hm, F.kp, (F.binds (ps := ["calendar", "orders"]) (fun _ _ _ _ _ _ us hl => match us, hl with | [_, _], _ => rfl))⟩
theorem sc_fewest_count : FnScope ["calendar", "orders"] ["calendar", "orders"] (defScope s_fewest_count) := ⟨rfl, rfl, rfl, by decide +kernel, rfl, by decide +kernel, by decide +kernel⟩
theorem ok_fewest_count {f : Addr} {fd : FuncData} (F : Fun K "fewest_count" "fewest_count" s_fewest_count f fd) (hm : mg "fewest_count" = some (.ref f)) (B : Bi K mg C) (G_fewest_orders : DOk P w K mg base CX0 "fewest_orders" ["calendar", "orders"] 10 (sp_fewest_orders C)) : DOk P w K mg base CX0 "fewest_count" ["calendar", "orders"] 11 (sp_fewest_count C) :=
  ⟨f, fd, fn_dataQ F sc_fewest_count len_fewest_count (fun cdv A outer s H E hr =>
      (dss_one (ds_ret (de_len B.b_len (da_cons (de_call G_fewest_orders (hr.mono (by decide)) (da_cons (de_var 0) (da_cons (de_var 1) da_nil))) da_nil))))) (fun xs cs Q XP h => pure_fewest_count K C xs cs Q XP h), hm, F.kp, (F.binds (ps := ["calendar", "orders"]) (fun _ _ _ _ _ _ us hl => match us, hl with | [_, _], _ => rfl))⟩
theorem sc_law_start : FnScope ["_law_script", "_law_mixed", "_law_cell"] ["_law_script"] (defScope s_law_start) := ⟨rfl, rfl, rfl, by decide +kernel, rfl, by decide +kernel, by decide +kernel⟩
theorem ok_law_start {f : Addr} {fd : FuncData} (F : Fun K "_law_start" "_law_start" s_law_start f fd) (hm : mg "_law_start" = some (.ref f)) (B : Bi K mg C)  : DOk P w K mg base CX0 "_law_start" ["_law_script"] 1 sp_law_start :=
  ⟨f, fd, fn_dataQ F sc_law_start len_law_start (fun cdv A outer s H E hr =>
      (dss_cons (ds_set (i := 1) sc_law_start.nd de_int)
      (dss_cons (ds_for (di_seq (de_var 0)) (dg_name (i := 2) sc_law_start.nd) (dss_one (ds_set (i := 1) sc_law_start.nd (de_mod (de_add (de_add (de_mul (de_var 1) de_int) (de_var 2)) de_int) de_int))))
      (dss_one (ds_ret (de_lst (da_cons (de_var 0) (da_cons de_int (da_cons (de_var 1) (da_cons de_int da_nil)))))))))) (fun xs cs Q XP h => pure_law_start K xs cs Q XP h), hm, F.kp, (F.binds (ps := ["_law_script"]) (fun _ _ _ _ _ _ us hl => match us, hl with | [_], _ => rfl))⟩
theorem sc_law_drawn : FnScope ["_law_state", "_law_count", "_law_result", "_law_cell"] ["_law_state", "_law_count"] (defScope s_law_drawn) := ⟨rfl, rfl, rfl, by decide +kernel, rfl, by decide +kernel, by decide +kernel⟩
theorem ok_law_drawn {f : Addr} {fd : FuncData} (F : Fun K "_law_drawn" "_law_drawn" s_law_drawn f fd) (hm : mg "_law_drawn" = some (.ref f)) (B : Bi K mg C)  : DOk P w K mg base CX0 "_law_drawn" ["_law_state", "_law_count"] 1 sp_law_drawn :=
  ⟨f, fd, fn_dataQ F sc_law_drawn len_law_drawn (fun cdv A outer s H E hr =>
      (dss_cons (ds_if (dt_cmpD c_gt (de_ix (de_var 0) de_int) de_int) (dss_cons (ds_set (i := 2) sc_law_drawn.nd (de_mod (de_ix (de_var 0) de_int) (de_var 1)))
      (dss_cons (ds_asg (de_div (de_ix (de_var 0) de_int) (de_var 1)) (dg_ix (de_var 0) de_int))
      (dss_one (ds_ret (de_var 2))))) dss_nil)
      (dss_cons (ds_asg (de_add (de_ix (de_var 0) de_int) de_int) (dg_ix (de_var 0) de_int))
      (dss_cons (ds_if (dt_cmpD c_le (de_ix (de_var 0) de_int) (de_len B.b_len (da_cons (de_ix (de_var 0) de_int) da_nil))) (dss_cons (ds_set (i := 3) sc_law_drawn.nd (de_ix (de_ix (de_var 0) de_int) (de_sub (de_ix (de_var 0) de_int) de_int)))
      (dss_cons (ds_asg (de_if (dt_cmpD c_ge (de_var 3) (de_pow de_int de_int)) (de_div (de_var 3) (de_var 1)) de_int) (dg_ix (de_var 0) de_int))
      (dss_one (ds_ret (de_mod (de_var 3) (de_var 1)))))) dss_nil)
      (dss_cons (ds_asg (de_mod (de_add (de_mul (de_ix (de_var 0) de_int) de_int) de_int) de_int) (dg_ix (de_var 0) de_int))
      (dss_one (ds_ret (de_mod (de_div (de_ix (de_var 0) de_int) de_int) (de_var 1))))))))) (fun xs cs Q XP h => pure_law_drawn K xs cs Q XP h), hm, F.kp, (F.binds (ps := ["_law_state", "_law_count"]) (fun _ _ _ _ _ _ us hl => match us, hl with | [_, _], _ => rfl))⟩
theorem sc_law_explains : FnScope ["_law_residues", "_law_chosen", "_law_wanted", "_law_sums", "_law_day", "_law_nearest", "_law_k", "_law_due"] ["_law_residues", "_law_chosen", "_law_wanted"] (defScope s_law_explains) := ⟨rfl, rfl, rfl, by decide +kernel, rfl, by decide +kernel, by decide +kernel⟩
theorem ok_law_explains {f : Addr} {fd : FuncData} (F : Fun K "_law_explains" "_law_explains" s_law_explains f fd) (hm : mg "_law_explains" = some (.ref f)) (B : Bi K mg C)  : DOk P w K mg base CX0 "_law_explains" ["_law_residues", "_law_chosen", "_law_wanted"] 1 sp_law_explains :=
  ⟨f, fd, fn_dataQ F sc_law_explains len_law_explains (fun cdv A outer s H E hr =>
      (dss_cons (ds_set (i := 3) sc_law_explains.nd de_dnewK)
      (dss_cons (ds_for (di_range1 B.b_range (da_cons (de_len B.b_len (da_cons (de_var 2) da_nil)) da_nil)) (dg_name (i := 4) sc_law_explains.nd) (dss_cons (ds_set (i := 5) sc_law_explains.nd (de_sub de_int de_int))
      (dss_cons (ds_for (di_range1 B.b_range (da_cons (de_len B.b_len (da_cons (de_var 0) da_nil)) da_nil)) (dg_name (i := 6) sc_law_explains.nd) (dss_one (ds_if (DW.dt (dw_and (dt_val (de_ix (de_var 1) (de_var 6))) (dw_and1 (dt_cmpD (c_eq hr.units) (de_mod (de_var 4) (de_ix (de_ix (de_var 0) (de_var 6)) de_int)) (de_ix (de_ix (de_var 0) (de_var 6)) de_int))))) (dss_one (ds_set (i := 5) sc_law_explains.nd (de_var 6))) dss_nil)))
      (dss_cons (ds_set (i := 7) sc_law_explains.nd (de_dget2 hr.units (de_var 3) (de_var 5) (de_if (dt_cmpD c_lt (de_var 5) de_int) de_int (de_ix (de_var 2) (de_var 4)))))
      (dss_cons (ds_if (dt_cmpD (c_ne hr.units) (de_var 7) (de_ix (de_var 2) (de_var 4))) (dss_one (ds_ret de_bl)) dss_nil)
      (dss_one (ds_dput hr.units (de_var 3) (de_var 5) (de_var 7))))))))
      (dss_one (ds_ret de_bl))))) (fun xs cs Q XP h => pure_law_explains K xs cs Q XP h), hm, F.kp, (F.binds (ps := ["_law_residues", "_law_chosen", "_law_wanted"]) (fun _ _ _ _ _ _ us hl => match us, hl with | [_, _, _], _ => rfl))⟩
theorem sc_law_least : FnScope ["_law_calendar", "_law_wanted", "_law_residues", "_law_period", "_law_best", "_law_number", "_law_chosen", "_law_day", "_law_k"] ["_law_calendar", "_law_wanted"] (defScope s_law_least) := ⟨rfl, rfl, rfl, by decide +kernel, rfl, by decide +kernel, by decide +kernel⟩
theorem ok_law_least {f : Addr} {fd : FuncData} (F : Fun K "_law_least" "_law_least" s_law_least f fd) (hm : mg "_law_least" = some (.ref f)) (B : Bi K mg C) (G_law_explains : DOk P w K mg base CX0 "_law_explains" ["_law_residues", "_law_chosen", "_law_wanted"] 1 sp_law_explains) : DOk P w K mg base CX0 "_law_least" ["_law_calendar", "_law_wanted"] 2 sp_law_least :=
  ⟨f, fd, fn_dataQ F sc_law_least len_law_least (fun cdv A outer s H E hr =>
      (dss_cons (ds_set (i := 2) sc_law_least.nd (de_lst da_nil))
      (dss_cons (ds_for (di_seq (de_var 0)) (dg_name (i := 3) sc_law_least.nd) (dss_one (ds_set (i := 2) sc_law_least.nd (de_catS (de_var 2) (de_lc (own := [("_law_day", 7)]) sc_law_least.nd (di_range1 B.b_range (da_cons (de_var 3) da_nil)) (blkOk_by (N := ["_law_calendar", "_law_wanted", "_law_residues", "_law_period", "_law_best", "_law_number", "_law_chosen", "_law_day", "_law_k"]) (sc := defScope s_law_least) (by decide +kernel)) (fun _ _ _ _ _ => (dg_name (i := 7) sc_law_least.nd)) (fun _ _ _ _ _ => dts_nil) (fun _ _ _ _ _ => (de_tup (da_cons (de_var 3) (da_cons (de_var 7) da_nil)))) (by decide))))))
      (dss_cons (ds_set (i := 4) sc_law_least.nd (de_len B.b_len (da_cons (de_var 1) da_nil)))
      (dss_cons (ds_for (di_range1 B.b_range (da_cons (de_pow de_int de_int) da_nil)) (dg_name (i := 5) sc_law_least.nd) (dss_cons (ds_if (dt_cmpD c_ge (de_var 5) (de_shr (de_pow de_int de_int) (de_sub de_int (de_len B.b_len (da_cons (de_var 2) da_nil))))) (dss_one (ds_ret (de_var 4))) dss_nil)
      (dss_cons (ds_setLc (i := 6) (own := [("_law_k", 8)]) sc_law_least.nd (di_range1 B.b_range (da_cons (de_len B.b_len (da_cons (de_var 2) da_nil)) da_nil)) (blkOk_by (N := ["_law_calendar", "_law_wanted", "_law_residues", "_law_period", "_law_best", "_law_number", "_law_chosen", "_law_day", "_law_k"]) (sc := defScope s_law_least) (by decide +kernel)) (fun _ _ _ _ _ => (dg_name (i := 8) sc_law_least.nd)) (fun _ _ _ _ _ => dts_nil) (fun _ _ _ _ _ => (de_cmpD (c_eq hr.units) (de_band (de_shr (de_var 5) (de_var 8)) de_int) de_int)) (by decide) (sw_true rfl rfl rfl (by decide +kernel)))
      (dss_one (ds_if (DW.dt (dw_and (dt_cmpD c_lt (de_sumF rfl B.b_sum (da_cons (de_var 6) da_nil)) (de_var 4)) (dw_and1 (dt_val (de_call G_law_explains (hr.mono (by decide)) (da_cons (de_var 2) (da_cons (de_var 6) (da_cons (de_var 1) da_nil)))))))) (dss_one (ds_set (i := 4) sc_law_least.nd (de_sumF rfl B.b_sum (da_cons (de_var 6) da_nil)))) dss_nil)))))
      (dss_one (ds_ret (de_var 4)))))))) (fun xs cs Q XP h => pure_law_least K xs cs Q XP h), hm, F.kp, (F.binds (ps := ["_law_calendar", "_law_wanted"]) (fun _ _ _ _ _ _ us hl => match us, hl with | [_, _], _ => rfl))⟩
theorem sc_law : FnScope ["_law_script", "_law_state", "_law_calendars", "_law_turn", "_law_calendar", "_law_wanted", "_law_orders", "_law_least_here", "_law_found", "_law_day"] ["_law_script"] (defScope s_law) := ⟨rfl, rfl, rfl, by decide +kernel, rfl, by decide +kernel, by decide +kernel⟩
theorem ok_law {f : Addr} {fd : FuncData} (F : Fun K "law" "law" s_law f fd) (B : Bi K mg C) (G_law_start : DOk P w K mg base CX0 "_law_start" ["_law_script"] 1 sp_law_start) (G_law_drawn : DOk P w K mg base CX0 "_law_drawn" ["_law_state", "_law_count"] 1 sp_law_drawn) (G_fewest_orders : DOk P w K mg base CX0 "fewest_orders" ["calendar", "orders"] 10 (sp_fewest_orders C)) (G_law_least : DOk P w K mg base CX0 "_law_least" ["_law_calendar", "_law_wanted"] 2 sp_law_least) (G_fewest_count : DOk P w K mg base CX0 "fewest_count" ["calendar", "orders"] 11 (sp_fewest_count C)) (G_flows : DOk P w K mg base CX0 "flows" ["calendar", "orders"] 5 sp_flows) : FnOk P w K mg base CX0 12 f fd ["_law_script"] (liftSp K (sp_law C)) :=
  fn_dataF F sc_law len_law (fun cdv A outer s H E hr =>
      (dss_cons (ds_set (i := 1) sc_law.nd (de_call G_law_start (hr.mono (by decide)) (da_cons (de_var 0) da_nil)))
      (dss_cons (ds_set (i := 2) sc_law.nd (de_lst (da_cons (de_tup (da_cons de_int da_nil)) (da_cons (de_tup (da_cons de_int da_nil)) (da_cons (de_tup (da_cons de_int (da_cons de_int da_nil))) (da_cons (de_tup (da_cons de_int (da_cons de_int (da_cons de_int da_nil)))) (da_cons (de_tup (da_cons de_int (da_cons de_int da_nil))) (da_cons (de_tup (da_cons de_int (da_cons de_int da_nil))) (da_cons (de_tup (da_cons de_int (da_cons de_int da_nil))) (da_cons (de_tup (da_cons de_int (da_cons de_int (da_cons de_int da_nil)))) (da_cons (de_tup (da_cons de_int (da_cons de_int (da_cons de_int da_nil)))) (da_cons (de_tup (da_cons de_int (da_cons de_int da_nil))) da_nil))))))))))))
      (dss_cons (ds_set (i := 2) sc_law.nd (de_catS (de_var 2) (de_lst (da_cons (de_tup (da_cons de_int (da_cons de_int da_nil))) (da_cons (de_tup (da_cons de_int (da_cons de_int da_nil))) (da_cons (de_tup (da_cons de_int (da_cons de_int da_nil))) da_nil))))))
      (dss_cons (ds_for (di_range1 B.b_range (da_cons de_int da_nil)) (dg_name (i := 3) sc_law.nd) (dss_cons (ds_set (i := 4) sc_law.nd (de_ix (de_var 2) (de_call G_law_drawn (hr.mono (by decide)) (da_cons (de_var 1) (da_cons de_int da_nil)))))
      (dss_cons (ds_set (i := 5) sc_law.nd (de_lc (own := [("_law_day", 9)]) sc_law.nd (di_range1 B.b_range (da_cons (de_ix (de_var 4) (de_sub de_int de_int)) da_nil)) (blkOk_by (N := ["_law_script", "_law_state", "_law_calendars", "_law_turn", "_law_calendar", "_law_wanted", "_law_orders", "_law_least_here", "_law_found", "_law_day"]) (sc := defScope s_law) (by decide +kernel)) (fun _ _ _ _ _ => (dg_name (i := 9) sc_law.nd)) (fun _ _ _ _ _ => dts_nil) (fun _ _ _ _ _ => (de_sub (de_call G_law_drawn (hr.mono (by decide)) (da_cons (de_var 1) (da_cons (de_ix (de_lst (da_cons de_int (da_cons de_int (da_cons de_int da_nil)))) (de_call G_law_drawn (hr.mono (by decide)) (da_cons (de_var 1) (da_cons de_int da_nil)))) da_nil))) de_int)) (by decide)))
      (dss_cons (ds_setLc (i := 6) (own := [("_law_day", 9)]) sc_law.nd (di_range1 B.b_range (da_cons (de_len B.b_len (da_cons (de_var 5) da_nil)) da_nil)) (blkOk_by (N := ["_law_script", "_law_state", "_law_calendars", "_law_turn", "_law_calendar", "_law_wanted", "_law_orders", "_law_least_here", "_law_found", "_law_day"]) (sc := defScope s_law) (by decide +kernel)) (fun _ _ _ _ _ => (dg_name (i := 9) sc_law.nd)) (fun _ _ _ _ _ => (dts_one (dt_cmpD (c_ne hr.units) (de_ix (de_var 5) (de_var 9)) de_int))) (fun _ _ _ _ _ => (de_tup (da_cons (de_ix (de_var 4) (de_sub de_int de_int)) (da_cons (de_var 9) (da_cons (de_ix (de_var 5) (de_var 9)) da_nil))))) (by decide) (sw_true rfl rfl rfl (by decide +kernel)))
      (dss_cons (ds_par (i := 7) (j := 8) rfl sc_law.nd (da_cons (de_call G_law_least (hr.mono (by decide)) (da_cons (de_var 4) (da_cons (de_var 5) da_nil))) (da_cons (de_call G_fewest_orders (hr.mono (by decide)) (da_cons (de_var 4) (da_cons (de_var 6) da_nil))) da_nil)))
      (dss_one (ds_if (DW.dt (dw_or (dt_cmpD (c_ne hr.units) (de_call G_fewest_count (hr.mono (by decide)) (da_cons (de_var 4) (da_cons (de_var 6) da_nil))) (de_var 7)) (dw_or (dt_cmpD (c_ne hr.units) (de_len B.b_len (da_cons (de_var 8) da_nil)) (de_var 7)) (dw_or1 (dt_cmpD (c_ne hr.units) (de_call G_flows (hr.mono (by decide)) (da_cons (de_var 4) (da_cons (de_var 8) da_nil))) (de_var 5)))))) (dss_one (ds_ret de_bl)) dss_nil)))))))
      (dss_one (ds_ret de_bl))))))) (fun xs cs Q XP h => pure_law K C xs cs Q XP h)
end
theorem all_mk {l : PySem.W.OpenLaw} {w : World} {K : PySem.W.Frag} {h : Heap} {mg : Str → Option Value} {fa f0 f1 f2 f3 f4 f5 f6 f7 f8 f9 f10 f11 f12 f13 f14 f15 f16 f17 f18 CTree : Addr} (X : K.In h) (G : h.Ns mainGlobals mg) (hfa : mg "law" = some (.ref fa))
    {od0 an0 od1 an1 od2 an2 od3 an3 od4 an4 od5 an5 od6 an6 od7 an7 od8 an8 od9 an9 od10 an10 od11 an11 od12 an12 od13 an13 od14 an14 od15 an15 od16 an16 od17 an17 od18 an18 : Option Addr} {sl0 sl1 sl2 sl3 sl4 sl5 sl6 sl7 sl8 sl9 sl10 sl11 sl12 sl13 sl14 sl15 sl16 sl17 sl18 : Array (Option Value)} {oc0 kV0 dc0 pm0 cd0 ct0 oc1 kV1 dc1 pm1 cd1 ct1 oc2 kV2 dc2 pm2 cd2 ct2 oc3 kV3 dc3 pm3 cd3 ct3 oc4 kV4 dc4 pm4 cd4 ct4 oc5 kV5 dc5 pm5 cd5 ct5 oc6 kV6 dc6 pm6 cd6 ct6 oc7 kV7 dc7 pm7 cd7 ct7 oc8 kV8 dc8 pm8 cd8 ct8 oc9 kV9 dc9 pm9 cd9 ct9 oc10 kV10 dc10 pm10 cd10 ct10 oc11 kV11 dc11 pm11 cd11 ct11 oc12 kV12 dc12 pm12 cd12 ct12 oc13 kV13 dc13 pm13 cd13 ct13 oc14 kV14 dc14 pm14 cd14 ct14 oc15 kV15 dc15 pm15 cd15 ct15 oc16 kV16 dc16 pm16 cd16 ct16 oc17 kV17 dc17 pm17 cd17 ct17 oc18 kV18 dc18 pm18 cd18 ct18 : Value}
    {t_MAX_PERIOD t_MAX_PERIODS : Tok}
    (aCTree : PySem.W.nsIn K mainGlobals "Tree" = some (some (.ref CTree))) (pgTree : PySem.W.plainGet K CTree Str.empty = true) (hdTree : PySem.W.hasDictIn K CTree = true) (poTree : PySem.W.plainOver K CTree = true) (saTree : PySem.W.findIn K (.ref CTree) "__setattr__" = some (some (.builtin "object.__setattr__"))) (mkTree : PySem.W.makesIn K CTree = true) (kcTree : PySem.W.keepIn K (.ref CTree) = true)
    (naTree_calendar : PySem.W.findIn K (.ref CTree) "calendar" = some none)
    (naTree_choices : PySem.W.findIn K (.ref CTree) "choices" = some none)
    (a0 : PySem.W.nsIn K mainGlobals "is_integer" = some (some (.ref f0)))
    (l0 : K.lookup f0 = some ⟨oc0, od0, .func (PySem.W.fnOf "is_integer" "is_integer" (defArgs s_is_integer) (defBody s_is_integer) (defScope s_is_integer) .none kV0 dc0 pm0 an0 cd0 ct0), sl0⟩) (c0 : PySem.W.codeIn K cd0 "is_integer" = true) (k0 : PySem.W.keepIn K (.ref f0) = true)
    (a1 : PySem.W.nsIn K mainGlobals "validate_calendar" = some (some (.ref f1)))
    (l1 : K.lookup f1 = some ⟨oc1, od1, .func (PySem.W.fnOf "validate_calendar" "validate_calendar" (defArgs s_validate_calendar) (defBody s_validate_calendar) (defScope s_validate_calendar) .none kV1 dc1 pm1 an1 cd1 ct1), sl1⟩) (c1 : PySem.W.codeIn K cd1 "validate_calendar" = true) (k1 : PySem.W.keepIn K (.ref f1) = true)
    (a2 : PySem.W.nsIn K mainGlobals "is_order" = some (some (.ref f2)))
    (l2 : K.lookup f2 = some ⟨oc2, od2, .func (PySem.W.fnOf "is_order" "is_order" (defArgs s_is_order) (defBody s_is_order) (defScope s_is_order) .none kV2 dc2 pm2 an2 cd2 ct2), sl2⟩) (c2 : PySem.W.codeIn K cd2 "is_order" = true) (k2 : PySem.W.keepIn K (.ref f2) = true)
    (a3 : PySem.W.nsIn K mainGlobals "first_invalid_order" = some (some (.ref f3)))
    (l3 : K.lookup f3 = some ⟨oc3, od3, .func (PySem.W.fnOf "first_invalid_order" "first_invalid_order" (defArgs s_first_invalid_order) (defBody s_first_invalid_order) (defScope s_first_invalid_order) .none kV3 dc3 pm3 an3 cd3 ct3), sl3⟩) (c3 : PySem.W.codeIn K cd3 "first_invalid_order" = true) (k3 : PySem.W.keepIn K (.ref f3) = true)
    (a4 : PySem.W.nsIn K mainGlobals "validate_orders" = some (some (.ref f4)))
    (l4 : K.lookup f4 = some ⟨oc4, od4, .func (PySem.W.fnOf "validate_orders" "validate_orders" (defArgs s_validate_orders) (defBody s_validate_orders) (defScope s_validate_orders) .none kV4 dc4 pm4 an4 cd4 ct4), sl4⟩) (c4 : PySem.W.codeIn K cd4 "validate_orders" = true) (k4 : PySem.W.keepIn K (.ref f4) = true)
    (a5 : PySem.W.nsIn K mainGlobals "flow_list" = some (some (.ref f5)))
    (l5 : K.lookup f5 = some ⟨oc5, od5, .func (PySem.W.fnOf "flow_list" "flow_list" (defArgs s_flow_list) (defBody s_flow_list) (defScope s_flow_list) .none kV5 dc5 pm5 an5 cd5 ct5), sl5⟩) (c5 : PySem.W.codeIn K cd5 "flow_list" = true) (k5 : PySem.W.keepIn K (.ref f5) = true)
    (a6 : PySem.W.nsIn K mainGlobals "flows" = some (some (.ref f6)))
    (l6 : K.lookup f6 = some ⟨oc6, od6, .func (PySem.W.fnOf "flows" "flows" (defArgs s_flows) (defBody s_flows) (defScope s_flows) .none kV6 dc6 pm6 an6 cd6 ct6), sl6⟩) (c6 : PySem.W.codeIn K cd6 "flows" = true) (k6 : PySem.W.keepIn K (.ref f6) = true)
    (a7 : PySem.W.findIn K (.ref CTree) "children" = some (some (.ref f7))) (i7 : PySem.W.isFn K (.ref f7) = true)
    (l7 : K.lookup f7 = some ⟨oc7, od7, .func (PySem.W.fnOf "children" "Tree.children" (defArgs s_Tree_children) (defBody s_Tree_children) (defScope s_Tree_children) .none kV7 dc7 pm7 an7 cd7 ct7), sl7⟩) (c7 : PySem.W.codeIn K cd7 "Tree.children" = true) (k7 : PySem.W.keepIn K (.ref f7) = true)
    (a8 : PySem.W.findIn K (.ref CTree) "best_sums" = some (some (.ref f8))) (i8 : PySem.W.isFn K (.ref f8) = true)
    (l8 : K.lookup f8 = some ⟨oc8, od8, .func (PySem.W.fnOf "best_sums" "Tree.best_sums" (defArgs s_Tree_best_sums) (defBody s_Tree_best_sums) (defScope s_Tree_best_sums) .none kV8 dc8 pm8 an8 cd8 ct8), sl8⟩) (c8 : PySem.W.codeIn K cd8 "Tree.best_sums" = true) (k8 : PySem.W.keepIn K (.ref f8) = true)
    (a9 : PySem.W.findIn K (.ref CTree) "__init__" = some (some (.ref f9))) (i9 : PySem.W.isFn K (.ref f9) = true)
    (l9 : K.lookup f9 = some ⟨oc9, od9, .func (PySem.W.fnOf "__init__" "Tree.__init__" (defArgs s_Tree___init__) (defBody s_Tree___init__) (defScope s_Tree___init__) .none kV9 dc9 pm9 an9 cd9 ct9), sl9⟩) (c9 : PySem.W.codeIn K cd9 "Tree.__init__" = true) (k9 : PySem.W.keepIn K (.ref f9) = true)
    (a10 : PySem.W.findIn K (.ref CTree) "collect" = some (some (.ref f10))) (i10 : PySem.W.isFn K (.ref f10) = true)
    (l10 : K.lookup f10 = some ⟨oc10, od10, .func (PySem.W.fnOf "collect" "Tree.collect" (defArgs s_Tree_collect) (defBody s_Tree_collect) (defScope s_Tree_collect) .none kV10 dc10 pm10 an10 cd10 ct10), sl10⟩) (c10 : PySem.W.codeIn K cd10 "Tree.collect" = true) (k10 : PySem.W.keepIn K (.ref f10) = true)
    (a11 : PySem.W.nsIn K mainGlobals "fewest_list" = some (some (.ref f11)))
    (l11 : K.lookup f11 = some ⟨oc11, od11, .func (PySem.W.fnOf "fewest_list" "fewest_list" (defArgs s_fewest_list) (defBody s_fewest_list) (defScope s_fewest_list) .none kV11 dc11 pm11 an11 cd11 ct11), sl11⟩) (c11 : PySem.W.codeIn K cd11 "fewest_list" = true) (k11 : PySem.W.keepIn K (.ref f11) = true)
    (a12 : PySem.W.nsIn K mainGlobals "fewest_orders" = some (some (.ref f12)))
    (l12 : K.lookup f12 = some ⟨oc12, od12, .func (PySem.W.fnOf "fewest_orders" "fewest_orders" (defArgs s_fewest_orders) (defBody s_fewest_orders) (defScope s_fewest_orders) .none kV12 dc12 pm12 an12 cd12 ct12), sl12⟩) (c12 : PySem.W.codeIn K cd12 "fewest_orders" = true) (k12 : PySem.W.keepIn K (.ref f12) = true)
    (a13 : PySem.W.nsIn K mainGlobals "fewest_count" = some (some (.ref f13)))
    (l13 : K.lookup f13 = some ⟨oc13, od13, .func (PySem.W.fnOf "fewest_count" "fewest_count" (defArgs s_fewest_count) (defBody s_fewest_count) (defScope s_fewest_count) .none kV13 dc13 pm13 an13 cd13 ct13), sl13⟩) (c13 : PySem.W.codeIn K cd13 "fewest_count" = true) (k13 : PySem.W.keepIn K (.ref f13) = true)
    (a14 : PySem.W.nsIn K mainGlobals "_law_start" = some (some (.ref f14)))
    (l14 : K.lookup f14 = some ⟨oc14, od14, .func (PySem.W.fnOf "_law_start" "_law_start" (defArgs s_law_start) (defBody s_law_start) (defScope s_law_start) .none kV14 dc14 pm14 an14 cd14 ct14), sl14⟩) (c14 : PySem.W.codeIn K cd14 "_law_start" = true) (k14 : PySem.W.keepIn K (.ref f14) = true)
    (a15 : PySem.W.nsIn K mainGlobals "_law_drawn" = some (some (.ref f15)))
    (l15 : K.lookup f15 = some ⟨oc15, od15, .func (PySem.W.fnOf "_law_drawn" "_law_drawn" (defArgs s_law_drawn) (defBody s_law_drawn) (defScope s_law_drawn) .none kV15 dc15 pm15 an15 cd15 ct15), sl15⟩) (c15 : PySem.W.codeIn K cd15 "_law_drawn" = true) (k15 : PySem.W.keepIn K (.ref f15) = true)
    (a16 : PySem.W.nsIn K mainGlobals "_law_explains" = some (some (.ref f16)))
    (l16 : K.lookup f16 = some ⟨oc16, od16, .func (PySem.W.fnOf "_law_explains" "_law_explains" (defArgs s_law_explains) (defBody s_law_explains) (defScope s_law_explains) .none kV16 dc16 pm16 an16 cd16 ct16), sl16⟩) (c16 : PySem.W.codeIn K cd16 "_law_explains" = true) (k16 : PySem.W.keepIn K (.ref f16) = true)
    (a17 : PySem.W.nsIn K mainGlobals "_law_least" = some (some (.ref f17)))
    (l17 : K.lookup f17 = some ⟨oc17, od17, .func (PySem.W.fnOf "_law_least" "_law_least" (defArgs s_law_least) (defBody s_law_least) (defScope s_law_least) .none kV17 dc17 pm17 an17 cd17 ct17), sl17⟩) (c17 : PySem.W.codeIn K cd17 "_law_least" = true) (k17 : PySem.W.keepIn K (.ref f17) = true)
    (a18 : PySem.W.nsIn K mainGlobals "law" = some (some (.ref f18)))
    (l18 : K.lookup f18 = some ⟨oc18, od18, .func (PySem.W.fnOf "law" "law" (defArgs s_law) (defBody s_law) (defScope s_law) .none kV18 dc18 pm18 an18 cd18 ct18), sl18⟩) (c18 : PySem.W.codeIn K cd18 "law" = true) (k18 : PySem.W.keepIn K (.ref f18) = true)
    (z_bool : PySem.W.nsIn K mainGlobals "bool" = some none)
    (z_enumerate : PySem.W.nsIn K mainGlobals "enumerate" = some none)
    (z_int : PySem.W.nsIn K mainGlobals "int" = some none)
    (z_isinstance : PySem.W.nsIn K mainGlobals "isinstance" = some none)
    (z_len : PySem.W.nsIn K mainGlobals "len" = some none)
    (z_max : PySem.W.nsIn K mainGlobals "max" = some none)
    (z_range : PySem.W.nsIn K mainGlobals "range" = some none)
    (z_sorted : PySem.W.nsIn K mainGlobals "sorted" = some none)
    (z_sum : PySem.W.nsIn K mainGlobals "sum" = some none)
    (y_MAX_PERIOD : PySem.W.nsIn K mainGlobals "MAX_PERIOD" = some (some (.int 400 t_MAX_PERIOD)))
    (y_MAX_PERIODS : PySem.W.nsIn K mainGlobals "MAX_PERIODS" = some (some (.int 5 t_MAX_PERIODS)))
    : ∃ fd : FuncData, (∀ (s : Shared) (v : Value), BindsTo s fd ⟨[v], []⟩ [("_law_script", v)]) ∧ ∀ base : Heap, K.In base → base.Ns mainGlobals mg → FnOk l.prog w K mg base CX0 12 fa fd ["_law_script"] (spLaw K) := by
  have e := hfa.symm.trans (PySem.W.mg_of X G a18)
  cases e
  have B : Bi K mg { Tree := CTree : CE } := ⟨PySem.W.mg_none_of X G z_bool, PySem.W.mg_none_of X G z_enumerate, PySem.W.mg_none_of X G z_int, PySem.W.mg_none_of X G z_isinstance, PySem.W.mg_none_of X G z_len, PySem.W.mg_none_of X G z_max, PySem.W.mg_none_of X G z_range, PySem.W.mg_none_of X G z_sorted, PySem.W.mg_none_of X G z_sum, ⟨_, PySem.W.mg_of X G y_MAX_PERIOD⟩, ⟨_, PySem.W.mg_of X G y_MAX_PERIODS⟩, ⟨pgTree, hdTree, poTree, saTree⟩, naTree_calendar, naTree_choices⟩
  refine ⟨PySem.W.fnOf "law" "law" (defArgs s_law) (defBody s_law) (defScope s_law) .none kV18 dc18 pm18 an18 cd18 ct18, fun s v => .of_eq rfl, fun base _ _ => ?_⟩
  have G_is_integer := ok_is_integer (P := l.prog) (w := w) (base := base) (fun_mk (st := s_is_integer) l0 c0 k0) (PySem.W.mg_of X G a0) B 
  have G_validate_calendar := ok_validate_calendar (P := l.prog) (w := w) (base := base) (fun_mk (st := s_validate_calendar) l1 c1 k1) (PySem.W.mg_of X G a1) B G_is_integer
  have G_is_order := ok_is_order (P := l.prog) (w := w) (base := base) (fun_mk (st := s_is_order) l2 c2 k2) (PySem.W.mg_of X G a2) B G_is_integer
  have G_first_invalid_order := ok_first_invalid_order (P := l.prog) (w := w) (base := base) (fun_mk (st := s_first_invalid_order) l3 c3 k3) (PySem.W.mg_of X G a3) B G_is_order
  have G_validate_orders := ok_validate_orders (P := l.prog) (w := w) (base := base) (fun_mk (st := s_validate_orders) l4 c4 k4) (PySem.W.mg_of X G a4) B G_validate_calendar G_first_invalid_order
  have G_flow_list := ok_flow_list (P := l.prog) (w := w) (base := base) (fun_mk (st := s_flow_list) l5 c5 k5) (PySem.W.mg_of X G a5) B 
  have G_flows := ok_flows (P := l.prog) (w := w) (base := base) (fun_mk (st := s_flows) l6 c6 k6) (PySem.W.mg_of X G a6) B G_validate_orders G_flow_list
  have G_Tree_children := ok_Tree_children (P := l.prog) (w := w) (base := base) (fun_mk (st := s_Tree_children) l7 c7 k7) ⟨a7, i7, k7⟩ B 
  have G_Tree_best_sums := ok_Tree_best_sums (P := l.prog) (w := w) (base := base) (fun_mk (st := s_Tree_best_sums) l8 c8 k8) ⟨a8, i8, k8⟩ B G_Tree_children
  have G_Tree___init__ := ok_Tree___init__ (P := l.prog) (w := w) (base := base) (fun_mk (st := s_Tree___init__) l9 c9 k9) ⟨mkTree, a9, i9, kcTree⟩ (PySem.W.mg_of X G aCTree) B G_Tree_best_sums
  have G_Tree_collect := ok_Tree_collect (P := l.prog) (w := w) (base := base) (fun_mk (st := s_Tree_collect) l10 c10 k10) ⟨a10, i10, k10⟩ B G_Tree_children
  have G_fewest_list := ok_fewest_list (P := l.prog) (w := w) (base := base) (fun_mk (st := s_fewest_list) l11 c11 k11) (PySem.W.mg_of X G a11) B G_Tree___init__ G_Tree_collect
  have G_fewest_orders := ok_fewest_orders (P := l.prog) (w := w) (base := base) (fun_mk (st := s_fewest_orders) l12 c12 k12) (PySem.W.mg_of X G a12) B G_validate_orders G_flow_list G_fewest_list
  have G_fewest_count := ok_fewest_count (P := l.prog) (w := w) (base := base) (fun_mk (st := s_fewest_count) l13 c13 k13) (PySem.W.mg_of X G a13) B G_fewest_orders
  have G_law_start := ok_law_start (P := l.prog) (w := w) (base := base) (fun_mk (st := s_law_start) l14 c14 k14) (PySem.W.mg_of X G a14) B 
  have G_law_drawn := ok_law_drawn (P := l.prog) (w := w) (base := base) (fun_mk (st := s_law_drawn) l15 c15 k15) (PySem.W.mg_of X G a15) B 
  have G_law_explains := ok_law_explains (P := l.prog) (w := w) (base := base) (fun_mk (st := s_law_explains) l16 c16 k16) (PySem.W.mg_of X G a16) B 
  have G_law_least := ok_law_least (P := l.prog) (w := w) (base := base) (fun_mk (st := s_law_least) l17 c17 k17) (PySem.W.mg_of X G a17) B G_law_explains
  exact (ok_law (fun_mk (st := s_law) l18 c18 k18) B G_law_start G_law_drawn G_fewest_orders G_law_least G_fewest_count G_flows).imp (law_imp fun ns cs Q XP hl q => law_start _ ns cs Q XP hl q)
theorem walk {l : PySem.W.OpenLaw} {q : Program} {loose : List Str} {XP : (Str → Option Value) → Heap → Prop} {YP : World → Heap → Prop} {d : DefRec} {K : Params → PySem.W.Frag} (hn : l.most = some 63) (hdf : d.params.defaults = [])
    (hY : ∀ (w : World) (h : Heap), YP w h → (K w.params).In h)
    (F : ∀ (w : World) (mg : Str → Option Value) (fa : Addr) (h : Heap), (K w.params).In h → h.Ns mainGlobals mg → mg d.name = some (.ref fa) →
      ∃ fd : FuncData, (∀ (s : Shared) (u : Value), BindsTo s fd ⟨[u], []⟩ [("_law_script", u)]) ∧ ∀ base : Heap, (K w.params).In base → base.Ns mainGlobals mg → FnOk l.prog w (K w.params) mg base CX0 12 fa fd ["_law_script"] (spLaw (K w.params))) :
    PySem.W.WalkO q loose XP YP l.row.toRowW d [] (fun f vs => PySem.call f vs) :=
  L2.walk_of (n := 63) (k := 12) (x := "_law_script") (CX := fun _ => CX0) (sp := fun w => spLaw (K w.params)) hn (by decide) hdf ⟨rfl, by decide, by decide⟩ hY F (fun _ _ a ns hl _ hS => ⟨a, ns, rfl, hS, hl, fun _ => rfl⟩) fun _ _ _ _ _ z => z
end Law
open PySem PySem.W PyProof.Rows
set_option maxRecDepth 100000 in
set_option maxHeartbeats 0 in
theorem PySem.Challenge.cw_standingorders_k08_fewest_by_search_holds : PySem.Challenge.rw_standingorders_k08_fewest_by_search.Holds := by
  w_on; o_law; k_head; (case hw => w_witness2)
  k_fill
  refine Law.walk (l := PySem.Challenge.rw_standingorders_k08_fewest_by_search) rfl rfl (fun w h Y => PySem.W.kIn_of Y) ?F
  case F =>
    intro w mg fa h KX G hmg
    refine' Law.all_mk KX G hmg ?aCTree ?pgTree ?hdTree ?poTree ?saTree ?mkTree ?kcTree ?naTree_calendar ?naTree_choices ?a0 ?l0 ?c0 ?k0 ?a1 ?l1 ?c1 ?k1 ?a2 ?l2 ?c2 ?k2 ?a3 ?l3 ?c3 ?k3 ?a4 ?l4 ?c4 ?k4 ?a5 ?l5 ?c5 ?k5 ?a6 ?l6 ?c6 ?k6 ?a7 ?i7 ?l7 ?c7 ?k7 ?a8 ?i8 ?l8 ?c8 ?k8 ?a9 ?i9 ?l9 ?c9 ?k9 ?a10 ?i10 ?l10 ?c10 ?k10 ?a11 ?l11 ?c11 ?k11 ?a12 ?l12 ?c12 ?k12 ?a13 ?l13 ?c13 ?k13 ?a14 ?l14 ?c14 ?k14 ?a15 ?l15 ?c15 ?k15 ?a16 ?l16 ?c16 ?k16 ?a17 ?l17 ?c17 ?k17 ?a18 ?l18 ?c18 ?k18 ?z_bool ?z_enumerate ?z_int ?z_isinstance ?z_len ?z_max ?z_range ?z_sorted ?z_sum ?y_MAX_PERIOD ?y_MAX_PERIODS
    (case aCTree => k_is); (case pgTree => k_is); (case hdTree => k_is); (case poTree => k_is); (case saTree => k_is); (case mkTree => k_is); (case kcTree => k_is); (case naTree_calendar => k_is); (case naTree_choices => k_is); (case a0 => k_is); (case l0 => k_is); (case c0 => k_is); (case k0 => k_is); (case a1 => k_is); (case l1 => k_is); (case c1 => k_is); (case k1 => k_is); (case a2 => k_is); (case l2 => k_is); (case c2 => k_is); (case k2 => k_is); (case a3 => k_is); (case l3 => k_is); (case c3 => k_is); (case k3 => k_is); (case a4 => k_is); (case l4 => k_is); (case c4 => k_is); (case k4 => k_is); (case a5 => k_is); (case l5 => k_is); (case c5 => k_is); (case k5 => k_is); (case a6 => k_is); (case l6 => k_is); (case c6 => k_is); (case k6 => k_is); (case a7 => k_is); (case i7 => k_is); (case l7 => k_is); (case c7 => k_is); (case k7 => k_is); (case a8 => k_is); (case i8 => k_is); (case l8 => k_is); (case c8 => k_is); (case k8 => k_is); (case a9 => k_is); (case i9 => k_is); (case l9 => k_is); (case c9 => k_is); (case k9 => k_is); (case a10 => k_is); (case i10 => k_is); (case l10 => k_is); (case c10 => k_is); (case k10 => k_is); (case a11 => k_is); (case l11 => k_is); (case c11 => k_is); (case k11 => k_is); (case a12 => k_is); (case l12 => k_is); (case c12 => k_is); (case k12 => k_is); (case a13 => k_is); (case l13 => k_is); (case c13 => k_is); (case k13 => k_is); (case a14 => k_is); (case l14 => k_is); (case c14 => k_is); (case k14 => k_is); (case a15 => k_is); (case l15 => k_is); (case c15 => k_is); (case k15 => k_is); (case a16 => k_is); (case l16 => k_is); (case c16 => k_is); (case k16 => k_is); (case a17 => k_is); (case l17 => k_is); (case c17 => k_is); (case k17 => k_is); (case a18 => k_is); (case l18 => k_is); (case c18 => k_is); (case k18 => k_is); (case z_bool => k_is); (case z_enumerate => k_is); (case z_int => k_is); (case z_isinstance => k_is); (case z_len => k_is); (case z_max => k_is); (case z_range => k_is); (case z_sorted => k_is); (case z_sum => k_is); (case y_MAX_PERIOD => k_is); (case y_MAX_PERIODS => k_is)
