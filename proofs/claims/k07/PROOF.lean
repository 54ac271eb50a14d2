import PyProof.Rows.All
import Wide.All
import OpenK.AllK
import Wide.FinOn
import HandS.ForMost
import HandS.IsInst
import HandS.Wide
import HandS.Flow
import HandS.Walk
import KE.GoesMore
import KE.GoesEnum
import KE.SortData
import HandS.Style
import HandS.TupAny
import HandS.TupSets
import PySem.Challenge.RW_standingorders_k07_normal_form
set_option Elab.async false
set_option linter.all false
set_option maxRecDepth 100000
set_option maxHeartbeats 4000000
/-! The data layer: a def's body read over plain data; mutable objects are cells. -/
namespace DL
open PySem L2
abbrev Frag := PySem.W.Frag
/-- what a Python value is worth, whatever its addresses -/
inductive Dat where
  | non
  | bl (b : Bool)
  | int (i : Int)
  | str (x : Str)
  | lst (xs : List Dat)
  | tup (xs : List Dat)
  | obj (C : Addr) (fs : List (Str × Dat))
mutual
inductive Dr (K : Frag) (M : Hp) : V → Dat → Prop
  | non : Dr K M .non .non
  | bl (b : Bool) : Dr K M (.bl b) (.bl b)
  | int (i : Int) : Dr K M (.int i) (.int i)
  | str (x : Str) : Dr K M (.str x) (.str x)
  | lst {a : Addr} {xs : List V} {ds : List Dat} : SqL K M a xs → DrAll K M xs ds → Dr K M (.ref a) (.lst ds)
  | tup {a : Addr} {xs : List V} {ds : List Dat} : SqT K M a xs → DrAll K M xs ds → Dr K M (.ref a) (.tup ds)
  | obj {a C dx : Addr} {fs : List (Str × V)} {ds : List (Str × Dat)} : M a = some (.ins C dx fs) → DrF K M fs ds → Dr K M (.ref a) (.obj C ds)
inductive DrAll (K : Frag) (M : Hp) : List V → List Dat → Prop
  | nil : DrAll K M [] []
  | cons {v : V} {vs : List V} {d : Dat} {ds : List Dat} : Dr K M v d → DrAll K M vs ds → DrAll K M (v :: vs) (d :: ds)
inductive DrF (K : Frag) (M : Hp) : List (Str × V) → List (Str × Dat) → Prop
  | nil : DrF K M [] []
  | cons {f : Str} {v : V} {vs : List (Str × V)} {d : Dat} {ds : List (Str × Dat)} : Dr K M v d → DrF K M vs ds → DrF K M ((f, v) :: vs) ((f, d) :: ds)
end
theorem sqL_mono {K : Frag} {M M' : Hp} (s : Same M M') {a : Addr} {xs : List V} (h : SqL K M a xs) : SqL K M' a xs := s.seq h
theorem sqT_mono {K : Frag} {M M' : Hp} (s : Same M M') {a : Addr} {xs : List V} (h : SqT K M a xs) : SqT K M' a xs := by
  rcases h with (h | ⟨o, h⟩) | h
  · exact .inl (.inl (s _ _ h))
  · exact .inl (.inr ⟨o, s _ _ h⟩)
  · exact .inr h
section
variable {K : Frag} {M M' : Hp}
mutual
theorem Dr.mono (s : Same M M') : ∀ {v : V} {d : Dat}, Dr K M v d → Dr K M' v d
  | _, _, .non => .non
  | _, _, .bl b => .bl b
  | _, _, .int i => .int i
  | _, _, .str x => .str x
  | _, _, .lst h k => .lst (sqL_mono s h) (DrAll.mono s k)
  | _, _, .tup h k => .tup (sqT_mono s h) (DrAll.mono s k)
  | _, _, .obj h k => .obj (s _ _ h) (DrF.mono s k)
theorem DrAll.mono (s : Same M M') : ∀ {v : List V} {d : List Dat}, DrAll K M v d → DrAll K M' v d
  | _, _, .nil => .nil
  | _, _, .cons h k => .cons (Dr.mono s h) (DrAll.mono s k)
theorem DrF.mono (s : Same M M') : ∀ {v : List (Str × V)} {d : List (Str × Dat)}, DrF K M v d → DrF K M' v d
  | _, _, .nil => .nil
  | _, _, .cons h k => .cons (Dr.mono s h) (DrF.mono s k)
end
theorem DrAll.length : ∀ {vs : List V} {ds : List Dat}, DrAll K M vs ds → vs.length = ds.length
  | _, _, .nil => rfl
  | _, _, .cons _ k => congrArg Nat.succ k.length
theorem DrAll.get : ∀ {vs : List V} {ds : List Dat} {i : Nat} {d : Dat}, DrAll K M vs ds → ds[i]? = some d → ∃ v, vs[i]? = some v ∧ Dr K M v d
  | _, _, 0, _, .cons h _, e => by cases e; exact ⟨_, rfl, h⟩
  | _, _, n + 1, _, .cons _ k, e => k.get (i := n) e
  | _, _, _, _, .nil, e => by cases e
theorem DrAll.getV : ∀ {vs : List V} {ds : List Dat} {i : Nat} {v : V}, DrAll K M vs ds → vs[i]? = some v → ∃ d, ds[i]? = some d ∧ Dr K M v d
  | _, _, 0, _, .cons h _, e => by cases e; exact ⟨_, rfl, h⟩
  | _, _, n + 1, _, .cons _ k, e => k.getV (i := n) e
  | _, _, _, _, .nil, e => by cases e
end
/-- a value at hand: plain data, or the value itself (a cell's address, a class ..) -/
inductive Vl where
  | dat (d : Dat)
  | raw (v : V)
abbrev Vl.cell (a : Addr) : Vl := .raw (.ref a)
abbrev Vl.int (i : Int) : Vl := .dat (.int i)
abbrev Vl.bl (b : Bool) : Vl := .dat (.bl b)
abbrev Vl.non : Vl := .dat .non
def RV (K : Frag) (M : Hp) (v : V) : Vl → Prop
  | .dat d => Dr K M v d
  | .raw u => v = u
theorem RV.mono {K : Frag} {M M' : Hp} (s : Same M M') {v : V} {x : Vl} (h : RV K M v x) : RV K M' v x := by
  cases x with
  | dat d => exact Dr.mono s h
  | raw u => exact h
/-- what a mutable object holds -/
inductive CO where
  | lst (xs : List Vl)
  | dk (kvs : List (Key × Vl))
  | dt (kvs : List (List Key × Vl))
  | ins (C : Addr) (fs : List (Str × Vl))
abbrev Cells := Addr → Option CO
def Cells.put (cs : Cells) (a : Addr) (c : CO) : Cells := fun b => if b = a then some c else cs b
def Cells.del (cs : Cells) (a : Addr) : Cells := fun b => if b = a then none else cs b
theorem Cells.put_same {cs : Cells} {a : Addr} {c : CO} : cs.put a c a = some c := by simp [Cells.put]
theorem Cells.put_ne {cs : Cells} {a b : Addr} {c : CO} (h : b ≠ a) : cs.put a c b = cs b := by simp [Cells.put, h]
theorem Cells.put_put {cs : Cells} {a : Addr} {c c' : CO} : (cs.put a c).put a c' = cs.put a c' := by
  funext b; simp only [Cells.put]; split <;> rfl
theorem Cells.del_put {cs : Cells} {a : Addr} {c : CO} (h : cs a = none) : (cs.put a c).del a = cs := by
  funext b; simp only [Cells.put, Cells.del]; split
  · rename_i e; rw [e, h]
  · rfl
theorem Cells.put_comm {cs : Cells} {a b : Addr} {c d : CO} (h : a ≠ b) : (cs.put a c).put b d = (cs.put b d).put a c := by
  funext x; simp only [Cells.put]
  by_cases e : x = a
  · subst e; simp [h]
  · by_cases e2 : x = b
    · subst e2; simp [e]
    · simp [e, e2]
theorem Cells.put_self {cs : Cells} {a : Addr} {c : CO} (h : cs a = some c) : cs.put a c = cs := by
  funext b; simp only [Cells.put]; split
  · rename_i e; rw [e, h]
  · rfl
def CRep (K : Frag) (M : Hp) (a : Addr) : HO → CO → Prop
  | .lst xs, .lst ys => Paired (RV K M) xs ys
  | .dK xs, .dk ys => Paired (fun (p : Key × V) (q : Key × Vl) => p.1 = q.1 ∧ RV K M p.2 q.2) xs ys
  | .dT xs, .dt ys => Paired (fun (p : List Key × V) (q : List Key × Vl) => p.1 = q.1 ∧ RV K M p.2 q.2) xs ys
  | .ins C dx fs, .ins C' gs => C = C' ∧ Paired (fun (p : Str × V) (q : Str × Vl) => p.1 = q.1 ∧ RV K M p.2 q.2) fs gs
  | _, _ => False
theorem paired_mono {α β : Type} {R R' : α → β → Prop} (h : ∀ a b, R a b → R' a b) : ∀ {xs : List α} {ys : List β}, Paired R xs ys → Paired R' xs ys
  | _, _, .nil => .nil
  | _, _, .cons a k => .cons (h _ _ a) (paired_mono h k)
theorem CRep.mono {K : Frag} {M M' : Hp} {a : Addr} (s : Same M M') : ∀ {o : HO} {c : CO}, CRep K M a o c → CRep K M' a o c := by
  intro o c h
  cases o <;> cases c <;> try exact h.elim
  · exact paired_mono (fun _ _ q => q.mono s) h
  · exact paired_mono (fun _ _ q => ⟨q.1, q.2.mono s⟩) h
  · exact paired_mono (fun _ _ q => ⟨q.1, q.2.mono s⟩) h
  · exact ⟨h.1, paired_mono (fun _ _ q => ⟨q.1, q.2.mono s⟩) h.2⟩
/-- M: what never changes; cs: the cells -/
structure Ok (K : Frag) (M H : Hp) (cs : Cells) : Prop where
  ex : Same M H
  cell : ∀ a c, cs a = some c → M a = none ∧ ∃ o, H a = some o ∧ CRep K M a o c
abbrev DEnv := List (Option Vl)
structure Rho (K : Frag) (M : Hp) (σ : St) (ρ : DEnv) : Prop where
  len : σ.length = ρ.length
  at_ : ∀ (i : Nat) (x : Vl), ρ[i]? = some (some x) → ∃ v, σ[i]? = some (some v) ∧ RV K M v x
theorem Rho.mono {K : Frag} {M M' : Hp} {σ : St} {ρ : DEnv} (s : Same M M') (h : Rho K M σ ρ) : Rho K M' σ ρ :=
  ⟨h.len, fun i x e => let ⟨v, q, r⟩ := h.at_ i x e; ⟨v, q, r.mono s⟩⟩
theorem Rho.set {K : Frag} {M : Hp} {σ : St} {ρ : DEnv} (h : Rho K M σ ρ) {i : Nat} {v : V} {x : Vl} (r : RV K M v x) : Rho K M (σ.set i (some v)) (ρ.set i (some x)) := by
  refine ⟨by rw [List.length_set, List.length_set, h.len], fun j y e => ?_⟩
  by_cases hj : i = j
  · subst hj
    by_cases hl : i < ρ.length
    · rw [List.getElem?_set_self hl] at e
      cases e
      exact ⟨v, by rw [List.getElem?_set_self (by rw [h.len]; exact hl)], r⟩
    · rw [List.getElem?_eq_none (by rw [List.length_set]; omega)] at e
      cases e
  · rw [List.getElem?_set_ne hj] at e
    obtain ⟨u, q, s⟩ := h.at_ j y e
    exact ⟨u, by rw [List.getElem?_set_ne hj]; exact q, s⟩
/-- the continuation at the level of data is one at the level of heaps -/
def Kont (K : Frag) (M : Hp) (P : Vl → Cells → Prop) (Q : VK) : Prop := ∀ v x M' H' cs', Same M M' → Ok K M' H' cs' → RV K M' v x → P x cs' → Q v H'
theorem Kont.mono {K : Frag} {M M' : Hp} {P : Vl → Cells → Prop} {Q : VK} (s : Same M M') (k : Kont K M P Q) : Kont K M' P Q := fun v x M2 H2 cs2 s2 o r p => k v x M2 H2 cs2 (s.trans s2) o r p
def KontT (K : Frag) (M : Hp) (P : Bool → Cells → Prop) (Q : Bool → Hp → Prop) : Prop := ∀ b M' H' cs', Same M M' → Ok K M' H' cs' → P b cs' → Q b H'
def KontA (K : Frag) (M : Hp) (P : List Vl → Cells → Prop) (Q : List V → Hp → Prop) : Prop := ∀ vs xs M' H' cs', Same M M' → Ok K M' H' cs' → Paired (RV K M') vs xs → P xs cs' → Q vs H'
def KontS (K : Frag) (M : Hp) (P : DEnv → Cells → Prop) (Q : St → Hp → Prop) : Prop := ∀ σ' ρ' M' H' cs', Same M M' → Ok K M' H' cs' → Rho K M' σ' ρ' → P ρ' cs' → Q σ' H'
theorem KontT.mono {K : Frag} {M M' : Hp} {P : Bool → Cells → Prop} {Q : Bool → Hp → Prop} (s : Same M M') (k : KontT K M P Q) : KontT K M' P Q := fun b M2 H2 cs2 s2 o p => k b M2 H2 cs2 (s.trans s2) o p
theorem KontA.mono {K : Frag} {M M' : Hp} {P : List Vl → Cells → Prop} {Q : List V → Hp → Prop} (s : Same M M') (k : KontA K M P Q) : KontA K M' P Q := fun v x M2 H2 cs2 s2 o r p => k v x M2 H2 cs2 (s.trans s2) o r p
theorem KontS.mono {K : Frag} {M M' : Hp} {P : DEnv → Cells → Prop} {Q : St → Hp → Prop} (s : Same M M') (k : KontS K M P Q) : KontS K M' P Q := fun v x M2 H2 cs2 s2 o r p => k v x M2 H2 cs2 (s.trans s2) o r p
abbrev WE := DEnv → Cells → (Vl → Cells → Prop) → Prop
abbrev WT := DEnv → Cells → (Bool → Cells → Prop) → Prop
abbrev WA := DEnv → Cells → (List Vl → Cells → Prop) → Prop
structure DEnds where
  nx : DEnv → Cells → Prop
  rt : Vl → Cells → Prop
  bk : DEnv → Cells → Prop := fun _ _ => False
  ct : DEnv → Cells → Prop := fun _ _ => False
abbrev WS := DEnds → DEnv → Cells → Prop
structure EndsOk (K : Frag) (M : Hp) (D : DEnds) (E : Ends) : Prop where
  nx : KontS K M D.nx E.nx
  rt : Kont K M D.rt E.rt
  bk : KontS K M D.bk E.bk
  ct : KontS K M D.ct E.ct
theorem EndsOk.mono {K : Frag} {M M' : Hp} {D : DEnds} {E : Ends} (s : Same M M') (k : EndsOk K M D E) : EndsOk K M' D E := ⟨k.nx.mono s, k.rt.mono s, k.bk.mono s, k.ct.mono s⟩
def lift (K : Frag) (w : WE) : TE := fun σ H Q => ∃ M ρ cs P, Ok K M H cs ∧ Rho K M σ ρ ∧ w ρ cs P ∧ Kont K M P Q
def liftT (K : Frag) (w : WT) : TT := fun σ H Q => ∃ M ρ cs P, Ok K M H cs ∧ Rho K M σ ρ ∧ w ρ cs P ∧ KontT K M P Q
def liftA (K : Frag) (w : WA) : TA := fun σ H Q => ∃ M ρ cs P, Ok K M H cs ∧ Rho K M σ ρ ∧ w ρ cs P ∧ KontA K M P Q
def liftS (K : Frag) (w : WS) : TS := fun E σ H => ∃ M ρ cs D, Ok K M H cs ∧ Rho K M σ ρ ∧ w D ρ cs ∧ EndsOk K M D E
def DE (X : Cx) (e : Expr) (w : WE) : Prop := PE X e (lift X.K w)
def DT (X : Cx) (e : Expr) (w : WT) : Prop := PT X e (liftT X.K w)
def DW (X : Cx) (e : Expr) (w : WT) : Prop := PW X e (liftT X.K w)
def DA (X : Cx) (es : List Expr) (w : WA) : Prop := PA X es (liftA X.K w)
def DS (X : Cx) (st : Stmt) (w : WS) : Prop := PS X st (liftS X.K w)
def DSs (X : Cx) (st : List Stmt) (w : WS) : Prop := PSs X st (liftS X.K w)
section
variable {X : Cx}
theorem pe_imp {e : Expr} {t t' : TE} (h : PE X e t) (m : ∀ σ H Q, t' σ H Q → t σ H Q) : PE X e t' := ⟨fun pins s σ H Q I q => h.run pins s σ H Q I (m σ H Q q)⟩
theorem pt_imp {e : Expr} {t t' : TT} (h : PT X e t) (m : ∀ σ H Q, t' σ H Q → t σ H Q) : PT X e t' := ⟨fun pins s σ H Q I q => h.run pins s σ H Q I (m σ H Q q)⟩
theorem pw_imp {e : Expr} {t t' : TT} (h : PW X e t) (m : ∀ σ H Q, t' σ H Q → t σ H Q) : PW X e t' := ⟨fun w pins s σ H Q I q => h.run w pins s σ H Q I (m σ H Q q)⟩
theorem pa_imp {e : List Expr} {t t' : TA} (h : PA X e t) (m : ∀ σ H Q, t' σ H Q → t σ H Q) : PA X e t' := ⟨fun pos pins s σ H Q I q => h.run pos pins s σ H Q I (m σ H Q q)⟩
theorem ps_imp {e : Stmt} {t t' : TS} (h : PS X e t) (m : ∀ D σ H, t' D σ H → t D σ H) : PS X e t' := ⟨fun pins s σ H D I q => h.run pins s σ H D I (m D σ H q)⟩
theorem pss_imp {e : List Stmt} {t t' : TS} (h : PSs X e t) (m : ∀ D σ H, t' D σ H → t D σ H) : PSs X e t' := ⟨fun pins s σ H D I q => h.run pins s σ H D I (m D σ H q)⟩
end
end DL
set_option maxRecDepth 100000
set_option maxHeartbeats 4000000
namespace DL
open PySem L2
/-! ### heaps -/
section
variable {K : Frag} {M H : Hp} {cs : Cells}
theorem Ok.free (o : Ok K M H cs) {p : Addr} (h : H p = none) : M p = none := o.ex.free h
theorem Ok.freeC (o : Ok K M H cs) {p : Addr} (h : H p = none) : cs p = none := by
  cases e : cs p with
  | none => rfl
  | some c =>
    obtain ⟨_, u, q, _⟩ := o.cell p c e
    rw [q] at h; cases h
theorem same_upd {p : Addr} {u : HO} (h : M p = none) : Same M (upd M p u) := fun b o e => by
  rw [upd_ne (ne_of_none e h)]; exact e
/-- a new object that will never change -/
theorem Ok.newM (o : Ok K M H cs) {p : Addr} (h : H p = none) (u : HO) : Same M (upd M p u) ∧ Ok K (upd M p u) (upd H p u) cs := by
  have s := same_upd (M := M) (u := u) (o.free h)
  refine ⟨s, fun b ob e => ?_, fun a c e => ?_⟩
  · by_cases hb : b = p
    · rw [hb] at e ⊢; rw [upd_same] at e ⊢; exact e
    · rw [upd_ne hb] at e ⊢; exact o.ex b ob e
  · obtain ⟨m, ob, q, r⟩ := o.cell a c e
    have na : a ≠ p := ne_of_none q h
    exact ⟨by rw [upd_ne na]; exact m, ob, by rw [upd_ne na]; exact q, r.mono s⟩
/-- a new cell -/
theorem Ok.newC (o : Ok K M H cs) {p : Addr} (h : H p = none) {u : HO} {c : CO} (r : CRep K M p u c) : Ok K M (upd H p u) (cs.put p c) := by
  refine ⟨fun b ob e => ?_, fun a c' e => ?_⟩
  · rw [upd_ne (ne_of_none (o.ex b ob e) h)]; exact o.ex b ob e
  · by_cases ha : a = p
    · subst ha
      rw [Cells.put_same] at e; cases e
      exact ⟨o.free h, u, upd_same, r⟩
    · rw [Cells.put_ne ha] at e
      obtain ⟨m, ob, q, z⟩ := o.cell a c' e
      exact ⟨m, ob, by rw [upd_ne ha]; exact q, z⟩
/-- a cell is changed -/
theorem Ok.setC (o : Ok K M H cs) {p : Addr} {c0 : CO} (h : cs p = some c0) {u : HO} {c : CO} (r : CRep K M p u c) : Ok K M (upd H p u) (cs.put p c) := by
  obtain ⟨m0, _⟩ := o.cell p c0 h
  refine ⟨fun b ob e => ?_, fun a c' e => ?_⟩
  · rw [upd_ne (ne_of_none e m0)]; exact o.ex b ob e
  · by_cases ha : a = p
    · subst ha
      rw [Cells.put_same] at e; cases e
      exact ⟨m0, u, upd_same, r⟩
    · rw [Cells.put_ne ha] at e
      obtain ⟨m, ob, q, z⟩ := o.cell a c' e
      exact ⟨m, ob, by rw [upd_ne ha]; exact q, z⟩
theorem Ok.sub (o : Ok K M H cs) {cs' : Cells} (h : ∀ a c, cs' a = some c → cs a = some c) : Ok K M H cs' := ⟨o.ex, fun a c e => o.cell a c (h a c e)⟩
theorem Ok.seqL (o : Ok K M H cs) {a : Addr} {xs : List V} (h : SqL K M a xs) : SqL K H a xs := sqL_mono o.ex h
theorem Ok.seqT (o : Ok K M H cs) {a : Addr} {xs : List V} (h : SqT K M a xs) : SqT K H a xs := sqT_mono o.ex h
theorem DrAll.paired : ∀ {vs : List V} {ds : List Dat}, DrAll K M vs ds → Paired (RV K M) vs (ds.map .dat)
  | _, _, .nil => .nil
  | _, _, .cons h k => .cons h k.paired
theorem DrAll.of_paired : ∀ {vs : List V} {ds : List Dat}, Paired (RV K M) vs (ds.map .dat) → DrAll K M vs ds
  | [], [], .nil => .nil
  | _ :: _, _ :: _, .cons h k => .cons h (DrAll.of_paired k)
theorem Paired.len {α β : Type} {R : α → β → Prop} : ∀ {xs : List α} {ys : List β}, Paired R xs ys → xs.length = ys.length
  | _, _, .nil => rfl
  | _, _, .cons _ k => congrArg Nat.succ (Paired.len k)
theorem Paired.getR {α β : Type} {R : α → β → Prop} : ∀ {xs : List α} {ys : List β} {i : Nat} {y : β}, Paired R xs ys → ys[i]? = some y → ∃ x, xs[i]? = some x ∧ R x y
  | _, _, 0, _, .cons h _, e => by cases e; exact ⟨_, rfl, h⟩
  | _, _, n + 1, _, .cons _ k, e => Paired.getR (i := n) k e
  | _, _, _, _, .nil, e => by cases e
theorem Paired.getL {α β : Type} {R : α → β → Prop} : ∀ {xs : List α} {ys : List β} {i : Nat} {x : α}, Paired R xs ys → xs[i]? = some x → ∃ y, ys[i]? = some y ∧ R x y
  | _, _, 0, _, .cons h _, e => by cases e; exact ⟨_, rfl, h⟩
  | _, _, n + 1, _, .cons _ k, e => Paired.getL (i := n) k e
  | _, _, _, _, .nil, e => by cases e
theorem Paired.app {α β : Type} {R : α → β → Prop} : ∀ {xs : List α} {ys : List β} {xs' : List α} {ys' : List β}, Paired R xs ys → Paired R xs' ys' → Paired R (xs ++ xs') (ys ++ ys')
  | _, _, _, _, .nil, k => k
  | _, _, _, _, .cons h t, k => .cons h (Paired.app t k)
theorem Paired.set {α β : Type} {R : α → β → Prop} : ∀ {xs : List α} {ys : List β} {i : Nat} {x : α} {y : β}, Paired R xs ys → R x y → Paired R (xs.set i x) (ys.set i y)
  | _, _, 0, _, _, .cons _ k, r => .cons r k
  | _, _, n + 1, _, _, .cons h k, r => .cons h (Paired.set (i := n) k r)
  | _, _, _, _, _, .nil, _ => .nil
end
/-! ### the values that a sequence holds: list (true) or tuple (false) -/
def coSeq : Option CO → Option (Bool × List Vl)
  | some (.lst xs) => some (true, xs)
  | _ => none
def seqD (cs : Cells) : Vl → Option (Bool × List Vl)
  | .dat (.lst ds) => some (true, ds.map .dat)
  | .dat (.tup ds) => some (false, ds.map .dat)
  | .raw (.ref a) => coSeq (cs a)
  | _ => none
theorem rv_dat {K : Frag} {M : Hp} {v : V} {d : Dat} (h : Dr K M v d) : RV K M v (.dat d) := h
theorem rv_raw {K : Frag} {M : Hp} {v : V} : RV K M v (.raw v) := rfl
section
variable {K : Frag} {M H : Hp} {cs : Cells} {v : V} {x : Vl} {xs : List Vl}
theorem seqD_list (o : Ok K M H cs) (r : RV K M v x) (h : seqD cs x = some (true, xs)) : ∃ a vs, v = .ref a ∧ SqL K H a vs ∧ Paired (RV K M) vs xs := by
  match x, r, h with
  | .dat (.lst ds), r, h =>
    cases h
    cases (show Dr K M v (.lst ds) from r) with
    | lst q k => exact ⟨_, _, rfl, o.seqL q, k.paired⟩
  | .dat (.tup ds), r, h => exact nomatch (show some (false, _) = some (true, _) from h)
  | .raw (.ref a), r, h =>
    cases (show v = .ref a from r)
    have h : coSeq (cs a) = some _ := h
    cases e : cs a with
    | none => rw [e] at h; cases h
    | some c =>
      rw [e] at h
      cases c with
      | lst ys =>
        cases h
        obtain ⟨_, u, q, z⟩ := o.cell a _ e
        cases u <;> try exact (show False from z).elim
        exact ⟨a, _, rfl, .inl (.inl q), z⟩
      | _ => cases h
theorem seqD_tup (o : Ok K M H cs) (r : RV K M v x) (h : seqD cs x = some (false, xs)) : ∃ a vs, v = .ref a ∧ SqT K H a vs ∧ Paired (RV K M) vs xs := by
  match x, r, h with
  | .dat (.lst ds), r, h => exact nomatch (show some (true, _) = some (false, _) from h)
  | .dat (.tup ds), r, h =>
    cases h
    cases (show Dr K M v (.tup ds) from r) with
    | tup q k => exact ⟨_, _, rfl, o.seqT q, k.paired⟩
  | .raw (.ref a), r, h =>
    have h : coSeq (cs a) = some _ := h
    cases e : cs a with
    | none => rw [e] at h; cases h
    | some c =>
      rw [e] at h
      cases c <;> cases h
theorem seqD_any (o : Ok K M H cs) (r : RV K M v x) {b : Bool} (h : seqD cs x = some (b, xs)) : ∃ a vs, v = .ref a ∧ (SqL K H a vs ∨ SqT K H a vs) ∧ Paired (RV K M) vs xs := by
  cases b with
  | true => obtain ⟨a, vs, e, q, p⟩ := seqD_list o r h; exact ⟨a, vs, e, .inl q, p⟩
  | false => obtain ⟨a, vs, e, q, p⟩ := seqD_tup o r h; exact ⟨a, vs, e, .inr q, p⟩
end
/-! ### expressions -/
abbrev W2 := Vl → Vl → Cells → (Vl → Cells → Prop) → Prop
abbrev W1 := Vl → Cells → (Vl → Cells → Prop) → Prop
abbrev WN := List Vl → Cells → (Vl → Cells → Prop) → Prop
def wVar (i : Nat) : WE := fun ρ cs P => ∃ x, ρ[i]? = some (some x) ∧ P x cs
def wC (d : Dat) : WE := fun _ cs P => P (.dat d) cs
def wRaw (v : V) : WE := fun _ cs P => P (.raw v) cs
def wOp (r : W2) (wa wb : WE) : WE := fun ρ cs P => wa ρ cs fun x cs1 => wb ρ cs1 fun y cs2 => r x y cs2 P
def wUn (r : W1) (wa : WE) : WE := fun ρ cs P => wa ρ cs fun x cs1 => r x cs1 P
def wNil : WA := fun _ cs P => P [] cs
def wCons (wa : WE) (wr : WA) : WA := fun ρ cs P => wa ρ cs fun x cs1 => wr ρ cs1 fun xs cs2 => P (x :: xs) cs2
def wFn (r : WN) (wa : WA) : WE := fun ρ cs P => wa ρ cs fun xs cs1 => r xs cs1 P
def wTest (we : WE) : WT := fun ρ cs P => we ρ cs fun x cs1 => ∃ k, x = .dat (.bl k) ∧ P k cs1
def wNot (w : WT) : WT := fun ρ cs P => w ρ cs fun b cs1 => P (!b) cs1
def wAnd (w u : WT) : WT := fun ρ cs P => w ρ cs fun b cs1 => if b = true then u ρ cs1 P else P false cs1
def wOr (w u : WT) : WT := fun ρ cs P => w ρ cs fun b cs1 => if b = true then P true cs1 else u ρ cs1 P
def wAndV (w u : WE) : WE := fun ρ cs P => w ρ cs fun x cs1 => ∃ b, x = .dat (.bl b) ∧ if b = true then u ρ cs1 P else P (.dat (.bl false)) cs1
def wOrV (w u : WE) : WE := fun ρ cs P => w ρ cs fun x cs1 => ∃ b, x = .dat (.bl b) ∧ if b = true then P (.dat (.bl true)) cs1 else u ρ cs1 P
def wNotV (w : WE) : WE := fun ρ cs P => w ρ cs fun x cs1 => ∃ b, x = .dat (.bl b) ∧ P (.dat (.bl (!b))) cs1
def wIf (w : WT) (wa wb : WE) : WE := fun ρ cs P => w ρ cs fun b cs1 => if b = true then wa ρ cs1 P else wb ρ cs1 P
def wChain (r r' : W2) (wa wb wc : WE) : WE := fun ρ cs P => wa ρ cs fun x cs1 => wb ρ cs1 fun y cs2 => r x y cs2 fun z cs3 => ∃ k, z = .dat (.bl k) ∧
  if k = true then wc ρ cs3 fun u cs4 => r' y u cs4 P else P (.dat (.bl false)) cs3
def R2Ok (K : Frag) (r : R2) (w : W2) : Prop := ∀ M H cs x y a b P Q, Ok K M H cs → RV K M x a → RV K M y b → w a b cs P → Kont K M P Q → r x y H Q
def R1Ok (K : Frag) (r : V → Hp → VK → Prop) (w : W1) : Prop := ∀ M H cs x a P Q, Ok K M H cs → RV K M x a → w a cs P → Kont K M P Q → r x H Q
def RNOk (K : Frag) (r : List V → Hp → VK → Prop) (w : WN) : Prop := ∀ M H cs xs as P Q, Ok K M H cs → Paired (RV K M) xs as → w as cs P → Kont K M P Q → r xs H Q
theorem inv_int {K : Frag} {M : Hp} {v : V} {i : Int} (h : RV K M v (.dat (.int i))) : v = .int i := by
  cases (show Dr K M v (.int i) from h); rfl
theorem inv_bl {K : Frag} {M : Hp} {v : V} {i : Bool} (h : RV K M v (.dat (.bl i))) : v = .bl i := by
  cases (show Dr K M v (.bl i) from h); rfl
theorem inv_non {K : Frag} {M : Hp} {v : V} (h : RV K M v (.dat .non)) : v = .non := by
  cases (show Dr K M v .non from h); rfl
theorem inv_str {K : Frag} {M : Hp} {v : V} {x : Str} (h : RV K M v (.dat (.str x))) : v = .str x := by
  cases (show Dr K M v (.str x) from h); rfl
section
variable {X : Cx} {a b c e : Expr} {es : List Expr} {wa wb wc we : WE} {w u : WT} {wr : WA} {pos : Pos}
theorem de_var (i : Nat) {x : Str} (hN : X.N[i]? = some x := by rfl) (hv : Vis X.env.scope x := by first | exact Or.inl rfl | exact Or.inr (Or.inl rfl) | exact Or.inr (Or.inr rfl)) (hd : (x == ("__debug__" : Str)) = false := by decide)
    (hcd : (x == ("__classdict__" : Str)) = false := by decide) : DE X (.Name x pos) (wVar i) :=
  pe_imp (pv i hN hv hd hcd) fun σ H Q ⟨M, ρ, cs, P, o, r, ⟨x, ex, p⟩, k⟩ => let ⟨v, ev, rv⟩ := r.at_ i x ex; ⟨v, ev, k v x M H cs (Same.refl _) o rv p⟩
theorem de_c {v : V} {d : Dat} (h : PE X e (tC v)) (hd : ∀ M, Dr X.K M v d) : DE X e (wC d) :=
  pe_imp h fun σ H Q ⟨M, ρ, cs, P, o, r, p, k⟩ => k _ _ M H cs (Same.refl _) o (rv_dat (hd M)) p
theorem de_raw {v : V} (h : PE X e (tC v)) : DE X e (wRaw v) :=
  pe_imp h fun σ H Q ⟨M, ρ, cs, P, o, r, p, k⟩ => k _ _ M H cs (Same.refl _) o rv_raw p
theorem de_int {i : Int} {j : Nat} : DE X (.Constant (.int i) j pos) (wC (.int i)) := de_c pe_int fun _ => .int i
theorem de_bl {b : Bool} {j : Nat} : DE X (.Constant (.bool b) j pos) (wC (.bl b)) := de_c pe_bl fun _ => .bl b
theorem de_non {j : Nat} : DE X (.Constant .none j pos) (wC .non) := de_c pe_non fun _ => .non
theorem de_str {x : Str} {j : Nat} : DE X (.Constant (.str x) j pos) (wC (.str x)) := de_c pe_str fun _ => .str x
theorem de_gint {x : Str} {i : Int} {t : Tok} (hm : X.mg x = some (.int i t)) (hg : Gl X x := by rfl) (hd : (x == ("__debug__" : Str)) = false := by decide) : DE X (.Name x pos) (wC (.int i)) :=
  de_c (v := .int i) (pe_glob hg hm ⟨t, rfl⟩ hd) fun _ => .int i
/-- two parts, from the left -/
theorem lift2 {K : Frag} {r : R2} {w2 : W2} (hr : R2Ok K r w2) {σ : St} {H : Hp} {Q : VK} (h : lift K (wOp w2 wa wb) σ H Q) : tOp r (lift K wa) (lift K wb) σ H Q := by
  obtain ⟨M, ρ, cs, P, o, r0, p, k⟩ := h
  refine ⟨M, ρ, cs, _, o, r0, p, fun v x M1 H1 cs1 s1 o1 r1 p1 => ?_⟩
  refine ⟨M1, ρ, cs1, _, o1, r0.mono s1, p1, fun v2 y M2 H2 cs2 s2 o2 r2 p2 => ?_⟩
  exact hr M2 H2 cs2 v v2 x y P Q o2 (r1.mono s2) r2 p2 (k.mono (s1.trans s2))
theorem de_op {op : Operator} {r : R2} {w2 : W2} (ho : OpR X (binaryOp op) r) (hr : R2Ok X.K r w2) (ha : DE X a wa) (hb : DE X b wb) : DE X (.BinOp a op b pos) (wOp w2 wa wb) := pe_imp (pe_op ho ha hb) fun _ _ _ h => lift2 hr h
theorem de_un {op : UnaryOp} {r : V → Hp → VK → Prop} {w1 : W1} (ho : UnR X (unaryOp op) r) (hr : R1Ok X.K r w1) (ha : DE X a wa) : DE X (.UnaryOp op a pos) (wUn w1 wa) :=
  pe_imp (pe_un ho ha) fun σ H Q ⟨M, ρ, cs, P, o, r0, p, k⟩ => ⟨M, ρ, cs, _, o, r0, p, fun v x M1 H1 cs1 s1 o1 r1 p1 => hr M1 H1 cs1 v x P Q o1 r1 p1 (k.mono s1)⟩
theorem de_cmp {op : CmpOp} {r : R2} {w2 : W2} (ho : OpR X (compareOp op) r) (hr : R2Ok X.K r w2) (ha : DE X a wa) (hb : DE X b wb) (hm : behindInMarks op b = false) : DE X (.Compare a [op] [b] pos) (wOp w2 wa wb) := pe_imp (pe_cmpR ho ha hb hm) fun _ _ _ h => lift2 hr h
theorem dt_cmp {op : CmpOp} {r : R2} {w2 : W2} (ho : OpR X (compareOp op) r) (hr : R2Ok X.K r w2) (ha : DE X a wa) (hb : DE X b wb) (hm : behindInMarks op b = false) : DT X (.Compare a [op] [b] pos) (wTest (wOp w2 wa wb)) :=
  pt_imp (pt_cmpR ho ha hb hm) fun σ H Q ⟨M, ρ, cs, P, o, r0, p, k⟩ => lift2 hr ⟨M, ρ, cs, _, o, r0, p, fun v x M1 H1 cs1 s1 o1 r1 ⟨q, ex, p1⟩ => by
    subst ex
    exact ⟨q, inv_bl r1, k q M1 H1 cs1 s1 o1 p1⟩⟩
theorem liftChain {K : Frag} {r r' : R2} {w2 w2' : W2} (hr : R2Ok K r w2) (hr' : R2Ok K r' w2') {σ : St} {H : Hp} {Q : VK} (h : lift K (wChain w2 w2' wa wb wc) σ H Q) : tChain r r' (lift K wa) (lift K wb) (lift K wc) σ H Q := by
  obtain ⟨M, ρ, cs, P, o, r0, p, k⟩ := h
  refine ⟨M, ρ, cs, _, o, r0, p, fun v x M1 H1 cs1 s1 o1 r1 p1 => ?_⟩
  refine ⟨M1, ρ, cs1, _, o1, r0.mono s1, p1, fun v2 y M2 H2 cs2 s2 o2 r2 p2 => ?_⟩
  refine hr M2 H2 cs2 v v2 x y _ _ o2 (r1.mono s2) r2 p2 fun z zz M3 H3 cs3 s3 o3 r3 ⟨kk, ez, p3⟩ => ?_
  subst ez
  refine ⟨kk, inv_bl r3, ?_⟩
  have s123 := s1.trans (s2.trans s3)
  cases kk with
  | true =>
    refine iteT ?_
    have p3' : wc ρ cs3 fun u cs4 => w2' y u cs4 P := by simpa using p3
    exact ⟨M3, ρ, cs3, _, o3, r0.mono s123, p3', fun v4 y4 M4 H4 cs4 s4 o4 r4 p4 => hr' M4 H4 cs4 v2 v4 y y4 P Q o4 (r2.mono (s3.trans s4)) r4 p4 (k.mono (s123.trans s4))⟩
  | false =>
    refine iteF ?_
    exact k _ _ M3 H3 cs3 s123 o3 (rv_dat (.bl false)) (by simpa using p3)
theorem de_chain {op op' : CmpOp} {r r' : R2} {w2 w2' : W2} (ho : OpR X (compareOp op) r) (hr : R2Ok X.K r w2) (ho' : OpR X (compareOp op') r') (hr' : R2Ok X.K r' w2') (ha : DE X a wa) (hb : DE X b wb) (hc : DE X c wc)
    (hm : lastMarks [op, op'] [b, c] = false := by with_unfolding_all rfl) : DE X (.Compare a [op, op'] [b, c] pos) (wChain w2 w2' wa wb wc) := pe_imp (pe_chain ho ho' ha hb hc hm) fun _ _ _ h => liftChain hr hr' h
theorem dt_chain {op op' : CmpOp} {r r' : R2} {w2 w2' : W2} (ho : OpR X (compareOp op) r) (hr : R2Ok X.K r w2) (ho' : OpR X (compareOp op') r') (hr' : R2Ok X.K r' w2') (ha : DE X a wa) (hb : DE X b wb) (hc : DE X c wc)
    (hm : lastMarks [op, op'] [b, c] = false := by with_unfolding_all rfl) : DT X (.Compare a [op, op'] [b, c] pos) (wTest (wChain w2 w2' wa wb wc)) :=
  pt_imp (pt_chain ho ho' ha hb hc hm) fun σ H Q ⟨M, ρ, cs, P, o, r0, p, k⟩ => liftChain hr hr' ⟨M, ρ, cs, _, o, r0, p, fun v x M1 H1 cs1 s1 o1 r1 ⟨q, ex, p1⟩ => by
    subst ex
    exact ⟨q, inv_bl r1, k q M1 H1 cs1 s1 o1 p1⟩⟩
theorem dt_val (h : DE X e we) (he : ∀ whole, isTrue e X.env whole = (do let v ← whole; standAt e.pos; holding [v] (truthy v)) := by intro _; rfl) : DT X e (wTest we) :=
  pt_imp (pt_val h he) fun σ H Q ⟨M, ρ, cs, P, o, r0, p, k⟩ => ⟨M, ρ, cs, _, o, r0, p, fun v x M1 H1 cs1 s1 o1 r1 ⟨q, ex, p1⟩ => by
    subst ex
    exact ⟨q, inv_bl r1, k q M1 H1 cs1 s1 o1 p1⟩⟩
theorem dt_not (h : DT X a w) : DT X (.UnaryOp .Not a pos) (wNot w) :=
  pt_imp (pt_not h) fun σ H Q ⟨M, ρ, cs, P, o, r0, p, k⟩ => ⟨M, ρ, cs, _, o, r0, p, fun b M1 H1 cs1 s1 o1 p1 => k (!b) M1 H1 cs1 s1 o1 p1⟩
theorem dw_and1 (h : DT X a w) : DW X (.BoolOp .And [a] pos) w := pw_and1 h
theorem dw_or1 (h : DT X a w) : DW X (.BoolOp .Or [a] pos) w := pw_or1 h
theorem DW.dt (h : DW X e w) : DT X e w := PW.pt h
theorem dw_and {rest : List Expr} (ha : DT X a w) (hb : DW X (.BoolOp .And (b :: rest) pos) u) : DW X (.BoolOp .And (a :: b :: rest) pos) (wAnd w u) :=
  pw_imp (pw_and ha hb) fun σ H Q ⟨M, ρ, cs, P, o, r0, p, k⟩ => ⟨M, ρ, cs, _, o, r0, p, fun b M1 H1 cs1 s1 o1 p1 => by
    cases b with
    | true => exact iteT ⟨M1, ρ, cs1, P, o1, r0.mono s1, by simpa using p1, k.mono s1⟩
    | false => exact iteF (k false M1 H1 cs1 s1 o1 (by simpa using p1))⟩
theorem dw_or {rest : List Expr} (ha : DT X a w) (hb : DW X (.BoolOp .Or (b :: rest) pos) u) : DW X (.BoolOp .Or (a :: b :: rest) pos) (wOr w u) :=
  pw_imp (pw_or ha hb) fun σ H Q ⟨M, ρ, cs, P, o, r0, p, k⟩ => ⟨M, ρ, cs, _, o, r0, p, fun b M1 H1 cs1 s1 o1 p1 => by
    cases b with
    | true => exact iteT (k true M1 H1 cs1 s1 o1 (by simpa using p1))
    | false => exact iteF ⟨M1, ρ, cs1, P, o1, r0.mono s1, by simpa using p1, k.mono s1⟩⟩
theorem de_one {op : BoolOp} (h : DE X a wa) : DE X (.BoolOp op [a] pos) wa := pe_one h
theorem de_and {rest : List Expr} (ha : DE X a wa) (hb : DE X (.BoolOp .And (b :: rest) pos) wb) : DE X (.BoolOp .And (a :: b :: rest) pos) (wAndV wa wb) :=
  pe_imp (pe_and ha hb) fun σ H Q ⟨M, ρ, cs, P, o, r0, p, k⟩ => ⟨M, ρ, cs, _, o, r0, p, fun v x M1 H1 cs1 s1 o1 r1 ⟨q, ex, p1⟩ => by
    subst ex
    refine ⟨q, inv_bl r1, ?_⟩
    cases q with
    | true => exact iteT ⟨M1, ρ, cs1, P, o1, r0.mono s1, by simpa using p1, k.mono s1⟩
    | false => exact iteF (k _ _ M1 H1 cs1 s1 o1 (rv_dat (.bl false)) (by simpa using p1))⟩
theorem de_or {rest : List Expr} (ha : DE X a wa) (hb : DE X (.BoolOp .Or (b :: rest) pos) wb) : DE X (.BoolOp .Or (a :: b :: rest) pos) (wOrV wa wb) :=
  pe_imp (pe_or ha hb) fun σ H Q ⟨M, ρ, cs, P, o, r0, p, k⟩ => ⟨M, ρ, cs, _, o, r0, p, fun v x M1 H1 cs1 s1 o1 r1 ⟨q, ex, p1⟩ => by
    subst ex
    refine ⟨q, inv_bl r1, ?_⟩
    cases q with
    | true => exact iteT (k _ _ M1 H1 cs1 s1 o1 (rv_dat (.bl true)) (by simpa using p1))
    | false => exact iteF ⟨M1, ρ, cs1, P, o1, r0.mono s1, by simpa using p1, k.mono s1⟩⟩
theorem de_not (ha : DE X a wa) : DE X (.UnaryOp .Not a pos) (wNotV wa) :=
  pe_imp (pe_not ha) fun σ H Q ⟨M, ρ, cs, P, o, r0, p, k⟩ => ⟨M, ρ, cs, _, o, r0, p, fun v x M1 H1 cs1 s1 o1 r1 ⟨q, ex, p1⟩ => by
    subst ex
    exact ⟨q, inv_bl r1, k _ _ M1 H1 cs1 s1 o1 (rv_dat (.bl _)) p1⟩⟩
theorem de_if (hc : DT X c w) (ha : DE X a wa) (hb : DE X b wb) : DE X (.IfExp c a b pos) (wIf w wa wb) :=
  pe_imp (pe_ifExp hc ha hb) fun σ H Q ⟨M, ρ, cs, P, o, r0, p, k⟩ => ⟨M, ρ, cs, _, o, r0, p, fun b M1 H1 cs1 s1 o1 p1 => by
    cases b with
    | true => exact iteT ⟨M1, ρ, cs1, P, o1, r0.mono s1, by simpa using p1, k.mono s1⟩
    | false => exact iteF ⟨M1, ρ, cs1, P, o1, r0.mono s1, by simpa using p1, k.mono s1⟩⟩
theorem da_nil : DA X [] wNil := pa_imp pa_nil fun σ H Q ⟨M, ρ, cs, P, o, r0, p, k⟩ => k [] [] M H cs (Same.refl _) o .nil p
end
end DL
set_option maxRecDepth 100000
set_option maxHeartbeats 4000000
namespace DL
open PySem L2
/-! ### operators on ints -/
def wI (C : Int → Int → Prop) (g : Int → Int → Dat) : W2 := fun x y cs P => ∃ i j, x = .dat (.int i) ∧ y = .dat (.int j) ∧ C i j ∧ P (.dat (g i j)) cs
def wI0 (g : Int → Int → Dat) : W2 := fun x y cs P => ∃ i j, x = .dat (.int i) ∧ y = .dat (.int j) ∧ P (.dat (g i j)) cs
theorem r2_I {K : Frag} {C : Int → Int → Prop} {f : Int → Int → V} {g : Int → Int → Dat} (h : ∀ M i j, Dr K M (f i j) (g i j)) : R2Ok K (rI C f) (wI C g) :=
  fun M H cs x y a b P Q o rx ry ⟨i, j, ea, eb, c, p⟩ k => by
    subst ea eb
    exact ⟨i, j, inv_int rx, inv_int ry, c, k _ _ M H cs (Same.refl _) o (rv_dat (h M i j)) p⟩
theorem r2_I0 {K : Frag} {f : Int → Int → V} {g : Int → Int → Dat} (h : ∀ M i j, Dr K M (f i j) (g i j)) : R2Ok K (rI0 f) (wI0 g) :=
  fun M H cs x y a b P Q o rx ry ⟨i, j, ea, eb, p⟩ k => by
    subst ea eb
    exact ⟨i, j, inv_int rx, inv_int ry, k _ _ M H cs (Same.refl _) o (rv_dat (h M i j)) p⟩
abbrev wAdd : W2 := wI0 fun i j => .int (i + j)
abbrev wSub : W2 := wI0 fun i j => .int (i - j)
abbrev wMul : W2 := wI CMul fun i j => .int (i * j)
abbrev wDiv : W2 := wI CDivW fun i j => .int (i / j)
abbrev wMod : W2 := wI (fun _ j => 0 < j) fun i j => .int (i % j)
abbrev wPow : W2 := wI CPow fun i j => .int (i ^ j.toNat)
abbrev wLt : W2 := wI0 fun i j => .bl (decide (i < j))
abbrev wLe : W2 := wI0 fun i j => .bl (decide (i ≤ j))
abbrev wGt : W2 := wI0 fun i j => .bl (decide (j < i))
abbrev wGe : W2 := wI0 fun i j => .bl (decide (j ≤ i))
def wNeg : W1 := fun x cs P => ∃ i, x = .dat (.int i) ∧ P (.dat (.int (-i))) cs
section
variable {X : Cx} {a b c e : Expr} {es : List Expr} {wa wb wc we : WE} {w u : WT} {wr : WA} {pos : Pos}
theorem de_add (ha : DE X a wa) (hb : DE X b wb) : DE X (.BinOp a .Add b pos) (wOp wAdd wa wb) := de_op op_add (r2_I0 fun _ _ _ => .int _) ha hb
theorem de_sub (ha : DE X a wa) (hb : DE X b wb) : DE X (.BinOp a .Sub b pos) (wOp wSub wa wb) := de_op op_sub (r2_I0 fun _ _ _ => .int _) ha hb
theorem de_mul (ha : DE X a wa) (hb : DE X b wb) : DE X (.BinOp a .Mult b pos) (wOp wMul wa wb) := de_op op_mul (r2_I fun _ _ _ => .int _) ha hb
theorem de_div (ha : DE X a wa) (hb : DE X b wb) : DE X (.BinOp a .FloorDiv b pos) (wOp wDiv wa wb) := de_op op_fdivW (r2_I fun _ _ _ => .int _) ha hb
theorem de_mod (ha : DE X a wa) (hb : DE X b wb) : DE X (.BinOp a .Mod b pos) (wOp wMod wa wb) := de_op op_mod (r2_I fun _ _ _ => .int _) ha hb
theorem de_pow (ha : DE X a wa) (hb : DE X b wb) : DE X (.BinOp a .Pow b pos) (wOp wPow wa wb) := de_op op_pow (r2_I fun _ _ _ => .int _) ha hb
theorem de_neg (ha : DE X a wa) : DE X (.UnaryOp .USub a pos) (wUn wNeg wa) := de_un un_neg (fun M H cs x a P Q o rx ⟨i, ea, p⟩ k => by
  subst ea
  exact ⟨i, inv_int rx, k _ _ M H cs (Same.refl _) o (rv_dat (.int _)) p⟩) ha
/-- the four comparisons of ints: the operator's rule with its data -/
structure CmpD (X : Cx) (op : CmpOp) (w2 : W2) : Prop where
  ex : ∃ r, OpR X (compareOp op) r ∧ R2Ok X.K r w2
  nm : op ≠ .In ∧ op ≠ .NotIn
theorem c_lt : CmpD X .Lt wLt := ⟨⟨_, op_lt, r2_I0 fun _ _ _ => .bl _⟩, by decide⟩
theorem c_le : CmpD X .LtE wLe := ⟨⟨_, op_le, r2_I0 fun _ _ _ => .bl _⟩, by decide⟩
theorem c_gt : CmpD X .Gt wGt := ⟨⟨_, op_gt, r2_I0 fun _ _ _ => .bl _⟩, by decide⟩
theorem c_ge : CmpD X .GtE wGe := ⟨⟨_, op_ge, r2_I0 fun _ _ _ => .bl _⟩, by decide⟩
theorem de_cmpD {op : CmpOp} {w2 : W2} (h : CmpD X op w2) (ha : DE X a wa) (hb : DE X b wb) : DE X (.Compare a [op] [b] pos) (wOp w2 wa wb) := by
  obtain ⟨⟨r, ho, hr⟩, m1, m2⟩ := h
  exact de_cmp ho hr ha hb (nomark b m1 m2)
theorem dt_cmpD {op : CmpOp} {w2 : W2} (h : CmpD X op w2) (ha : DE X a wa) (hb : DE X b wb) : DT X (.Compare a [op] [b] pos) (wTest (wOp w2 wa wb)) := by
  obtain ⟨⟨r, ho, hr⟩, m1, m2⟩ := h
  exact dt_cmp ho hr ha hb (nomark b m1 m2)
theorem dt_chainD {op op' : CmpOp} {w2 w2' : W2} (h : CmpD X op w2) (h' : CmpD X op' w2') (ha : DE X a wa) (hb : DE X b wb) (hc : DE X c wc) (hm : lastMarks [op, op'] [b, c] = false := by with_unfolding_all rfl) : DT X (.Compare a [op, op'] [b, c] pos) (wTest (wChain w2 w2' wa wb wc)) := by
  obtain ⟨⟨r, ho, hr⟩, _⟩ := h
  obtain ⟨⟨r', ho', hr'⟩, _⟩ := h'
  exact dt_chain ho hr ho' hr' ha hb hc hm
theorem de_chainD {op op' : CmpOp} {w2 w2' : W2} (h : CmpD X op w2) (h' : CmpD X op' w2') (ha : DE X a wa) (hb : DE X b wb) (hc : DE X c wc) (hm : lastMarks [op, op'] [b, c] = false := by with_unfolding_all rfl) : DE X (.Compare a [op, op'] [b, c] pos) (wChain w2 w2' wa wb wc) := by
  obtain ⟨⟨r, ho, hr⟩, _⟩ := h
  obtain ⟨⟨r', ho', hr'⟩, _⟩ := h'
  exact de_chain ho hr ho' hr' ha hb hc hm
/-! ### is None -/
def isNon : Vl → Bool
  | .dat .non => true
  | .raw .non => true
  | _ => false
theorem isNon_ok {K : Frag} {M : Hp} {v : V} {x : Vl} (r : RV K M v x) : decide (v = .non) = isNon x := by
  cases x with
  | dat d => cases (show Dr K M v d from r) <;> rfl
  | raw u =>
    cases (show v = u from r)
    cases v <;> rfl
def wIsN : W2 := fun x y cs P => y = .dat .non ∧ P (.dat (.bl (isNon x))) cs
def wNotN : W2 := fun x y cs P => y = .dat .non ∧ P (.dat (.bl (!isNon x))) cs
theorem c_isN : CmpD X .Is wIsN := ⟨⟨_, op_isN, fun M H cs x y a b P Q o rx ry ⟨e, p⟩ k => by
  subst e
  refine ⟨inv_non ry, ?_⟩
  rw [isNon_ok rx]
  exact k _ _ M H cs (Same.refl _) o (rv_dat (.bl _)) p⟩, by decide⟩
theorem c_notN : CmpD X .IsNot wNotN := ⟨⟨_, op_notN, fun M H cs x y a b P Q o rx ry ⟨e, p⟩ k => by
  subst e
  refine ⟨inv_non ry, ?_⟩
  rw [isNon_ok rx]
  exact k _ _ M H cs (Same.refl _) o (rv_dat (.bl _)) p⟩, by decide⟩
/-! ### == and != of data -/
mutual
def Dat.py : Dat → Option PyData
  | .non => some .none
  | .bl b => some (.bool b)
  | .int i => some (.int i)
  | .str x => some (.str x)
  | .lst xs => (Dat.pys xs).map .list
  | .tup xs => (Dat.pys xs).map .tuple
  | .obj _ _ => none
def Dat.pys : List Dat → Option (List PyData)
  | [] => some []
  | d :: ds => match Dat.py d, Dat.pys ds with
    | some p, some ps => some (p :: ps)
    | _, _ => none
end
mutual
theorem Dr.dp {K : Frag} {M : Hp} : ∀ (d : Dat) {v : V} {p : PyData}, Dr K M v d → d.py = some p → Dp K M v p
  | .non, _, _, h, e => by cases h; cases e; exact .non
  | .bl b, _, _, h, e => by cases h; cases e; exact .bl b
  | .int i, _, _, h, e => by cases h; cases e; exact .int i
  | .str x, _, _, h, e => by cases h; cases e; exact .str x
  | .lst xs, _, _, h, e => by
    cases h with
    | lst q k =>
      unfold Dat.py at e
      obtain ⟨ps, e1, rfl⟩ := Option.map_eq_some_iff.mp e
      exact .lst q (DrAll.dp xs k e1)
  | .tup xs, _, _, h, e => by
    cases h with
    | tup q k =>
      unfold Dat.py at e
      obtain ⟨ps, e1, rfl⟩ := Option.map_eq_some_iff.mp e
      exact .tup q (DrAll.dp xs k e1)
  | .obj _ _, _, _, _, e => by cases e
theorem DrAll.dp {K : Frag} {M : Hp} : ∀ (ds : List Dat) {vs : List V} {ps : List PyData}, DrAll K M vs ds → Dat.pys ds = some ps → DpAll K M vs ps
  | [], _, _, h, e => by cases h; cases e; exact .nil
  | d :: ds, _, _, h, e => by
    cases h with
    | cons h k =>
      unfold Dat.pys at e
      split at e
      · rename_i p ps e1 e2
        cases e
        exact .cons (Dr.dp d h e1) (DrAll.dp ds k e2)
      · cases e
end
mutual
theorem dp_mono {K : Frag} {M M' : Hp} (s : Same M M') : ∀ {v : V} {d : PyData}, Dp K M v d → Dp K M' v d
  | _, _, .non => .non
  | _, _, .bl b => .bl b
  | _, _, .int i => .int i
  | _, _, .str x => .str x
  | _, _, .lst h k => .lst (sqL_mono s h) (dpAll_mono s k)
  | _, _, .tup h k => .tup (sqT_mono s h) (dpAll_mono s k)
theorem dpAll_mono {K : Frag} {M M' : Hp} (s : Same M M') : ∀ {v : List V} {d : List PyData}, DpAll K M v d → DpAll K M' v d
  | _, _, .nil => .nil
  | _, _, .cons h k => .cons (dp_mono s h) (dpAll_mono s k)
end
/-- the data that stands behind a value, a cell's list too -/
def allDat : List Vl → Option (List Dat)
  | [] => some []
  | .dat d :: r => (allDat r).map (d :: ·)
  | _ => none
def coDat : Option CO → Option Dat
  | some (.lst xs) => (allDat xs).map .lst
  | _ => none
def seen (cs : Cells) : Vl → Option Dat
  | .dat d => some d
  | .raw (.ref a) => coDat (cs a)
  | _ => none
theorem allDat_eq : ∀ {xs : List Vl} {ds : List Dat}, allDat xs = some ds → xs = ds.map .dat
  | [], _, h => by cases h; rfl
  | .dat d :: r, _, h => by
    unfold allDat at h
    obtain ⟨es, e1, rfl⟩ := Option.map_eq_some_iff.mp h
    rw [allDat_eq e1]; rfl
  | .raw _ :: _, _, h => by cases h
theorem allDat_map : ∀ (ds : List Dat), allDat (ds.map .dat) = some ds
  | [] => rfl
  | d :: ds => by show (allDat (ds.map .dat)).map (d :: ·) = _; rw [allDat_map ds]; rfl
theorem seen_dp {K : Frag} {M H : Hp} {cs : Cells} {v : V} {x : Vl} {d : Dat} {p : PyData} (o : Ok K M H cs) (r : RV K M v x) (h : seen cs x = some d) (e : d.py = some p) : Dp K H v p := by
  match x, r, h with
  | .dat d', r, h =>
    cases h
    exact dp_mono o.ex (Dr.dp _ r e)
  | .raw (.ref a), r, h =>
    cases (show v = .ref a from r)
    have h : coDat (cs a) = some d := h
    cases q : cs a with
    | none => rw [q] at h; cases h
    | some c =>
      rw [q] at h
      cases c with
      | lst ys =>
        obtain ⟨es, e1, rfl⟩ := Option.map_eq_some_iff.mp (show (allDat ys).map Dat.lst = some d from h)
        obtain ⟨_, u, hu, z⟩ := o.cell a _ q
        cases u <;> try exact (show False from z).elim
        rw [allDat_eq e1] at z
        unfold Dat.py at e
        obtain ⟨ps, e2, rfl⟩ := Option.map_eq_some_iff.mp e
        exact .lst (.inl (.inl hu)) (dpAll_mono o.ex (DrAll.dp _ (DrAll.of_paired z) e2))
      | _ => cases h
def wEqD (neg : Bool) : W2 := fun x y cs P => ∃ d e p q, seen cs x = some d ∧ seen cs y = some e ∧ d.py = some p ∧ e.py = some q ∧ SeqAt.shaped p = true ∧ SeqAt.shaped q = true ∧ P (.dat (.bl (if neg then !PyData.eqv p q else PyData.eqv p q))) cs
theorem c_eq (hu : X.A.units + 64 < cLine) : CmpD X .Eq (wEqD false) := ⟨⟨_, op_eqD hu, fun M H cs x y a b P Q o rx ry ⟨d, e, p, q, h1, h2, h3, h4, s1, s2, h⟩ k =>
  ⟨p, q, seen_dp o rx h1 h3, seen_dp o ry h2 h4, s1, s2, k _ _ M H cs (Same.refl _) o (rv_dat (.bl _)) (by simpa using h)⟩⟩, by decide⟩
theorem c_ne (hu : X.A.units + 64 < cLine) : CmpD X .NotEq (wEqD true) := ⟨⟨_, op_neD hu, fun M H cs x y a b P Q o rx ry ⟨d, e, p, q, h1, h2, h3, h4, s1, s2, h⟩ k =>
  ⟨p, q, seen_dp o rx h1 h3, seen_dp o ry h2 h4, s1, s2, k _ _ M H cs (Same.refl _) o (rv_dat (.bl _)) (by simpa using h)⟩⟩, by decide⟩
/-! ### x in a sequence of flat things -/
def flatD : Vl → Option V
  | .dat .non => some .non
  | .dat (.bl b) => some (.bl b)
  | .dat (.int i) => some (.int i)
  | .dat (.str x) => some (.str x)
  | _ => none
def flatsD : List Vl → Option (List V)
  | [] => some []
  | x :: r => match flatD x, flatsD r with
    | some v, some vs => some (v :: vs)
    | _, _ => none
theorem flatD_ok {K : Frag} {M : Hp} {v u : V} {x : Vl} (r : RV K M v x) (h : flatD x = some u) : v = u ∧ flatV u = true := by
  match x, r, h with
  | .dat .non, r, h => cases h; exact ⟨inv_non r, rfl⟩
  | .dat (.bl b), r, h => cases h; exact ⟨inv_bl r, rfl⟩
  | .dat (.int i), r, h => cases h; exact ⟨inv_int r, rfl⟩
  | .dat (.str s), r, h => cases h; exact ⟨inv_str r, rfl⟩
theorem flatsD_ok {K : Frag} {M : Hp} : ∀ {vs us : List V} {xs : List Vl}, Paired (RV K M) vs xs → flatsD xs = some us → vs = us ∧ us.all flatV = true
  | _, _, _, .nil, h => by cases h; exact ⟨rfl, rfl⟩
  | _, _, _, .cons r k, h => by
    unfold flatsD at h
    split at h
    · rename_i v vs e1 e2
      cases h
      obtain ⟨h1, h2⟩ := flatD_ok r e1
      obtain ⟨h3, h4⟩ := flatsD_ok k e2
      exact ⟨by rw [h1, h3], by rw [List.all_cons, h2, h4]; rfl⟩
    · cases h
def wIn (neg : Bool) : W2 := fun x y cs P => ∃ b ys u us, seqD cs y = some (b, ys) ∧ flatD x = some u ∧ flatsD ys = some us ∧ P (.dat (.bl (if neg then !inV u us else inV u us))) cs
theorem r2_in {K : Frag} {neg : Bool} : R2Ok K (rIn K neg) (wIn neg) := fun M H cs x y a b P Q o rx ry ⟨bb, ys, u, us, h1, h2, h3, p⟩ k => by
  obtain ⟨ad, vs, e, q, pr⟩ := seqD_any o ry h1
  obtain ⟨e2, f2⟩ := flatD_ok rx h2
  obtain ⟨e3, f3⟩ := flatsD_ok pr h3
  subst e e2 e3
  exact ⟨ad, vs, rfl, q, f2, f3, k _ _ M H cs (Same.refl _) o (rv_dat (.bl _)) p⟩
theorem de_in (ha : DE X a wa) (hb : DE X b wb) (hm : behindInMarks .In b = false := by rfl) : DE X (.Compare a [.In] [b] pos) (wOp (wIn false) wa wb) := de_cmp op_in_seq r2_in ha hb hm
theorem dt_in (ha : DE X a wa) (hb : DE X b wb) (hm : behindInMarks .In b = false := by rfl) : DT X (.Compare a [.In] [b] pos) (wTest (wOp (wIn false) wa wb)) := dt_cmp op_in_seq r2_in ha hb hm
theorem de_notin (ha : DE X a wa) (hb : DE X b wb) (hm : behindInMarks .NotIn b = false := by rfl) : DE X (.Compare a [.NotIn] [b] pos) (wOp (wIn true) wa wb) := de_cmp op_notIn_seq r2_in ha hb hm
theorem dt_notin (ha : DE X a wa) (hb : DE X b wb) (hm : behindInMarks .NotIn b = false := by rfl) : DT X (.Compare a [.NotIn] [b] pos) (wTest (wOp (wIn true) wa wb)) := dt_cmp op_notIn_seq r2_in ha hb hm
/-! ### arguments, tuples, lists -/
theorem da_cons (ha : DE X e we) (hr : DA X es wr) (hs : starEach (e :: es) X.env = (false, eval e X.env) :: starEach es X.env := by rfl) : DA X (e :: es) (wCons we wr) :=
  pa_imp (pa_cons ha hr hs) fun σ H Q ⟨M, ρ, cs, P, o, r0, p, k⟩ => ⟨M, ρ, cs, _, o, r0, p, fun v x M1 H1 cs1 s1 o1 r1 p1 =>
    ⟨M1, ρ, cs1, _, o1, r0.mono s1, p1, fun vs xs M2 H2 cs2 s2 o2 r2 p2 => k _ _ M2 H2 cs2 (s1.trans s2) o2 (.cons (r1.mono s2) r2) p2⟩⟩
/-- a new tuple: data alone -/
def wTup (wa : WA) : WE := fun ρ cs P => wa ρ cs fun xs cs1 => ∃ ds, allDat xs = some ds ∧ ds.length ≤ 16777216 ∧ P (.dat (.tup ds)) cs1
/-- a new list: a cell, or data for ever -/
def newL (xs : List Vl) (cs : Cells) (P : Vl → Cells → Prop) : Prop := (∀ p, cs p = none → P (.cell p) (cs.put p (.lst xs))) ∨ ∃ ds, allDat xs = some ds ∧ P (.dat (.lst ds)) cs
def wLst (wa : WA) : WE := fun ρ cs P => wa ρ cs fun xs cs1 => xs.length ≤ 16777216 ∧ newL xs cs1 P
theorem size_line {n : Nat} (h : n ≤ 16777216) : n ≤ sizeLine := by rw [sizeLine_eq]; exact h
theorem newT_ok {K : Frag} {M H : Hp} {cs : Cells} {P : Vl → Cells → Prop} {Q : VK} {vs : List V} {ds : List Dat} (o : Ok K M H cs) (r : Paired (RV K M) vs (ds.map .dat)) (p : P (.dat (.tup ds)) cs) (k : Kont K M P Q) : ∀ q, H q = none → Q (.ref q) (upd H q (.tup vs)) := fun q hq => by
  obtain ⟨s, o'⟩ := o.newM hq (.tup vs)
  exact k _ _ _ _ cs s o' (rv_dat (.tup (.inl (.inl upd_same)) ((DrAll.of_paired r).mono s))) p
theorem newL_ok {K : Frag} {M H : Hp} {cs : Cells} {P : Vl → Cells → Prop} {Q : VK} {vs : List V} {xs : List Vl} (o : Ok K M H cs) (r : Paired (RV K M) vs xs) (p : newL xs cs P) (k : Kont K M P Q) : ∀ q, H q = none → Q (.ref q) (upd H q (.lst vs)) := fun q hq => by
  rcases p with p | ⟨ds, e, p⟩
  · exact k _ _ M _ _ (Same.refl _) (o.newC hq (c := .lst xs) r) rv_raw (p q (o.freeC hq))
  · obtain ⟨s, o'⟩ := o.newM hq (.lst vs)
    rw [allDat_eq e] at r
    exact k _ _ _ _ cs s o' (rv_dat (.lst (.inl (.inl upd_same)) ((DrAll.of_paired r).mono s))) p
theorem de_tup {x1 : Nat} (h : DA X es wr) : DE X (.Tuple es x1 pos) (wTup wr) :=
  pe_imp (pe_tup h) fun σ H Q ⟨M, ρ, cs, P, o, r0, p, k⟩ => ⟨M, ρ, cs, _, o, r0, p, fun vs xs M1 H1 cs1 s1 o1 r1 ⟨ds, e, hz, p1⟩ => by
    have e' := allDat_eq e
    subst e'
    exact ⟨by rw [Paired.len r1, List.length_map]; exact size_line hz, newT_ok o1 r1 p1 (k.mono s1)⟩⟩
theorem de_lst (h : DA X es wr) : DE X (.List es pos) (wLst wr) :=
  pe_imp (pe_lst h) fun σ H Q ⟨M, ρ, cs, P, o, r0, p, k⟩ => ⟨M, ρ, cs, _, o, r0, p, fun vs xs M1 H1 cs1 s1 o1 r1 ⟨hz, p1⟩ =>
    ⟨by rw [Paired.len r1]; exact size_line hz, newL_ok o1 r1 p1 (k.mono s1)⟩⟩
/-! ### items -/
theorem paired_atI {K : Frag} {M : Hp} {vs : List V} {xs : List Vl} {i : Int} {x : Vl} (r : Paired (RV K M) vs xs) (h : atI xs i = some x) : ∃ v, atI vs i = some v ∧ RV K M v x := by
  unfold atI at h ⊢
  rw [Paired.len r]
  cases e : ixN xs.length i with
  | none => rw [e] at h; cases h
  | some j =>
    rw [e] at h
    exact Paired.getR r h
/-- x[i] of a list or a tuple -/
def wIx : W2 := fun x y cs P => ∃ b xs i z, seqD cs x = some (b, xs) ∧ y = .dat (.int i) ∧ atI xs i = some z ∧ P z cs
theorem r2_ix {K : Frag} : R2Ok K (rIx K) wIx := fun M H cs x y a b P Q o rx ry ⟨bb, xs, i, z, h1, ey, h2, p⟩ k => by
  subst ey
  cases bb with
  | true =>
    obtain ⟨ad, vs, e, q, pr⟩ := seqD_list o rx h1
    obtain ⟨v, hv, rv⟩ := paired_atI pr h2
    exact .inl ⟨ad, vs, i, v, e, inv_int ry, q, hv, k _ _ M H cs (Same.refl _) o rv p⟩
  | false =>
    obtain ⟨ad, vs, e, q, pr⟩ := seqD_tup o rx h1
    obtain ⟨v, hv, rv⟩ := paired_atI pr h2
    exact .inr (.inl ⟨ad, vs, i, v, e, inv_int ry, q, hv, k _ _ M H cs (Same.refl _) o rv p⟩)
theorem de_ix (ha : DE X a wa) (hb : DE X b wb) (hs : PlainIx b := by exact fun _ _ => rfl) : DE X (.Subscript a b pos) (wOp wIx wa wb) := pe_imp (pe_ix ix_seq ha hb hs) fun _ _ _ h => lift2 r2_ix h
/-! ### built-ins by name -/
theorem liftN {K : Frag} {r : List V → Hp → VK → Prop} {wn : WN} (hr : RNOk K r wn) {σ : St} {H : Hp} {Q : VK} (h : lift K (wFn wn wr) σ H Q) : tCB r (liftA K wr) σ H Q := by
  obtain ⟨M, ρ, cs, P, o, r0, p, k⟩ := h
  exact ⟨M, ρ, cs, _, o, r0, p, fun vs xs M1 H1 cs1 s1 o1 r1 p1 => hr M1 H1 cs1 vs xs P Q o1 r1 p1 (k.mono s1)⟩
theorem de_callB {x : Str} {id : String} {r : List V → Hp → VK → Prop} {wn : WN} {p : Pos} (hc : CallR X (.builtin id) r) (hr : RNOk X.K r wn) (hm : X.mg x = none) (hv : bootBuiltins x = some (.builtin id)) (ha : DA X (e :: es) wr) (hg : Gl X x := by rfl) (hn : x ≠ "__name__" := by decide) (hdb : (x == ("__debug__" : Str)) = false := by decide)
    (he : starEach (e :: es) X.env = (false, eval e X.env) :: starEach es X.env := by rfl) (hpl : (backTo pos (starEach es X.env)).any (·.1) = false := by rfl) : DE X (.Call (.Name x p) (e :: es) [] pos) (wFn wn wr) :=
  pe_imp (pe_callB hc hg hm hv ha hn hdb he hpl) fun _ _ _ h => liftN hr h
theorem de_callTy {x : Str} {T : String} {r : List V → Hp → VK → Prop} {wn : WN} {p : Pos} (hc : CallR X (.type T) r) (hr : RNOk X.K r wn) (hm : X.mg x = none) (hv : bootBuiltins x = some (.type T)) (ha : DA X (e :: es) wr) (hg : Gl X x := by rfl) (hn : x ≠ "__name__" := by decide) (hdb : (x == ("__debug__" : Str)) = false := by decide)
    (he : starEach (e :: es) X.env = (false, eval e X.env) :: starEach es X.env := by rfl) (hpl : (backTo pos (starEach es X.env)).any (·.1) = false := by rfl) : DE X (.Call (.Name x p) (e :: es) [] pos) (wFn wn wr) :=
  pe_imp (pe_callTy hc hg hm hv ha hn hdb he hpl) fun _ _ _ h => liftN hr h
def wLen : WN := fun xs cs P => ∃ x b ys, xs = [x] ∧ seqD cs x = some (b, ys) ∧ P (.dat (.int (ys.length : Int))) cs
theorem rn_len {K : Frag} : RNOk K (fun xs H Q => ∃ p ys, xs = [.ref p] ∧ (SqL K H p ys ∨ SqT K H p ys) ∧ Q (.int ys.length) H) wLen := fun M H cs xs as P Q o r ⟨x, b, ys, e, h, p⟩ k => by
  subst e
  cases r with
  | cons r1 rr =>
    cases rr
    obtain ⟨ad, vs, e, q, pr⟩ := seqD_any o r1 h
    subst e
    exact ⟨ad, vs, rfl, q, by rw [Paired.len pr]; exact k _ _ M H cs (Same.refl _) o (rv_dat (.int _)) p⟩
theorem de_len {p : Pos} (hm : X.mg "len" = none) (ha : DA X [e] wr) (hg : Gl X "len" := by rfl) (he : starEach [e] X.env = (false, eval e X.env) :: starEach [] X.env := by rfl) (hpl : (backTo pos (starEach [] X.env)).any (·.1) = false := by rfl) :
    DE X (.Call (.Name "len" p) [e] [] pos) (wFn wLen wr) := de_callB call_len_seq rn_len hm PySem.boot_len ha hg (by decide) (by decide) he hpl
def wMax2 : WN := fun xs cs P => ∃ i j, xs = [.dat (.int i), .dat (.int j)] ∧ P (.dat (.int (if j > i then j else i))) cs
def wMin2 : WN := fun xs cs P => ∃ i j, xs = [.dat (.int i), .dat (.int j)] ∧ P (.dat (.int (if j < i then j else i))) cs
theorem rn_II {K : Frag} {f : Int → Int → Int} : RNOk K (fun xs H Q => ∃ i j, xs = [.int i, .int j] ∧ Q (.int (f i j)) H) (fun xs cs P => ∃ i j, xs = [.dat (.int i), .dat (.int j)] ∧ P (.dat (.int (f i j))) cs) := fun M H cs xs as P Q o r ⟨i, j, e, p⟩ k => by
  subst e
  cases r with
  | cons r1 rr =>
    cases rr with
    | cons r2 rr =>
      cases rr
      exact ⟨i, j, by rw [inv_int r1, inv_int r2], k _ _ M H cs (Same.refl _) o (rv_dat (.int _)) p⟩
theorem de_max2 {p : Pos} {a b : Expr} (hc : X.calm = true) (hm : X.mg "max" = none) (ha : DA X [a, b] wr) (hg : Gl X "max" := by rfl) (he : starEach [a, b] X.env = (false, eval a X.env) :: starEach [b] X.env := by rfl) (hpl : (backTo pos (starEach [b] X.env)).any (·.1) = false := by rfl) :
    DE X (.Call (.Name "max" p) [a, b] [] pos) (wFn wMax2 wr) := de_callB (call_max2 hc) rn_II hm (by decide +kernel) ha hg (by decide) (by decide) he hpl
theorem de_min2 {p : Pos} {a b : Expr} (hc : X.calm = true) (hm : X.mg "min" = none) (ha : DA X [a, b] wr) (hg : Gl X "min" := by rfl) (he : starEach [a, b] X.env = (false, eval a X.env) :: starEach [b] X.env := by rfl) (hpl : (backTo pos (starEach [b] X.env)).any (·.1) = false := by rfl) :
    DE X (.Call (.Name "min" p) [a, b] [] pos) (wFn wMin2 wr) := de_callB (call_min2 hc) rn_II hm (by decide +kernel) ha hg (by decide) (by decide) he hpl
/-- tuple(x) -/
def wTuple : WN := fun xs cs P => ∃ x b ys ds, xs = [x] ∧ seqD cs x = some (b, ys) ∧ allDat ys = some ds ∧ P (.dat (.tup ds)) cs
theorem rn_tuple {K : Frag} : RNOk K (fun xs H Q => ∃ p ys, xs = [.ref p] ∧ ((SqL K H p ys ∧ ∀ l, H l = none → Q (.ref l) (upd H l (.tup ys))) ∨ (SqT K H p ys ∧ Q (.ref p) H))) wTuple := fun M H cs xs as P Q o r ⟨x, b, ys, ds, e, h, hd, p⟩ k => by
  subst e
  cases r with
  | cons r1 rr =>
    cases rr
    have hy := allDat_eq hd
    subst hy
    cases b with
    | true =>
      obtain ⟨ad, vs, e, q, pr⟩ := seqD_list o r1 h
      subst e
      exact ⟨ad, vs, rfl, .inl ⟨q, newT_ok o pr p k⟩⟩
    | false =>
      obtain ⟨ad, vs, e, q, pr⟩ := seqD_tup o r1 h
      subst e
      refine ⟨ad, vs, rfl, .inr ⟨q, ?_⟩⟩
      have hx : x = .dat (.tup ds) := by
        match x, h with
        | .dat (.tup es), h =>
          have h' : es.map Vl.dat = ds.map Vl.dat := by
            have := (Option.some.inj h)
            exact (Prod.mk.inj this).2
          have : es = ds := by
            have z := allDat_map es
            rw [h', allDat_map] at z
            exact (Option.some.inj z).symm
          rw [this]
        | .dat (.lst es), h => exact nomatch (show some (true, _) = some (false, _) from h)
        | .raw (.ref a), h =>
          have h : coSeq (cs a) = some (false, ds.map Vl.dat) := h
          cases q : cs a with
          | none => rw [q] at h; cases h
          | some c => rw [q] at h; cases c <;> cases h
      subst hx
      exact k _ _ M H cs (Same.refl _) o r1 p
theorem de_tuple {p : Pos} (hm : X.mg "tuple" = none) (ha : DA X [e] wr) (hg : Gl X "tuple" := by rfl) (he : starEach [e] X.env = (false, eval e X.env) :: starEach [] X.env := by rfl) (hpl : (backTo pos (starEach [] X.env)).any (·.1) = false := by rfl) :
    DE X (.Call (.Name "tuple" p) [e] [] pos) (wFn wTuple wr) := de_callTy call_tuple_of rn_tuple hm (by decide +kernel) ha hg (by decide) (by decide) he hpl
/-- list(x) -/
def wListOf : WN := fun xs cs P => ∃ x b ys, xs = [x] ∧ seqD cs x = some (b, ys) ∧ newL ys cs P
theorem rn_list {K : Frag} : RNOk K (fun xs H Q => ∃ p ys, xs = [.ref p] ∧ (SqL K H p ys ∨ SqT K H p ys) ∧ ∀ l, H l = none → Q (.ref l) (upd H l (.lst ys))) wListOf := fun M H cs xs as P Q o r ⟨x, b, ys, e, h, p⟩ k => by
  subst e
  cases r with
  | cons r1 rr =>
    cases rr
    obtain ⟨ad, vs, e, q, pr⟩ := seqD_any o r1 h
    subst e
    exact ⟨ad, vs, rfl, q, newL_ok o pr p k⟩
theorem de_list {p : Pos} (hm : X.mg "list" = none) (ha : DA X [e] wr) (hg : Gl X "list" := by rfl) (he : starEach [e] X.env = (false, eval e X.env) :: starEach [] X.env := by rfl) (hpl : (backTo pos (starEach [] X.env)).any (·.1) = false := by rfl) :
    DE X (.Call (.Name "list" p) [e] [] pos) (wFn wListOf wr) := de_callTy call_list_of rn_list hm (by decide +kernel) ha hg (by decide) (by decide) he hpl
end
end DL
set_option maxRecDepth 100000
set_option maxHeartbeats 4000000
namespace DL
open PySem L2
/-! ### statements -/
def wNext : WS := fun D ρ cs => D.nx ρ cs
def wSeq (w u : WS) : WS := fun D ρ cs => w { D with nx := u D } ρ cs
def wRet (we : WE) : WS := fun D ρ cs => we ρ cs D.rt
def wRetN : WS := fun D _ cs => D.rt (.dat .non) cs
def wDrop (we : WE) : WS := fun D ρ cs => we ρ cs fun _ cs1 => D.nx ρ cs1
def wIfS (c : WT) (w u : WS) : WS := fun D ρ cs => c ρ cs fun b cs1 => if b = true then w D ρ cs1 else u D ρ cs1
def wBrk : WS := fun D ρ cs => D.bk ρ cs
def wCont : WS := fun D ρ cs => D.ct ρ cs
def wNever : WS := fun _ _ _ => False
abbrev WG := Vl → DEnv → Cells → (DEnv → Cells → Prop) → Prop
abbrev WGs := List Vl → DEnv → Cells → (DEnv → Cells → Prop) → Prop
/-- js: the slots that a target may set -/
def KontG (K : Frag) (M : Hp) (js : List Nat) (σ : St) (P : DEnv → Cells → Prop) (Q : St → Hp → Prop) : Prop :=
  ∀ σ' ρ' M' H' cs', Same M M' → Ok K M' H' cs' → Rho K M' σ' ρ' → σ'.length = σ.length → (∀ i, i ∉ js → σ'[i]? = σ[i]?) → P ρ' cs' → Q σ' H'
def liftG (K : Frag) (js : List Nat) (g : WG) : TG := fun v σ H Q => ∃ M ρ cs x P, Ok K M H cs ∧ Rho K M σ ρ ∧ RV K M v x ∧ g x ρ cs P ∧ KontG K M js σ P Q
def liftGs (K : Frag) (js : List Nat) (g : WGs) : TGs := fun vs σ H Q => ∃ M ρ cs xs P, Ok K M H cs ∧ Rho K M σ ρ ∧ Paired (RV K M) vs xs ∧ g xs ρ cs P ∧ KontG K M js σ P Q
def DG (X : Cx) (js : List Nat) (tg : Expr) (g : WG) : Prop := PG X tg (liftG X.K js g)
def DGs (X : Cx) (js : List Nat) (tg : List Expr) (g : WGs) : Prop := PGs X tg (liftGs X.K js g)
def gN (i : Nat) : WG := fun x ρ cs P => P (ρ.set i (some x)) cs
def gNil : WGs := fun xs ρ cs P => xs = [] ∧ P ρ cs
def gCons (g : WG) (gs : WGs) : WGs := fun xs ρ cs P => ∃ x r, xs = x :: r ∧ g x ρ cs fun ρ1 cs1 => gs r ρ1 cs1 P
def gT (n : Nat) (gs : WGs) : WG := fun x ρ cs P => ∃ xs, seqD cs x = some (false, xs) ∧ xs.length = n ∧ gs xs ρ cs P
/-- xs[i] = v, a cell's list -/
def gIx (wo wi : WE) : WG := fun v ρ cs P => wo ρ cs fun o cs1 => wi ρ cs1 fun i cs2 => ∃ a xs k j, o = .cell a ∧ i = .dat (.int k) ∧ cs2 a = some (.lst xs) ∧ ixN xs.length k = some j ∧ P ρ (cs2.put a (.lst (xs.set j v)))
def wAsg (we : WE) (g : WG) : WS := fun D ρ cs => we ρ cs fun x cs1 => g x ρ cs1 D.nx
def wAug (i : Nat) (we : WE) (f : Int → Int → Int) : WS := fun D ρ cs => ∃ a, ρ[i]? = some (some (.dat (.int a))) ∧ we ρ cs fun y cs1 => ∃ b, y = .dat (.int b) ∧ D.nx (ρ.set i (some (.dat (.int (f a b))))) cs1
def wPar (i j : Nat) (wa : WA) : WS := fun D ρ cs => wa ρ cs fun xs cs1 => ∃ x y, xs = [x, y] ∧ D.nx ((ρ.set i (some x)).set j (some y)) cs1
theorem pg_imp {X : Cx} {e : Expr} {t t' : TG} (h : PG X e t) (m : ∀ v σ H Q, t' v σ H Q → t v σ H Q) : PG X e t' := ⟨fun pins s σ H v u Q I r q => h.run pins s σ H v u Q I r (m v σ H Q q)⟩
theorem pgs_imp {X : Cx} {e : List Expr} {t t' : TGs} (h : PGs X e t) (m : ∀ v σ H Q, t' v σ H Q → t v σ H Q) : PGs X e t' := ⟨fun pins s σ H v u Q I r q => h.run pins s σ H v u Q I r (m v σ H Q q)⟩
theorem pi_imp {X : Cx} {tg e : Expr} {t t' : TI} (h : PI X tg e t) (m : ∀ σ H R, t' σ H R → t σ H R) : PI X tg e t' := ⟨fun pins s σ H R I q => h.run pins s σ H R I (m σ H R q)⟩
theorem pi_or {X : Cx} {tg e : Expr} {t t' : TI} (h : PI X tg e t) (h' : PI X tg e t') : PI X tg e (fun σ H R => t σ H R ∨ t' σ H R) := ⟨fun pins s σ H R I q => by
  rcases q with q | q
  · exact h.run pins s σ H R I q
  · exact h'.run pins s σ H R I q⟩
section
variable {X : Cx} {a b c e : Expr} {es : List Expr} {wa wb wc we : WE} {w u : WT} {wr : WA} {pos : Pos} {st : Stmt} {sts : List Stmt} {ws wt : WS}
theorem dss_nil : DSs X [] wNext := pss_imp pss_nil fun E σ H ⟨M, ρ, cs, D, o, r, h, e⟩ => e.nx σ ρ M H cs (Same.refl _) o r h
theorem dss_cons (h1 : DS X st ws) (h2 : DSs X sts wt) : DSs X (st :: sts) (wSeq ws wt) :=
  pss_imp (pss_cons h1 h2) fun E σ H ⟨M, ρ, cs, D, o, r, h, e⟩ => ⟨M, ρ, cs, _, o, r, h, ⟨fun σ' ρ' M' H' cs' s o' r' p => ⟨M', ρ', cs', D, o', r', p, e.mono s⟩, e.rt, e.bk, e.ct⟩⟩
theorem dss_one (h1 : DS X st ws) : DSs X [st] ws := pss_one h1
theorem ds_pass : DS X (.Pass pos) wNext := ps_imp ps_pass fun E σ H ⟨M, ρ, cs, D, o, r, h, e⟩ => e.nx σ ρ M H cs (Same.refl _) o r h
theorem ds_brk : DS X (.Break pos) wBrk := ps_imp ps_break fun E σ H ⟨M, ρ, cs, D, o, r, h, e⟩ => e.bk σ ρ M H cs (Same.refl _) o r h
theorem ds_cont : DS X (.Continue pos) wCont := ps_imp ps_continue fun E σ H ⟨M, ρ, cs, D, o, r, h, e⟩ => e.ct σ ρ M H cs (Same.refl _) o r h
theorem ds_never : DS X st wNever := ps_imp ps_never fun E σ H ⟨M, ρ, cs, D, o, r, h, e⟩ => h
theorem dss_never : DSs X sts wNever := pss_imp pss_never fun E σ H ⟨M, ρ, cs, D, o, r, h, e⟩ => h
theorem ds_ret (h : DE X e we) : DS X (.Return (some e) pos) (wRet we) := ps_imp (ps_ret h) fun E σ H ⟨M, ρ, cs, D, o, r, h, e⟩ => ⟨M, ρ, cs, _, o, r, h, e.rt⟩
theorem ds_retN : DS X (.Return none pos) wRetN := ps_imp ps_retN fun E σ H ⟨M, ρ, cs, D, o, r, h, e⟩ => e.rt _ _ M H cs (Same.refl _) o (rv_dat .non) h
theorem ds_expr (h : DE X e we) (hs : swapsWith e none pos.line X.env = pure false := by rfl) : DS X (.Expr e pos) (wDrop we) :=
  ps_imp (ps_expr h hs) fun E σ H ⟨M, ρ, cs, D, o, r, h, e⟩ => ⟨M, ρ, cs, _, o, r, h, fun v x M' H' cs' s o' _ p => e.nx σ ρ M' H' cs' s o' (r.mono s) p⟩
theorem ds_if {sa sb : List Stmt} (hc : DT X c w) (ha : DSs X sa ws) (hb : DSs X sb wt) : DS X (.If c sa sb pos) (wIfS w ws wt) :=
  ps_imp (ps_if hc ha hb) fun E σ H ⟨M, ρ, cs, D, o, r, h, e⟩ => ⟨M, ρ, cs, _, o, r, h, fun b M' H' cs' s o' p => by
    cases b with
    | true => exact iteT ⟨M', ρ, cs', D, o', r.mono s, by simpa using p, e.mono s⟩
    | false => exact iteF ⟨M', ρ, cs', D, o', r.mono s, by simpa using p, e.mono s⟩⟩
theorem dg_name {i : Nat} {x : Str} (hN : X.N.Nodup) (hi : X.N[i]? = some x := by rfl) (hx : Loc X.env.scope x := by first | exact Or.inl rfl | exact Or.inr rfl) (hf : X.fn x = true ∨ X.env.scope.names.lookup x = some .local := by first | exact .inl rfl | exact .inr rfl | assumption) : DG X [i] (.Name x pos) (gN i) :=
  pg_imp (pg_name hN hi hx hf) fun v σ H Q ⟨M, ρ, cs, x, P, o, r, rv, p, k⟩ => k _ _ M H cs (Same.refl _) o (r.set rv) (by rw [List.length_set]) (fun j hj => by rw [List.getElem?_set_ne (by intro z; exact hj (by simp [z]))]) p
theorem dgs_nil : DGs X [] [] gNil := pgs_imp pgs_nil fun v σ H Q ⟨M, ρ, cs, xs, P, o, r, rv, ⟨e, p⟩, k⟩ => by
  subst e
  cases rv
  exact ⟨rfl, k _ _ M H cs (Same.refl _) o r rfl (fun _ _ => rfl) p⟩
theorem dgs_cons {js js' : List Nat} {g : WG} {gs : WGs} (h1 : DG X js e g) (h2 : DGs X js' es gs) (hs : (assignEach (e :: es) X.env).map (·.2) = assign e X.env :: (assignEach es X.env).map (·.2) := by rfl) : DGs X (js ++ js') (e :: es) (gCons g gs) :=
  pgs_imp (pgs_cons h1 h2 hs) fun vs σ H Q ⟨M, ρ, cs, xs, P, o, r, rv, ⟨x, rest, ex, p⟩, k⟩ => by
    subst ex
    cases rv with
    | cons r1 rr =>
      refine ⟨_, _, rfl, M, ρ, cs, x, _, o, r, r1, p, fun σ' ρ' M' H' cs' s o' r' hl hj p' => ?_⟩
      refine ⟨M', ρ', cs', rest, _, o', r', paired_mono (fun _ _ q => q.mono s) rr, p', fun σ2 ρ2 M2 H2 cs2 s2 o2 r2 hl2 hj2 p2 => ?_⟩
      exact k σ2 ρ2 M2 H2 cs2 (s.trans s2) o2 r2 (hl2.trans hl) (fun i hi => by rw [hj2 i (fun z => hi (List.mem_append.mpr (.inr z))), hj i (fun z => hi (List.mem_append.mpr (.inl z)))]) p2
theorem dg_tup {js : List Nat} {gs : WGs} {n k : Nat} (hc : X.calm = true) (h : DGs X js es gs) (hn : (assignEach es X.env).length = n := by rfl) (hst : (assignEach es X.env).findIdx? (·.1) = none := by rfl) : DG X js (.Tuple es k pos) (gT n gs) :=
  pg_imp (pg_tup hc h hn hst) fun v σ H Q ⟨M, ρ, cs, x, P, o, r, rv, ⟨xs, hx, hl, p⟩, k⟩ => by
    obtain ⟨ad, vs, ev, q, pr⟩ := seqD_tup o rv hx
    exact ⟨ad, vs, ev, q, (Paired.len pr).trans hl, M, ρ, cs, xs, P, o, r, pr, p, k⟩
theorem paired_set {K : Frag} {M : Hp} {vs : List V} {xs : List Vl} {j : Nat} {v : V} {x : Vl} (h : Paired (RV K M) vs xs) (r : RV K M v x) : Paired (RV K M) (vs.set j v) (xs.set j x) := Paired.set h r
theorem dg_ix (ho : DE X a wa) (hi : DE X b wb)
    (ha : ∀ v, assign (.Subscript a b pos) X.env v = (do
      let ov ← holding [v] (eval a X.env)
      let iv ← holding [v, ov] (eval b X.env)
      standAt pos
      holding [v, ov, iv] (setItem ov iv v)
      release [v, ov, iv] []) := by intros; rfl) : DG X [] (.Subscript a b pos) (gIx wa wb) :=
  pg_imp (pg_sub ho hi set_list ha) fun v σ H Q ⟨M, ρ, cs, x, P, o, r, rv, p, k⟩ => by
    refine ⟨M, ρ, cs, _, o, r, p, fun v1 x1 M1 H1 cs1 s1 o1 r1 p1 => ?_⟩
    refine ⟨M1, ρ, cs1, _, o1, r.mono s1, p1, fun v2 x2 M2 H2 cs2 s2 o2 r2 ⟨ad, xs, kk, j, e1, e2, hc, hj, p2⟩ => ?_⟩
    subst e1 e2
    obtain ⟨m0, ob, hob, cr⟩ := o2.cell ad _ hc
    cases ob <;> try exact (show False from cr).elim
    rename_i ys
    have cr : Paired (RV X.K M2) ys xs := cr
    have e1 : v1 = .ref ad := r1
    refine ⟨ad, ys, kk, j, e1, inv_int r2, hob, by rw [Paired.len cr]; exact hj, ?_⟩
    exact k σ ρ M2 _ _ (s1.trans s2) (o2.setC hc (c := .lst (xs.set j x)) (paired_set cr (rv.mono (s1.trans s2)))) (r.mono (s1.trans s2)) rfl (fun _ _ => rfl) p2
theorem ds_asg {js : List Nat} {tg : Expr} {g : WG} (he : DE X e we) (hg : DG X js tg g) (hs : swapsWithSole [tg] e pos.line X.env = pure false := by rfl) (hw : swappedStores [tg] e X.env = pure none := by rfl)
    (h1 : (assignEach [tg] X.env).map (·.2) = [assign tg X.env] := by rfl) : DS X (.Assign [tg] e pos) (wAsg we g) :=
  ps_imp (ps_asg he hg hs hw h1) fun E σ H ⟨M, ρ, cs, D, o, r, h, e⟩ => ⟨M, ρ, cs, _, o, r, h, fun v x M' H' cs' s o' rv p =>
    ⟨M', ρ, cs', x, _, o', r.mono s, rv, p, fun σ2 ρ2 M2 H2 cs2 s2 o2 r2 _ _ p2 => e.nx σ2 ρ2 M2 H2 cs2 (s.trans s2) o2 r2 p2⟩⟩
theorem ds_set {i : Nat} {x : Str} {pos' : Pos} (hN : X.N.Nodup) (he : DE X e we) (hi : X.N[i]? = some x := by rfl) (hx : Loc X.env.scope x := by first | exact Or.inl rfl | exact Or.inr rfl) (hs : swapsWith e (some (.Name x pos')) pos.line X.env = pure false := by rfl) (hf : X.fn x = true ∨ X.env.scope.names.lookup x = some .local := by first | exact .inl rfl | exact .inr rfl | assumption) :
    DS X (.Assign [.Name x pos'] e pos) (wAsg we (gN i)) :=
  ps_imp (ps_set hN hi hx he hs hf) fun E σ H ⟨M, ρ, cs, D, o, r, h, e⟩ => ⟨M, ρ, cs, _, o, r, h, fun v x M' H' cs' s o' rv p => e.nx _ _ M' H' cs' s o' ((r.mono s).set rv) p⟩
theorem ds_aug {i : Nat} {x : Str} {pos' : Pos} {op : Operator} {f : Int → Int → Int} (hN : X.N.Nodup) (he : DE X e we) (ho : PIp X op (ipI f)) (hi : X.N[i]? = some x := by rfl) (hx : Loc X.env.scope x := by first | exact Or.inl rfl | exact Or.inr rfl) (hf : X.fn x = true ∨ X.env.scope.names.lookup x = some .local := by first | exact .inl rfl | exact .inr rfl | assumption) :
    DS X (.AugAssign (.Name x pos') op e pos) (wAug i we f) :=
  ps_imp (ps_aug hN hi hx he ho hf) fun E σ H ⟨M, ρ, cs, D, o, r, ⟨n, hn, h⟩, e⟩ => by
    obtain ⟨v, hv, rv⟩ := r.at_ i _ hn
    rw [inv_int rv] at hv
    refine ⟨_, hv, M, ρ, cs, _, o, r, h, fun y yy M' H' cs' s o' ry ⟨m, em, p⟩ => ?_⟩
    subst em
    exact ⟨n, m, rfl, inv_int ry, e.nx _ _ M' H' cs' s o' ((r.mono s).set (rv_dat (.int _))) p⟩
theorem ds_par {i j : Nat} {x y : Str} {px py pt pt2 : Pos} {kt k2 : Nat} (hc : X.calm = true) (hN : X.N.Nodup) (ha : DA X [a, b] wr) (hi : X.N[i]? = some x := by rfl) (hj : X.N[j]? = some y := by rfl) (hij : i ≠ j := by decide)
    (hx : X.env.scope.names.lookup x = some .local := by rfl) (hy : X.env.scope.names.lookup y = some .local := by rfl)
    (hw : swappedStores [.Tuple [.Name x px, .Name y py] kt pt] (.Tuple [a, b] k2 pt2) X.env = pure (some [x, y]) := by rfl)
    (hs : swapsWithSole [.Tuple [.Name x px, .Name y py] kt pt] (.Tuple [a, b] k2 pt2) pos.line X.env = pure false := by rfl) :
    DS X (.Assign [.Tuple [.Name x px, .Name y py] kt pt] (.Tuple [a, b] k2 pt2) pos) (wPar i j wr) :=
  ps_imp (ps_par hc hN hi hj hij hx hy ha hw hs) fun E σ H ⟨M, ρ, cs, D, o, r, h, e⟩ => ⟨M, ρ, cs, _, o, r, h, fun vs xs M' H' cs' s o' rv ⟨x1, y1, ex, p⟩ => by
    subst ex
    cases rv with
    | cons r1 rr =>
      cases rr with
      | cons r2 rr =>
        cases rr
        exact ⟨_, _, rfl, e.nx _ _ M' H' cs' s o' (((r.mono s).set r1).set r2) p⟩⟩
end
/-! ### what is walked -/
structure ItOk (K : Frag) (M0 : Hp) (J : It) (items : List Vl) (G : Cells → Prop) : Prop where
  go : ∀ i M H cs, Same M0 M → Ok K M H cs → G cs → i < items.length → J.go i H
  stop : ∀ M H cs, Same M0 M → Ok K M H cs → G cs → J.stop items.length H
  yld : ∀ i M H cs v H', Same M0 M → Ok K M H cs → G cs → J.yld i H v H' → i < items.length → ∃ M' x, items[i]? = some x ∧ Same M M' ∧ Ok K M' H' cs ∧ RV K M' v x
abbrev WI := DEnv → Cells → (List Vl → (Cells → Prop) → Cells → Prop) → Prop
def liftI (K : Frag) (wi : WI) : TI := fun σ H R => ∃ M ρ cs P, Ok K M H cs ∧ Rho K M σ ρ ∧ wi ρ cs P ∧ ∀ J items G M' H' cs', Same M M' → Ok K M' H' cs' → ItOk K M' J items G → P items G cs' → R J H'
def DI (X : Cx) (tg e : Expr) (wi : WI) : Prop := PI X tg e (liftI X.K wi)
def wFor (wi : WI) (g : WG) (wb : WS) : WS := fun D ρ cs => wi ρ cs fun items G cs1 => ∃ Inv : Nat → DEnv → Cells → Prop, Inv 0 ρ cs1 ∧ (∀ i ρ' cs', i ≤ items.length → Inv i ρ' cs' → G cs') ∧
  (∀ i x ρ' cs', items[i]? = some x → Inv i ρ' cs' → g x ρ' cs' fun ρ2 cs2 => wb { D with nx := Inv (i + 1), ct := Inv (i + 1), bk := D.nx } ρ2 cs2) ∧ ∀ ρ' cs', Inv items.length ρ' cs' → D.nx ρ' cs'
theorem ds_for {X : Cx} {tg iter : Expr} {body : List Stmt} {pos : Pos} {js : List Nat} {wi : WI} {g : WG} {wb : WS} (hi : DI X tg iter wi) (hg : DG X js tg g) (hb : DSs X body wb) (hc : X.calm = true := by rfl) (hp : PassesOwn (model X.prog X.w) X.A X.env X.xe := by exact PassesOwn.never)
    (hs : ∀ x, foldedSetIterable iter X.env x = pure x := by intro _; rfl) : DS X (.For tg iter body [] pos) (wFor wi g wb) :=
  ps_imp (ps_for hp hc hi hg hb hs) fun E σ H ⟨M, ρ, cs, D, o, r, h, e⟩ => by
    refine ⟨M, ρ, cs, _, o, r, h, fun J items G M1 H1 cs1 s1 o1 it ⟨Iv, i0, iG, turn, fin⟩ => ?_⟩
    refine ⟨fun i m σ' H' => m = items.length - i ∧ i ≤ items.length ∧ ∃ M' ρ' cs', Same M1 M' ∧ Ok X.K M' H' cs' ∧ Rho X.K M' σ' ρ' ∧ Iv i ρ' cs', ⟨items.length, by simp, Nat.zero_le _, M1, ρ, cs1, Same.refl _, o1, r.mono s1, i0⟩, ?_⟩
    rintro i m σ' H' ⟨rfl, hi, M', ρ', cs', s', o', r', inv⟩
    have g' := iG i ρ' cs' hi inv
    by_cases hlt : i < items.length
    · refine .inr ⟨it.go i M' H' cs' s' o' g' hlt, fun σ2 H2 => i + 1 ≤ items.length ∧ ∃ M2 ρ2 cs2, Same M1 M2 ∧ Ok X.K M2 H2 cs2 ∧ Rho X.K M2 σ2 ρ2 ∧ Iv (i + 1) ρ2 cs2, fun σ2 H2 q => ⟨_, by omega, rfl, q.1, q.2⟩, fun v H2 y => ?_⟩
      obtain ⟨M2, x, ex, s2, o2, rv⟩ := it.yld i M' H' cs' v H2 s' o' g' y hlt
      refine ⟨M2, ρ', cs', x, _, o2, r'.mono s2, rv, turn i x ρ' cs' ex inv, fun σ3 ρ3 M3 H3 cs3 s3 o3 r3 _ _ p3 => ?_⟩
      refine ⟨M3, ρ3, cs3, _, o3, r3, p3, ⟨fun σ4 ρ4 M4 H4 cs4 s4 o4 r4 p4 => ?_, e.rt.mono (s1.trans (s'.trans (s2.trans s3))), ?_, fun σ4 ρ4 M4 H4 cs4 s4 o4 r4 p4 => ?_⟩⟩
      · exact ⟨hlt, M4, ρ4, cs4, s'.trans (s2.trans (s3.trans s4)), o4, r4, p4⟩
      · exact e.nx.mono (s1.trans (s'.trans (s2.trans s3)))
      · exact ⟨hlt, M4, ρ4, cs4, s'.trans (s2.trans (s3.trans s4)), o4, r4, p4⟩
    · have ei : i = items.length := by omega
      subst ei
      exact .inl ⟨it.stop M' H' cs' s' o' g', e.nx σ' ρ' M' H' cs' (s1.trans s') o' r' (fin ρ' cs' inv)⟩
/-- a list or a tuple -/
def iSeq (K : Frag) (tl : TE) : TI := fun σ H R => tl σ H fun x H1 => (∃ a, x = .ref a ∧ (∃ xs, SqL K H1 a xs) ∧ R (Itl K a) H1) ∨ ∃ a, x = .ref a ∧ (∃ xs, SqT K H1 a xs) ∧ R (Itt K a) H1
theorem pi_seq {X : Cx} {tg l : Expr} {tl : TE} (hl : PE X l tl) : PI X tg l (iSeq X.K tl) := by
  refine ⟨fun pins s σ H R I h => ?_⟩
  refine thn (hl.run pins s σ H _ I h) fun v s1 ⟨x, H1, I1, r1, q1⟩ => ?_
  rcases q1 with ⟨a, e, ⟨xs, hq⟩, q⟩ | ⟨a, e, ⟨xs, hq⟩, q⟩
  · subst e
    cases r1
    obtain ⟨its, rv, p, hz⟩ := I1.list hq
    refine wpAny_pyIter_list p.isList ?_
    refine ⟨s1.heap.objs.size, [s1.heap.objs.size], _, _, H1, rfl, I1.kept (t' := s1.toks) fun b o e => Heap.get?_push_of_some _ e, turn_list a _, ⟨_, Heap.get?_push_size _ rfl, rfl, rfl⟩, fun b hb => ?_, q⟩
    have e : b = s1.heap.objs.size := by simpa using hb
    subst e
    exact I1.fpOk (Nat.le_refl _) (I1.hok.fresh (Nat.le_refl _))
  · subst e
    cases r1
    obtain ⟨its, rv, p, hz⟩ := I1.tuple hq
    refine wpAny_pyIter_tuple (show s1.heap.IsTuple a its.toArray from p) ?_
    refine ⟨s1.heap.objs.size, [s1.heap.objs.size], _, _, H1, rfl, I1.kept (t' := s1.toks) fun b o e => Heap.get?_push_of_some _ e, turn_tuple a _, ⟨_, Heap.get?_push_size _ rfl, rfl, rfl⟩, fun b hb => ?_, q⟩
    have e : b = s1.heap.objs.size := by simpa using hb
    subst e
    exact I1.fpOk (Nat.le_refl _) (I1.hok.fresh (Nat.le_refl _))
def wiSeq (we : WE) : WI := fun ρ cs P => we ρ cs fun x cs1 => ∃ b xs, seqD cs1 x = some (b, xs) ∧ P xs (fun cs' => seqD cs' x = some (b, xs)) cs1
section
variable {K : Frag} {M0 : Hp} {x : Vl} {xs : List Vl} {a : Addr}
theorem it_list (r : RV K M0 (.ref a) x) : ItOk K M0 (Itl K a) xs (fun cs' => seqD cs' x = some (true, xs)) := by
  refine ⟨fun i M2 H2 cs2 s2 o2 g2 hi => ?_, fun M2 H2 cs2 s2 o2 g2 => ?_, fun i M2 H2 cs2 v2 H3 s2 o2 g2 y hi => ?_⟩
  all_goals
    obtain ⟨a2, vs2, ea2, q2, pr2⟩ := seqD_list o2 (r.mono s2) g2
    cases ea2
  · have hl := Paired.len pr2
    exact ⟨vs2, vs2[i]'(by omega), q2, by simp [show i < vs2.length by omega]⟩
  · exact ⟨vs2, q2, by rw [Paired.len pr2]; exact Nat.le_refl _⟩
  · obtain ⟨e1, e2⟩ := y
    subst e1
    obtain ⟨x2, hx2, rx2⟩ := Paired.getL pr2 (e2 vs2 q2)
    exact ⟨M2, x2, hx2, Same.refl _, o2, rx2⟩
theorem it_tup (r : RV K M0 (.ref a) x) : ItOk K M0 (Itt K a) xs (fun cs' => seqD cs' x = some (false, xs)) := by
  refine ⟨fun i M2 H2 cs2 s2 o2 g2 hi => ?_, fun M2 H2 cs2 s2 o2 g2 => ?_, fun i M2 H2 cs2 v2 H3 s2 o2 g2 y hi => ?_⟩
  all_goals
    obtain ⟨a2, vs2, ea2, q2, pr2⟩ := seqD_tup o2 (r.mono s2) g2
    cases ea2
  · have hl := Paired.len pr2
    exact ⟨vs2, vs2[i]'(by omega), q2, by simp [show i < vs2.length by omega]⟩
  · exact ⟨vs2, q2, by rw [Paired.len pr2]; exact Nat.le_refl _⟩
  · obtain ⟨e1, e2⟩ := y
    subst e1
    obtain ⟨x2, hx2, rx2⟩ := Paired.getL pr2 (e2 vs2 q2)
    exact ⟨M2, x2, hx2, Same.refl _, o2, rx2⟩
end
theorem di_seq {X : Cx} {tg e : Expr} {we : WE} (h : DE X e we) : DI X tg e (wiSeq we) :=
  pi_imp (pi_seq h) fun σ H R ⟨M, ρ, cs, P, o, r, p, k⟩ => by
    refine ⟨M, ρ, cs, _, o, r, p, fun v x M1 H1 cs1 s1 o1 r1 ⟨b, xs, hx, p1⟩ => ?_⟩
    cases b with
    | true =>
      obtain ⟨a, vs, ea, q, pr⟩ := seqD_list o1 r1 hx
      subst ea
      exact .inl ⟨a, rfl, ⟨vs, q⟩, k _ xs _ M1 H1 cs1 s1 o1 (it_list r1) p1⟩
    | false =>
      obtain ⟨a, vs, ea, q, pr⟩ := seqD_tup o1 r1 hx
      subst ea
      exact .inr ⟨a, rfl, ⟨vs, q⟩, k _ xs _ M1 H1 cs1 s1 o1 (it_tup r1) p1⟩
/-! ### ranges -/
def rangeD (lo c : Int) (n : Nat) : List Vl := (List.range n).map fun (i : Nat) => .dat (.int (lo + (i : Int) * c))
theorem rangeD_len {lo c : Int} {n : Nat} : (rangeD lo c n).length = n := by simp [rangeD]
theorem rangeD_get {lo c : Int} {n i : Nat} (h : i < n) : (rangeD lo c n)[i]? = some (.dat (.int (lo + (i : Int) * c))) := by
  simp [rangeD, h]
theorem rangeD_at {lo c : Int} {n i : Nat} {x : Vl} (h : (rangeD lo c n)[i]? = some x) : i < n ∧ x = .dat (.int (lo + (i : Int) * c)) := by
  have hl := (List.getElem?_eq_some_iff.mp h).1
  rw [rangeD_len] at hl
  rw [rangeD_get hl] at h
  cases h
  exact ⟨hl, rfl⟩
theorem it_range {K : Frag} {M0 : Hp} {lo : Int} {n : Nat} : ItOk K M0 (Itr lo n) (rangeD lo 1 n) (fun _ => True) := by
  refine ⟨fun i M2 H2 cs2 s2 o2 g2 hi => ?_, fun M2 H2 cs2 s2 o2 g2 => ?_, fun i M2 H2 cs2 v2 H3 s2 o2 g2 y hi => ?_⟩
  · rw [rangeD_len] at hi; exact hi
  · rw [rangeD_len]; exact Nat.le_refl _
  · rw [rangeD_len] at hi
    obtain ⟨e1, e2⟩ := y
    subst e1 e2
    exact ⟨M2, _, rangeD_get hi, Same.refl _, o2, by rw [Int.mul_one]; exact rv_dat (.int _)⟩
theorem it_rangeC {K : Frag} {M0 : Hp} {lo c : Int} {n : Nat} : ItOk K M0 (Itc lo c n) (rangeD lo c n) (fun _ => True) := by
  refine ⟨fun i M2 H2 cs2 s2 o2 g2 hi => ?_, fun M2 H2 cs2 s2 o2 g2 => ?_, fun i M2 H2 cs2 v2 H3 s2 o2 g2 y hi => ?_⟩
  · rw [rangeD_len] at hi; exact hi
  · rw [rangeD_len]; exact Nat.le_refl _
  · rw [rangeD_len] at hi
    obtain ⟨e1, e2⟩ := y
    subst e1 e2
    exact ⟨M2, _, rangeD_get hi, Same.refl _, o2, rv_dat (.int _)⟩
def wiRng1 (wa : WA) : WI := fun ρ cs P => wa ρ cs fun xs cs1 => ∃ j : Int, xs = [.dat (.int j)] ∧ -(2 ^ 62) ≤ j ∧ j < 2 ^ 62 ∧ P (rangeD 0 1 j.toNat) (fun _ => True) cs1
def wiRng2 (wa : WA) : WI := fun ρ cs P => wa ρ cs fun xs cs1 => ∃ i j : Int, xs = [.dat (.int i), .dat (.int j)] ∧ (-(2 ^ 62) ≤ i ∧ i < 2 ^ 62 ∧ -(2 ^ 62) ≤ j ∧ j < 2 ^ 62) ∧ P (rangeD i 1 (j - i).toNat) (fun _ => True) cs1
def wiRng3 (wa : WA) : WI := fun ρ cs P => wa ρ cs fun xs cs1 => ∃ (i j c : Int) (n : Nat), xs = [.dat (.int i), .dat (.int j), .dat (.int c)] ∧ RgC i j c n ∧ P (rangeD i c n) (fun _ => True) cs1
section
variable {X : Cx} {tg a b c : Expr} {wa : WA} {p pos : Pos}
theorem di_range1 (hm : X.mg "range" = none) (ha : DA X [a] wa) (hg : Gl X "range" := by rfl) (hs : starEach [a] X.env = [(false, eval a X.env)] := by rfl) : DI X tg (.Call (.Name "range" p) [a] [] pos) (wiRng1 wa) :=
  pi_imp (pi_range1 hg hm ha hs) fun σ H R ⟨M, ρ, cs, P, o, r, p, k⟩ => ⟨M, ρ, cs, _, o, r, p, fun v x M1 H1 cs1 s1 o1 r1 ⟨j, ej, h1, h2, p1⟩ => by
    subst ej
    cases r1 with
    | cons r1 rr =>
      cases rr
      exact ⟨j, by rw [inv_int r1], h1, h2, k _ _ _ M1 H1 cs1 s1 o1 it_range p1⟩⟩
theorem di_range2 (hm : X.mg "range" = none) (ha : DA X [a, b] wa) (hg : Gl X "range" := by rfl) (hs : starEach [a, b] X.env = [(false, eval a X.env), (false, eval b X.env)] := by rfl) (hs2 : starEach [b] X.env = [(false, eval b X.env)] := by rfl) : DI X tg (.Call (.Name "range" p) [a, b] [] pos) (wiRng2 wa) :=
  pi_imp (pi_range2 hg hm ha hs hs2) fun σ H R ⟨M, ρ, cs, P, o, r, p, k⟩ => ⟨M, ρ, cs, _, o, r, p, fun v x M1 H1 cs1 s1 o1 r1 ⟨i, j, ej, h1, p1⟩ => by
    subst ej
    cases r1 with
    | cons r1 rr =>
      cases rr with
      | cons r2 rr =>
        cases rr
        exact ⟨i, j, by rw [inv_int r1, inv_int r2], h1, k _ _ _ M1 H1 cs1 s1 o1 it_range p1⟩⟩
theorem di_range3 (hm : X.mg "range" = none) (ha : DA X [a, b, c] wa) (hg : Gl X "range" := by rfl) (hs : starEach [a, b, c] X.env = (false, eval a X.env) :: starEach [b, c] X.env := by rfl) (hpl : (backTo pos (starEach [b, c] X.env)).any (·.1) = false := by rfl) : DI X tg (.Call (.Name "range" p) [a, b, c] [] pos) (wiRng3 wa) :=
  pi_imp (pi_range3 hg hm ha hs hpl) fun σ H R ⟨M, ρ, cs, P, o, r, p, k⟩ => ⟨M, ρ, cs, _, o, r, p, fun v x M1 H1 cs1 s1 o1 r1 ⟨i, j, cc, n, ej, h1, p1⟩ => by
    subst ej
    cases r1 with
    | cons r1 rr =>
      cases rr with
      | cons r2 rr =>
        cases rr with
        | cons r3 rr =>
          cases rr
          exact ⟨i, j, cc, n, by rw [inv_int r1, inv_int r2, inv_int r3], h1, k _ _ _ M1 H1 cs1 s1 o1 it_rangeC p1⟩⟩
end
end DL
set_option maxRecDepth 100000
set_option maxHeartbeats 4000000
namespace PySem
set_option maxHeartbeats 4000000 in
theorem dl_enum_newB {v : Value} {o : Obj} {H : Heap → Prop} (B : Begins v o H) :
    Meets (Builtin.«enumerate.__new__» ⟨[.type "enumerate", v], []⟩) (fun _ R s => H s.heap ∧
      R (.ok (.ret (.ref (s.heap.push o).objs.size))) { s with heap := (s.heap.push o).push { cls := .type "enumerate", data := .fields #[.none, .bool false, .ref s.heap.objs.size, rawInt 0, .none, .none] } }) :=
  .of_wp fun prog w A R s h => by
    obtain ⟨hp, g, d, tk, os⟩ := s; obtain ⟨h1, h⟩ := h
    have hsub := sub_enumerate
    have q1 : ∀ {A' : Around} {E : Value → Shared → Prop} {Q : Value → Shared → Prop}, Q (.ref hp.objs.size) ⟨hp.push o, g, d, tk, os⟩ → wpAny (model prog w) A' (pyIter v) Q E ⟨hp, g, d, tk, os⟩ :=
      fun q => B.iter prog w _ _ ⟨hp, g, d, tk, os⟩ _ h1 q
    wp_walk using q1
    refine wpAny_stack_any fun st => wpAny_pure ?_
    split
    · rename_i c _ _ _ _ _
      cases (c == Value.type "enumerate")
      · wp_walk using q1
        exact ⟨_, rfl, h⟩
      · wp_walk using q1
        exact ⟨_, rfl, h⟩
    · wp_walk using q1
      exact ⟨_, rfl, h⟩
theorem dl_enum_begins {prog : Program} {w : World} {A : Around} {E : Value → Shared → Prop} {s : Shared} {v : Value} {o : Obj} {H : Heap → Prop} {Q : Value → Shared → Prop} (B : Begins v o H) (h1 : H s.heap)
    (h : ∀ h', IsEnum h' (s.heap.objs.size + 1) s.heap.objs.size 0 .none → h'.get? s.heap.objs.size = some o → h'.objs.size = s.heap.objs.size + 2 →
      (∀ b o, s.heap.get? b = some o → h'.get? b = some o) → Q (.ref (s.heap.objs.size + 1)) { s with heap := h' }) :
    wpAny (model prog w) A (call (.type "enumerate") [v]) Q E s := by
  refine callType_new F.called_enumerate (by decide) (F.typeCall_enumerate_1 _) (F.newCall_enumerate_1 _) (fun obj => F.args_object_init_2 obj _) F.entry_enumerate_new
    (dl_enum_newB B) ⟨h1, ?_⟩
  have hz : (s.heap.push o).objs.size = s.heap.objs.size + 1 := Heap.size_push ..
  show _ ∧ _
  rw [hz]
  have he : IsEnum ((s.heap.push o).push { cls := .type "enumerate", data := .fields #[.none, .bool false, .ref s.heap.objs.size, rawInt 0, .none, .none] }) (s.heap.objs.size + 1) s.heap.objs.size 0 .none := by
    have := Heap.get?_push_size (s.heap.push o) (o := { cls := .type "enumerate", data := .fields #[.none, .bool false, .ref s.heap.objs.size, rawInt 0, .none, .none] }) rfl
    rw [hz] at this; exact this
  refine ⟨⟨_, he, rfl⟩, h _ he (Heap.get?_push_of_some _ (Heap.get?_push_size _ B.free)) (by rw [Heap.size_push, hz]) fun b o x => Heap.get?_push_of_some _ (Heap.get?_push_of_some _ x)⟩
end PySem
namespace DL
open PySem L2
/-- the tuple at a, each item in a new pair -/
def IteT (K : Frag) (a : Addr) : It :=
  ⟨fun i H => ∃ (xs : List V) (x : V), SqT K H a xs ∧ xs[i]? = some x, fun i H v H' => ∃ T x, v = .ref T ∧ H T = none ∧ H' = upd H T (.tup [.int (i : Nat), x]) ∧ ∀ xs, SqT K H a xs → xs[i]? = some x, fun i H => ∃ xs : List V, SqT K H a xs ∧ xs.length ≤ i⟩
theorem dl_tuple_inj {X : Cx} {pins : List (Addr × Obj)} {σ : St} {H : Hp} {s : Shared} (I : L2.Inv X pins σ H s) {a : Addr} {xs ys : List V} (h1 : SqT X.K H a xs) (h2 : SqT X.K H a ys) : xs = ys := by
  exact I.tuple_inj h1 h2
theorem turn_enumT {P : Program} {w : World} {K : Frag} {elts : List Expr} {kk : Nat} {tpos : Pos} (a e it : Addr) :
    Turn P w K (.Tuple elts kk tpos) (IteT K a) [e, it] e (fun i h => (∃ old, IsEnum h e it ((i : Nat) : Int) old) ∧ h.IsTupleIter it a i ∧ e ≠ it) where
  mem := by simp
  obj := fun i h st b hb => by
    obtain ⟨⟨old, he⟩, ⟨o, ho, hc, hd⟩, _⟩ := st
    have e' : b = e ∨ b = it := by simpa using hb
    rcases e' with z | z
    · rw [z]; exact ⟨_, he, fun v q => nomatch q⟩
    · rw [z]; exact ⟨o, ho, fun v q => by rw [hd] at q; cases q⟩
  keep := fun i h h' st k => let ⟨⟨old, he⟩, hi, hne⟩ := st; ⟨⟨old, k e (by simp) _ he⟩, hi.at fun o q => k it (by simp) o q, hne⟩
  item := by
    intro X hP hw hK hc i pins s σ H E I hf st hg
    subst hP hw hK
    obtain ⟨⟨old, he⟩, hit, hne⟩ := st
    obtain ⟨xs, x, hq, hx⟩ := hg
    obtain ⟨its, rv, p, hz⟩ := I.tuple hq
    obtain ⟨u, hu, ru⟩ := rv.get hx
    have p' : s.heap.IsTuple a its.toArray := p
    have hel : e < s.heap.objs.size := Heap.lt_size he
    have hil : it < s.heap.objs.size := by obtain ⟨_, q, _⟩ := hit; exact Heap.lt_size q
    have hai : a ≠ it := fun z => by
      obtain ⟨o1, q1, c1, _⟩ := p'
      obtain ⟨o2, q2, c2, _⟩ := hit
      rw [z, q2] at q1; cases q1; rw [c2] at c1; exact absurd (Value.type.inj c1) (by decide)
    have hae : e ≠ a := fun z => by
      obtain ⟨o1, q1, c1, _⟩ := p'
      have he' : s.heap.get? e = some _ := he
      rw [← z, he'] at q1; cases q1; exact absurd (Value.type.inj c1) (by decide)
    have hisz : i < its.toArray.size := by
      have := (List.getElem?_eq_some_iff.mp hu).1
      simpa using this
    have D := Draws.tuple (prog := X.prog) (w := X.w) (A := X.A.in1) (show X.A.in1.handled = none from I.ok.hd hc) it a hai its.toArray
    refine wpAny_pyNext_enum_itemD D he ⟨hit, p'⟩ hisz hne (by simp [hne, hae]) fun x' h' tk hP ho hst' hT hsz hk => ?_
    have hxu : x' = u := by
      have h1 : its.toArray[i]? = some x' := hP
      have h2 : its.toArray[i]? = some u := by simpa using hu
      rw [h1] at h2; exact Option.some.inj h2
    subst hxu
    refine ⟨_, rfl, wpAny_letOwnedTupleGo_enum (s := { s with heap := h', toks := tk + 1 }) ho fun h'' he' sb => ?_⟩
    have hT2 : h''.get? s.heap.objs.size = some { cls := .type "tuple", data := .seq #[.int i tk, x'] } := (sb.2 _ (Nat.ne_of_gt hel)).trans hT
    have new : ObjOk X.prog X.w (upd H s.heap.objs.size (.tup [.int (i : Nat), x])) h'' s.heap.objs.size (.tup [.int (i : Nat), x]) :=
      ⟨by show 2 ≤ sizeLine; decide, [.int i tk, x'], .cons ⟨_, rfl⟩ (.cons ru .nil), ⟨_, hT2, rfl, _, rfl⟩⟩
    have I1 : L2.Inv X pins σ (upd H s.heap.objs.size (.tup [.int (i : Nat), x])) { s with heap := h'', toks := tk + 1 } :=
      I.turnedNew (ch := [e, it]) (fun b ob hb q => (sb.2 b (fun z => hb (by simp [z]))).trans (hk b ob (fun z => hb (by simp [z])) (fun z => hb (by simp [z])) q)) hf (Nat.le_refl _) new
    refine ⟨.ref s.heap.objs.size, _, I1, rfl, ⟨_, x, rfl, I.hok.fresh (Nat.le_refl _), rfl, fun ys hy => by rw [dl_tuple_inj I hy hq]; exact hx⟩, ⟨⟨x', ?_⟩, hst'.1.at fun o q => (sb.2 it (Ne.symm hne)).trans q, hne⟩, fun b hb => ?_⟩
    · have e1 : ((i + 1 : Nat) : Int) = (i : Int) + 1 := by omega
      rw [e1]; exact he'
    · have hb' : b < s.heap.objs.size := by
        have e' : b = e ∨ b = it := by simpa using hb
        rcases e' with z | z
        · rw [z]; exact hel
        · rw [z]; exact hil
      rw [upd_ne (Nat.ne_of_lt hb')]
      exact (hf b hb).1
  done := by
    intro X hP hw hK hc i pins s σ H E I hf st hg
    subst hP hw hK
    obtain ⟨⟨old, he⟩, hit, hne⟩ := st
    obtain ⟨xs, hq, hx⟩ := hg
    obtain ⟨its, rv, p, hz⟩ := I.tuple hq
    have p' : s.heap.IsTuple a its.toArray := p
    have hai : a ≠ it := fun z => by
      obtain ⟨o1, q1, c1, _⟩ := p'
      obtain ⟨o2, q2, c2, _⟩ := hit
      rw [z, q2] at q1; cases q1; rw [c2] at c1; exact absurd (Value.type.inj c1) (by decide)
    obtain ⟨f0, f1, f2, f3, f4, f5⟩ := hf it (by simp)
    have hl := rv.length
    have D : Draws X.prog X.w X.A.in1 it [it, a] i (fun _ _ => False) (fun j h => j = i ∧ h.IsTupleIter it a j ∧ h.IsTuple a its.toArray) := {
      live := fun _ _ st => let ⟨o, ho, _⟩ := st.2.1; ⟨o, ho⟩
      frame := fun _ _ _ st hk => ⟨st.1, st.2.1.at fun o e => hk it (by simp) o e, st.2.2.at fun o e => hk a (by simp) o e⟩
      item := fun j s' Q E hj st hQ => absurd st.1 (by omega)
      done := fun s' Q E st hE => wpAny_nextOf_tuple_end (show X.A.in1.handled = none from I.ok.hd hc) st.2.1 st.2.2 (by simp; omega) hE }
    exact wpAny_pyNext_enum_endD D he ⟨rfl, hit, p'⟩ fun h' eb => ⟨rfl, I.turned (t' := s.toks) (fun b o hb q => eb b o hb q) f0 f1 f3 f4 f5⟩
  self := fun A i s Q E st h => let ⟨⟨_, he⟩, _⟩ := st; wpAny_pyIter_enum he h
def iEnumS (K : Frag) (ta : TA) : TI := fun σ H R => ta σ H fun vs H1 => ∃ a, vs = [.ref a] ∧ ((∃ xs, SqL K H1 a xs) ∧ R (Ite K a) H1 ∨ (∃ xs, SqT K H1 a xs) ∧ R (IteT K a) H1)
theorem pi_enumS {X : Cx} {e : Expr} {ta : TA} {p pos tpos : Pos} {elts : List Expr} {kk : Nat} (hg : Gl X "enumerate") (hm : X.mg "enumerate" = none) (ha : PA X [e] ta) (hs : starEach [e] X.env = [(false, eval e X.env)] := by rfl) :
    PI X (.Tuple elts kk tpos) (.Call (.Name "enumerate" p) [e] [] pos) (iEnumS X.K ta) := by
  refine ⟨fun pins s σ H R I h => ?_⟩
  refine PyProof.Rows.Call_ (ld_blt I hg hm PyProof.Rows.boot_enumerate (PyProof.Rows.callWith_type1 (thn (ha.run pos pins s σ H _ I h) fun us s1 ⟨vs, H1, I1, r1, q1⟩ => ?_) hs rfl))
  obtain ⟨a, ex, q⟩ := q1
  subst ex
  cases r1 with
  | cons r rr =>
    cases rr
    cases r
    rcases q with ⟨⟨xs, hq⟩, q⟩ | ⟨⟨xs, hq⟩, q⟩
    · obtain ⟨its, rv, p', hz⟩ := I1.list hq
      refine call_enumerate_list p'.isList fun h' he hit hsz hk => wpAny_pyIter_enum he ?_
      have I2 : L2.Inv X pins σ H1 { s1 with heap := h' } := I1.kept (t' := s1.toks) hk
      refine ⟨s1.heap.objs.size + 1, [s1.heap.objs.size + 1, s1.heap.objs.size], _, _, H1, rfl, I2, turn_enum a (s1.heap.objs.size + 1) s1.heap.objs.size, ⟨⟨.none, he⟩, hit, Nat.succ_ne_self _⟩, fun b hb => ?_, q⟩
      have e' : b = s1.heap.objs.size + 1 ∨ b = s1.heap.objs.size := by simpa using hb
      have hle : s1.heap.objs.size ≤ b := by
        rcases e' with z | z
        · rw [z]; exact Nat.le_add_right _ _
        · rw [z]; exact Nat.le_refl _
      exact I1.fpOk hle (I1.hok.fresh hle)
    · obtain ⟨its, rv, p', hz⟩ := I1.tuple hq
      refine dl_enum_begins (begins_tuple a its.toArray) p' fun h' he hit hsz hk => wpAny_pyIter_enum he ?_
      have I2 : L2.Inv X pins σ H1 { s1 with heap := h' } := I1.kept (t' := s1.toks) hk
      refine ⟨s1.heap.objs.size + 1, [s1.heap.objs.size + 1, s1.heap.objs.size], _, _, H1, rfl, I2, turn_enumT a (s1.heap.objs.size + 1) s1.heap.objs.size, ⟨⟨.none, he⟩, ⟨_, hit, rfl, rfl⟩, Nat.succ_ne_self _⟩, fun b hb => ?_, q⟩
      have e' : b = s1.heap.objs.size + 1 ∨ b = s1.heap.objs.size := by simpa using hb
      have hle : s1.heap.objs.size ≤ b := by
        rcases e' with z | z
        · rw [z]; exact Nat.le_add_right _ _
        · rw [z]; exact Nat.le_refl _
      exact I1.fpOk hle (I1.hok.fresh hle)
/-- the pairs of enumerate -/
def enumF (n : Nat) : List Dat → List Vl
  | [] => []
  | d :: ds => .dat (.tup [.int (n : Int), d]) :: enumF (n + 1) ds
theorem enumF_len : ∀ (ds : List Dat) (n : Nat), (enumF n ds).length = ds.length
  | [], _ => rfl
  | _ :: ds, n => congrArg Nat.succ (enumF_len ds (n + 1))
theorem enumF_get : ∀ (ds : List Dat) (n i : Nat) (d : Dat), ds[i]? = some d → (enumF n ds)[i]? = some (.dat (.tup [.int ((n + i : Nat) : Int), d]))
  | _ :: ds, n, 0, _, h => by cases h; rfl
  | _ :: ds, n, i + 1, d, h => by
    have := enumF_get ds (n + 1) i d h
    rw [show n + 1 + i = n + (i + 1) by omega] at this
    exact this
theorem enumF_at {ds : List Dat} {i : Nat} {x : Vl} (h : (enumF 0 ds)[i]? = some x) : ∃ d, ds[i]? = some d ∧ x = .dat (.tup [.int (i : Int), d]) := by
  have hl := (List.getElem?_eq_some_iff.mp h).1
  rw [enumF_len] at hl
  have hd : ds[i]? = some ds[i] := List.getElem?_eq_getElem hl
  refine ⟨_, hd, ?_⟩
  rw [enumF_get ds 0 i _ hd] at h
  cases h
  simp
def wiEnum (wa : WA) : WI := fun ρ cs P => wa ρ cs fun xs cs1 => ∃ x b ys ds, xs = [x] ∧ seqD cs1 x = some (b, ys) ∧ allDat ys = some ds ∧ P (enumF 0 ds) (fun cs' => seqD cs' x = some (b, ys)) cs1
section
variable {K : Frag} {M0 : Hp} {x : Vl} {a : Addr} {ds : List Dat}
theorem enum_yield {M H : Hp} {cs : Cells} {v : V} {d : Dat} {T : Addr} {i : Nat} (o : Ok K M H cs) (hT : H T = none) (r : Dr K M v d) :
    ∃ M', Same M M' ∧ Ok K M' (upd H T (.tup [.int (i : Nat), v])) cs ∧ RV K M' (.ref T) (.dat (.tup [.int (i : Int), d])) := by
  obtain ⟨s, o'⟩ := o.newM hT (.tup [.int (i : Nat), v])
  exact ⟨_, s, o', rv_dat (.tup (.inl (.inl upd_same)) (.cons (.int _) (.cons (r.mono s) .nil)))⟩
theorem it_enumL (r : RV K M0 (.ref a) x) : ItOk K M0 (Ite K a) (enumF 0 ds) (fun cs' => seqD cs' x = some (true, ds.map .dat)) := by
  refine ⟨fun i M2 H2 cs2 s2 o2 g2 hi => ?_, fun M2 H2 cs2 s2 o2 g2 => ?_, fun i M2 H2 cs2 v2 H3 s2 o2 g2 y hi => ?_⟩
  all_goals
    obtain ⟨a2, vs2, ea2, q2, pr2⟩ := seqD_list o2 (r.mono s2) g2
    cases ea2
    have hl := Paired.len pr2
    rw [List.length_map] at hl
    have da := DrAll.of_paired pr2
  · rw [enumF_len] at hi
    exact ⟨vs2, vs2[i]'(by omega), q2, by simp [show i < vs2.length by omega]⟩
  · exact ⟨vs2, q2, by rw [enumF_len, hl]; exact Nat.le_refl _⟩
  · obtain ⟨T, x1, e1, hT, e2, hx⟩ := y
    subst e1 e2
    obtain ⟨d, hd, rd⟩ := da.getV (hx vs2 q2)
    obtain ⟨M', s', o', r'⟩ := enum_yield (i := i) o2 hT rd
    exact ⟨M', _, by have := enumF_get ds 0 i d hd; rw [Nat.zero_add] at this; exact this, s', o', r'⟩
theorem it_enumT (r : RV K M0 (.ref a) x) : ItOk K M0 (IteT K a) (enumF 0 ds) (fun cs' => seqD cs' x = some (false, ds.map .dat)) := by
  refine ⟨fun i M2 H2 cs2 s2 o2 g2 hi => ?_, fun M2 H2 cs2 s2 o2 g2 => ?_, fun i M2 H2 cs2 v2 H3 s2 o2 g2 y hi => ?_⟩
  all_goals
    obtain ⟨a2, vs2, ea2, q2, pr2⟩ := seqD_tup o2 (r.mono s2) g2
    cases ea2
    have hl := Paired.len pr2
    rw [List.length_map] at hl
    have da := DrAll.of_paired pr2
  · rw [enumF_len] at hi
    exact ⟨vs2, vs2[i]'(by omega), q2, by simp [show i < vs2.length by omega]⟩
  · exact ⟨vs2, q2, by rw [enumF_len, hl]; exact Nat.le_refl _⟩
  · obtain ⟨T, x1, e1, hT, e2, hx⟩ := y
    subst e1 e2
    obtain ⟨d, hd, rd⟩ := da.getV (hx vs2 q2)
    obtain ⟨M', s', o', r'⟩ := enum_yield (i := i) o2 hT rd
    exact ⟨M', _, by have := enumF_get ds 0 i d hd; rw [Nat.zero_add] at this; exact this, s', o', r'⟩
end
theorem di_enum {X : Cx} {e : Expr} {wa : WA} {p pos tpos : Pos} {elts : List Expr} {kk : Nat} (hm : X.mg "enumerate" = none) (ha : DA X [e] wa) (hg : Gl X "enumerate" := by rfl) (hs : starEach [e] X.env = [(false, eval e X.env)] := by rfl) :
    DI X (.Tuple elts kk tpos) (.Call (.Name "enumerate" p) [e] [] pos) (wiEnum wa) :=
  pi_imp (pi_enumS hg hm ha hs) fun σ H R ⟨M, ρ, cs, P, o, r, p, k⟩ => by
    refine ⟨M, ρ, cs, _, o, r, p, fun vs xs M1 H1 cs1 s1 o1 r1 ⟨x, b, ys, ds, ex, hx, hd, p1⟩ => ?_⟩
    subst ex
    cases r1 with
    | cons r1 rr =>
      cases rr
      have hy := allDat_eq hd
      subst hy
      cases b with
      | true =>
        obtain ⟨a, vs, ea, q, pr⟩ := seqD_list o1 r1 hx
        subst ea
        exact ⟨a, rfl, .inl ⟨⟨vs, q⟩, k _ _ _ M1 H1 cs1 s1 o1 (it_enumL r1) p1⟩⟩
      | false =>
        obtain ⟨a, vs, ea, q, pr⟩ := seqD_tup o1 r1 hx
        subst ea
        exact ⟨a, rfl, .inr ⟨⟨vs, q⟩, k _ _ _ M1 H1 cs1 s1 o1 (it_enumT r1) p1⟩⟩
end DL
set_option maxRecDepth 100000
set_option maxHeartbeats 4000000
namespace DL
open PySem L2
/-! ### xs[i] += e -/
theorem get_list {X : Cx} : PGet X (rIxL X.K) := by
  intro pins s σ H x y v u Q I rx ry h
  obtain ⟨p, xs, i, z, rfl, rfl, hq, he, q⟩ := h
  cases rx
  obtain ⟨t, rfl⟩ := ry
  obtain ⟨its, r, pl, hz⟩ := I.list hq
  obtain ⟨j, h1, h2, h3, h4, h5⟩ := atI_get he
  obtain ⟨w, ew, rw'⟩ := r.get h2
  have hl := r.length
  have hn := line63
  have fin : EP X pins σ Q w s := ⟨z, H, I, rw', q⟩
  by_cases h0 : 0 ≤ i
  · have hj : i.toNat = j := by
      rw [seqIndex_of h0 h5] at h1
      exact Option.some.inj h1
    exact wpAny_getItem_list pl.isList h0 (by omega) (by rw [hj]; simpa using ew) fin
  · have hj : (i + (its.toArray.size : Int)).toNat = j := by
      rw [seqIndex_neg (by omega) h4] at h1
      rw [List.size_toArray, ← hl]
      exact Option.some.inj h1
    exact wpAny_getItem_list_neg pl.isList (by omega) (by rw [List.size_toArray] <;> omega) (by omega) (by rw [hj]; simpa using ew) fin
def wAugIx (wo wi we : WE) (f : Int → Int → Int) : WS := fun D ρ cs => wo ρ cs fun o cs1 => wi ρ cs1 fun i cs2 => ∃ a xs k j n, o = .cell a ∧ i = .dat (.int k) ∧ cs2 a = some (.lst xs) ∧ ixN xs.length k = some j ∧ xs[j]? = some (.dat (.int n)) ∧
  we ρ cs2 fun y cs3 => ∃ m, y = .dat (.int m) ∧ cs3 a = some (.lst xs) ∧ D.nx ρ (cs3.put a (.lst (xs.set j (.dat (.int (f n m))))))
section
variable {X : Cx} {a b c e o : Expr} {es : List Expr} {wa wb wc we wo : WE} {w u : WT} {wr : WA} {pos : Pos}
theorem ds_augIx {tpos : Pos} {op : Operator} {f : Int → Int → Int} (ho : DE X a wa) (hi : DE X b wb) (he : DE X e we) (hp : PIp X op (ipI f))
    (ha : ∀ ov iv new, augStore b ov iv new = (do holding [new, ov, iv] (setItem ov iv new); release [new, ov, iv] []; pure .next) := by intros; rfl) : DS X (.AugAssign (.Subscript a b tpos) op e pos) (wAugIx wa wb we f) :=
  ps_imp (ps_augS ho hi get_list he hp set_list ha) fun E σ H ⟨M, ρ, cs, D, o, r, h, e⟩ => by
    refine ⟨M, ρ, cs, _, o, r, h, fun v1 x1 M1 H1 cs1 s1 o1 r1 p1 => ?_⟩
    refine ⟨M1, ρ, cs1, _, o1, r.mono s1, p1, fun v2 x2 M2 H2 cs2 s2 o2 r2 ⟨ad, xs, k, j, n, e1, e2, hc, hj, hn, p2⟩ => ?_⟩
    subst e1 e2
    have e1 : v1 = .ref ad := r1
    obtain ⟨m0, ob, hob, cr⟩ := o2.cell ad _ hc
    cases ob <;> try exact (show False from cr).elim
    rename_i ys
    have cr : Paired (RV X.K M2) ys xs := cr
    obtain ⟨vn, hvn, rvn⟩ := Paired.getR cr hn
    rw [inv_int rvn] at hvn
    refine ⟨ad, ys, k, .int n, e1, inv_int r2, .inl (.inl hob), by unfold atI; rw [Paired.len cr, hj]; exact hvn, ?_⟩
    refine ⟨M2, ρ, cs2, _, o2, r.mono (s1.trans s2), p2, fun v3 x3 M3 H3 cs3 s3 o3 r3 ⟨m, e3, hc3, p3⟩ => ?_⟩
    subst e3
    obtain ⟨m3, ob3, hob3, cr3⟩ := o3.cell ad _ hc3
    cases ob3 <;> try exact (show False from cr3).elim
    rename_i ys3
    have cr3 : Paired (RV X.K M3) ys3 xs := cr3
    refine ⟨n, m, rfl, inv_int r3, ad, ys3, k, j, e1, inv_int r2, hob3, by rw [Paired.len cr3]; exact hj, ?_⟩
    have s123 := s1.trans (s2.trans s3)
    exact e.nx σ ρ M3 _ _ s123 (o3.setC hc3 (c := .lst (xs.set j (.dat (.int (f n m))))) (paired_set cr3 (rv_dat (.int _)))) (r.mono s123) p3
/-! ### methods of lists -/
def wApp (wo we : WE) : WE := fun ρ cs P => wo ρ cs fun o cs1 => ∃ a xs0, o = .cell a ∧ cs1 a = some (.lst xs0) ∧ we ρ cs1 fun y cs2 => ∃ xs, cs2 a = some (.lst xs) ∧ xs.length < 16777216 ∧ P (.dat .non) (cs2.put a (.lst (xs ++ [y])))
theorem size_lt {n : Nat} (h : n < 16777216) : n < sizeLine := by rw [sizeLine_eq]; exact h
theorem cell_lst {K : Frag} {M H : Hp} {cs : Cells} {a : Addr} {xs : List Vl} (o : Ok K M H cs) (h : cs a = some (.lst xs)) : ∃ ys, H a = some (.lst ys) ∧ Paired (RV K M) ys xs := by
  obtain ⟨m3, ob3, hob3, cr3⟩ := o.cell a _ h
  cases ob3 <;> try exact (show False from cr3).elim
  exact ⟨_, hob3, cr3⟩
theorem de_append {apos cpos : Pos} (ho : DE X o wo) (he : DE X e we) (hbase : attributeBase o "append" X.env (eval o X.env) = eval o X.env := by rfl)
    (hfew : ((backTo cpos (starEach [e] X.env)).all (fun x => !x.1) && (backToKw cpos (keywordEach [] X.env)).all (fun x => x.1.isSome)
      && decide ([e].length + ([] : List Keyword).length + (if ([] : List Keyword).isEmpty then 0 else 1) < 30)) = true := by rfl)
    (hline : (apos.endLine == cpos.line) = true := by rfl) (hs : starEach [e] X.env = (false, eval e X.env) :: starEach [] X.env := by rfl) (hplain : (backTo cpos (starEach [] X.env)).any (·.1) = false := by rfl) :
    DE X (.Call (.Attribute o "append" apos) [e] [] cpos) (wApp wo we) :=
  pe_imp (pe_bm PySem.F.plainAttrs_list PySem.F.slot_list_append PySem.F.type_list_append mt_append ho (pa_cons he pa_nil hs) hbase hfew hline hs hplain) fun σ H Q ⟨M, ρ, cs, P, o, r0, p, k⟩ => by
    refine ⟨M, ρ, cs, _, o, r0, p, fun v x M1 H1 cs1 s1 o1 r1 ⟨a, xs0, ea, hc, p1⟩ => ?_⟩
    subst ea
    have e1 : v = .ref a := r1
    subst e1
    obtain ⟨ys, hy, py⟩ := cell_lst o1 hc
    refine ⟨.inl ⟨rfl, _, .inl (.inl hy)⟩, M1, ρ, cs1, _, o1, r0.mono s1, p1, fun v2 x2 M2 H2 cs2 s2 o2 r2 ⟨xs, hc2, hz, p2⟩ => ?_⟩
    obtain ⟨ys2, hy2, py2⟩ := cell_lst o2 hc2
    refine ⟨a, ys2, v2, rfl, rfl, hy2, by rw [Paired.len py2]; exact size_lt hz, ?_⟩
    exact k _ _ M2 _ _ (s1.trans s2) (o2.setC hc2 (c := .lst (xs ++ [x2])) (Paired.app py2 (.cons r2 .nil))) (rv_dat .non) p2
def wExt (wo we : WE) : WE := fun ρ cs P => wo ρ cs fun o cs1 => ∃ a xs0, o = .cell a ∧ cs1 a = some (.lst xs0) ∧ we ρ cs1 fun y cs2 => ∃ b xs zs, y = .cell b ∧ cs2 a = some (.lst xs) ∧ cs2 b = some (.lst zs) ∧ xs.length + zs.length ≤ 16777216 ∧ P (.dat .non) (cs2.put a (.lst (xs ++ zs)))
theorem de_extend {apos cpos : Pos} (ho : DE X o wo) (he : DE X e we) (hbase : attributeBase o "extend" X.env (eval o X.env) = eval o X.env := by rfl)
    (hfew : ((backTo cpos (starEach [e] X.env)).all (fun x => !x.1) && (backToKw cpos (keywordEach [] X.env)).all (fun x => x.1.isSome)
      && decide ([e].length + ([] : List Keyword).length + (if ([] : List Keyword).isEmpty then 0 else 1) < 30)) = true := by rfl)
    (hline : (apos.endLine == cpos.line) = true := by rfl) (hs : starEach [e] X.env = (false, eval e X.env) :: starEach [] X.env := by rfl) (hplain : (backTo cpos (starEach [] X.env)).any (·.1) = false := by rfl) :
    DE X (.Call (.Attribute o "extend" apos) [e] [] cpos) (wExt wo we) :=
  pe_imp (pe_bm PySem.F.plainAttrs_list PySem.F.slot_list_extend PySem.F.type_list_extend mt_extend ho (pa_cons he pa_nil hs) hbase hfew hline hs hplain) fun σ H Q ⟨M, ρ, cs, P, o, r0, p, k⟩ => by
    refine ⟨M, ρ, cs, _, o, r0, p, fun v x M1 H1 cs1 s1 o1 r1 ⟨a, xs0, ea, hc, p1⟩ => ?_⟩
    subst ea
    have e1 : v = .ref a := r1
    subst e1
    obtain ⟨ys, hy, py⟩ := cell_lst o1 hc
    refine ⟨.inl ⟨rfl, _, .inl (.inl hy)⟩, M1, ρ, cs1, _, o1, r0.mono s1, p1, fun v2 x2 M2 H2 cs2 s2 o2 r2 ⟨b, xs, zs, eb, hc2, hc3, hz, p2⟩ => ?_⟩
    subst eb
    have e2 : v2 = .ref b := r2
    subst e2
    obtain ⟨ys2, hy2, py2⟩ := cell_lst o2 hc2
    obtain ⟨ys3, hy3, py3⟩ := cell_lst o2 hc3
    refine ⟨a, b, ys2, ys3, rfl, rfl, hy2, hy3, by rw [Paired.len py2, Paired.len py3]; exact size_line hz, ?_⟩
    exact k _ _ M2 _ _ (s1.trans s2) (o2.setC hc2 (c := .lst (xs ++ zs)) (Paired.app py2 py3)) (rv_dat .non) p2
/-! ### + and * of lists: new lists; what is not needed any more may be dropped -/
def SubC (cs' cs : Cells) : Prop := ∀ a c, cs' a = some c → cs a = some c
theorem SubC.refl (cs : Cells) : SubC cs cs := fun _ _ h => h
theorem SubC.put {cs : Cells} {p : Addr} {c : CO} (h : cs p = none) : SubC cs (cs.put p c) := fun a d e => by
  rw [Cells.put_ne (by intro z; rw [z, h] at e; cases e)]; exact e
theorem SubC.trans {a b c : Cells} (h : SubC a b) (h' : SubC b c) : SubC a c := fun x d e => h' x d (h x d e)
def wCat : W2 := fun x y cs P => ∃ a b xs ys cs', x = .cell a ∧ y = .cell b ∧ cs a = some (.lst xs) ∧ cs b = some (.lst ys) ∧ xs.length + ys.length ≤ 16777216 ∧ SubC cs' cs ∧ newL (xs ++ ys) cs' P
def wRep : W2 := fun x y cs P => ∃ a k xs cs', x = .cell a ∧ y = .dat (.int k) ∧ cs a = some (.lst xs) ∧ -(2 ^ 63) ≤ k ∧ k < 2 ^ 63 ∧ xs.length * k.toNat ≤ 16777216 ∧ SubC cs' cs ∧ newL (List.replicate k.toNat xs).flatten cs' P
theorem paired_rep {α β : Type} {R : α → β → Prop} {xs : List α} {ys : List β} (h : Paired R xs ys) : ∀ n, Paired R (List.replicate n xs).flatten (List.replicate n ys).flatten
  | 0 => .nil
  | n + 1 => by
    rw [List.replicate_succ, List.replicate_succ, List.flatten_cons, List.flatten_cons]
    exact Paired.app h (paired_rep h n)
theorem de_cat (ha : DE X a wa) (hb : DE X b wb) : DE X (.BinOp a .Add b pos) (wOp wCat wa wb) := de_op op_cat (fun M H cs x y a b P Q o rx ry ⟨p, q, xs, ys, cs', ea, eb, h1, h2, hz, hs, hn⟩ k => by
  subst ea eb
  obtain ⟨us, hu, pu⟩ := cell_lst o h1
  obtain ⟨vs, hv, pv⟩ := cell_lst o h2
  exact ⟨p, q, us, vs, rx, ry, hu, hv, by rw [Paired.len pu, Paired.len pv]; exact size_line hz, newL_ok (o.sub hs) (Paired.app pu pv) hn k⟩) ha hb
theorem de_rep (ha : DE X a wa) (hb : DE X b wb) : DE X (.BinOp a .Mult b pos) (wOp wRep wa wb) := de_op op_rep (fun M H cs x y a b P Q o rx ry ⟨p, k, xs, cs', ea, eb, h1, h2, h3, hz, hs, hn⟩ kk => by
  subst ea eb
  obtain ⟨us, hu, pu⟩ := cell_lst o h1
  exact ⟨p, k, us, rx, inv_int ry, hu, h2, h3, by rw [Paired.len pu]; exact size_line hz, newL_ok (o.sub hs) (paired_rep pu _) hn kk⟩) ha hb
end
/-! ### isinstance -/
inductive Ty where
  | non | bool | int | str | list | tuple | dict
  deriving DecidableEq
def Ty.nm : Ty → String
  | .non => "NoneType"
  | .bool => "bool"
  | .int => "int"
  | .str => "str"
  | .list => "list"
  | .tuple => "tuple"
  | .dict => "dict"
def isiT : Ty → Ty → Bool
  | .bool, .int => true
  | a, b => decide (a = b)
theorem kit_isi (a b : Ty) : kitB a.nm b.nm = some (isiT a b) := by cases a <;> cases b <;> decide +kernel
def coTy : Option CO → Option Ty
  | some (.lst _) => some .list
  | some (.dk _) => some .dict
  | some (.dt _) => some .dict
  | _ => none
def tyD (cs : Cells) : Vl → Option Ty
  | .dat .non => some .non
  | .dat (.bl _) => some .bool
  | .dat (.int _) => some .int
  | .dat (.str _) => some .str
  | .dat (.lst _) => some .list
  | .dat (.tup _) => some .tuple
  | .dat (.obj _ _) => none
  | .raw (.ref a) => coTy (cs a)
  | .raw _ => none
theorem tyX_list {K : Frag} {H : Hp} {a : Addr} {xs : List V} (h : SqL K H a xs) : TyX K H (.ref a) (.type "list") := by
  rcases h with (h | ⟨o, h⟩) | ⟨o, its, n, hk, hc, _⟩
  · exact .base (.lst h)
  · exact .base (.frz h)
  · exact .kList hk hc
theorem tyX_tup {K : Frag} {H : Hp} {a : Addr} {xs : List V} (h : SqT K H a xs) : TyX K H (.ref a) (.type "tuple") := by
  rcases h with (h | ⟨o, h⟩) | ⟨o, its, n, hk, hc, _⟩
  · exact .base (.tup h)
  · exact .fTuple h
  · exact .kTuple hk hc
theorem tyD_ok {K : Frag} {M H : Hp} {cs : Cells} {v : V} {x : Vl} {t : Ty} (o : Ok K M H cs) (r : RV K M v x) (h : tyD cs x = some t) : TyX K H v (.type t.nm) := by
  match x, r, h with
  | .dat .non, r, h => cases h; rw [inv_non r]; exact .base .non
  | .dat (.bl b), r, h => cases h; rw [inv_bl r]; exact .base (.bl b)
  | .dat (.int b), r, h => cases h; rw [inv_int r]; exact .base (.int b)
  | .dat (.str b), r, h => cases h; rw [inv_str r]; exact .base (.str b)
  | .dat (.lst ds), r, h =>
    cases h
    cases (show Dr K M v (.lst ds) from r) with
    | lst q k => exact tyX_list (o.seqL q)
  | .dat (.tup ds), r, h =>
    cases h
    cases (show Dr K M v (.tup ds) from r) with
    | tup q k => exact tyX_tup (o.seqT q)
  | .raw (.ref a), r, h =>
    cases (show v = .ref a from r)
    have h : coTy (cs a) = some t := h
    cases q : cs a with
    | none => rw [q] at h; cases h
    | some c =>
      rw [q] at h
      obtain ⟨_, u, hu, z⟩ := o.cell a _ q
      cases c with
      | lst ys =>
        cases h
        cases u <;> try exact (show False from z).elim
        exact .base (.lst hu)
      | dk ys =>
        cases h
        cases u <;> try exact (show False from z).elim
        exact .base (.dK hu)
      | dt ys =>
        cases h
        cases u <;> try exact (show False from z).elim
        exact .base (.dT hu)
      | ins C fs => cases h
def wIsi (T : Ty) (we : WE) : WE := fun ρ cs P => we ρ cs fun x cs1 => ∃ t, tyD cs1 x = some t ∧ P (.dat (.bl (isiT t T))) cs1
def wIsi2 (T U : Ty) (we : WE) : WE := fun ρ cs P => we ρ cs fun x cs1 => ∃ t, tyD cs1 x = some t ∧ P (.dat (.bl (isiT t T || isiT t U))) cs1
section
variable {X : Cx} {a b c e o : Expr} {es : List Expr} {wa wb wc we wo : WE} {w u : WT} {wr : WA} {pos : Pos}
theorem de_isi (T : Ty) {tn : Str} {p pt : Pos} (hm : X.mg "isinstance" = none) (ht : X.mg tn = none) (hv : bootBuiltins tn = some (.type T.nm)) (h : DE X e we) (hg : Gl X "isinstance" := by rfl) (hgt : Gl X tn := by rfl) (hn : tn ≠ "__name__" := by decide) (hd : (tn == ("__debug__" : Str)) = false := by decide)
    (h1 : starEach [e, .Name tn pt] X.env = (false, eval e X.env) :: starEach [.Name tn pt] X.env := by rfl) (h2 : starEach [.Name tn pt] X.env = (false, eval (.Name tn pt) X.env) :: starEach [] X.env := by rfl)
    (hpl : (backTo pos (starEach [.Name tn pt] X.env)).any (·.1) = false := by rfl) :
    DE X (.Call (.Name "isinstance" p) [e, .Name tn pt] [] pos) (wIsi T we) :=
  pe_imp (pe_callB call_isi hg hm (by decide +kernel) (pa_cons h (pa_cons (pe_bltn (v := .ty T.nm) hgt ht hv rfl hn hd) pa_nil h2) h1) (by decide) (by decide) h1 hpl) fun σ H Q ⟨M, ρ, cs, P, o, r0, p, k⟩ => by
    refine ⟨M, ρ, cs, _, o, r0, p, fun v x M1 H1 cs1 s1 o1 r1 ⟨t, htt, p1⟩ => ?_⟩
    exact ⟨v, .ty T.nm, .type t.nm, .type T.nm, _, rfl, .ty _, tyD_ok o1 r1 htt, kit_ty (kit_isi t T), k _ _ M1 H1 cs1 s1 o1 (rv_dat (.bl _)) p1⟩
theorem de_isi2 (T U : Ty) {tn un : Str} {p pt pu ptt : Pos} {kk : Nat} (hm : X.mg "isinstance" = none) (ht : X.mg tn = none) (hu : X.mg un = none) (hv : bootBuiltins tn = some (.type T.nm)) (hvu : bootBuiltins un = some (.type U.nm)) (h : DE X e we)
    (hg : Gl X "isinstance" := by rfl) (hgt : Gl X tn := by rfl) (hgu : Gl X un := by rfl) (hn : tn ≠ "__name__" := by decide) (hd : (tn == ("__debug__" : Str)) = false := by decide) (hnu : un ≠ "__name__" := by decide) (hdu : (un == ("__debug__" : Str)) = false := by decide)
    (h1 : starEach [e, .Tuple [.Name tn pt, .Name un pu] kk ptt] X.env = (false, eval e X.env) :: starEach [.Tuple [.Name tn pt, .Name un pu] kk ptt] X.env := by rfl)
    (h2 : starEach [.Tuple [.Name tn pt, .Name un pu] kk ptt] X.env = (false, eval (.Tuple [.Name tn pt, .Name un pu] kk ptt) X.env) :: starEach [] X.env := by rfl)
    (h3 : starEach [.Name tn pt, .Name un pu] X.env = (false, eval (.Name tn pt) X.env) :: starEach [.Name un pu] X.env := by rfl) (h4 : starEach [.Name un pu] X.env = (false, eval (.Name un pu) X.env) :: starEach [] X.env := by rfl)
    (hpl : (backTo pos (starEach [.Tuple [.Name tn pt, .Name un pu] kk ptt] X.env)).any (·.1) = false := by rfl) :
    DE X (.Call (.Name "isinstance" p) [e, .Tuple [.Name tn pt, .Name un pu] kk ptt] [] pos) (wIsi2 T U we) :=
  pe_imp (pe_callB call_isiT hg hm (by decide +kernel) (pa_cons h (pa_cons (pe_tup (pa_cons (pe_bltn (v := .ty T.nm) hgt ht hv rfl hn hd) (pa_cons (pe_bltn (v := .ty U.nm) hgu hu hvu rfl hnu hdu) pa_nil h4) h3)) pa_nil h2) h1) (by decide) (by decide) h1 hpl) fun σ H Q ⟨M, ρ, cs, P, o, r0, p, k⟩ => by
    refine ⟨M, ρ, cs, _, o, r0, p, fun v x M1 H1 cs1 s1 o1 r1 ⟨t, htt, p1⟩ => ?_⟩
    refine ⟨by show 2 ≤ sizeLine; decide, fun q hq => ?_⟩
    obtain ⟨s2, o2⟩ := o1.newM hq (.tup [.ty T.nm, .ty U.nm])
    refine ⟨v, q, [.ty T.nm, .ty U.nm], .type t.nm, [.type T.nm, .type U.nm], _, rfl, upd_same, .cons (.ty _) (.cons (.ty _) .nil), tyD_ok o2 (r1.mono s2) htt, ?_, k _ _ _ _ cs1 (s1.trans s2) o2 (rv_dat (.bl (isiT t T || isiT t U))) p1⟩
    refine kitAny_cons (kit_ty (kit_isi t T)) (fun hf => ?_) (fun hf => by rw [hf]; rfl)
    refine kitAny_cons (kit_ty (kit_isi t U)) (fun hg => ?_) (fun hg => by rw [hg, Bool.or_true])
    rw [hf, hg]; rfl
end
end DL
set_option maxRecDepth 100000
set_option maxHeartbeats 4000000
namespace DL
open PySem L2
/-! ### list comprehensions -/
def wYes : WT := fun _ cs P => P true cs
def DTs (X : Cx) (ifs : List Expr) (w : WT) : Prop := PTs X ifs (liftT X.K w)
theorem pts_imp {X : Cx} {ifs : List Expr} {t t' : TT} (h : PTs X ifs t) (m : ∀ σ H Q, t' σ H Q → t σ H Q) : PTs X ifs t' := ⟨fun pins s σ H Q I q => h.run pins s σ H Q I (m σ H Q q)⟩
theorem dts_nil {X : Cx} : DTs X [] wYes := pts_imp pts_nil fun σ H Q ⟨M, ρ, cs, P, o, r, p, k⟩ => k true M H cs (Same.refl _) o p
theorem dts_one {X : Cx} {c : Expr} {w : WT} (h : DT X c w) : DTs X [c] w := pts_one h
def wipeD (ρ : DEnv) : List Nat → DEnv
  | [] => ρ
  | v :: vs => (wipeD ρ vs).set v none
theorem wipeD_len (ρ : DEnv) : ∀ vs, (wipeD ρ vs).length = ρ.length
  | [] => rfl
  | v :: vs => by unfold wipeD; rw [List.length_set, wipeD_len ρ vs]
theorem Rho.wipe {K : Frag} {M : Hp} {σ : St} {ρ : DEnv} (r : Rho K M σ ρ) : ∀ vs, Rho K M (L2.wipe σ vs) (wipeD ρ vs)
  | [] => r
  | v :: vs => by
    have ih := Rho.wipe r vs
    unfold L2.wipe wipeD
    refine ⟨by rw [List.length_set, List.length_set]; exact ih.len, fun i x e => ?_⟩
    by_cases h : v = i
    · subst h
      by_cases hl : v < (wipeD ρ vs).length
      · rw [List.getElem?_set_self hl] at e; cases e
      · rw [List.getElem?_eq_none (by rw [List.length_set]; omega)] at e; cases e
    · rw [List.getElem?_set_ne h] at e
      obtain ⟨u, hu, ru⟩ := ih.at_ i x e
      exact ⟨u, by rw [List.getElem?_set_ne h]; exact hu, ru⟩
theorem wipe_get {σ : St} {i : Nat} : ∀ vs : List Nat, i ∉ vs → (L2.wipe σ vs)[i]? = σ[i]?
  | [], _ => rfl
  | v :: vs, h => by
    unfold L2.wipe
    rw [List.getElem?_set_ne (by intro z; exact h (by simp [z])), wipe_get vs (fun z => h (by simp [z]))]
theorem wipe_in {σ : St} {i : Nat} (hi : i < σ.length) : ∀ vs : List Nat, i ∈ vs → (L2.wipe σ vs)[i]? = some none
  | v :: vs, h => by
    unfold L2.wipe
    by_cases hv : v = i
    · subst hv
      rw [List.getElem?_set_self (by rw [wipe_length]; exact hi)]
    · rw [List.getElem?_set_ne hv]
      exact wipe_in hi vs (by
        rcases List.mem_cons.mp h with z | z
        · exact absurd z.symm hv
        · exact z)
theorem wipe_eq {σ σ2 : St} {vs js : List Nat} (hl : σ2.length = (L2.wipe σ vs).length) (hj : ∀ i, i ∉ js → σ2[i]? = (L2.wipe σ vs)[i]?) (hs : ∀ i ∈ js, i ∈ vs) : L2.wipe σ2 vs = L2.wipe σ vs := by
  rw [wipe_length] at hl
  refine List.ext_getElem? fun i => ?_
  by_cases hi : i < σ.length
  · by_cases hv : i ∈ vs
    · rw [wipe_in (by omega) vs hv, wipe_in hi vs hv]
    · rw [wipe_get vs hv, hj i (fun z => hv (hs i z))]
  · rw [List.getElem?_eq_none (by rw [wipe_length]; omega), List.getElem?_eq_none (by rw [wipe_length]; omega)]
/-- the new list: a cell, or data for ever -/
def doneL (D : Addr) (acc : List Vl) (cs : Cells) (P : Vl → Cells → Prop) : Prop := P (.cell D) cs ∨ ∃ ds, allDat acc = some ds ∧ P (.dat (.lst ds)) (cs.del D)
theorem Ok.frz {K : Frag} {M H : Hp} {cs : Cells} {a : Addr} {ds : List Dat} (o : Ok K M H cs) (h : cs a = some (.lst (ds.map .dat))) : ∃ M', Same M M' ∧ Ok K M' H (cs.del a) ∧ Dr K M' (.ref a) (.lst ds) := by
  obtain ⟨ys, hy, py⟩ := cell_lst o h
  obtain ⟨m0, _⟩ := o.cell a _ h
  have s : Same M (upd M a (.lst ys)) := same_upd m0
  refine ⟨_, s, ⟨fun b ob e => ?_, fun b c e => ?_⟩, .lst (.inl (.inl upd_same)) ((DrAll.of_paired py).mono s)⟩
  · by_cases hb : b = a
    · rw [hb] at e ⊢; rw [upd_same] at e; cases e; exact hy
    · rw [upd_ne hb] at e; exact o.ex b ob e
  · have hb : b ≠ a := by intro z; simp [Cells.del, z] at e
    have e' : cs b = some c := by simpa [Cells.del, hb] using e
    obtain ⟨m, ob, q, r⟩ := o.cell b c e'
    exact ⟨by rw [upd_ne hb]; exact m, ob, q, r.mono s⟩
def wLc (wi : WI) (g : WG) (wt : WT) (we : WE) (vs : List Nat) : WE := fun ρ cs P => wi ρ cs fun items G cs1 => ∀ D, cs1 D = none → ∃ Inv : Nat → Cells → Prop, Inv 0 (cs1.put D (.lst [])) ∧ (∀ i cs', i ≤ items.length → Inv i cs' → G cs') ∧
  (∀ i x cs', items[i]? = some x → Inv i cs' → g x (wipeD ρ vs) cs' fun ρ2 cs2 => wt ρ2 cs2 fun b cs3 => if b = true then we ρ2 cs3 fun y cs4 => ∃ acc, cs4 D = some (.lst acc) ∧ acc.length < 16777216 ∧ Inv (i + 1) (cs4.put D (.lst (acc ++ [y]))) else Inv (i + 1) cs3) ∧
  ∀ cs', Inv items.length cs' → ∃ acc, cs' D = some (.lst acc) ∧ doneL D acc cs' P
theorem liftLc {K : Frag} {wi : WI} {g : WG} {wt : WT} {we : WE} {vs js : List Nat} (hs : ∀ i ∈ js, i ∈ vs) {σ : St} {H : Hp} {Q : VK} (h : lift K (wLc wi g wt we vs) σ H Q) : tLc (liftI K wi) (liftG K js g) (liftT K wt) (lift K we) vs σ H Q := by
  obtain ⟨M, ρ, cs, P, o, r, p, k⟩ := h
  refine ⟨M, ρ, cs, _, o, r, p, fun J items G M1 H1 cs1 s1 o1 it p1 => ?_⟩
  intro D hD
  obtain ⟨Iv, i0, iG, turn, fin⟩ := p1 D (o1.freeC hD)
  refine ⟨fun i m H' => m = items.length - i ∧ i ≤ items.length ∧ ∃ M' cs', Same M1 M' ∧ Ok K M' H' cs' ∧ Iv i cs', ⟨items.length, by simp, Nat.zero_le _, M1, _, Same.refl _, o1.newC hD (u := .lst []) (c := .lst []) .nil, i0⟩, ?_⟩
  rintro i m H' ⟨rfl, hi, M', cs', s', o', inv⟩
  have g' := iG i cs' hi inv
  by_cases hlt : i < items.length
  · refine .inr ⟨it.go i M' H' cs' s' o' g' hlt, fun H2 => ∃ M2 cs2, Same M1 M2 ∧ Ok K M2 H2 cs2 ∧ Iv (i + 1) cs2, fun H2 q => ⟨_, by omega, rfl, hlt, q⟩, fun v H2 y => ?_⟩
    obtain ⟨M2, x, ex, s2, o2, rv⟩ := it.yld i M' H' cs' v H2 s' o' g' y hlt
    refine ⟨M2, wipeD ρ vs, cs', x, _, o2, ((r.mono (s1.trans (s'.trans s2))).wipe vs), rv, turn i x cs' ex inv, fun σ3 ρ3 M3 H3 cs3 s3 o3 r3 hl3 hj3 p3 => ?_⟩
    refine ⟨wipe_eq hl3 hj3 hs, M3, ρ3, cs3, _, o3, r3, p3, fun b M4 H4 cs4 s4 o4 p4 => ?_⟩
    cases b with
    | true =>
      refine iteT ?_
      refine ⟨M4, ρ3, cs4, _, o4, r3.mono s4, (show we ρ3 cs4 fun y cs4 => ∃ acc, cs4 D = some (.lst acc) ∧ acc.length < 16777216 ∧ Iv (i + 1) (cs4.put D (.lst (acc ++ [y]))) by simpa using p4), fun v5 y5 M5 H5 cs5 s5 o5 r5 ⟨acc, hacc, hz, p5⟩ => ?_⟩
      obtain ⟨ys, hy, py⟩ := cell_lst o5 hacc
      exact ⟨ys, hy, by rw [Paired.len py]; exact size_lt hz, M5, _, s'.trans (s2.trans (s3.trans (s4.trans s5))), o5.setC hacc (c := .lst (acc ++ [y5])) (Paired.app py (.cons r5 .nil)), p5⟩
    | false =>
      refine iteF ?_
      exact ⟨M4, cs4, s'.trans (s2.trans (s3.trans s4)), o4, by simpa using p4⟩
  · have ei : i = items.length := by omega
    subst ei
    refine .inl ⟨it.stop M' H' cs' s' o' g', ?_⟩
    obtain ⟨acc, hacc, q⟩ := fin cs' inv
    rcases q with q | ⟨ds, hd, q⟩
    · exact k _ _ M' H' cs' (s1.trans s') o' rv_raw q
    · rw [allDat_eq hd] at hacc
      obtain ⟨M2, s2, o2, rd⟩ := o'.frz hacc
      exact k _ _ M2 H' _ (s1.trans (s'.trans s2)) o2 (rv_dat rd) q
section
variable {X : Cx} {elt tg iter : Expr} {ifs : List Expr} {scope : Scope} {own : List (Str × Nat)} {pos : Pos} {wi : WI} {g : WG} {wt : WT} {we : WE} {js : List Nat}
theorem de_lc (hN : X.N.Nodup) (hi : DI X tg iter wi) (ok : BlkOk X.N X.env.scope scope own)
    (hg : ∀ (s : Shared) (H : Hp) (C : Addr) (cl : List (Str × Addr)) (fp : List Addr), DG (X.blk s H scope (compEnvC scope cl C X.env) fp) js tg g) (ht : ∀ (s : Shared) (H : Hp) (C : Addr) (cl : List (Str × Addr)) (fp : List Addr), DTs (X.blk s H scope (compEnvC scope cl C X.env) fp) ifs wt)
    (he : ∀ (s : Shared) (H : Hp) (C : Addr) (cl : List (Str × Addr)) (fp : List Addr), DE (X.blk s H scope (compEnvC scope cl C X.env) fp) elt we) (hj : ∀ i ∈ js, i ∈ own.map (·.2)) (hc : X.calm = true := by rfl) (hs : ∀ x, foldedSetIterable iter X.env x = pure x := by intro _; rfl) :
    DE X (.ListComp elt [⟨tg, iter, ifs, 0⟩] scope pos) (wLc wi g wt we (own.map (·.2))) := pe_imp (pe_lc (wi := liftI X.K wi) (g := liftG X.K js g) (tt := liftT X.K wt) (te := lift X.K we) hc hN hi ok hg ht he hs) fun _ _ _ h => liftLc hj h
theorem ds_setLc {i : Nat} {y : Str} {py spos : Pos} (hN : X.N.Nodup) (hi : DI X tg iter wi) (ok : BlkOk X.N X.env.scope scope own)
    (hg : ∀ (s : Shared) (H : Hp) (C : Addr) (cl : List (Str × Addr)) (fp : List Addr), DG (X.blk s H scope (compEnvC scope cl C X.env) fp) js tg g) (ht : ∀ (s : Shared) (H : Hp) (C : Addr) (cl : List (Str × Addr)) (fp : List Addr), DTs (X.blk s H scope (compEnvC scope cl C X.env) fp) ifs wt)
    (he : ∀ (s : Shared) (H : Hp) (C : Addr) (cl : List (Str × Addr)) (fp : List Addr), DE (X.blk s H scope (compEnvC scope cl C X.env) fp) elt we) (hj : ∀ i ∈ js, i ∈ own.map (·.2))
    (hsw : swapsWith (.ListComp elt [⟨tg, iter, ifs, 0⟩] scope pos) (some (.Name y py)) spos.line X.env = pure true) (hy : X.N[i]? = some y := by rfl) (hyl : X.env.scope.names.lookup y = some .local := by rfl) (hc : X.calm = true := by rfl) (hs : ∀ x, foldedSetIterable iter X.env x = pure x := by intro _; rfl) :
    DS X (.Assign [.Name y py] (.ListComp elt [⟨tg, iter, ifs, 0⟩] scope pos) spos) (wAsg (wLc wi g wt we (own.map (·.2))) (gN i)) :=
  ps_imp (ps_setLc (wi := liftI X.K wi) (g := liftG X.K js g) (tt := liftT X.K wt) (te := lift X.K we) hc hN hy hyl hsw hi ok hg ht he hs) fun E σ H ⟨M, ρ, cs, D, o, r, h, e⟩ => liftLc hj ⟨M, ρ, cs, _, o, r, h, fun v x M' H' cs' s o' rv p => e.nx _ _ M' H' cs' s o' ((r.mono s).set rv) p⟩
end
/-! ### defs -/
abbrev DXP := Value → List (Str × Vl) → Cells → Prop
abbrev DSp := List Vl → Cells → (Vl → Cells → Prop) → DXP → Prop
def XRep (K : Frag) (M : Hp) : Option Addr → List (Str × Vl) → Prop
  | none, fs => fs = []
  | some d, fs => ∃ gs, M d = some (.xd gs) ∧ Paired (fun (p : Str × V) (q : Str × Vl) => p.1 = q.1 ∧ RV K M p.2 q.2) gs fs
def KontX (K : Frag) (M : Hp) (XP : DXP) (E : XK) : Prop := ∀ cls od fs M' H' cs', Same M M' → Ok K M' H' cs' → XRep K M' od fs → XP cls fs cs' → E cls od H'
theorem KontX.mono {K : Frag} {M M' : Hp} {P : DXP} {E : XK} (s : Same M M') (k : KontX K M P E) : KontX K M' P E := fun v x fs M2 H2 cs2 s2 o r p => k v x fs M2 H2 cs2 (s.trans s2) o r p
abbrev X0 : DXP := fun _ _ _ => False
def liftSp (K : Frag) (dsp : DSp) : Sp := fun vs H Q E => ∃ M xs cs P XP, Ok K M H cs ∧ Paired (RV K M) vs xs ∧ dsp xs cs P XP ∧ Kont K M P Q ∧ KontX K M XP E
/-- what stands may be seen otherwise: cells dropped, a list of data frozen -/
def Gh (K : Frag) (v : Vl) (cs : Cells) (v' : Vl) (cs' : Cells) : Prop := ∀ M H x, Ok K M H cs → RV K M x v → ∃ M', Same M M' ∧ Ok K M' H cs' ∧ RV K M' x v'
theorem Gh.refl (K : Frag) (v : Vl) (cs : Cells) : Gh K v cs v cs := fun M _ _ o r => ⟨M, Same.refl _, o, r⟩
theorem Gh.sub {K : Frag} {v : Vl} {cs cs' : Cells} (h : SubC cs' cs) : Gh K v cs v cs' := fun M _ _ o r => ⟨M, Same.refl _, o.sub h, r⟩
theorem Gh.frz {K : Frag} {a : Addr} {cs : Cells} {ds : List Dat} (h : cs a = some (.lst (ds.map .dat))) : Gh K (.cell a) cs (.dat (.lst ds)) (cs.del a) := fun M H x o r => by
  obtain ⟨M', s, o', rd⟩ := o.frz h
  have e : x = .ref a := r
  rw [e]
  exact ⟨M', s, o', rv_dat rd⟩
theorem Gh.trans {K : Frag} {v v' v'' : Vl} {cs cs' cs'' : Cells} (h : Gh K v cs v' cs') (h' : Gh K v' cs' v'' cs'') : Gh K v cs v'' cs'' := fun M H x o r => by
  obtain ⟨M', s, o', r'⟩ := h M H x o r
  obtain ⟨M2, s2, o2, r2⟩ := h' M' H x o' r'
  exact ⟨M2, s.trans s2, o2, r2⟩
def GhK (K : Frag) (P : Vl → Cells → Prop) : Vl → Cells → Prop := fun v cs => ∃ v' cs', Gh K v cs v' cs' ∧ P v' cs'
theorem GhK.now {K : Frag} {P : Vl → Cells → Prop} {v : Vl} {cs : Cells} (h : P v cs) : GhK K P v cs := ⟨v, cs, .refl K v cs, h⟩
theorem GhK.drop {K : Frag} {P : Vl → Cells → Prop} {v : Vl} {cs cs' : Cells} (hs : SubC cs' cs) (h : P v cs') : GhK K P v cs := ⟨v, cs', .sub hs, h⟩
theorem Kont.gh {K : Frag} {M : Hp} {P : Vl → Cells → Prop} {Q : VK} (k : Kont K M P Q) : Kont K M (GhK K P) Q := fun v x M' H' cs' s o r ⟨x2, cs2, gh, p⟩ => by
  obtain ⟨M2, s2, o2, r2⟩ := gh M' H' v o r
  exact k v x2 M2 H' cs2 (s.trans s2) o2 r2 p
def retE (K : Frag) (P : Vl → Cells → Prop) : DEnds := { nx := fun _ cs => GhK K P (.dat .non) cs, rt := GhK K P }
def startD (n : Nat) (xs : List Vl) : DEnv := xs.map some ++ List.replicate (n - xs.length) none
theorem start_rho {K : Frag} {M : Hp} {N : List Str} {vs : List V} {xs : List Vl} (h : Paired (RV K M) vs xs) : Rho K M (L2.start N vs) (startD N.length xs) := by
  unfold L2.start startD
  have hl := Paired.len h
  refine ⟨by rw [List.length_append, List.length_append, List.length_map, List.length_map, List.length_replicate, List.length_replicate, hl], fun i x e => ?_⟩
  by_cases hi : i < xs.length
  · rw [List.getElem?_append_left (by rw [List.length_map]; exact hi), List.getElem?_map] at e
    cases q : xs[i]? with
    | none => rw [q] at e; cases e
    | some y =>
      rw [q] at e
      cases e
      obtain ⟨v, hv, rv⟩ := Paired.getR h q
      exact ⟨v, by rw [List.getElem?_append_left (by rw [List.length_map]; omega), List.getElem?_map, hv]; rfl, rv⟩
  · rw [List.getElem?_append_right (by rw [List.length_map]; omega), List.getElem?_replicate] at e
    split at e <;> cases e
/-- a def of the text, called by its name -/
structure DOk (P : Program) (w : World) (K : Frag) (mg : Str → Option Value) (base : Heap) (CX : CXT) (x : Str) (ps : List Str) (k : Nat) (dsp : DSp) : Prop where
  ex : ∃ f fd, FnOk P w K mg base CX k f fd ps (liftSp K dsp) ∧ mg x = some (.ref f) ∧ PySem.W.keepIn K (.ref f) = true ∧ Binds K fd ps []
theorem fn_dataF {P : Program} {w : World} {K : Frag} {mg : Str → Option Value} {base : Heap} {x : Str} {st : Stmt} {f : Addr} {fd : FuncData} {N ps : List Str} {k : Nat} {dsp : DSp} {ws : WS} (F : Fun K x x st f fd) (S : FnScope N ps (defScope st))
    (len : ∀ xs cs Q XP, dsp xs cs Q XP → xs.length = ps.length)
    (body : ∀ (cdv : Value) (A : Around) (outer : List Env) (s : Shared) (H : Hp) (E : XK), Room k (A.deeper (PyProof.Rows.envOfC x (defScope st) s.heap.objs.size f cdv)) → DSs (cxOf CX0 P w K mg base N x (defScope st) f cdv A outer s H E).nox (defBody st) ws)
    (pure : ∀ xs cs Q XP, dsp xs cs Q XP → ws (retE K Q) (startD N.length xs) cs) : FnOk P w K mg base CX0 (k + 1) f fd ps (liftSp K dsp) := by
  refine F.ok S (fun vs H Q E ⟨M, xs, cs, P', XP, o, r, d, _⟩ => (Paired.len r).trans (len xs cs P' XP d)) (fun cdv A outer s H vs Q E hr ⟨M, xs, cs, P', XP, o, r, d, kk, _⟩ => ⟨_, body cdv A outer s H E hr, ?_⟩)
  exact ⟨M, startD N.length xs, cs, retE K P', o, start_rho r, pure xs cs P' XP d, ⟨fun σ' ρ' M' H' cs' s o' _ p => kk.gh _ _ M' H' cs' s o' (rv_dat .non) p, kk.gh, fun _ _ _ _ _ _ _ _ p => p.elim, fun _ _ _ _ _ _ _ _ p => p.elim⟩⟩
theorem fn_data {P : Program} {w : World} {K : Frag} {mg : Str → Option Value} {base : Heap} {x : Str} {st : Stmt} {f : Addr} {fd : FuncData} {N ps : List Str} {k : Nat} {dsp : DSp} {ws : WS} (F : Fun K x x st f fd) (S : FnScope N ps (defScope st)) (hm : mg x = some (.ref f)) (hb : Binds K fd ps [])
    (len : ∀ xs cs Q XP, dsp xs cs Q XP → xs.length = ps.length)
    (body : ∀ (cdv : Value) (A : Around) (outer : List Env) (s : Shared) (H : Hp) (E : XK), Room k (A.deeper (PyProof.Rows.envOfC x (defScope st) s.heap.objs.size f cdv)) → DSs (cxOf CX0 P w K mg base N x (defScope st) f cdv A outer s H E).nox (defBody st) ws)
    (pure : ∀ xs cs Q XP, dsp xs cs Q XP → ws (retE K Q) (startD N.length xs) cs) : DOk P w K mg base CX0 x ps (k + 1) dsp := ⟨f, fd, fn_dataF F S len body pure, hm, F.kp, hb⟩
theorem never_data {P : Program} {w : World} {K : Frag} {mg : Str → Option Value} {base : Heap} {x : Str} {st : Stmt} {f : Addr} {fd : FuncData} {ps : List Str} {k : Nat} (F : Fun K x x st f fd) (hm : mg x = some (.ref f)) (hb : Binds K fd ps []) : DOk P w K mg base CX0 x ps k (fun _ _ _ _ => False) :=
  ⟨f, fd, ⟨fun _ _ _ _ ⟨_, _, _, _, _, _, _, h, _⟩ => h.elim, fun _ _ _ _ _ _ _ _ _ _ _ _ _ ⟨_, _, _, _, _, _, _, h, _⟩ => h.elim⟩, hm, F.kp, hb⟩
/-- the law's own promise -/
def spLaw (K : Frag) : Sp := fun vs H Q _ => ∃ (a : Addr) (ns : List Int), vs = [.ref a] ∧ SqL K H a (ns.map V.int) ∧ ns.length ≤ 63 ∧ ∀ H', Q (.bl true) H'
theorem law_imp {K : Frag} {dsp : DSp} (h : ∀ (ns : List Int) cs Q XP, ns.length ≤ 63 → (∀ cs', Q (.dat (.bl true)) cs') → dsp [.dat (.lst (ns.map .int))] cs Q XP) : ∀ vs H Q E, spLaw K vs H Q E → liftSp K dsp vs H Q E := by
  rintro vs H Q E ⟨a, ns, rfl, hS, hl, k⟩
  have hd : DrAll K H (ns.map V.int) (ns.map Dat.int) := by
    clear hS hl
    induction ns with
    | nil => exact .nil
    | cons n r ih => exact .cons (.int n) ih
  refine ⟨H, [.dat (.lst (ns.map .int))], fun _ => none, fun v _ => v = .dat (.bl true), X0, ⟨Same.refl _, fun _ _ e => by cases e⟩, .cons (.lst hS hd) .nil, h ns _ _ _ hl (fun _ => rfl), ?_, fun _ _ _ _ _ _ _ _ _ z => z.elim⟩
  intro v x M' H' cs' _ _ r p
  subst p
  rw [inv_bl r]
  exact k H'
def wCall (dsp : DSp) (wr : WA) : WE := fun ρ cs P => wr ρ cs fun xs cs1 => dsp xs cs1 P X0
theorem de_call {X : Cx} {x : Str} {ps : List Str} {k : Nat} {dsp : DSp} {p pos : Pos} {e : Expr} {es : List Expr} {wr : WA} (G : DOk X.prog X.w X.K X.mg X.base CX0 x ps k dsp) (hr : Room k X.A) (ha : DA X (e :: es) wr) (hg : Gl X x := by rfl)
    (hdb : (x == ("__debug__" : Str)) = false := by decide) (he : starEach (e :: es) X.env = (false, eval e X.env) :: starEach es X.env := by rfl) (hpl : (backTo pos (starEach es X.env)).any (·.1) = false := by rfl) :
    DE X (.Call (.Name x p) (e :: es) [] pos) (wCall dsp wr) := by
  obtain ⟨f, fd, F, hm, hk, hb⟩ := G.ex
  refine pe_imp (pe_call F hr hg hm hk hb .nil pass0 ha hdb he hpl) fun σ H Q ⟨M, ρ, cs, P, o, r0, p, kk⟩ => ?_
  refine ⟨M, ρ, cs, _, o, r0, p, fun vs xs M1 H1 cs1 s1 o1 r1 p1 => ?_⟩
  show liftSp X.K dsp (vs ++ []) H1 Q E0
  rw [List.append_nil]
  exact ⟨M1, xs, cs1, P, X0, o1, r1, p1, kk.mono s1, fun _ _ _ _ _ _ _ _ _ z => z.elim⟩
theorem de_gintE {X : Cx} {x : Str} {i : Int} {pos : Pos} (hm : ∃ t, X.mg x = some (.int i t)) (hg : Gl X x := by rfl) (hd : (x == ("__debug__" : Str)) = false := by decide) : DE X (.Name x pos) (wC (.int i)) := by
  obtain ⟨t, ht⟩ := hm
  exact de_gint ht hg hd
end DL
set_option maxRecDepth 100000
set_option maxHeartbeats 4000000
namespace DL
open PySem L2
/-! ### == over data: plain data of bounded depth -/
def Dat.lv : Nat → Dat → Prop
  | _, .non => True
  | _, .bl _ => False
  | _, .int _ => True
  | _, .str x => PyData.strOk x = true
  | 0, .lst _ => False
  | 0, .tup _ => False
  | n + 1, .lst xs => xs.length ≤ 16777216 ∧ ∀ x ∈ xs, Dat.lv n x
  | n + 1, .tup xs => xs.length ≤ 16777216 ∧ ∀ x ∈ xs, Dat.lv n x
  | _, .obj _ _ => False
theorem pys_lv {n : Nat} (ih : ∀ d : Dat, d.lv n → ∃ p, d.py = some p ∧ p.canLay0 = true ∧ p.depth ≤ n + 1) : ∀ xs : List Dat, (∀ x ∈ xs, x.lv n) → ∃ ps, Dat.pys xs = some ps ∧ PyData.canLayAll0 ps = true ∧ PyData.depthAll ps ≤ n + 1
  | [], _ => ⟨[], rfl, rfl, Nat.zero_le _⟩
  | x :: xs, h => by
    obtain ⟨p, e1, c1, d1⟩ := ih x (h x (by simp))
    obtain ⟨ps, e2, c2, d2⟩ := pys_lv ih xs (fun y hy => h y (by simp [hy]))
    refine ⟨p :: ps, ?_, ?_, ?_⟩
    · unfold Dat.pys; rw [e1, e2]
    · unfold PyData.canLayAll0; rw [c1, c2]; rfl
    · unfold PyData.depthAll; exact Nat.max_le.mpr ⟨d1, d2⟩
theorem py_lv : ∀ (n : Nat) (d : Dat), d.lv n → ∃ p, d.py = some p ∧ p.canLay0 = true ∧ p.depth ≤ n + 1 := by
  intro n
  induction n with
  | zero =>
    intro d h
    cases d with
    | non => exact ⟨_, rfl, rfl, by decide⟩
    | int i => exact ⟨_, rfl, rfl, by unfold PyData.depth; omega⟩
    | str x => exact ⟨_, rfl, h, by unfold PyData.depth; omega⟩
    | _ => exact (show False from h).elim
  | succ n ih =>
    intro d h
    cases d with
    | non => exact ⟨_, rfl, rfl, by unfold PyData.depth; omega⟩
    | int i => exact ⟨_, rfl, rfl, by unfold PyData.depth; omega⟩
    | str x => exact ⟨_, rfl, h, by unfold PyData.depth; omega⟩
    | bl b => exact (show False from h).elim
    | obj C fs => exact (show False from h).elim
    | lst xs =>
      obtain ⟨ps, e, c, dd⟩ := pys_lv ih xs h.2
      exact ⟨.list ps, by unfold Dat.py; rw [e]; rfl, by unfold PyData.canLay0; exact c, by unfold PyData.depth; omega⟩
    | tup xs =>
      obtain ⟨ps, e, c, dd⟩ := pys_lv ih xs h.2
      exact ⟨.tuple ps, by unfold Dat.py; rw [e]; rfl, by unfold PyData.canLay0; exact c, by unfold PyData.depth; omega⟩
theorem shaped_lv {n : Nat} (hn : n ≤ 60) {d : Dat} (h : d.lv n) : ∃ p, d.py = some p ∧ SeqAt.shaped p = true := by
  obtain ⟨p, e, c, dd⟩ := py_lv n d h
  exact ⟨p, e, by unfold SeqAt.shaped; rw [c, decide_eq_true (by omega)]; rfl⟩
mutual
theorem eqv_py : ∀ (n : Nat) (d e : Dat) (p q : PyData), d.lv n → e.lv n → d.py = some p → e.py = some q → (PyData.eqv p q = true ↔ d = e)
  | _, .non, e, p, q, _, he, hp, hq => by
    cases hp
    cases e with
    | non => cases hq; simp [PyData.eqv]
    | bl b => exact (by cases ‹Nat› <;> exact he.elim)
    | int i => cases hq; simp [PyData.eqv]
    | str x => cases hq; simp [PyData.eqv]
    | lst xs => unfold Dat.py at hq; obtain ⟨ps, e1, rfl⟩ := Option.map_eq_some_iff.mp hq; simp [PyData.eqv]
    | tup xs => unfold Dat.py at hq; obtain ⟨ps, e1, rfl⟩ := Option.map_eq_some_iff.mp hq; simp [PyData.eqv]
    | obj C fs => cases hq
  | n, .bl b, _, _, _, hd, _, _, _ => by cases n <;> exact (show False from hd).elim
  | n, .int i, e, p, q, _, he, hp, hq => by
    cases hp
    cases e with
    | non => cases hq; simp [PyData.eqv]
    | bl b => cases n <;> exact (show False from he).elim
    | int i => cases hq; simp [PyData.eqv]
    | str x => cases hq; simp [PyData.eqv]
    | lst xs => unfold Dat.py at hq; obtain ⟨ps, e1, rfl⟩ := Option.map_eq_some_iff.mp hq; simp [PyData.eqv]
    | tup xs => unfold Dat.py at hq; obtain ⟨ps, e1, rfl⟩ := Option.map_eq_some_iff.mp hq; simp [PyData.eqv]
    | obj C fs => cases hq
  | n, .str x, e, p, q, _, he, hp, hq => by
    cases hp
    cases e with
    | non => cases hq; simp [PyData.eqv]
    | bl b => cases n <;> exact (show False from he).elim
    | int i => cases hq; simp [PyData.eqv]
    | str x => cases hq; simp [PyData.eqv]
    | lst xs => unfold Dat.py at hq; obtain ⟨ps, e1, rfl⟩ := Option.map_eq_some_iff.mp hq; simp [PyData.eqv]
    | tup xs => unfold Dat.py at hq; obtain ⟨ps, e1, rfl⟩ := Option.map_eq_some_iff.mp hq; simp [PyData.eqv]
    | obj C fs => cases hq
  | n, .lst xs, e, p, q, hd, he, hp, hq => by
    cases n with
    | zero => exact (show False from hd).elim
    | succ n =>
      unfold Dat.py at hp
      obtain ⟨ps, e0, rfl⟩ := Option.map_eq_some_iff.mp hp
      cases e with
      | non => cases hq; simp [PyData.eqv]
      | bl b => exact (show False from he).elim
      | int i => cases hq; simp [PyData.eqv]
      | str x => cases hq; simp [PyData.eqv]
      | lst ys =>
        unfold Dat.py at hq
        obtain ⟨qs, e1, rfl⟩ := Option.map_eq_some_iff.mp hq
        have := eqvs_py n xs ys ps qs hd.2 he.2 e0 e1
        simp only [PyData.eqv, Dat.lst.injEq]
        exact this
      | tup ys => unfold Dat.py at hq; obtain ⟨ps, e1, rfl⟩ := Option.map_eq_some_iff.mp hq; simp [PyData.eqv]
      | obj C fs => cases hq
  | n, .tup xs, e, p, q, hd, he, hp, hq => by
    cases n with
    | zero => exact (show False from hd).elim
    | succ n =>
      unfold Dat.py at hp
      obtain ⟨ps, e0, rfl⟩ := Option.map_eq_some_iff.mp hp
      cases e with
      | non => cases hq; simp [PyData.eqv]
      | bl b => exact (show False from he).elim
      | int i => cases hq; simp [PyData.eqv]
      | str x => cases hq; simp [PyData.eqv]
      | tup ys =>
        unfold Dat.py at hq
        obtain ⟨qs, e1, rfl⟩ := Option.map_eq_some_iff.mp hq
        have := eqvs_py n xs ys ps qs hd.2 he.2 e0 e1
        simp only [PyData.eqv, Dat.tup.injEq]
        exact this
      | lst ys => unfold Dat.py at hq; obtain ⟨ps, e1, rfl⟩ := Option.map_eq_some_iff.mp hq; simp [PyData.eqv]
      | obj C fs => cases hq
  | _, .obj _ _, _, _, _, _, _, hp, _ => by cases hp
theorem eqvs_py : ∀ (n : Nat) (xs ys : List Dat) (ps qs : List PyData), (∀ x ∈ xs, x.lv n) → (∀ x ∈ ys, x.lv n) → Dat.pys xs = some ps → Dat.pys ys = some qs → (PyData.eqvAll ps qs = true ↔ xs = ys)
  | _, [], ys, ps, qs, _, _, hp, hq => by
    cases hp
    cases ys with
    | nil => cases hq; simp [PyData.eqvAll]
    | cons y ys =>
      unfold Dat.pys at hq
      split at hq
      · cases hq; simp [PyData.eqvAll]
      · cases hq
  | n, x :: xs, ys, ps, qs, hd, he, hp, hq => by
    unfold Dat.pys at hp
    split at hp
    · rename_i p ps' e1 e2
      cases hp
      cases ys with
      | nil => cases hq; simp [PyData.eqvAll]
      | cons y ys =>
        unfold Dat.pys at hq
        split at hq
        · rename_i q qs' f1 f2
          cases hq
          simp only [PyData.eqvAll, Bool.and_eq_true, List.cons.injEq]
          rw [eqv_py n x y p q (hd x (by simp)) (he y (by simp)) e1 f1, eqvs_py n xs ys ps' qs' (fun z hz => hd z (by simp [hz])) (fun z hz => he z (by simp [hz])) e2 f2]
        · cases hq
    · cases hp
end
/-- the answer of == told by equality -/
theorem wEq_of {neg : Bool} {x y : Vl} {cs : Cells} {P : Vl → Cells → Prop} {d e : Dat} (n : Nat) (hn : n ≤ 60) (h1 : seen cs x = some d) (h2 : seen cs y = some e) (l1 : d.lv n) (l2 : e.lv n) (hy : d = e → P (.dat (.bl (!neg))) cs) (hno : d ≠ e → P (.dat (.bl neg)) cs) : wEqD neg x y cs P := by
  obtain ⟨p, e1, s1⟩ := shaped_lv hn l1
  obtain ⟨q, e2, s2⟩ := shaped_lv hn l2
  refine ⟨d, e, p, q, h1, h2, e1, e2, s1, s2, ?_⟩
  have key := eqv_py n d e p q l1 l2 e1 e2
  by_cases h : d = e
  · rw [key.mpr h]
    have := hy h
    cases neg <;> simpa using this
  · have : PyData.eqv p q = false := by
      cases q1 : PyData.eqv p q with
      | false => rfl
      | true => exact absurd (key.mp q1) h
    rw [this]
    have := hno h
    cases neg <;> simpa using this
theorem wEq_int {neg : Bool} {i j : Int} {cs : Cells} {P : Vl → Cells → Prop} : wEqD neg (.dat (.int i)) (.dat (.int j)) cs P ↔ P (.dat (.bl (if neg then !(i == j) else (i == j)))) cs := by
  constructor
  · rintro ⟨d, e, p, q, h1, h2, h3, h4, _, _, h⟩
    cases h1; cases h2; cases h3; cases h4
    simpa only [PyData.eqv] using h
  · intro h
    exact ⟨_, _, _, _, rfl, rfl, rfl, rfl, rfl, rfl, by simpa only [PyData.eqv] using h⟩
theorem wEq_bl {neg : Bool} {i j : Bool} {cs : Cells} {P : Vl → Cells → Prop} : wEqD neg (.dat (.bl i)) (.dat (.bl j)) cs P ↔ P (.dat (.bl (if neg then !(i == j) else (i == j)))) cs := by
  constructor
  · rintro ⟨d, e, p, q, h1, h2, h3, h4, _, _, h⟩
    cases h1; cases h2; cases h3; cases h4
    simpa only [PyData.eqv] using h
  · intro h
    exact ⟨_, _, _, _, rfl, rfl, rfl, rfl, rfl, rfl, by simpa only [PyData.eqv] using h⟩
/-! ### small facts for readings -/
theorem divOk {i j : Int} (h : 0 < j) (h2 : j ≤ 1000000000000000000000000000000) : CDivW i j := by
  refine wide_div (b := 100) h ?_ (by decide) (by decide)
  have : j.natAbs ≤ 1000000000000000000000000000000 := by omega
  exact Nat.lt_of_le_of_lt this (by decide)
theorem mulR {i j : Int} (h : -18446744073709551616 < j) (h2 : j < 18446744073709551616) : CMul i j := .inr ⟨by omega, by omega⟩
theorem mulL {i j : Int} (h : -18446744073709551616 < i) (h2 : i < 18446744073709551616) : CMul i j := .inl ⟨by omega, by omega⟩
theorem atI_nat {α : Type} {xs : List α} {i : Nat} {x : α} (h : xs[i]? = some x) : atI xs (i : Int) = some x := by
  have hl := (List.getElem?_eq_some_iff.mp h).1
  unfold atI ixN
  rw [if_pos (by omega), if_pos (by omega)]
  simpa using h
theorem atI_int {α : Type} {xs : List α} {i : Int} {x : α} (h0 : 0 ≤ i) (h : xs[i.toNat]? = some x) : atI xs i = some x := by
  have := atI_nat h
  rwa [Int.toNat_of_nonneg h0] at this
theorem atI_last {α : Type} {xs : List α} {x : α} (h : xs.getLast? = some x) : atI xs (-1) = some x := by
  have h0 : xs ≠ [] := by intro z; subst z; cases h
  have hl : 0 < xs.length := List.length_pos_iff.mpr h0
  unfold atI ixN
  rw [if_neg (by omega), if_pos (by omega)]
  rw [List.getLast?_eq_getElem?] at h
  show xs[((-1 : Int) + xs.length).toNat]? = some x
  rw [show ((-1 : Int) + xs.length).toNat = xs.length - 1 by omega]
  exact h
theorem ixN_nat {n i : Nat} (h : i < n) : ixN n (i : Int) = some i := by
  unfold ixN
  rw [if_pos (by omega), if_pos (by omega)]
  simp
theorem ixN_int {n : Nat} {i : Int} (h0 : 0 ≤ i) (h : i < n) : ixN n i = some i.toNat := by
  unfold ixN
  rw [if_pos h0, if_pos h]
/-! ### equations for the walk -/
section
variable {α : Type} {a b c d e f : α} {l : List α}
theorem at_0 : atI (a :: l) (0 : Int) = some a := atI_nat (i := 0) rfl
theorem at_1 : atI (a :: b :: l) (1 : Int) = some b := atI_nat (i := 1) rfl
theorem at_2 : atI (a :: b :: c :: l) (2 : Int) = some c := atI_nat (i := 2) rfl
theorem at_3 : atI (a :: b :: c :: d :: l) (3 : Int) = some d := atI_nat (i := 3) rfl
theorem at_4 : atI (a :: b :: c :: d :: e :: l) (4 : Int) = some e := atI_nat (i := 4) rfl
theorem at_5 : atI (a :: b :: c :: d :: e :: f :: l) (5 : Int) = some f := atI_nat (i := 5) rfl
theorem ix_0 {n : Nat} (h : 0 < n) : ixN n (0 : Int) = some 0 := ixN_nat (i := 0) h
theorem ix_1 {n : Nat} (h : 1 < n) : ixN n (1 : Int) = some 1 := ixN_nat (i := 1) h
theorem ix_2 {n : Nat} (h : 2 < n) : ixN n (2 : Int) = some 2 := ixN_nat (i := 2) h
theorem ix_3 {n : Nat} (h : 3 < n) : ixN n (3 : Int) = some 3 := ixN_nat (i := 3) h
end
section
variable {cs : Cells} {ds : List Dat} {d : Dat} {a : Addr} {xs : List Vl} {i : Int} {b : Bool} {z : Str} {x : Vl}
theorem seqD_lst : seqD cs (.dat (.lst ds)) = some (true, ds.map .dat) := rfl
theorem seqD_tp : seqD cs (.dat (.tup ds)) = some (false, ds.map .dat) := rfl
theorem seqD_cell : seqD cs (.raw (.ref a)) = coSeq (cs a) := rfl
theorem coSeq_lst : coSeq (some (.lst xs)) = some (true, xs) := rfl
theorem allDat_nil : allDat [] = some [] := rfl
theorem allDat_cons : allDat (.dat d :: xs) = (allDat xs).map (d :: ·) := rfl
theorem tyD_non : tyD cs (.dat .non) = some .non := rfl
theorem tyD_bl : tyD cs (.dat (.bl b)) = some .bool := rfl
theorem tyD_int : tyD cs (.dat (.int i)) = some .int := rfl
theorem tyD_str : tyD cs (.dat (.str z)) = some .str := rfl
theorem tyD_lst : tyD cs (.dat (.lst ds)) = some .list := rfl
theorem tyD_tup : tyD cs (.dat (.tup ds)) = some .tuple := rfl
theorem tyD_cell : tyD cs (.raw (.ref a)) = coTy (cs a) := rfl
theorem coTy_lst : coTy (some (.lst xs)) = some .list := rfl
theorem seen_dat : seen cs (.dat d) = some d := rfl
theorem seen_cell : seen cs (.raw (.ref a)) = coDat (cs a) := rfl
theorem coDat_lst : coDat (some (.lst xs)) = (allDat xs).map .lst := rfl
theorem isNon_non : isNon (.dat .non) = true := rfl
theorem isNon_bl : isNon (.dat (.bl b)) = false := rfl
theorem isNon_int : isNon (.dat (.int i)) = false := rfl
theorem isNon_str : isNon (.dat (.str z)) = false := rfl
theorem isNon_lst : isNon (.dat (.lst ds)) = false := rfl
theorem isNon_tup : isNon (.dat (.tup ds)) = false := rfl
theorem isNon_cell : isNon (.raw (.ref a)) = false := rfl
end
end DL
set_option maxRecDepth 100000
set_option maxHeartbeats 4000000
namespace DL
open PySem L2
/-! ### three at once -/
def wPar3 (i j l : Nat) (wa : WA) : WS := fun D ρ cs => wa ρ cs fun xs cs1 => ∃ x y z, xs = [x, y, z] ∧ D.nx (((ρ.set i (some x)).set j (some y)).set l (some z)) cs1
section
variable {X : Cx} {a b c e o : Expr} {es : List Expr} {wa wb wc we wo : WE} {w u : WT} {wr : WA} {pos : Pos}
theorem ds_par3 {i j l : Nat} {x y z : Str} {px py pz pt pt2 : Pos} {kt k2 : Nat} (hc : X.calm = true) (hN : X.N.Nodup) (ha : DA X [a, b, c] wr) (hi : X.N[i]? = some x := by rfl) (hj : X.N[j]? = some y := by rfl) (hl : X.N[l]? = some z := by rfl) (hij : i ≠ j := by decide) (hil : i ≠ l := by decide) (hjl : j ≠ l := by decide)
    (hx : X.env.scope.names.lookup x = some .local := by rfl) (hy : X.env.scope.names.lookup y = some .local := by rfl) (hz : X.env.scope.names.lookup z = some .local := by rfl)
    (hw : swappedStores [.Tuple [.Name x px, .Name y py, .Name z pz] kt pt] (.Tuple [a, b, c] k2 pt2) X.env = pure (some [x, y, z]) := by rfl)
    (hs : swapsWithSole [.Tuple [.Name x px, .Name y py, .Name z pz] kt pt] (.Tuple [a, b, c] k2 pt2) pos.line X.env = pure false := by rfl) :
    DS X (.Assign [.Tuple [.Name x px, .Name y py, .Name z pz] kt pt] (.Tuple [a, b, c] k2 pt2) pos) (wPar3 i j l wr) :=
  ps_imp (ps_par3 hc hN hi hj hl hij hil hjl hx hy hz ha hw hs) fun E σ H ⟨M, ρ, cs, D, o, r, h, e⟩ => ⟨M, ρ, cs, _, o, r, h, fun vs xs M' H' cs' s o' rv ⟨x1, y1, z1, ex, p⟩ => by
    subst ex
    cases rv with
    | cons r1 rr =>
      cases rr with
      | cons r2 rr =>
        cases rr with
        | cons r3 rr =>
          cases rr
          exact ⟨_, _, _, rfl, e.nx _ _ M' H' cs' s o' ((((r.mono s).set r1).set r2).set r3) p⟩⟩
/-! ### slices -/
abbrev WO := DEnv → Cells → (Option Int → Cells → Prop) → Prop
def KontO (K : Frag) (M : Hp) (P : Option Int → Cells → Prop) (Q : Option Int → Hp → Prop) : Prop := ∀ b M' H' cs', Same M M' → Ok K M' H' cs' → P b cs' → Q b H'
def liftO (K : Frag) (w : WO) : TO := fun σ H Q => ∃ M ρ cs P, Ok K M H cs ∧ Rho K M σ ρ ∧ w ρ cs P ∧ KontO K M P Q
def DOp (X : Cx) (e : Option Expr) (w : WO) : Prop := PO X e (liftO X.K w)
theorem po_imp {e : Option Expr} {t t' : TO} (h : PO X e t) (m : ∀ σ H Q, t' σ H Q → t σ H Q) : PO X e t' := ⟨fun pins s σ H Q I q => h.run pins s σ H Q I (m σ H Q q)⟩
def wNoPart : WO := fun _ cs P => P none cs
def wPart (we : WE) : WO := fun ρ cs P => we ρ cs fun x cs1 => ∃ i, x = .dat (.int i) ∧ P (some i) cs1
theorem do_none : DOp X none wNoPart := po_imp po_none fun σ H Q ⟨M, ρ, cs, P, o, r, p, k⟩ => k none M H cs (Same.refl _) o p
theorem do_some (h : DE X e we) : DOp X (some e) (wPart we) := po_imp (po_some h) fun σ H Q ⟨M, ρ, cs, P, o, r, p, k⟩ => ⟨M, ρ, cs, _, o, r, p, fun v x M' H' cs' s o' rv ⟨i, ex, p1⟩ => by
  subst ex
  exact ⟨i, inv_int rv, k _ M' H' cs' s o' p1⟩⟩
def cutD {α : Type} (xs : List α) (lo hi : Option Int) : List α := (xs.drop (HT.sIx xs.length 0 lo)).take (HT.sIx xs.length xs.length hi - HT.sIx xs.length 0 lo)
theorem Paired.drop {α β : Type} {R : α → β → Prop} : ∀ {xs : List α} {ys : List β} (n : Nat), Paired R xs ys → Paired R (xs.drop n) (ys.drop n)
  | _, _, 0, h => h
  | _, _, _ + 1, .nil => .nil
  | _, _, n + 1, .cons _ k => Paired.drop n k
theorem Paired.take {α β : Type} {R : α → β → Prop} : ∀ {xs : List α} {ys : List β} (n : Nat), Paired R xs ys → Paired R (xs.take n) (ys.take n)
  | _, _, 0, _ => by rw [List.take_zero, List.take_zero]; exact .nil
  | _, _, _ + 1, .nil => .nil
  | _, _, n + 1, .cons h k => .cons h (Paired.take n k)
theorem paired_cut {K : Frag} {M : Hp} {vs : List V} {xs : List Vl} {lo hi : Option Int} (h : Paired (RV K M) vs xs) : Paired (RV K M) (cutV vs lo hi) (cutD xs lo hi) := by
  unfold cutV cutD
  rw [Paired.len h]
  exact Paired.take _ (Paired.drop _ h)
theorem cutD_map {α β : Type} (f : α → β) (xs : List α) (lo hi : Option Int) : cutD (xs.map f) lo hi = (cutD xs lo hi).map f := by
  unfold cutD
  rw [List.length_map, List.map_take, List.map_drop]
/-- xs[lo:hi] of a list: a new list -/
def wSlL (we : WE) (wl wh : WO) : WE := fun ρ cs P => we ρ cs fun x cs1 => wl ρ cs1 fun lo cs2 => wh ρ cs2 fun hi cs3 => ∃ xs, seqD cs3 x = some (true, xs) ∧ newL (cutD xs lo hi) cs3 P
theorem de_slL {lo hi : Option Expr} {wl wh : WO} {p2 : Pos} (he : DE X e we) (hl : DOp X lo wl) (hh : DOp X hi wh) : DE X (.Subscript e (.Slice lo hi none p2) pos) (wSlL we wl wh) :=
  pe_imp (pe_slice sl_list he hl hh) fun σ H Q ⟨M, ρ, cs, P, o, r, p, k⟩ => ⟨M, ρ, cs, _, o, r, p, fun v x M1 H1 cs1 s1 o1 r1 p1 =>
    ⟨M1, ρ, cs1, _, o1, r.mono s1, p1, fun lo M2 H2 cs2 s2 o2 p2 => ⟨M2, ρ, cs2, _, o2, r.mono (s1.trans s2), p2, fun hi M3 H3 cs3 s3 o3 ⟨xs, hx, p3⟩ => by
      obtain ⟨ad, vs, ev, q, pr⟩ := seqD_list o3 (r1.mono (s2.trans s3)) hx
      exact ⟨ad, vs, ev, q, newL_ok o3 (paired_cut pr) p3 (k.mono (s1.trans (s2.trans s3)))⟩⟩⟩⟩
/-- t[lo:hi] of a tuple: data -/
def wSlT (we : WE) (wl wh : WO) : WE := fun ρ cs P => we ρ cs fun x cs1 => wl ρ cs1 fun lo cs2 => wh ρ cs2 fun hi cs3 => ∃ ds, x = .dat (.tup ds) ∧ P (.dat (.tup (cutD ds lo hi))) cs3
theorem de_slT {lo hi : Option Expr} {wl wh : WO} {p2 : Pos} (he : DE X e we) (hl : DOp X lo wl) (hh : DOp X hi wh) : DE X (.Subscript e (.Slice lo hi none p2) pos) (wSlT we wl wh) :=
  pe_imp (pe_slice sl_tupA he hl hh) fun σ H Q ⟨M, ρ, cs, P, o, r, p, k⟩ => ⟨M, ρ, cs, _, o, r, p, fun v x M1 H1 cs1 s1 o1 r1 p1 =>
    ⟨M1, ρ, cs1, _, o1, r.mono s1, p1, fun lo M2 H2 cs2 s2 o2 p2 => ⟨M2, ρ, cs2, _, o2, r.mono (s1.trans s2), p2, fun hi M3 H3 cs3 s3 o3 ⟨ds, hx, p3⟩ => by
      subst hx
      have s23 := s2.trans s3
      have k3 := k.mono (s1.trans s23)
      have r3 := r1.mono s23
      obtain ⟨ad, vs, ev, q, pr⟩ := seqD_tup o3 r3 (xs := ds.map .dat) rfl
      refine ⟨ad, vs, ev, q, fun hw => ?_, fun _ => newT_ok o3 (by rw [← cutD_map]; exact paired_cut pr) p3 k3⟩
      have hl : vs.length = ds.length := (Paired.len pr).trans (List.length_map _)
      rw [hl] at hw
      have hc : cutD ds lo hi = ds := by
        unfold cutD
        rw [hw.1, hw.2, List.drop_zero, Nat.sub_zero, List.take_length]
      rw [hc] at p3
      rw [← ev]
      exact k3 _ _ M3 H3 cs3 (Same.refl _) o3 r3 p3⟩⟩⟩
/-! ### t + u of tuples -/
def wCatT : W2 := fun x y cs P => ∃ ds es, x = .dat (.tup ds) ∧ y = .dat (.tup es) ∧ ds.length + es.length ≤ 16777216 ∧ P (.dat (.tup (ds ++ es))) cs
theorem de_catT (ha : DE X a wa) (hb : DE X b wb) : DE X (.BinOp a .Add b pos) (wOp wCatT wa wb) := de_op op_catA (fun M H cs x y a b P Q o rx ry ⟨ds, es, ea, eb, hz, hn⟩ k => by
  subst ea eb
  obtain ⟨ad, vs, ev, q, pr⟩ := seqD_tup o rx (xs := ds.map .dat) rfl
  obtain ⟨bd, us, eu, q2, pr2⟩ := seqD_tup o ry (xs := es.map .dat) rfl
  have l1 : vs.length = ds.length := (Paired.len pr).trans (List.length_map _)
  have l2 : us.length = es.length := (Paired.len pr2).trans (List.length_map _)
  refine ⟨ad, bd, vs, us, ev, eu, q, q2, by rw [l1, l2]; exact size_line hz, fun h0 => ?_, fun _ h0 => ?_, fun _ _ => newT_ok o (by rw [List.map_append]; exact Paired.app pr pr2) hn k⟩
  · rw [h0] at l1
    have : ds = [] := List.length_eq_zero_iff.mp l1.symm
    subst this
    rw [← eu]
    exact k _ _ M H cs (Same.refl _) o ry hn
  · rw [h0] at l2
    have : es = [] := List.length_eq_zero_iff.mp l2.symm
    subst this
    rw [← ev]
    rw [List.append_nil] at hn
    exact k _ _ M H cs (Same.refl _) o rx hn) ha hb
/-! ### int(b), max(xs), min(xs), sum(xs) -/
def wInt : WN := fun xs cs P => (∃ i, xs = [.dat (.int i)] ∧ P (.dat (.int i)) cs) ∨ ∃ b, xs = [.dat (.bl b)] ∧ P (.dat (.int (if b then 1 else 0))) cs
theorem rn_int {K : Frag} : RNOk K (fun xs H Q => (∃ i, xs = [.int i] ∧ Q (.int i) H) ∨ ∃ k, xs = [.bl k] ∧ Q (.int (if k then 1 else 0)) H) wInt := fun M H cs xs as P Q o r h k => by
  rcases h with ⟨i, e, p⟩ | ⟨b, e, p⟩
  · subst e
    cases r with
    | cons r1 rr =>
      cases rr
      exact .inl ⟨i, by rw [inv_int r1], k _ _ M H cs (Same.refl _) o (rv_dat (.int _)) p⟩
  · subst e
    cases r with
    | cons r1 rr =>
      cases rr
      exact .inr ⟨b, by rw [inv_bl r1], k _ _ M H cs (Same.refl _) o (rv_dat (.int _)) p⟩
theorem de_int1 {p : Pos} (hm : X.mg "int" = none) (ha : DA X [e] wr) (hg : Gl X "int" := by rfl) (he : starEach [e] X.env = (false, eval e X.env) :: starEach [] X.env := by rfl) (hpl : (backTo pos (starEach [] X.env)).any (·.1) = false := by rfl) :
    DE X (.Call (.Name "int" p) [e] [] pos) (wFn wInt wr) := de_callTy call_int1 rn_int hm (by decide +kernel) ha hg (by decide) (by decide) he hpl
theorem paired_ints {K : Frag} {M : Hp} : ∀ {ns : List Int} {vs : List V}, Paired (RV K M) vs (ns.map fun i => Vl.dat (.int i)) → vs = ns.map V.int
  | [], _, .nil => rfl
  | n :: ns, _, .cons r k => by rw [inv_int r, paired_ints k]; rfl
def wMax : WN := fun xs cs P => ∃ (x : Vl) (ns : List Int), xs = [x] ∧ seqD cs x = some (true, ns.map fun i => Vl.dat (.int i)) ∧ 0 < ns.length ∧ ∀ m, m ∈ ns → (∀ y ∈ ns, y ≤ m) → P (.dat (.int m)) cs
def wMin : WN := fun xs cs P => ∃ (x : Vl) (ns : List Int), xs = [x] ∧ seqD cs x = some (true, ns.map fun i => Vl.dat (.int i)) ∧ 0 < ns.length ∧ ∀ m, m ∈ ns → (∀ y ∈ ns, m ≤ y) → P (.dat (.int m)) cs
def wSum : WN := fun xs cs P => ∃ (x : Vl) (ns : List Int), xs = [x] ∧ seqD cs x = some (true, ns.map fun i => Vl.dat (.int i)) ∧ P (.dat (.int ns.sum)) cs
theorem rn_max {K : Frag} : RNOk K (rMax K) wMax := fun M H cs xs as P Q o r ⟨x, ns, e, h, h0, p⟩ k => by
  subst e
  cases r with
  | cons r1 rr =>
    cases rr
    obtain ⟨ad, vs, ev, q, pr⟩ := seqD_list o r1 h
    rw [paired_ints pr] at q
    exact ⟨ad, ns, by rw [ev], q, h0, fun m hm hle => k _ _ M H cs (Same.refl _) o (rv_dat (.int _)) (p m hm hle)⟩
theorem rn_min {K : Frag} : RNOk K (rMin K) wMin := fun M H cs xs as P Q o r ⟨x, ns, e, h, h0, p⟩ k => by
  subst e
  cases r with
  | cons r1 rr =>
    cases rr
    obtain ⟨ad, vs, ev, q, pr⟩ := seqD_list o r1 h
    rw [paired_ints pr] at q
    exact ⟨ad, ns, by rw [ev], q, h0, fun m hm hle => k _ _ M H cs (Same.refl _) o (rv_dat (.int _)) (p m hm hle)⟩
theorem de_max {p : Pos} (hc : X.calm = true) (hm : X.mg "max" = none) (ha : DA X [e] wr) (hg : Gl X "max" := by rfl) (he : starEach [e] X.env = (false, eval e X.env) :: starEach [] X.env := by rfl) (hpl : (backTo pos (starEach [] X.env)).any (·.1) = false := by rfl) :
    DE X (.Call (.Name "max" p) [e] [] pos) (wFn wMax wr) := de_callB (cr_max hc) rn_max hm (by decide +kernel) ha hg (by decide) (by decide) he hpl
theorem de_min {p : Pos} (hc : X.calm = true) (hm : X.mg "min" = none) (ha : DA X [e] wr) (hg : Gl X "min" := by rfl) (he : starEach [e] X.env = (false, eval e X.env) :: starEach [] X.env := by rfl) (hpl : (backTo pos (starEach [] X.env)).any (·.1) = false := by rfl) :
    DE X (.Call (.Name "min" p) [e] [] pos) (wFn wMin wr) := de_callB (cr_min hc) rn_min hm (by decide +kernel) ha hg (by decide) (by decide) he hpl
end
/-! ### sorted(xs), len(set(xs)): tuples of ints -/
def tupI (ns : List Int) : Dat := .tup (ns.map .int)
theorem dr_tupI {K : Frag} {M : Hp} {v : V} {ns : List Int} (h : Dr K M v (tupI ns)) : TupI K M v ns := by
  unfold tupI at h
  cases h with
  | tup q k =>
    refine ⟨_, rfl, ?_⟩
    have := paired_ints (ns := ns) (by have := k.paired; rwa [List.map_map] at this)
    rwa [this] at q
theorem dr_tupI' {K : Frag} {M H : Hp} {cs : Cells} {v : V} {ns : List Int} (o : Ok K M H cs) (h : Dr K M v (tupI ns)) : TupI K H v ns := by
  obtain ⟨t, e, q⟩ := dr_tupI h
  exact ⟨t, e, o.seqT q⟩
def leI (x y : List Int) : Bool := decide (x ≤ y)
def rSortT (K : PySem.W.Frag) : List V → Hp → VK → Prop := fun vs H Q => ∃ (a : Addr) (xs : List V) (nss : List (List Int)), vs = [V.ref a] ∧ SqL K H a xs ∧ Paired (TupI K H) xs nss ∧ (∀ n ∈ nss, n ≠ []) ∧
  ∀ (bs : List (V × List Int)) (p : Addr), bs.Perm (xs.zip nss) → bs.map (·.2) = nss.mergeSort leI → H p = none → Q (.ref p) (upd H p (.lst (bs.map (·.1))))
theorem pair_zip {α β : Type} {R : α → β → Prop} : ∀ {xs : List α} {ys : List β}, Paired R xs ys → ∀ q ∈ xs.zip ys, R q.1 q.2
  | _, _, .nil, q, h => absurd h (by simp)
  | _, _, .cons r k, q, h => by
    rw [List.zip_cons_cons] at h
    rcases List.mem_cons.mp h with e | h
    · rw [e]; exact r
    · exact pair_zip k q h
theorem zip_fst {α β : Type} : ∀ {xs : List α} {ys : List β}, xs.length = ys.length → (xs.zip ys).map (·.1) = xs ∧ (xs.zip ys).map (·.2) = ys
  | [], [], _ => ⟨rfl, rfl⟩
  | x :: xs, y :: ys, h => by
    obtain ⟨h1, h2⟩ := zip_fst (xs := xs) (ys := ys) (by simpa using h)
    exact ⟨by simp [h1], by simp [h2]⟩
  | [], _ :: _, h => by simp at h
  | _ :: _, [], h => by simp at h
section
open PySem.W
theorem each_vals {α : Type} {R : Value → V × α → Prop} (hR : ∀ v b, R v b → RelV b.1 v) : ∀ {vs : List Value} {bs : List (V × α)}, EachIs R vs bs → Vals (bs.map (·.1)) vs
  | _, _, .nil => .nil
  | _, _, .cons h t => .cons (hR _ _ h) (each_vals hR t)
theorem vals_each {α : Type} {xs : List V} {us : List Value} (r : Vals xs us) : ∀ {ys : List α}, xs.length = ys.length → EachIs (fun v (b : V × α) => RelV b.1 v ∧ b ∈ xs.zip ys) us (xs.zip ys) := by
  induction r with
  | nil => intro ys h; exact .nil
  | cons a k ih =>
    intro ys h
    cases ys with
    | nil => cases h
    | cons y ys =>
      rw [List.zip_cons_cons]
      refine .cons ⟨a, by simp⟩ ((ih (ys := ys) (by simpa using h)).mono fun v b q => ⟨q.1, by simp [q.2]⟩)
end
section
variable {X : Cx}
theorem cr_sortTup (hu : X.A.units + 64 < cLine) : CallR X (.builtin "sorted") (rSortT X.K) := by
  intro pins s σ H vs us Q I r h
  obtain ⟨a, xs, nss, rfl, hs, hx, hne, q⟩ := h
  obtain ⟨its, rv, hl, hz⟩ := I.list hs
  rw [Vals.ref1 r]
  have hlen := Paired.len hx
  have er : PySem.W.EachIs (fun v (b : V × List Int) => RelV b.1 v ∧ b ∈ xs.zip nss) its (xs.zip nss) := vals_each rv hlen
  have key : ∀ b ∈ xs.zip nss, TupI X.K H b.1 b.2 := pair_zip hx
  have dpOf : ∀ b ∈ xs.zip nss, Dp X.K H b.1 (.tuple (b.2.map .int)) := fun b hb => by
    obtain ⟨t, e, ht⟩ := key b hb
    rw [e]
    refine .tup ht ?_
    generalize b.2 = ns
    induction ns with
    | nil => exact .nil
    | cons n ns ih => exact .cons (.int n) ih
  have hle : PySem.W.dataLe false (fun b : V × List Int => PyData.tuple (b.2.map .int)) = fun p q => leI p.2 q.2 := by
    funext p q
    show (!PySem.W.dataLt (.tuple (q.2.map .int)) (.tuple (p.2.map .int))) = _
    rw [PySem.W.dataLt_tuple]
    show (!PySem.W.rowLt (q.2.map .int) (p.2.map .int)) = _
    rw [PySem.W.dataLt_ints]
    unfold leI
    by_cases h : q.2 < p.2
    · have h' : ¬ p.2 ≤ q.2 := fun r => List.not_lt.mpr r h
      simp [h, h']
    · have h' : p.2 ≤ q.2 := List.not_lt.mp h
      simp [h, h']
  refine PySem.W.sorted_data (enc := fun b : V × List Int => PyData.tuple (b.2.map .int)) (R := fun v b => RelV b.1 v) (bs := xs.zip nss) hl.isList (er.mono fun _ _ q => q.1)
    (er.mono fun v b q => Dp.reads I _ _ _ (dpOf b q.2) q.1) (PySem.W.AllAlike.of fun b b' => by simp only [PySem.W.alike]; exact PySem.W.alike_ints _ _) (.inl fun d hd => ?_) ?_ (fun b hb => ?_) fun out ho eo => ?_
  · obtain ⟨b, hb, e⟩ := List.mem_map.mp hd
    have := hne b.2 (List.of_mem_zip (show (b.1, b.2) ∈ _ from hb)).2
    cases e2 : b.2 with
    | nil => exact absurd e2 this
    | cons n ns => exact ⟨.int n, ns.map .int, by rw [← e, e2]; rfl⟩
  · rw [List.length_zip, hlen, Nat.min_self, ← hlen]; exact hz
  · show _ + 2 + PyData.depth (.tuple (b.2.map .int)) < cLine
    unfold PyData.depth
    rw [PySem.W.depth_ints]
    omega
  · rw [hle] at eo
    obtain ⟨ep, he'⟩ := PyProof.Rows.sortedAll_at s.heap its out.toArray
    have hv := each_vals (R := fun v (b : V × List Int) => RelV b.1 v) (fun _ _ q => q) eo
    have pm : ((xs.zip nss).mergeSort fun p q => leI p.2 q.2).Perm (xs.zip nss) := List.mergeSort_perm _ _
    have hll : (((xs.zip nss).mergeSort fun p q => leI p.2 q.2).map (·.1)).length ≤ sizeLine := by
      rw [List.length_map, pm.length_eq, List.length_zip, hlen, Nat.min_self, ← hlen]; exact hz
    refine ⟨.ref _, upd H (s.heap.objs.size + 1) (.lst (((xs.zip nss).mergeSort fun p q => leI p.2 q.2).map (·.1))), I.laid (t' := s.toks) (fun _ _ => PyProof.Rows.sortedAll_old) (Nat.le_succ _) ⟨hll, out, ep, hv, he'⟩, rfl, q _ _ pm ?_ (I.hok.fresh (Nat.le_succ _))⟩
    rw [List.map_mergeSort (s := leI) (fun _ _ _ _ => rfl), (zip_fst hlen).2]
def wSortT : WN := fun xs cs P => ∃ (x : Vl) (nss : List (List Int)), xs = [x] ∧ seqD cs x = some (true, nss.map fun ns => Vl.dat (tupI ns)) ∧ (∀ n ∈ nss, n ≠ []) ∧ newL ((nss.mergeSort leI).map fun ns => Vl.dat (tupI ns)) cs P
theorem zip_paired {α β : Type} {R : α → β → Prop} : ∀ {bs : List (α × β)}, (∀ q ∈ bs, R q.1 q.2) → Paired R (bs.map (·.1)) (bs.map (·.2))
  | [], _ => .nil
  | b :: bs, h => .cons (h b (by simp)) (zip_paired fun q hq => h q (by simp [hq]))
theorem paired_mapR {α β γ : Type} {R : α → γ → Prop} (f : β → γ) : ∀ {xs : List α} {ys : List β}, Paired (fun a b => R a (f b)) xs ys → Paired R xs (ys.map f)
  | _, _, .nil => .nil
  | _, _, .cons h k => .cons h (paired_mapR f k)
theorem paired_mapR' {α β γ : Type} {R : α → γ → Prop} (f : β → γ) : ∀ {xs : List α} {ys : List β}, Paired R xs (ys.map f) → Paired (fun a b => R a (f b)) xs ys
  | _, [], .nil => .nil
  | _, _ :: _, .cons h k => .cons h (paired_mapR' f k)
theorem rn_sortT {K : Frag} : RNOk K (rSortT K) wSortT := fun M H cs xs as P Q o r ⟨x, nss, e, h, hne, p⟩ k => by
  subst e
  cases r with
  | cons r1 rr =>
    cases rr
    obtain ⟨ad, vs, ev, q, pr⟩ := seqD_list o r1 h
    have pr' := paired_mapR' _ pr
    refine ⟨ad, vs, nss, by rw [ev], q, paired_mono (fun v ns h => dr_tupI' o h) pr', hne, fun bs pp pm hs hp => ?_⟩
    refine newL_ok o (xs := (nss.mergeSort leI).map fun ns => Vl.dat (tupI ns)) ?_ p k pp hp
    rw [← hs]
    refine paired_mapR _ (zip_paired fun b hb => ?_)
    exact pair_zip pr' b (pm.mem_iff.mp hb)
end
section
variable {X : Cx} {a b c e o : Expr} {es : List Expr} {wa wb wc we wo : WE} {w u : WT} {wr : WA} {pos : Pos}
theorem de_sortT {p : Pos} (hu : X.A.units + 64 < cLine) (hm : X.mg "sorted" = none) (ha : DA X [e] wr) (hg : Gl X "sorted" := by rfl) (he : starEach [e] X.env = (false, eval e X.env) :: starEach [] X.env := by rfl) (hpl : (backTo pos (starEach [] X.env)).any (·.1) = false := by rfl) :
    DE X (.Call (.Name "sorted" p) [e] [] pos) (wFn wSortT wr) := de_callB (cr_sortTup hu) rn_sortT hm (by decide +kernel) ha hg (by decide) (by decide) he hpl
def tLenSetT (K : PySem.W.Frag) (ta : TE) : TE := fun σ H Q => ta σ H fun x H1 => ∃ (l : Addr) (ks : List (Addr × List Int)), x = V.ref l ∧ SqL K H1 l (ks.map fun p => V.ref p.1) ∧ (∀ p ∈ ks, SqT K H1 p.1 (p.2.map V.int)) ∧ ks.length < 64 ∧ (ks.map (·.2)).Nodup ∧ Q (.int ks.length) H1
theorem nodup_len {α : Type} [DecidableEq α] : ∀ {l m : List α}, l.Nodup → (∀ x ∈ l, x ∈ m) → l.length ≤ m.length
  | [], _, _, _ => Nat.zero_le _
  | x :: l, m, hn, hs => by
    have hx : x ∈ m := hs x (by simp)
    obtain ⟨h1, h2⟩ := List.nodup_cons.mp hn
    have := nodup_len (l := l) (m := m.erase x) h2 fun y hy => (List.mem_erase_of_ne (by intro z; exact h1 (z ▸ hy))).mpr (hs y (by simp [hy]))
    rw [List.length_erase_of_mem hx] at this
    have : 0 < m.length := List.length_pos_of_mem hx
    simp only [List.length_cons]
    omega
open PySem.Spec PyProof.Rows in
theorem pe_lenSetT {ta : TE} {p p2 q : Pos} (hc : X.calm = true) (hu : X.A.units + 64 < cLine) (hm : X.mg "len" = none) (hm2 : X.mg "set" = none) (ha : PE X a ta) (hg : Gl X "len" := by rfl) (hg2 : Gl X "set" := by rfl)
    (na : starEach [a] X.env = (false, eval a X.env) :: starEach [] X.env := by rfl) : PE X (.Call (.Name "len" p) [.Call (.Name "set" p2) [a] [] q] [] pos) (tLenSetT X.K ta) := by
  refine ⟨fun pins s σ H Q I h => Call_ (ld_blt I hg hm PySem.boot_len ?_)⟩
  refine PyProof.Rows.callWith_builtin1 (PyProof.Rows.args_cons (Call_ (ld_blt I hg2 hm2 PyProof.Rows.boot_set ?_)) rfl) rfl rfl
  refine PyProof.Rows.callWith_type1 (PyProof.Rows.args_cons (thn (ha.run pins s σ H _ I h) fun v s1 ⟨x, H1, I1, r1, q1⟩ => PyProof.Rows.args_nil ?_) na) na rfl
  obtain ⟨l, ks, rfl, hq, hk, h64, hnd, q1⟩ := q1
  cases r1
  obtain ⟨its, rv, pl, hz⟩ := I1.list hq
  refine call_set_tups (P := X.prog) (w := X.w) ks (I1.ok.hd hc) pl.isList (by simpa using refs_of_vals rv) (fun p hp => I1.isT (hk p hp)) h64 (by omega) fun h' tk L es ep t R g kp => ?_
  have hL : L.length = ks.length := by
    have h1 : (L.map (·.2)).length ≤ (ks.map (·.2)).length := nodup_len R.nd fun y hy => by
      obtain ⟨p, hp, e⟩ := List.mem_map.mp hy
      exact List.mem_map.mpr ⟨p, List.mem_of_mem_take (g.sub p hp), e⟩
    have h2 : (ks.map (·.2)).length ≤ (L.map (·.2)).length := nodup_len hnd fun y hy => by
      obtain ⟨p, hp, e⟩ := List.mem_map.mp hy
      rw [← e]
      exact g.all p (by rw [List.take_length]; exact hp)
    simp only [List.length_map] at h1 h2
    omega
  obtain ⟨o, ho, hex, hd⟩ := R.ob
  have hes : es.size = ks.length := by
    rw [← Array.length_toList, R.rows]
    unfold rowsOf
    rw [List.length_map]; exact hL
  refine PyProof.Rows.args_nil ?_
  have I2 : Inv X pins σ H1 { s1 with heap := h', toks := tk } := I1.kept fun b o e => kp b o e
  exact call_len_set ho hex hd (SetTR.fits (s := { s1 with heap := h', toks := tk }) R) (by rw [hes]; omega) ⟨.int ks.length, H1, I2.tok _, ⟨_, by rw [hes]⟩, q1⟩
theorem seq_refs {K : Frag} {H : Hp} : ∀ {vs : List V} {nss : List (List Int)}, Paired (TupI K H) vs nss → ∃ ks : List (Addr × List Int), vs = ks.map (fun p => V.ref p.1) ∧ nss = ks.map (·.2) ∧ ∀ p ∈ ks, SqT K H p.1 (p.2.map V.int)
  | _, _, .nil => ⟨[], rfl, rfl, fun _ h => absurd h (by simp)⟩
  | _, _, .cons ⟨t, e, h⟩ k => by
    obtain ⟨ks, e1, e2, h2⟩ := seq_refs k
    refine ⟨(t, _) :: ks, by rw [e, e1]; rfl, by rw [e2]; rfl, fun p hp => ?_⟩
    rcases List.mem_cons.mp hp with z | z
    · rw [z]; exact h
    · exact h2 p z
def wLenSet (we : WE) : WE := fun ρ cs P => we ρ cs fun x cs1 => ∃ nss : List (List Int), seqD cs1 x = some (true, nss.map fun ns => Vl.dat (tupI ns)) ∧ nss.length < 64 ∧ nss.Nodup ∧ P (.dat (.int nss.length)) cs1
theorem de_lenSet {p p2 q : Pos} (hc : X.calm = true) (hu : X.A.units + 64 < cLine) (hm : X.mg "len" = none) (hm2 : X.mg "set" = none) (ha : DE X a wa) (hg : Gl X "len" := by rfl) (hg2 : Gl X "set" := by rfl)
    (na : starEach [a] X.env = (false, eval a X.env) :: starEach [] X.env := by rfl) : DE X (.Call (.Name "len" p) [.Call (.Name "set" p2) [a] [] q] [] pos) (wLenSet wa) :=
  pe_imp (pe_lenSetT hc hu hm hm2 ha hg hg2 na) fun σ H Q ⟨M, ρ, cs, P, o, r, p, k⟩ => ⟨M, ρ, cs, _, o, r, p, fun v x M1 H1 cs1 s1 o1 r1 ⟨nss, hx, h64, hnd, p1⟩ => by
    obtain ⟨ad, vs, ev, q, pr⟩ := seqD_list o1 r1 hx
    have pr' := paired_mapR' _ pr
    obtain ⟨ks, e1, e2, h2⟩ := seq_refs (paired_mono (fun v ns h => dr_tupI' o1 h) pr')
    rw [e1] at q
    have hl : ks.length = nss.length := by rw [e2, List.length_map]
    exact ⟨ad, ks, ev, q, h2, by rw [hl]; exact h64, by rw [← e2]; exact hnd, by rw [hl]; exact k _ _ M1 H1 cs1 s1 o1 (rv_dat (.int _)) p1⟩⟩
end
end DL
set_option maxRecDepth 100000
set_option maxHeartbeats 4000000
namespace DL
open PySem L2
local macro_rules | `(tactic| walk_at "dl") => `(tactic| simp only [wRet, wRetN, wSeq, wAsg, wIfS, wDrop, wNext, wVar, wC, wOp, wUn, wFn, wNil, wCons, wTest, wNot, wAnd, wOr, wAndV, wOrV, wNotV, wIf, wChain, wTup, wLst, wCall, wNever, gN, gT, gNil, gCons, gIx, wI, wI0, wNeg, wMax2, wMin2, wLen, wIsN, wNotN, isNon_non, isNon_bl, isNon_int, isNon_str, isNon_lst, isNon_tup, isNon_cell, wIx, wTuple, wAug, wAugIx, wPar, wIsi, wIsi2, isiT, tyD_non, tyD_bl, tyD_int, tyD_str, tyD_lst, tyD_tup, tyD_cell, coTy_lst, seqD_lst, seqD_tp, seqD_cell, coSeq_lst, seen_dat, seen_cell, coDat_lst, startD, wYes, wApp, wEq_int, wEq_bl, allDat_nil, allDat_cons, allDat_map, Option.map_some, List.map_cons, List.map_nil, List.cons_append, List.nil_append, List.length_cons, List.length_nil, List.replicate, List.getElem?_cons_zero, List.getElem?_cons_succ, List.set_cons_zero, List.set_cons_succ, Option.some.injEq, exists_eq_left', exists_eq_left, exists_and_left, exists_eq', exists_eq, Vl.dat.injEq, Vl.raw.injEq, V.ref.injEq, CO.lst.injEq, Dat.int.injEq, Dat.bl.injEq, Dat.tup.injEq, Dat.lst.injEq, List.cons.injEq, and_true, true_and, retE, Nat.reduceAdd, Nat.reduceSub, and_assoc, Prod.mk.injEq, if_true, if_false, Bool.false_eq_true, decide_eq_true_eq, Bool.not_true, Bool.not_false, Bool.not_eq_true', decide_eq_false_iff_not, if_false_left, if_false_right, beq_iff_eq, Bool.or_eq_true, Bool.and_eq_true, Bool.or_self, Bool.or_true, Bool.true_or, Bool.or_false, Bool.false_or, decide_true, decide_false, reduceCtorEq, Cells.put_same, gt_iff_lt, ge_iff_le, beq_self_eq_true, bne_self_eq_false, Bool.decide_eq_true, not_true_eq_false, not_false_eq_true, Decidable.not_not, false_and, and_false, Bool.not_eq_false, at_0, at_1, at_2, at_3, at_4, at_5, ix_0, ix_1, ix_2, ix_3, Nat.reduceLT, Int.reduceLT, Int.reduceLE, Int.reduceNeg, Int.reduceAdd, Int.reduceSub, Int.reduceEq, Int.reducePow, Int.reduceToNat, Cells.put_put])
/-! ### calendars and orders as data -/
def iD (ns : List Int) : List Dat := ns.map .int
def iV (ns : List Int) : List Vl := ns.map .int
def cal (ps : List Int) : Dat := .tup (iD ps)
abbrev Ord := Int × Int × Int
def ord (o : Ord) : Dat := .tup [.int o.1, .int o.2.1, .int o.2.2]
def ordsD (os : List Ord) : List Dat := os.map ord
def seqd (b : Bool) (ds : List Dat) : Dat := if b then .lst ds else .tup ds
theorem seqD_seqd {cs : Cells} {b : Bool} {ds : List Dat} : seqD cs (.dat (seqd b ds)) = some (b, ds.map .dat) := by cases b <;> rfl
def calFrom (b : Int) : List Int → Prop
  | [] => True
  | p :: r => b < p ∧ p ≤ 400 ∧ (b > 0 → p % b = 0) ∧ calFrom p r
def CalOk (ps : List Int) : Prop := 1 ≤ ps.length ∧ ps.length ≤ 5 ∧ calFrom 0 ps
def ordB (ps : List Int) (o : Ord) : Bool := decide (o.1 ∈ ps) && (decide (0 ≤ o.2.1) && decide (o.2.1 < o.1)) && !(o.2.2 == 0)
def firstBad (ps : List Int) (os : List Ord) : Dat := match os.findIdx? (fun o => !ordB ps o) with
  | none => .non
  | some i => .int (i : Int)
theorem iD_map (ns : List Int) : (iD ns).map Vl.dat = iV ns := by simp [iD, iV]
theorem inV_ints (p : Int) (ps : List Int) : inV (.int p) (ps.map V.int) = decide (p ∈ ps) := by
  unfold inV
  induction ps with
  | nil => simp
  | cons a r ih =>
    rw [List.map_cons, List.any_cons, ih]
    by_cases h : a = p
    · subst h; simp [eqV]
    · have h' : ¬ p = a := fun z => h z.symm
      simp [eqV, h, h']
theorem flatsD_ints (ps : List Int) : flatsD (iV ps) = some (ps.map V.int) := by
  induction ps with
  | nil => rfl
  | cons a r ih =>
    show (match flatD (Vl.int a), flatsD (iV r) with
      | some v, some vs => some (v :: vs)
      | _, _ => none) = _
    rw [ih]; rfl
theorem seqD_cal {cs : Cells} {ps : List Int} : seqD cs (.dat (cal ps)) = some (false, iV ps) := by
  show some (false, (iD ps).map Vl.dat) = _
  rw [iD_map]
theorem allDat_iV (ns : List Int) : allDat (iV ns) = some (iD ns) := by
  rw [← iD_map, allDat_map]
/-! ### is_integer -/
def sp_is_integer : DSp := fun xs cs Q _ => ∃ i : Int, xs = [.int i] ∧ Q (.bl true) cs
theorem len_is_integer : ∀ xs cs Q XP, sp_is_integer xs cs Q XP → xs.length = 1 := by rintro xs cs Q XP ⟨i, rfl, _⟩; rfl
def w_is_integer : WS := (wRet (wAndV (wIsi .int (wVar 0)) (wNotV (wIsi .bool (wVar 0)))))
theorem pure_is_integer (K : Frag) : ∀ xs cs Q XP, sp_is_integer xs cs Q XP → w_is_integer (retE K Q) (startD 1 xs) cs := by
  rintro xs cs Q XP ⟨i, rfl, q⟩
  unfold w_is_integer
  walk_at "dl"
  exact .now q
/-! ### validate_calendar -/
def sp_validate_calendar : DSp := fun xs cs Q _ => ∃ ps : List Int, xs = [.dat (cal ps)] ∧ CalOk ps ∧ Q .non cs
theorem len_validate_calendar : ∀ xs cs Q XP, sp_validate_calendar xs cs Q XP → xs.length = 1 := by rintro xs cs Q XP ⟨i, rfl, _⟩; rfl
def w_validate_calendar : WS := (wSeq (wIfS (wNot (wTest (wChain wLe wLe (wC (.int 1)) (wFn wLen (wCons (wVar 0) wNil)) (wC (.int 5))))) wNever wNext)
    (wSeq (wAsg (wC (.int 0)) (gN 1))
    (wFor (wiEnum (wCons (wVar 0) wNil)) (gT 2 (gCons (gN 2) (gCons (gN 3) gNil))) (wSeq (wIfS (wOr (wNot (wTest (wCall sp_is_integer (wCons (wVar 3) wNil)))) (wOr (wNot (wTest (wChain wLt wLe (wVar 1) (wVar 3) (wC (.int 400))))) (wAnd (wTest (wOp wGt (wVar 1) (wC (.int 0)))) (wTest (wOp (wEqD true) (wOp wMod (wVar 3) (wVar 1)) (wC (.int 0))))))) wNever wNext)
    (wAsg (wVar 3) (gN 1))))))
theorem calFrom_at : ∀ {ps : List Int} {b : Int} {i : Nat} {p : Int}, calFrom b ps → ps[i]? = some p → (i = 0 → b < p ∧ p ≤ 400 ∧ (b > 0 → p % b = 0)) ∧ (∀ q, 0 < i → ps[i - 1]? = some q → q < p ∧ p ≤ 400 ∧ (q > 0 → p % q = 0))
  | a :: r, b, 0, p, h, e => by
    cases e
    exact ⟨fun _ => ⟨h.1, h.2.1, h.2.2.1⟩, fun q z => absurd z (by omega)⟩
  | a :: r, b, i + 1, p, h, e => by
    have ih := calFrom_at (b := a) (i := i) h.2.2.2 e
    refine ⟨fun z => absurd z (by omega), fun q _ hq => ?_⟩
    cases i with
    | zero =>
      have : (a :: r)[0]? = some q := hq
      cases this
      exact ih.1 rfl
    | succ i => exact ih.2 q (by omega) hq
def prevOf (ps : List Int) (i : Nat) : Int := if i = 0 then 0 else (ps[i - 1]?).getD 0
theorem calFrom_prev {ps : List Int} {i : Nat} {p : Int} (h : calFrom 0 ps) (e : ps[i]? = some p) : prevOf ps i < p ∧ p ≤ 400 ∧ (prevOf ps i > 0 → p % prevOf ps i = 0) := by
  have k := calFrom_at h e
  unfold prevOf
  by_cases h0 : i = 0
  · subst h0; simpa using k.1 rfl
  · rw [if_neg h0]
    have hl := (List.getElem?_eq_some_iff.mp e).1
    obtain ⟨q, hq⟩ : ∃ q, ps[i - 1]? = some q := ⟨ps[i - 1]'(by omega), List.getElem?_eq_getElem (by omega)⟩
    rw [hq]
    exact k.2 q (by omega) hq
theorem pure_validate_calendar (K : Frag) : ∀ xs cs Q XP, sp_validate_calendar xs cs Q XP → w_validate_calendar (retE K Q) (startD 4 xs) cs := by
  rintro xs cs Q XP ⟨ps, rfl, ⟨h1, h5, hc⟩, q⟩
  unfold w_validate_calendar
  simp only [cal]
  walk_at "dl"
  have hl : (iD ps).length = ps.length := by simp [iD]
  simp only [List.length_map, hl]
  refine ⟨by omega, by omega, ?_⟩
  simp only [wFor, wiEnum]
  walk_at "dl"
  refine ⟨fun i ρ cs' => cs' = cs ∧ ∃ a b, ρ = [some (.dat (.tup (iD ps))), some (.int (prevOf ps i)), a, b], ⟨rfl, _, _, rfl⟩, fun _ _ _ _ _ => trivial, ?_, ?_⟩
  · rintro i x ρ cs' hx ⟨rfl, a, b, rfl⟩
    obtain ⟨d, hd, rfl⟩ := enumF_at hx
    unfold iD at hd
    rw [List.getElem?_map] at hd
    obtain ⟨p, hp, rfl⟩ := Option.map_eq_some_iff.mp hd
    obtain ⟨k1, k2, k3⟩ := calFrom_prev hc hp
    have hn : prevOf ps (i + 1) = p := by unfold prevOf; rw [if_neg (by omega), Nat.add_sub_cancel, hp]; rfl
    simp only [sp_is_integer]
    walk_at "dl"
    refine ⟨k1, k2, ?_⟩
    split
    · rename_i h0
      exact ⟨h0, k3 h0, hn.symm⟩
    · exact hn.symm
  · rintro ρ cs' ⟨rfl, _⟩
    exact .now q
/-! ### is_order, first_invalid_order, validate_orders -/
def sp_is_order : DSp := fun xs cs Q _ => ∃ (ps : List Int) (o : Ord), xs = [.dat (cal ps), .dat (ord o)] ∧ Q (.bl (ordB ps o)) cs
theorem len_is_order : ∀ xs cs Q XP, sp_is_order xs cs Q XP → xs.length = 2 := by rintro xs cs Q XP ⟨ps, o, rfl, _⟩; rfl
def w_is_order : WS := (wSeq (wAsg (wVar 1) (gT 3 (gCons (gN 2) (gCons (gN 3) (gCons (gN 4) gNil)))))
    (wSeq (wIfS (wOr (wTest (wOp (wIn true) (wVar 2) (wVar 0))) (wOr (wNot (wTest (wCall sp_is_integer (wCons (wVar 3) wNil)))) (wNot (wTest (wChain wLe wLt (wC (.int 0)) (wVar 3) (wVar 2)))))) (wRet (wC (.bl false))) wNext)
    (wRet (wAndV (wCall sp_is_integer (wCons (wVar 4) wNil)) (wOp (wEqD true) (wVar 4) (wC (.int 0)))))))
theorem wIn_ints {neg : Bool} {p : Int} {x : Vl} {b : Bool} {ps : List Int} {cs : Cells} {P : Vl → Cells → Prop} (hx : seqD cs x = some (b, iV ps)) (h : P (.dat (.bl (if neg then !decide (p ∈ ps) else decide (p ∈ ps)))) cs) : wIn neg (.int p) x cs P :=
  ⟨b, _, .int p, _, hx, rfl, flatsD_ints ps, by rw [inV_ints]; exact h⟩
theorem pure_is_order (K : Frag) : ∀ xs cs Q XP, sp_is_order xs cs Q XP → w_is_order (retE K Q) (startD 5 xs) cs := by
  rintro xs cs Q XP ⟨ps, ⟨p, d, a⟩, rfl, q⟩
  unfold w_is_order
  simp only [ord, sp_is_integer]
  walk_at "dl"
  refine wIn_ints seqD_cal ?_
  unfold ordB at q
  simp only [sp_is_integer]
  walk_at "dl"
  by_cases h1 : p ∈ ps
  · rw [if_neg (by simpa using h1)]
    by_cases h2 : 0 ≤ d
    · rw [if_pos h2]
      by_cases h3 : d < p
      · rw [if_neg (by simpa using h3)]
        refine .now ?_
        simpa [h1, h2, h3] using q
      · rw [if_pos h3]
        refine .now ?_
        simpa [h1, h2, h3] using q
    · rw [if_neg h2]
      refine .now ?_
      simpa [h1, h2] using q
  · rw [if_pos (by simpa using h1)]
    refine .now ?_
    simpa [h1] using q
def sp_first_invalid_order : DSp := fun xs cs Q _ => ∃ (ps : List Int) (os : List Ord) (b : Bool), xs = [.dat (cal ps), .dat (seqd b (ordsD os))] ∧ Q (.dat (firstBad ps os)) cs
theorem len_first_invalid_order : ∀ xs cs Q XP, sp_first_invalid_order xs cs Q XP → xs.length = 2 := by rintro xs cs Q XP ⟨ps, o, b, rfl, _⟩; rfl
def w_first_invalid_order : WS := (wSeq (wFor (wiEnum (wCons (wVar 1) wNil)) (gT 2 (gCons (gN 2) (gCons (gN 3) gNil))) (wIfS (wNot (wTest (wCall sp_is_order (wCons (wVar 0) (wCons (wVar 3) wNil))))) (wRet (wVar 2)) wNext))
    (wRet (wC .non)))
theorem pure_first_invalid_order (K : Frag) : ∀ xs cs Q XP, sp_first_invalid_order xs cs Q XP → w_first_invalid_order (retE K Q) (startD 4 xs) cs := by
  rintro xs cs Q XP ⟨ps, os, b, rfl, q⟩
  unfold w_first_invalid_order
  walk_at "dl"
  simp only [wFor, wiEnum]
  walk_at "dl"
  refine ⟨_, _, seqD_seqd, _, allDat_map _, fun i ρ cs' => cs' = cs ∧ (∀ o ∈ os.take i, ordB ps o = true) ∧ ∃ a b', ρ = [some (.dat (cal ps)), some (.dat (seqd b (ordsD os))), a, b'], ⟨rfl, by simp, _, _, rfl⟩, fun _ _ _ _ _ => seqD_seqd, ?_, ?_⟩
  · rintro i x ρ cs' hx ⟨rfl, hall, a, b', rfl⟩
    obtain ⟨d, hd, rfl⟩ := enumF_at hx
    unfold ordsD at hd
    rw [List.getElem?_map] at hd
    obtain ⟨o, ho, rfl⟩ := Option.map_eq_some_iff.mp hd
    walk_at "dl"
    refine ⟨ps, o, rfl, ?_⟩
    walk_at "dl"
    have hlt := (List.getElem?_eq_some_iff.mp ho).1
    have ht : os.take (i + 1) = os.take i ++ [o] := by rw [List.take_succ, ho]; rfl
    cases hb : ordB ps o with
    | false =>
      simp only [if_true]
      refine .now ?_
      have : firstBad ps os = .int (i : Int) := by
        unfold firstBad
        have : os.findIdx? (fun o => !ordB ps o) = some i := by
          rw [List.findIdx?_eq_some_iff_getElem]
          refine ⟨hlt, ?_, fun j hj => ?_⟩
          · rw [(List.getElem?_eq_some_iff.mp ho).2, hb]; rfl
          · have : ordB ps os[j] = true := hall _ (by rw [List.mem_take_iff_getElem]; exact ⟨j, by omega, rfl⟩)
            simp [this]
        rw [this]
      rw [this] at q
      exact q
    | true =>
      simp only [Bool.true_eq_false, if_false]
      intro o' ho'
      rw [ht] at ho'
      rcases List.mem_append.mp ho' with z | z
      · exact hall o' z
      · simp at z; rw [z]; exact hb
  · rintro ρ cs' ⟨rfl, hall, _⟩
    rw [enumF_len] at hall
    refine .now ?_
    have : firstBad ps os = .non := by
      unfold firstBad
      have : os.findIdx? (fun o => !ordB ps o) = none := by
        rw [List.findIdx?_eq_none_iff]
        intro o ho
        have := hall o (by rw [List.take_of_length_le (by simp [ordsD])]; exact ho)
        simp [this]
      rw [this]
    rw [this] at q
    exact q
def OrdsOk (ps : List Int) (os : List Ord) : Prop := ∀ o ∈ os, ordB ps o = true
theorem firstBad_ok {ps : List Int} {os : List Ord} (h : OrdsOk ps os) : firstBad ps os = .non := by
  unfold firstBad
  have : os.findIdx? (fun o => !ordB ps o) = none := by
    rw [List.findIdx?_eq_none_iff]
    intro o ho
    simp [h o ho]
  rw [this]
def sp_validate_orders : DSp := fun xs cs Q _ => ∃ (ps : List Int) (os : List Ord) (b : Bool), xs = [.dat (cal ps), .dat (seqd b (ordsD os))] ∧ CalOk ps ∧ OrdsOk ps os ∧ Q .non cs
theorem len_validate_orders : ∀ xs cs Q XP, sp_validate_orders xs cs Q XP → xs.length = 2 := by rintro xs cs Q XP ⟨ps, o, b, rfl, _⟩; rfl
def w_validate_orders : WS := (wSeq (wDrop (wCall sp_validate_calendar (wCons (wVar 0) wNil)))
    (wSeq (wAsg (wCall sp_first_invalid_order (wCons (wVar 0) (wCons (wVar 1) wNil))) (gN 2))
    (wIfS (wTest (wOp wNotN (wVar 2) (wC .non))) wNever wNext)))
theorem pure_validate_orders (K : Frag) : ∀ xs cs Q XP, sp_validate_orders xs cs Q XP → w_validate_orders (retE K Q) (startD 3 xs) cs := by
  rintro xs cs Q XP ⟨ps, os, b, rfl, hc, ho, q⟩
  unfold w_validate_orders
  walk_at "dl"
  refine ⟨ps, rfl, hc, ps, os, b, rfl, ?_⟩
  rw [firstBad_ok ho]
  walk_at "dl"
  exact .now q
/-! ### days_due -/
def daysDue (p d f l : Int) : Int := max 0 ((l - d) / p - (f - 1 - d) / p)
def sp_days_due : DSp := fun xs cs Q _ => ∃ p d f l : Int, xs = [.int p, .int d, .int f, .int l] ∧ 0 < p ∧ p ≤ 400 ∧ Q (.int (daysDue p d f l)) cs
theorem len_days_due : ∀ xs cs Q XP, sp_days_due xs cs Q XP → xs.length = 4 := by rintro xs cs Q XP ⟨p, d, f, l, rfl, _⟩; rfl
def w_days_due : WS := (wRet (wFn wMax2 (wCons (wC (.int 0)) (wCons (wOp wSub (wOp wDiv (wOp wSub (wVar 3) (wVar 1)) (wVar 0)) (wOp wDiv (wOp wSub (wOp wSub (wVar 2) (wC (.int 1))) (wVar 1)) (wVar 0))) wNil))))
theorem pure_days_due (K : Frag) : ∀ xs cs Q XP, sp_days_due xs cs Q XP → w_days_due (retE K Q) (startD 4 xs) cs := by
  rintro xs cs Q XP ⟨p, d, f, l, rfl, hp, hp2, q⟩
  unfold w_days_due
  walk_at "dl"
  refine ⟨divOk hp (by omega), divOk hp (by omega), .now ?_⟩
  have : daysDue p d f l = (if 0 < (l - d) / p - (f - 1 - d) / p then (l - d) / p - (f - 1 - d) / p else 0) := by
    unfold daysDue
    split <;> omega
  rw [this] at q
  exact q
/-! ### flow_list -/
/-- the sum of what the orders pay on day t -/
def flowAt (os : List Ord) (t : Int) : Int := (os.map fun o => if t % o.1 = o.2.1 then o.2.2 else 0).sum
def rowF (c : Nat) (f : Nat → Int) : List Int := (List.range c).map f
def flowsL (c : Int) (os : List Ord) : List Int := rowF c.toNat fun t => flowAt os (t : Int)
end DL
set_option maxRecDepth 100000
set_option maxHeartbeats 4000000
namespace DL
open PySem L2
local macro_rules | `(tactic| walk_at "dl") => `(tactic| simp only [wRet, wRetN, wSeq, wAsg, wIfS, wDrop, wNext, wVar, wC, wOp, wUn, wFn, wNil, wCons, wTest, wNot, wAnd, wOr, wAndV, wOrV, wNotV, wIf, wChain, wTup, wLst, wCall, wNever, gN, gT, gNil, gCons, gIx, wI, wI0, wNeg, wMax2, wMin2, wLen, wIsN, wNotN, isNon_non, isNon_bl, isNon_int, isNon_str, isNon_lst, isNon_tup, isNon_cell, wIx, wTuple, wAug, wAugIx, wPar, wIsi, wIsi2, isiT, tyD_non, tyD_bl, tyD_int, tyD_str, tyD_lst, tyD_tup, tyD_cell, coTy_lst, seqD_lst, seqD_tp, seqD_cell, coSeq_lst, seen_dat, seen_cell, coDat_lst, startD, wYes, wApp, wEq_int, wEq_bl, allDat_nil, allDat_cons, allDat_map, Option.map_some, List.map_cons, List.map_nil, List.cons_append, List.nil_append, List.length_cons, List.length_nil, List.replicate, List.getElem?_cons_zero, List.getElem?_cons_succ, List.set_cons_zero, List.set_cons_succ, Option.some.injEq, exists_eq_left', exists_eq_left, exists_and_left, exists_eq', exists_eq, Vl.dat.injEq, Vl.raw.injEq, V.ref.injEq, CO.lst.injEq, Dat.int.injEq, Dat.bl.injEq, Dat.tup.injEq, Dat.lst.injEq, List.cons.injEq, and_true, true_and, retE, Nat.reduceAdd, Nat.reduceSub, and_assoc, Prod.mk.injEq, if_true, if_false, Bool.false_eq_true, decide_eq_true_eq, Bool.not_true, Bool.not_false, Bool.not_eq_true', decide_eq_false_iff_not, if_false_left, if_false_right, beq_iff_eq, Bool.or_eq_true, Bool.and_eq_true, Bool.or_self, Bool.or_true, Bool.true_or, Bool.or_false, Bool.false_or, decide_true, decide_false, reduceCtorEq, Cells.put_same, gt_iff_lt, ge_iff_le, beq_self_eq_true, bne_self_eq_false, Bool.decide_eq_true, not_true_eq_false, not_false_eq_true, Decidable.not_not, false_and, and_false, Bool.not_eq_false, at_0, at_1, at_2, at_3, at_4, at_5, ix_0, ix_1, ix_2, ix_3, Nat.reduceLT, Int.reduceLT, Int.reduceLE, Int.reduceNeg, Int.reduceAdd, Int.reduceSub, Int.reduceEq, Int.reducePow, Int.reduceToNat, Cells.put_put])
theorem rgC_pos {i j c : Int} (h0 : 0 ≤ i) (hij : i < j) (hj : j ≤ 100000) (hc : 0 < c) (hc2 : c ≤ 100000) : RgC i j c ((j - i - 1) / c + 1).toNat := by
  have hq : 0 ≤ (j - i - 1) / c := Int.ediv_nonneg (by omega) (by omega)
  have hq2 : (j - i - 1) / c ≤ j - i - 1 := Int.ediv_le_self _ (by omega)
  have hs : Builtin.Range.rangeSize i j c = (j - i - 1) / c + 1 := by
    unfold Builtin.Range.rangeSize
    rw [if_pos (by omega), if_pos hij]
  refine ⟨by omega, by omega, ?_, ?_⟩
  · unfold Builtin.Range.small
    rw [hs]
    simp only [Builtin.Range.rangeFitsLong, Bool.and_eq_true, Bool.or_eq_true, decide_eq_true_eq, beq_iff_eq, show c > 0 from hc, if_true]
    omega
  · rw [hs]; omega
/-! ### rows -/
theorem rowF_len {c : Nat} {f : Nat → Int} : (rowF c f).length = c := by simp [rowF]
theorem iV_len {ns : List Int} : (iV ns).length = ns.length := by simp [iV]
theorem rowF_get {c : Nat} {f : Nat → Int} {k : Nat} (h : k < c) : (rowF c f)[k]? = some (f k) := by simp [rowF, h]
theorem iV_get {ns : List Int} {k : Nat} {n : Int} (h : ns[k]? = some n) : (iV ns)[k]? = some (.int n) := by
  unfold iV; rw [List.getElem?_map, h]; rfl
theorem rowF_set {c : Nat} {f : Nat → Int} {k : Nat} {v : Int} (h : k < c) : (iV (rowF c f)).set k (.int v) = iV (rowF c fun t => if t = k then v else f t) := by
  unfold iV rowF
  refine List.ext_getElem? fun i => ?_
  by_cases hi : i < c
  · by_cases hk : k = i
    · subst hk
      rw [List.getElem?_set_self (by simp; omega)]
      simp [hi]
    · rw [List.getElem?_set_ne hk]
      have : ¬ i = k := fun z => hk z.symm
      simp [hi, this]
  · rw [List.getElem?_eq_none (by simp; omega), List.getElem?_eq_none (by simp; omega)]
theorem rowF_ext {c : Nat} {f g : Nat → Int} (h : ∀ t, t < c → f t = g t) : rowF c f = rowF c g := by
  unfold rowF
  exact List.map_congr_left fun t ht => h t (List.mem_range.mp ht)
theorem rep0 (n : Nat) : (List.replicate n [(Vl.int 0)]).flatten = iV (rowF n fun _ => 0) := by
  induction n with
  | zero => rfl
  | succ n ih =>
    rw [List.replicate_succ', List.flatten_append, ih]
    unfold iV rowF
    rw [List.range_succ]
    simp
/-! ### a valid calendar's cycle -/
def rat4 (b : Int) : List Int → Prop
  | [] => True
  | p :: r => (0 < b → p ≤ 4 * b) ∧ rat4 p r
def cyc (ps : List Int) : Int := (ps.getLast?).getD 0
theorem calFrom_all : ∀ {ps : List Int} {b : Int}, 0 ≤ b → calFrom b ps → ∀ p ∈ ps, b < p ∧ p ≤ 400
  | a :: r, b, hb, h, p, hp => by
    rcases List.mem_cons.mp hp with z | z
    · subst z; exact ⟨h.1, h.2.1⟩
    · have := calFrom_all (b := a) (by have := h.1; omega) h.2.2.2 p z
      have h1 := h.1
      exact ⟨by omega, this.2⟩
/-- every period divides the last one -/
theorem calFrom_dvd : ∀ {ps : List Int} {b : Int} {c : Int}, 0 ≤ b → calFrom b ps → ps.getLast? = some c → (0 < b → b ∣ c) ∧ ∀ p ∈ ps, p ∣ c
  | [a], b, c, hb, h, e => by
    cases e
    exact ⟨fun z => Int.dvd_of_emod_eq_zero (h.2.2.1 z), fun p hp => by simp at hp; subst hp; exact Int.dvd_refl _⟩
  | a :: a2 :: r, b, c, hb, h, e => by
    have h1 := h.1
    have ih := calFrom_dvd (ps := a2 :: r) (b := a) (c := c) (by omega) h.2.2.2 (by rw [List.getLast?_cons_cons] at e; exact e)
    have ha : a ∣ c := ih.1 (by omega)
    refine ⟨fun z => Int.dvd_trans (Int.dvd_of_emod_eq_zero (h.2.2.1 z)) ha, fun p hp => ?_⟩
    rcases List.mem_cons.mp hp with z | z
    · subst z; exact ha
    · exact ih.2 p z
structure CycOk (ps : List Int) (c : Int) : Prop where
  last : ps.getLast? = some c
  pos : 0 < c
  le : c ≤ 400
  per : ∀ p ∈ ps, 0 < p ∧ p ≤ c ∧ p ∣ c
theorem cal_cyc {ps : List Int} (h : CalOk ps) : CycOk ps (cyc ps) := by
  obtain ⟨h1, h5, hc⟩ := h
  have hne : ps ≠ [] := by intro z; subst z; simp at h1
  obtain ⟨c, hl⟩ : ∃ c, ps.getLast? = some c := ⟨_, List.getLast?_eq_some_getLast hne⟩
  have hcy : cyc ps = c := by unfold cyc; rw [hl]; rfl
  rw [hcy]
  have hm : c ∈ ps := List.mem_of_getLast? hl
  have ha := calFrom_all (Int.le_refl 0) hc
  have hd := (calFrom_dvd (Int.le_refl 0) hc hl).2
  exact ⟨hl, (ha c hm).1, (ha c hm).2, fun p hp => ⟨(ha p hp).1, Int.le_of_dvd (ha c hm).1 (hd p hp), hd p hp⟩⟩
theorem atI_cyc {ps : List Int} {c : Int} (h : CycOk ps c) : atI (iV ps) (-1) = some (.int c) := atI_last (by unfold iV; rw [List.getLast?_map, h.last]; rfl)
theorem ordB_iff {ps : List Int} {o : Ord} : ordB ps o = true ↔ o.1 ∈ ps ∧ 0 ≤ o.2.1 ∧ o.2.1 < o.1 ∧ o.2.2 ≠ 0 := by
  unfold ordB
  simp [and_assoc]
theorem flowAt_snoc (os : List Ord) (o : Ord) (t : Int) : flowAt (os ++ [o]) t = flowAt os t + if t % o.1 = o.2.1 then o.2.2 else 0 := by
  unfold flowAt
  rw [List.map_append, List.sum_append]
  simp
theorem take_snoc {α : Type} {os : List α} {i : Nat} {o : α} (h : os[i]? = some o) : os.take (i + 1) = os.take i ++ [o] := by rw [List.take_succ, h]; rfl
/-! ### flow_list -/
def sp_flow_list : DSp := fun xs cs Q _ => ∃ (ps : List Int) (os : List Ord) (b : Bool), xs = [.dat (cal ps), .dat (seqd b (ordsD os))] ∧ CalOk ps ∧ OrdsOk ps os ∧ ∀ p, cs p = none → Q (.cell p) (cs.put p (.lst (iV (flowsL (cyc ps) os))))
theorem len_flow_list : ∀ xs cs Q XP, sp_flow_list xs cs Q XP → xs.length = 2 := by rintro xs cs Q XP ⟨ps, o, b, rfl, _⟩; rfl
def w_flow_list : WS := (wSeq (wAsg (wOp wRep (wLst (wCons (wC (.int 0)) wNil)) (wOp wIx (wVar 0) (wUn wNeg (wC (.int 1))))) (gN 2))
    (wSeq (wFor (wiSeq (wVar 1)) (gT 3 (gCons (gN 3) (gCons (gN 4) (gCons (gN 5) gNil)))) (wFor (wiRng3 (wCons (wVar 4) (wCons (wOp wIx (wVar 0) (wUn wNeg (wC (.int 1)))) (wCons (wVar 3) wNil)))) (gN 6) (wAugIx (wVar 2) (wVar 6) (wVar 5) (fun i j => i + j))))
    (wRet (wVar 2))))
theorem mod_near {p d t : Int} {j : Int} (hp : 0 < p) (hd : 0 ≤ d) (hdp : d < p) : (d + j * p) % p = d := by
  rw [Int.add_mul_emod_self_right, Int.emod_eq_of_lt hd hdp]
theorem pure_flow_list (K : Frag) : ∀ xs cs Q XP, sp_flow_list xs cs Q XP → w_flow_list (retE K Q) (startD 7 xs) cs := by
  rintro xs cs Q XP ⟨ps, os, b, rfl, hc, ho, q⟩
  have C := cal_cyc hc
  generalize cyc ps = c at C q
  have hpos := C.pos
  have hle := C.le
  unfold w_flow_list
  walk_at "dl"
  refine ⟨by decide, .inl fun p0 hp0 => ?_⟩
  refine ⟨_, _, seqD_cal, _, atI_cyc C, ?_⟩
  simp only [wRep]
  walk_at "dl"
  refine ⟨by omega, by omega, by omega, cs, SubC.put hp0, .inl fun p hp => ?_⟩
  rw [rep0]
  simp only [wFor, wiSeq]
  walk_at "dl"
  refine ⟨_, _, seqD_seqd, fun i ρ cs' => cs' = cs.put p (.lst (iV (rowF c.toNat fun t => flowAt (os.take i) (t : Int)))) ∧ ∃ a3 a4 a5 a6, ρ = [some (.dat (cal ps)), some (.dat (seqd b (ordsD os))), some (.cell p), a3, a4, a5, a6], ⟨rfl, _, _, _, _, rfl⟩, fun _ _ _ _ _ => seqD_seqd, ?_, ?_⟩
  · rintro i x ρ cs' hx ⟨rfl, a3, a4, a5, a6, rfl⟩
    unfold ordsD at hx
    rw [List.getElem?_map, List.getElem?_map] at hx
    obtain ⟨d0, hd0, rfl⟩ := Option.map_eq_some_iff.mp hx
    obtain ⟨⟨pp, dd, aa⟩, hoi, rfl⟩ := Option.map_eq_some_iff.mp hd0
    obtain ⟨k1, k2, k3, k4⟩ := ordB_iff.mp (ho _ (List.mem_of_getElem? hoi))
    simp only at k1 k2 k3 k4
    obtain ⟨p1, p2, p3⟩ := C.per _ k1
    simp only [ord]
    walk_at "dl"
    simp only [wiRng3]
    walk_at "dl"
    refine ⟨_, _, seqD_cal, _, atI_cyc C, ?_⟩
    walk_at "dl"
    refine ⟨_, rgC_pos k2 (by omega) (by omega) p1 (by omega), ?_⟩
    refine ⟨fun j ρ cs' => cs' = cs.put p (.lst (iV (rowF c.toNat fun t => flowAt (os.take i) (t : Int) + if (t : Int) % pp = dd ∧ (t : Int) < dd + j * pp then aa else 0))) ∧ ∃ a6, ρ = [some (.dat (cal ps)), some (.dat (seqd b (ordsD os))), some (.cell p), some (.int pp), some (.int dd), some (.int aa), a6], ⟨?_, _, rfl⟩, fun _ _ _ _ _ => trivial, ?_, ?_⟩
    · congr 3
      refine rowF_ext fun t _ => ?_
      rw [if_neg (fun z => ?_), Int.add_zero]
      obtain ⟨z1, z2⟩ := z
      have z3 : (t : Int) < dd := by simpa using z2
      rw [Int.emod_eq_of_lt (by omega) (by omega)] at z1
      omega
    · rintro j x ρ cs' hx ⟨rfl, a6, rfl⟩
      obtain ⟨hj, rfl⟩ := rangeD_at hx
      have hq : 0 ≤ (c - dd - 1) / pp := Int.ediv_nonneg (by omega) (by omega)
      have hjq : (j : Int) ≤ (c - dd - 1) / pp := by omega
      have hjm : (j : Int) * pp ≤ c - dd - 1 := Int.le_trans (Int.mul_le_mul_of_nonneg_right hjq (by omega)) (Int.ediv_mul_le _ (by omega))
      have hj0 : 0 ≤ (j : Int) * pp := Int.mul_nonneg (by omega) (by omega)
      have hr : (dd + (j : Int) * pp).toNat < c.toNat := by omega
      have hrc : (((dd + (j : Int) * pp).toNat : Nat) : Int) = dd + (j : Int) * pp := Int.toNat_of_nonneg (by omega)
      walk_at "dl"
      refine ⟨_, ixN_int (by omega) (by rw [iV_len, rowF_len]; omega), _, iV_get (rowF_get hr), ?_⟩
      rw [rowF_set hr]
      congr 3
      refine rowF_ext fun t ht => ?_
      simp only [hrc]
      by_cases htj : t = (dd + (j : Int) * pp).toNat
      · have htc : (t : Int) = dd + (j : Int) * pp := by omega
        have e0 : ((j + 1 : Nat) : Int) * pp = (j : Int) * pp + pp := by rw [Int.natCast_add, Int.add_mul]; simp
        rw [if_pos htj, htc, mod_near (t := t) p1 k2 k3, if_neg (by omega), if_pos ⟨rfl, by omega⟩, Int.add_zero]
      · rw [if_neg htj]
        congr 1
        have hiff : ((t : Int) % pp = dd ∧ (t : Int) < dd + (j : Int) * pp) ↔ ((t : Int) % pp = dd ∧ (t : Int) < dd + ((j + 1 : Nat) : Int) * pp) := by
          have e1 : ((j + 1 : Nat) : Int) * pp = (j : Int) * pp + pp := by rw [Int.natCast_add, Int.add_mul]; simp
          constructor
          · rintro ⟨z1, z2⟩; exact ⟨z1, by omega⟩
          · rintro ⟨z1, z2⟩
            refine ⟨z1, ?_⟩
            have e2 := Int.emod_add_mul_ediv (t : Int) pp
            rw [z1] at e2
            have e3 : (t : Int) / pp ≤ j := by
              have : pp * ((t : Int) / pp) < pp * ((j : Int) + 1) := by rw [Int.mul_add, Int.mul_comm pp j]; omega
              have := Int.lt_of_mul_lt_mul_left this (by omega)
              omega
            have e4 : (t : Int) / pp ≠ j := fun z => htj (by rw [z, Int.mul_comm] at e2; omega)
            have e5 : pp * ((t : Int) / pp) ≤ pp * ((j : Int) - 1) := Int.mul_le_mul_of_nonneg_left (by omega) (by omega)
            rw [Int.mul_sub, Int.mul_comm pp j] at e5
            omega
        simp only [hiff]
    · rintro ρ cs' ⟨rfl, a6, rfl⟩
      refine ⟨?_, _, _, _, _, rfl⟩
      congr 3
      refine rowF_ext fun t ht => ?_
      rw [take_snoc hoi, flowAt_snoc]
      congr 1
      have hq : 0 ≤ (c - dd - 1) / pp := Int.ediv_nonneg (by omega) (by omega)
      have hlen : (rangeD dd pp ((c - dd - 1) / pp + 1).toNat).length = ((c - dd - 1) / pp + 1).toNat := rangeD_len
      rw [hlen, Int.toNat_of_nonneg (by omega)]
      have hb : c - dd - 1 < ((c - dd - 1) / pp + 1) * pp := Int.lt_ediv_add_one_mul_self _ p1
      by_cases h1 : (t : Int) % pp = dd
      · rw [if_pos ⟨h1, by omega⟩, if_pos h1]
      · rw [if_neg (fun z => h1 z.1), if_neg h1]
  · rintro ρ cs' ⟨rfl, a3, a4, a5, a6, rfl⟩
    walk_at "dl"
    refine .now ?_
    have := q p hp
    unfold flowsL at this
    have hl : ((ordsD os).map Vl.dat).length = os.length := by simp [ordsD]
    rw [hl, List.take_of_length_le (Nat.le_refl _)]
    exact this
end DL
set_option maxRecDepth 100000
set_option maxHeartbeats 4000000
namespace DL
open PySem L2
local macro_rules | `(tactic| walk_at "dl") => `(tactic| simp only [wRet, wRetN, wSeq, wAsg, wIfS, wDrop, wNext, wVar, wC, wOp, wUn, wFn, wNil, wCons, wTest, wNot, wAnd, wOr, wAndV, wOrV, wNotV, wIf, wChain, wTup, wLst, wCall, wNever, gN, gT, gNil, gCons, gIx, wI, wI0, wNeg, wMax2, wMin2, wLen, wIsN, wNotN, isNon_non, isNon_bl, isNon_int, isNon_str, isNon_lst, isNon_tup, isNon_cell, wIx, wTuple, wAug, wAugIx, wPar, wIsi, wIsi2, isiT, tyD_non, tyD_bl, tyD_int, tyD_str, tyD_lst, tyD_tup, tyD_cell, coTy_lst, seqD_lst, seqD_tp, seqD_cell, coSeq_lst, seen_dat, seen_cell, coDat_lst, startD, wYes, wApp, wEq_int, wEq_bl, allDat_nil, allDat_cons, allDat_map, Option.map_some, List.map_cons, List.map_nil, List.cons_append, List.nil_append, List.length_cons, List.length_nil, List.replicate, List.getElem?_cons_zero, List.getElem?_cons_succ, List.set_cons_zero, List.set_cons_succ, Option.some.injEq, exists_eq_left', exists_eq_left, exists_and_left, exists_eq', exists_eq, Vl.dat.injEq, Vl.raw.injEq, V.ref.injEq, CO.lst.injEq, Dat.int.injEq, Dat.bl.injEq, Dat.tup.injEq, Dat.lst.injEq, List.cons.injEq, and_true, true_and, retE, Nat.reduceAdd, Nat.reduceSub, and_assoc, Prod.mk.injEq, if_true, if_false, Bool.false_eq_true, decide_eq_true_eq, Bool.not_true, Bool.not_false, Bool.not_eq_true', decide_eq_false_iff_not, if_false_left, if_false_right, beq_iff_eq, Bool.or_eq_true, Bool.and_eq_true, Bool.or_self, Bool.or_true, Bool.true_or, Bool.or_false, Bool.false_or, decide_true, decide_false, reduceCtorEq, Cells.put_same, gt_iff_lt, ge_iff_le, beq_self_eq_true, bne_self_eq_false, Bool.decide_eq_true, not_true_eq_false, not_false_eq_true, Decidable.not_not, false_and, and_false, Bool.not_eq_false, at_0, at_1, at_2, at_3, at_4, at_5, ix_0, ix_1, ix_2, ix_3, Nat.reduceLT, Int.reduceLT, Int.reduceLE, Int.reduceNeg, Int.reduceAdd, Int.reduceSub, Int.reduceEq, Int.reducePow, Int.reduceToNat, Cells.put_put])
/-! ### cycle_of, times_due, flows -/
def sp_cycle_of : DSp := fun xs cs Q _ => ∃ ps : List Int, xs = [.dat (cal ps)] ∧ CalOk ps ∧ Q (.int (cyc ps)) cs
theorem len_cycle_of : ∀ xs cs Q XP, sp_cycle_of xs cs Q XP → xs.length = 1 := by rintro xs cs Q XP ⟨ps, rfl, _⟩; rfl
def w_cycle_of : WS := (wSeq (wDrop (wCall sp_validate_calendar (wCons (wVar 0) wNil)))
    (wRet (wOp wIx (wVar 0) (wUn wNeg (wC (.int 1))))))
theorem pure_cycle_of (K : Frag) : ∀ xs cs Q XP, sp_cycle_of xs cs Q XP → w_cycle_of (retE K Q) (startD 1 xs) cs := by
  rintro xs cs Q XP ⟨ps, rfl, hc, q⟩
  unfold w_cycle_of
  walk_at "dl"
  exact ⟨ps, rfl, hc, _, _, seqD_cal, _, atI_cyc (cal_cyc hc), .now q⟩
def sp_times_due : DSp := fun xs cs Q _ => ∃ (ps : List Int) (o : Ord) (f l : Int), xs = [.dat (cal ps), .dat (ord o), .int f, .int l] ∧ CalOk ps ∧ ordB ps o = true ∧ Q (.int (daysDue o.1 o.2.1 f l)) cs
theorem len_times_due : ∀ xs cs Q XP, sp_times_due xs cs Q XP → xs.length = 4 := by rintro xs cs Q XP ⟨ps, o, f, l, rfl, _⟩; rfl
def w_times_due : WS := (wSeq (wDrop (wCall sp_validate_orders (wCons (wVar 0) (wCons (wLst (wCons (wVar 1) wNil)) wNil))))
    (wRet (wCall sp_days_due (wCons (wOp wIx (wVar 1) (wC (.int 0))) (wCons (wOp wIx (wVar 1) (wC (.int 1))) (wCons (wVar 2) (wCons (wVar 3) wNil)))))))
theorem pure_times_due (K : Frag) : ∀ xs cs Q XP, sp_times_due xs cs Q XP → w_times_due (retE K Q) (startD 4 xs) cs := by
  rintro xs cs Q XP ⟨ps, ⟨p, d, a⟩, f, l, rfl, hc, ho, q⟩
  obtain ⟨k1, k2, k3, k4⟩ := ordB_iff.mp ho
  have C := cal_cyc hc
  obtain ⟨p1, p2, p3⟩ := C.per _ k1
  have := C.le
  unfold w_times_due
  walk_at "dl"
  refine ⟨by decide, .inr ⟨[ord (p, d, a)], rfl, ps, [(p, d, a)], true, rfl, hc, fun o h => by simp at h; rw [h]; exact ho, ?_⟩⟩
  simp only [ord]
  walk_at "dl"
  exact ⟨p, d, f, l, rfl, p1, by omega, .now q⟩
abbrev sp_flows : DSp := sp_flow_list
theorem len_flows : ∀ xs cs Q XP, sp_flows xs cs Q XP → xs.length = 2 := len_flow_list
def w_flows : WS := (wSeq (wDrop (wCall sp_validate_orders (wCons (wVar 0) (wCons (wVar 1) wNil))))
    (wRet (wCall sp_flow_list (wCons (wVar 0) (wCons (wVar 1) wNil)))))
theorem pure_flows (K : Frag) : ∀ xs cs Q XP, sp_flows xs cs Q XP → w_flows (retE K Q) (startD 2 xs) cs := by
  rintro xs cs Q XP ⟨ps, os, b, rfl, hc, ho, q⟩
  unfold w_flows
  walk_at "dl"
  exact ⟨ps, os, b, rfl, hc, ho, ps, os, b, rfl, hc, ho, fun p hp => .now (q p hp)⟩
/-! ### draws -/
def DrSt (c : CO) : Prop := ∃ (ns : List Int) (pos seed rest : Int), c = .lst [.dat (.lst (iD ns)), .int pos, .int seed, .int rest] ∧ 0 ≤ pos
def sp_law_start : DSp := fun xs cs Q _ => ∃ ns : List Int, xs = [.dat (.lst (iD ns))] ∧ ∀ p c, cs p = none → DrSt c → Q (.cell p) (cs.put p c)
theorem len_law_start : ∀ xs cs Q XP, sp_law_start xs cs Q XP → xs.length = 1 := by rintro xs cs Q XP ⟨ns, rfl, _⟩; rfl
def w_law_start : WS := (wSeq (wAsg (wC (.int 1)) (gN 1))
    (wSeq (wFor (wiSeq (wVar 0)) (gN 2) (wAsg (wOp wMod (wOp wAdd (wOp wAdd (wOp wMul (wVar 1) (wC (.int 48271))) (wVar 2)) (wC (.int 7))) (wC (.int 2147483647))) (gN 1)))
    (wRet (wLst (wCons (wVar 0) (wCons (wC (.int 0)) (wCons (wVar 1) (wCons (wC (.int 0)) wNil))))))))
theorem pure_law_start (K : Frag) : ∀ xs cs Q XP, sp_law_start xs cs Q XP → w_law_start (retE K Q) (startD 3 xs) cs := by
  rintro xs cs Q XP ⟨ns, rfl, q⟩
  unfold w_law_start
  walk_at "dl"
  simp only [wFor, wiSeq]
  walk_at "dl"
  refine ⟨fun i ρ cs' => cs' = cs ∧ ∃ (m : Int) (a : Option Vl), ρ = [some (.dat (.lst (iD ns))), some (.int m), a], ⟨rfl, _, _, rfl⟩, fun _ _ _ _ _ => trivial, ?_, ?_⟩
  · rintro i x ρ cs' hx ⟨rfl, m, a, rfl⟩
    rw [iD_map] at hx
    unfold iV at hx
    rw [List.getElem?_map] at hx
    obtain ⟨n, hn, rfl⟩ := Option.map_eq_some_iff.mp hx
    walk_at "dl"
    exact mulR (by decide) (by decide)
  · rintro ρ cs' ⟨rfl, m, a, rfl⟩
    walk_at "dl"
    exact ⟨by decide, .inl fun p hp => .now (q p _ hp ⟨ns, 0, m, 0, rfl, by decide⟩)⟩
def sp_law_drawn : DSp := fun xs cs Q _ => ∃ (a : Addr) (n : Int) (c : CO), xs = [.cell a, .int n] ∧ cs a = some c ∧ DrSt c ∧ 0 < n ∧ n ≤ 1000000000000000000000000000000 ∧ ∀ r c', 0 ≤ r → r < n → DrSt c' → Q (.int r) (cs.put a c')
theorem len_law_drawn : ∀ xs cs Q XP, sp_law_drawn xs cs Q XP → xs.length = 2 := by rintro xs cs Q XP ⟨a, n, c, rfl, _⟩; rfl
def w_law_drawn : WS := (wSeq (wIfS (wTest (wOp wGt (wOp wIx (wVar 0) (wC (.int 3))) (wC (.int 0)))) (wSeq (wAsg (wOp wMod (wOp wIx (wVar 0) (wC (.int 3))) (wVar 1)) (gN 2))
    (wSeq (wAsg (wOp wDiv (wOp wIx (wVar 0) (wC (.int 3))) (wVar 1)) (gIx (wVar 0) (wC (.int 3))))
    (wRet (wVar 2)))) wNext)
    (wSeq (wAsg (wOp wAdd (wOp wIx (wVar 0) (wC (.int 1))) (wC (.int 1))) (gIx (wVar 0) (wC (.int 1))))
    (wSeq (wIfS (wTest (wOp wLe (wOp wIx (wVar 0) (wC (.int 1))) (wFn wLen (wCons (wOp wIx (wVar 0) (wC (.int 0))) wNil)))) (wSeq (wAsg (wOp wIx (wOp wIx (wVar 0) (wC (.int 0))) (wOp wSub (wOp wIx (wVar 0) (wC (.int 1))) (wC (.int 1)))) (gN 3))
    (wSeq (wAsg (wIf (wTest (wOp wGe (wVar 3) (wOp wPow (wC (.int 10)) (wC (.int 18))))) (wOp wDiv (wVar 3) (wVar 1)) (wC (.int 0))) (gIx (wVar 0) (wC (.int 3))))
    (wRet (wOp wMod (wVar 3) (wVar 1))))) wNext)
    (wSeq (wAsg (wOp wMod (wOp wAdd (wOp wMul (wOp wIx (wVar 0) (wC (.int 2))) (wC (.int 48271))) (wC (.int 11))) (wC (.int 2147483647))) (gIx (wVar 0) (wC (.int 2))))
    (wRet (wOp wMod (wOp wDiv (wOp wIx (wVar 0) (wC (.int 2))) (wC (.int 7))) (wVar 1)))))))
theorem pow10 (n : Nat) (h : (n : Int) ≤ 1000000) : CPow 10 (n : Int) := ⟨by omega, h, by decide⟩
theorem pure_law_drawn (K : Frag) : ∀ xs cs Q XP, sp_law_drawn xs cs Q XP → w_law_drawn (retE K Q) (startD 4 xs) cs := by
  rintro xs cs Q XP ⟨a, n, c, rfl, hc, ⟨ns, pos, seed, rest, rfl, hpos⟩, hn, hn2, q⟩
  unfold w_law_drawn
  walk_at "dl"
  simp only [hc]
  walk_at "dl"
  have m1 : ∀ x : Int, 0 ≤ x % n := fun x => Int.emod_nonneg _ (by omega)
  have m2 : ∀ x : Int, x % n < n := fun x => Int.emod_lt_of_pos _ hn
  split
  · exact ⟨hn, divOk hn hn2, .now (q _ _ (m1 _) (m2 _) ⟨ns, pos, seed, _, rfl, hpos⟩)⟩
  · split
    · rename_i h1 h2
      have hl : (List.map Vl.dat (iD ns)).length = ns.length := by simp [iD]
      rw [hl] at h2
      obtain ⟨z, hz⟩ : ∃ z, ns[pos.toNat]? = some z := ⟨_, List.getElem?_eq_getElem (by omega)⟩
      refine ⟨.int z, ?_, pow10 18 (by decide), z, rfl, ?_⟩
      · rw [show pos + 1 - 1 = pos by omega, iD_map]
        exact atI_int hpos (iV_get hz)
      · split
        · exact ⟨z, rfl, divOk hn hn2, z, rfl, hn, .now (q _ _ (m1 _) (m2 _) ⟨ns, _, seed, _, rfl, by omega⟩)⟩
        · exact ⟨z, rfl, hn, .now (q _ _ (m1 _) (m2 _) ⟨ns, _, seed, _, rfl, by omega⟩)⟩
    · exact ⟨mulR (by decide) (by decide), divOk (by decide) (by decide), hn, .now (q _ _ (m1 _) (m2 _) ⟨ns, _, _, _, rfl, by omega⟩)⟩
/-! ### random calendars and orders -/
theorem put_fresh {cs : Cells} {a p : Addr} {c c' : CO} (h : cs a = some c) (hp : cs p = none) : p ≠ a := by
  intro z; rw [z, h] at hp; cases hp
def sp_law_calendar : DSp := fun xs cs Q _ => ∃ (a : Addr) (n : Int) (c : CO), xs = [.cell a, .int n] ∧ cs a = some c ∧ DrSt c ∧ 1 ≤ n ∧ n ≤ 400 ∧ ∀ ps c', CalOk ps → (∀ p ∈ ps, p ≤ max 3 n) → ps.length ≤ 4 ∧ rat4 0 ps → DrSt c' → Q (.dat (cal ps)) (cs.put a c')
theorem len_law_calendar : ∀ xs cs Q XP, sp_law_calendar xs cs Q XP → xs.length = 2 := by rintro xs cs Q XP ⟨a, n, c, rfl, _⟩; rfl
def w_law_calendar : WS := (wSeq (wAsg (wLst (wCons (wOp wAdd (wC (.int 1)) (wCall sp_law_drawn (wCons (wVar 0) (wCons (wFn wMin2 (wCons (wC (.int 3)) (wCons (wVar 1) wNil))) wNil)))) wNil)) (gN 2))
    (wSeq (wFor (wiRng1 (wCons (wCall sp_law_drawn (wCons (wVar 0) (wCons (wC (.int 4)) wNil))) wNil)) (gN 3) (wSeq (wAsg (wOp wMul (wOp wIx (wVar 2) (wOp wSub (wC (.int 0)) (wC (.int 1)))) (wOp wAdd (wC (.int 2)) (wCall sp_law_drawn (wCons (wVar 0) (wCons (wC (.int 3)) wNil))))) (gN 4))
    (wIfS (wTest (wOp wLe (wVar 4) (wVar 1))) (wDrop (wApp (wVar 2) (wVar 4))) wNext)))
    (wRet (wFn wTuple (wCons (wVar 2) wNil)))))
theorem calFrom_snoc : ∀ {ps : List Int} {b c p : Int}, calFrom b ps → (ps.getLast?).getD b = c → c < p → p ≤ 400 → (c > 0 → p % c = 0) → calFrom b (ps ++ [p])
  | [], b, c, p, _, e, h1, h2, h3 => by
    simp at e; subst e; exact ⟨h1, h2, h3, trivial⟩
  | [a], b, c, p, h, e, h1, h2, h3 => by
    simp at e; subst e; exact ⟨h.1, h.2.1, h.2.2.1, h1, h2, h3, trivial⟩
  | a :: a2 :: r, b, c, p, h, e, h1, h2, h3 => by
    refine ⟨h.1, h.2.1, h.2.2.1, calFrom_snoc (ps := a2 :: r) h.2.2.2 ?_ h1 h2 h3⟩
    rw [List.getLast?_cons_cons] at e
    cases q : (a2 :: r).getLast? with
    | none => simp at q
    | some z => rw [q] at e; exact e
theorem rat4_snoc : ∀ {ps : List Int} {b c p : Int}, rat4 b ps → (ps.getLast?).getD b = c → p ≤ 4 * c → rat4 b (ps ++ [p])
  | [], b, c, p, _, e, h1 => by
    simp at e; subst e; exact ⟨fun _ => h1, trivial⟩
  | [a], b, c, p, h, e, h1 => by
    simp at e; subst e; exact ⟨h.1, fun _ => h1, trivial⟩
  | a :: a2 :: r, b, c, p, h, e, h1 => by
    refine ⟨h.1, rat4_snoc (ps := a2 :: r) h.2 ?_ h1⟩
    rw [List.getLast?_cons_cons] at e
    cases q : (a2 :: r).getLast? with
    | none => simp at q
    | some z => rw [q] at e; exact e
theorem iV_app (xs ys : List Int) : iV xs ++ iV ys = iV (xs ++ ys) := by simp [iV]
theorem pure_law_calendar (K : Frag) : ∀ xs cs Q XP, sp_law_calendar xs cs Q XP → w_law_calendar (retE K Q) (startD 5 xs) cs := by
  rintro xs cs Q XP ⟨a, n, c, rfl, hc, hD, hn, hn2, q⟩
  unfold w_law_calendar
  walk_at "dl"
  refine ⟨a, _, c, rfl, hc, hD, by split <;> omega, by split <;> omega, fun r c1 hr0 hr1 hD1 => ?_⟩
  walk_at "dl"
  refine ⟨by decide, .inl fun p hp => ?_⟩
  have hpa : p ≠ a := by
    intro z; rw [z, Cells.put_same] at hp; cases hp
  have hp0 : cs p = none := by rwa [Cells.put_ne hpa] at hp
  simp only [wFor, wiRng1]
  walk_at "dl"
  refine ⟨a, 4, c1, rfl, by rw [Cells.put_ne hpa.symm, Cells.put_same], hD1, by decide, by decide, fun k c2 hk0 hk1 hD2 => ?_⟩
  walk_at "dl"
  refine ⟨by omega, by omega, fun i ρ cs' => ∃ ps c', cs' = (cs.put a c').put p (.lst (iV ps)) ∧ DrSt c' ∧ (calFrom 0 ps ∧ rat4 0 ps) ∧ 1 ≤ ps.length ∧ ps.length ≤ i + 1 ∧ (∀ x ∈ ps, x ≤ max 3 n) ∧ ∃ a3 a4, ρ = [some (.cell a), some (.int n), some (.cell p), a3, a4], ?_, fun _ _ _ _ _ => trivial, ?_, ?_⟩
  · refine ⟨[1 + r], c2, ?_, hD2, ⟨⟨by omega, by split at hr1 <;> omega, fun z => absurd z (by decide), trivial⟩, fun z => absurd z (by decide), trivial⟩, by simp, by simp, by simp; split at hr1 <;> omega, _, _, rfl⟩
    rw [Cells.put_comm hpa, Cells.put_put]; rfl
  · rintro i x ρ cs' hx ⟨ps, c', rfl, hD', ⟨hcf, hrt⟩, hl1, hl2, hall, a3, a4, rfl⟩
    obtain ⟨hi, rfl⟩ := rangeD_at hx
    have hne : ps ≠ [] := by intro z; subst z; simp at hl1
    have hlast : ps.getLast? = some (ps.getLast hne) := List.getLast?_eq_some_getLast hne
    generalize hz : ps.getLast hne = z at hlast
    have hzm : z ∈ ps := List.mem_of_getLast? hlast
    have hza := calFrom_all (Int.le_refl 0) hcf z hzm
    walk_at "dl"
    refine ⟨.int z, atI_last (by unfold iV; rw [List.getLast?_map, hlast]; rfl), ?_⟩
    refine ⟨a, 3, c', rfl, by rw [Cells.put_ne hpa.symm, Cells.put_same], hD', by decide, by decide, fun r2 c3 hr20 hr21 hD3 => ?_⟩
    rw [Cells.put_comm hpa, Cells.put_put]
    walk_at "dl"
    refine ⟨mulL (by omega) (by omega), ?_⟩
    split
    · rename_i hle
      refine ⟨by rw [iV_len]; omega, ps ++ [z * (2 + r2)], c3, ?_, hD3, ?_, ?_, by simp, by simp; omega, ?_⟩
      · rw [← iV_app]; rfl
      · refine calFrom_snoc hcf (c := z) (by rw [hlast]; rfl) ?_ (by omega) (fun _ => by simp)
        have : z * 1 < z * (2 + r2) := Int.mul_lt_mul_of_pos_left (by omega) hza.1
        omega
      · refine rat4_snoc hrt (c := z) (by rw [hlast]; rfl) ?_
        have : z * (2 + r2) ≤ z * 4 := Int.mul_le_mul_of_nonneg_left (by omega) (by omega)
        omega
      · intro x hx
        rcases List.mem_append.mp hx with y | y
        · exact hall x y
        · simp at y; rw [y]; omega
    · exact ⟨ps, c3, rfl, hD3, hcf, hrt, hl1, by omega, hall⟩
  · rintro ρ cs' ⟨ps, c', rfl, hD', ⟨hcf, hrt⟩, hl1, hl2, hall, a3, a4, rfl⟩
    rw [rangeD_len] at hl2
    walk_at "dl"
    refine ⟨_, allDat_iV ps, ?_⟩
    refine .drop (SubC.put (by rw [Cells.put_ne hpa]; exact hp0)) (q ps c' ⟨hl1, by omega, hcf⟩ hall ⟨by omega, hrt⟩ hD')
def sp_law_order : DSp := fun xs cs Q _ => ∃ (a : Addr) (ps : List Int) (n : Int) (c : CO), xs = [.cell a, .dat (cal ps), .int n] ∧ cs a = some c ∧ DrSt c ∧ CalOk ps ∧ 0 < n ∧ n ≤ 1000000000000000000000000000000 ∧
  ∀ o c', ordB ps o = true → -n ≤ o.2.2 → o.2.2 ≤ n → DrSt c' → Q (.dat (ord o)) (cs.put a c')
theorem len_law_order : ∀ xs cs Q XP, sp_law_order xs cs Q XP → xs.length = 3 := by rintro xs cs Q XP ⟨a, ps, n, c, rfl, _⟩; rfl
def w_law_order : WS := (wSeq (wAsg (wOp wIx (wVar 1) (wCall sp_law_drawn (wCons (wVar 0) (wCons (wFn wLen (wCons (wVar 1) wNil)) wNil)))) (gN 3))
    (wSeq (wAsg (wOp wAdd (wCall sp_law_drawn (wCons (wVar 0) (wCons (wVar 2) wNil))) (wC (.int 1))) (gN 4))
    (wRet (wTup (wCons (wVar 3) (wCons (wCall sp_law_drawn (wCons (wVar 0) (wCons (wVar 3) wNil))) (wCons (wIf (wTest (wOp (wEqD false) (wCall sp_law_drawn (wCons (wVar 0) (wCons (wC (.int 2)) wNil))) (wC (.int 0)))) (wVar 4) (wOp wSub (wC (.int 0)) (wVar 4))) wNil)))))))
theorem pure_law_order (K : Frag) : ∀ xs cs Q XP, sp_law_order xs cs Q XP → w_law_order (retE K Q) (startD 5 xs) cs := by
  rintro xs cs Q XP ⟨a, ps, n, c, rfl, hc, hD, hcal, hn, hn2, q⟩
  have C := cal_cyc hcal
  have hcl := C.le
  obtain ⟨hl1, hl5, hcf⟩ := id hcal
  unfold w_law_order
  walk_at "dl"
  refine ⟨_, _, seqD_cal, ?_⟩
  rw [iV_len]
  refine ⟨a, _, c, rfl, hc, hD, by omega, by omega, fun r c1 hr0 hr1 hD1 => ?_⟩
  obtain ⟨p, hp⟩ : ∃ p, ps[r.toNat]? = some p := ⟨_, List.getElem?_eq_getElem (by omega)⟩
  obtain ⟨p1, p2, p3⟩ := C.per p (List.mem_of_getElem? hp)
  walk_at "dl"
  refine ⟨_, _, seqD_cal, _, atI_int hr0 (iV_get hp), ?_⟩
  refine ⟨a, n, c1, rfl, Cells.put_same, hD1, hn, hn2, fun r2 c2 h20 h21 hD2 => ?_⟩
  walk_at "dl"
  refine ⟨a, p, c2, rfl, Cells.put_same, hD2, p1, by omega, fun r3 c3 h30 h31 hD3 => ?_⟩
  walk_at "dl"
  refine ⟨a, 2, c3, rfl, Cells.put_same, hD3, by decide, by decide, fun r4 c4 h40 h41 hD4 => ?_⟩
  walk_at "dl"
  split
  · exact ⟨by decide, .now (q (p, r3, r2 + 1) c4 (ordB_iff.mpr ⟨List.mem_of_getElem? hp, h30, h31, by show r2 + 1 ≠ 0; omega⟩) (by show -n ≤ r2 + 1; omega) (by show r2 + 1 ≤ n; omega) hD4)⟩
  · exact ⟨by decide, .now (q (p, r3, 0 - (r2 + 1)) c4 (ordB_iff.mpr ⟨List.mem_of_getElem? hp, h30, h31, by show 0 - (r2 + 1) ≠ 0; omega⟩) (by show -n ≤ 0 - (r2 + 1); omega) (by show 0 - (r2 + 1) ≤ n; omega) hD4)⟩
def sp_law_orders : DSp := fun xs cs Q _ => ∃ (a : Addr) (ps : List Int) (m n : Int) (c : CO), xs = [.cell a, .dat (cal ps), .int m, .int n] ∧ cs a = some c ∧ DrSt c ∧ CalOk ps ∧ 0 ≤ m ∧ m ≤ 1000 ∧ 0 < n ∧ n ≤ 1000000000000000000000000000000 ∧
  ∀ os c', OrdsOk ps os → (∀ o ∈ os, -n ≤ o.2.2 ∧ o.2.2 ≤ n) → (os.length : Int) ≤ m → DrSt c' → Q (.dat (.lst (ordsD os))) (cs.put a c')
theorem len_law_orders : ∀ xs cs Q XP, sp_law_orders xs cs Q XP → xs.length = 4 := by rintro xs cs Q XP ⟨a, ps, m, n, c, rfl, _⟩; rfl
def w_law_orders : WS := (wRet (wLc (wiRng1 (wCons (wCall sp_law_drawn (wCons (wVar 0) (wCons (wOp wAdd (wVar 2) (wC (.int 1))) wNil))) wNil)) (gN 4) wYes (wCall sp_law_order (wCons (wVar 0) (wCons (wVar 1) (wCons (wVar 3) wNil)))) [4]))
theorem ordsD_map (os : List Ord) : (ordsD os).map Vl.dat = os.map fun o => .dat (ord o) := by simp [ordsD]
theorem pure_law_orders (K : Frag) : ∀ xs cs Q XP, sp_law_orders xs cs Q XP → w_law_orders (retE K Q) (startD 5 xs) cs := by
  rintro xs cs Q XP ⟨a, ps, m, n, c, rfl, hc, hD, hcal, hm0, hm, hn, hn2, q⟩
  unfold w_law_orders
  walk_at "dl"
  simp only [wLc, wiRng1]
  walk_at "dl"
  refine ⟨a, _, c, rfl, hc, hD, by omega, by omega, fun k c1 hk0 hk1 hD1 => ?_⟩
  walk_at "dl"
  refine ⟨by omega, by omega, fun D hD0 => ?_⟩
  have hDa : D ≠ a := by
    intro z; rw [z, Cells.put_same] at hD0; cases hD0
  have hD0' : cs D = none := by rwa [Cells.put_ne hDa] at hD0
  refine ⟨fun i cs' => ∃ os c', cs' = (cs.put a c').put D (.lst ((ordsD os).map .dat)) ∧ DrSt c' ∧ OrdsOk ps os ∧ (∀ o ∈ os, -n ≤ o.2.2 ∧ o.2.2 ≤ n) ∧ os.length = i, ⟨[], c1, rfl, hD1, fun _ h => by simp at h, fun _ h => by simp at h, rfl⟩, fun _ _ _ _ => trivial, ?_, ?_⟩
  · rintro i x cs' hx ⟨os, c', rfl, hD', ho, hb, hl⟩
    obtain ⟨hi, rfl⟩ := rangeD_at hx
    simp only [wipeD]
    walk_at "dl"
    refine ⟨a, ps, n, c', rfl, by rw [Cells.put_ne hDa.symm, Cells.put_same], hD', hcal, hn, hn2, fun o c2 h1 h2 h3 h4 => ?_⟩
    rw [Cells.put_comm hDa, Cells.put_put]
    walk_at "dl"
    refine ⟨by simp [ordsD]; omega, os ++ [o], c2, by simp [ordsD], h4, fun o' h' => ?_, fun o' h' => ?_, by simp [hl]⟩
    · rcases List.mem_append.mp h' with z | z
      · exact ho o' z
      · simp at z; rw [z]; exact h1
    · rcases List.mem_append.mp h' with z | z
      · exact hb o' z
      · simp at z; rw [z]; exact ⟨h2, h3⟩
  · rintro cs' ⟨os, c', rfl, hD', ho, hb, hl⟩
    rw [rangeD_len] at hl
    refine ⟨_, Cells.put_same, .inr ⟨_, allDat_map _, ?_⟩⟩
    rw [Cells.del_put (by rw [Cells.put_ne hDa]; exact hD0')]
    exact .now (q os c' ho hb (by omega) hD')
/-! ### _law_same: equal data are the same -/
def sp_law_same : Nat → DSp
  | 0 => fun _ _ _ _ => False
  | n + 1 => fun xs cs Q _ => ∃ (x y : Vl) (d : Dat), xs = [x, y] ∧ seen cs x = some d ∧ seen cs y = some d ∧ d.lv n ∧ n ≤ 10 ∧ Q (.bl true) cs
theorem len_law_same {n : Nat} : ∀ xs cs Q XP, sp_law_same (n + 1) xs cs Q XP → xs.length = 2 := by rintro xs cs Q XP ⟨x, y, d, rfl, _⟩; rfl
def w_law_same (n : Nat) : WS := (wSeq (wIfS (wTest (wIsi2 .tuple .list (wVar 1))) (wSeq (wIfS (wOr (wNot (wTest (wIsi2 .tuple .list (wVar 0)))) (wTest (wOp (wEqD true) (wIsi .list (wVar 0)) (wIsi .list (wVar 1))))) (wRet (wC (.bl false))) wNext)
    (wSeq (wIfS (wTest (wOp (wEqD true) (wFn wLen (wCons (wVar 0) wNil)) (wFn wLen (wCons (wVar 1) wNil)))) (wRet (wC (.bl false))) wNext)
    (wRet (wOp (wEqD false) (wLc (wiRng1 (wCons (wFn wLen (wCons (wVar 1) wNil)) wNil)) (gN 2) (wNot (wTest (wCall (sp_law_same n) (wCons (wOp wIx (wVar 0) (wVar 2)) (wCons (wOp wIx (wVar 1) (wVar 2)) wNil))))) (wVar 2) [2]) (wLst wNil))))) wNext)
    (wSeq (wIfS (wTest (wOp (wEqD true) (wIsi .bool (wVar 0)) (wIsi .bool (wVar 1)))) (wRet (wC (.bl false))) wNext)
    (wRet (wAndV (wOp (wEqD false) (wIsi .int (wVar 0)) (wIsi .int (wVar 1))) (wOp (wEqD false) (wVar 0) (wVar 1))))))
theorem seen_lstI {cs : Cells} {x : Vl} {ds : List Dat} (h : seen cs x = some (.lst ds)) : seqD cs x = some (true, ds.map .dat) ∧ tyD cs x = some .list := by
  match x, h with
  | .dat d, h => cases h; exact ⟨rfl, rfl⟩
  | .raw (.ref a), h =>
    have h : coDat (cs a) = some (.lst ds) := h
    cases e : cs a with
    | none => rw [e] at h; cases h
    | some c =>
      rw [e] at h
      cases c with
      | lst xs =>
        obtain ⟨es, e1, e2⟩ := Option.map_eq_some_iff.mp (show (allDat xs).map Dat.lst = some (.lst ds) from h)
        cases e2
        rw [seqD_cell, tyD_cell, e, coSeq_lst, coTy_lst, allDat_eq e1]
        exact ⟨rfl, rfl⟩
      | _ => cases h
theorem seen_else {cs : Cells} {x : Vl} {d : Dat} (h : seen cs x = some d) (hd : ∀ ds, d ≠ .lst ds) : x = .dat d := by
  match x, h with
  | .dat d', h => cases h; rfl
  | .raw (.ref a), h =>
    have h : coDat (cs a) = some d := h
    cases e : cs a with
    | none => rw [e] at h; cases h
    | some c =>
      rw [e] at h
      cases c with
      | lst xs =>
        obtain ⟨es, e1, e2⟩ := Option.map_eq_some_iff.mp (show (allDat xs).map Dat.lst = some d from h)
        exact absurd e2.symm (hd _)
      | _ => cases h
theorem seqD_put {cs : Cells} {x : Vl} {D : Addr} {c : CO} {r : Bool × List Vl} (hD : cs D = none) (h : seqD cs x = some r) : seqD (cs.put D c) x = some r := by
  match x, h with
  | .dat d, h => cases d <;> exact h
  | .raw (.ref a), h =>
    have h : coSeq (cs a) = some r := h
    show coSeq (cs.put D c a) = some r
    rw [Cells.put_ne (by intro z; rw [z, hD] at h; cases h)]
    exact h
theorem lst_nil_lv : (Dat.lst []).lv 1 := ⟨by decide, fun x h => by simp at h⟩
theorem same_seq {K : Frag} {n : Nat} {x y : Vl} {b : Bool} {ds : List Dat} {cs : Cells} {P : Vl → Cells → Prop} (hx : seqD cs x = some (b, ds.map .dat)) (hy : seqD cs y = some (b, ds.map .dat)) (hz : ds.length ≤ 16777216) (hlv : ∀ d ∈ ds, d.lv (n - 1)) (h1 : ds ≠ [] → 1 ≤ n) (hn : n ≤ 10) (q : P (.bl true) cs) :
    wOp (wEqD false) (wLc (wiRng1 (wCons (wFn wLen (wCons (wVar 1) wNil)) wNil)) (gN 2) (wNot (wTest (wCall (sp_law_same n) (wCons (wOp wIx (wVar 0) (wVar 2)) (wCons (wOp wIx (wVar 1) (wVar 2)) wNil))))) (wVar 2) [2]) (wLst wNil) [some x, some y, none] cs P := by
  walk_at "dl"
  simp only [wLc, wiRng1]
  walk_at "dl"
  refine ⟨_, _, hy, by omega, by rw [List.length_map]; omega, fun D hD => ?_⟩
  refine ⟨fun i cs' => cs' = cs.put D (.lst []), rfl, fun _ _ _ _ => trivial, ?_, ?_⟩
  · rintro i v cs' hv rfl
    obtain ⟨hi, rfl⟩ := rangeD_at hv
    rw [Int.toNat_natCast, List.length_map] at hi
    have hne : ds ≠ [] := by intro z; subst z; simp at hi
    obtain ⟨d, hd⟩ : ∃ d, ds[i]? = some d := ⟨_, List.getElem?_eq_getElem hi⟩
    have hdm : (ds.map Vl.dat)[i]? = some (.dat d) := by rw [List.getElem?_map, hd]; rfl
    simp only [wipeD]
    walk_at "dl"
    simp only [Int.mul_one, Int.zero_add]
    refine ⟨_, _, seqD_put hD hx, _, atI_nat hdm, _, _, seqD_put hD hy, _, atI_nat hdm, ?_⟩
    have := h1 hne
    obtain ⟨m, rfl⟩ : ∃ m, n = m + 1 := ⟨n - 1, by omega⟩
    refine ⟨_, _, d, rfl, rfl, rfl, hlv d (List.mem_of_getElem? hd), by omega, ?_⟩
    walk_at "dl"
  · rintro cs' rfl
    refine ⟨_, Cells.put_same, .inr ⟨[], rfl, ?_⟩⟩
    rw [Cells.del_put hD]
    walk_at "dl"
    refine ⟨by decide, .inr ⟨[], rfl, ?_⟩⟩
    exact wEq_of 1 (by decide) rfl rfl lst_nil_lv lst_nil_lv (fun _ => q) (fun z => absurd rfl z)
theorem pure_law_same (K : Frag) (n : Nat) : ∀ xs cs Q XP, sp_law_same (n + 1) xs cs Q XP → w_law_same n (retE K Q) (startD 3 xs) cs := by
  rintro xs cs Q XP ⟨x, y, d, rfl, hx, hy, hlv, hn, q⟩
  unfold w_law_same
  have fin := @same_seq K n x y
  generalize hw : wOp (wEqD false) (wLc (wiRng1 (wCons (wFn wLen (wCons (wVar 1) wNil)) wNil)) (gN 2) (wNot (wTest (wCall (sp_law_same n) (wCons (wOp wIx (wVar 0) (wVar 2)) (wCons (wOp wIx (wVar 1) (wVar 2)) wNil))))) (wVar 2) [2]) (wLst wNil) = W at fin
  cases d with
  | lst ds =>
    obtain ⟨x1, x2⟩ := seen_lstI hx
    obtain ⟨y1, y2⟩ := seen_lstI hy
    cases n with
    | zero => exact (show False from hlv).elim
    | succ n =>
      obtain ⟨hz, hl⟩ := hlv
      walk_at "dl"
      refine ⟨_, y2, ?_⟩
      walk_at "dl"
      refine ⟨_, x2, ?_⟩
      walk_at "dl"
      refine ⟨_, x2, _, y2, ?_⟩
      walk_at "dl"
      refine ⟨_, _, x1, _, _, y1, ?_⟩
      walk_at "dl"
      exact fin x1 y1 hz hl (fun _ => by omega) (by omega) (.now q)
  | tup ds =>
    have ex := seen_else hx (fun _ z => by cases z)
    have ey := seen_else hy (fun _ z => by cases z)
    subst ex ey
    cases n with
    | zero => exact (show False from hlv).elim
    | succ n =>
      obtain ⟨hz, hl⟩ := hlv
      walk_at "dl"
      exact fin rfl rfl hz hl (fun _ => by omega) (by omega) (.now q)
  | non =>
    have ex := seen_else hx (fun _ z => by cases z)
    have ey := seen_else hy (fun _ z => by cases z)
    subst ex ey
    walk_at "dl"
    exact wEq_of 1 (by decide) rfl rfl trivial trivial (fun _ => .now q) (fun z => absurd rfl z)
  | int i =>
    have ex := seen_else hx (fun _ z => by cases z)
    have ey := seen_else hy (fun _ z => by cases z)
    subst ex ey
    walk_at "dl"
    exact .now q
  | str z =>
    have ex := seen_else hx (fun _ z => by cases z)
    have ey := seen_else hy (fun _ z => by cases z)
    subst ex ey
    walk_at "dl"
    have h1 : (Dat.str z).lv 1 := by cases n <;> exact hlv
    exact wEq_of 1 (by decide) rfl rfl h1 h1 (fun _ => .now q) (fun z => absurd rfl z)
  | bl b => cases n <;> exact (show False from hlv).elim
  | obj C fs => cases n <;> exact (show False from hlv).elim
end DL
set_option maxRecDepth 100000
set_option maxHeartbeats 4000000
namespace DL
open PySem L2
/-! ### the normal form, as mathematics -/
def nval (c : Int) (F : Int → Int) (b p d : Int) : Int := F (d + c - p) - (if 0 < b then F (d % b + c - b) else 0)
def nordP (c : Int) (F : Int → Int) (b p : Int) : Nat → List Ord
  | 0 => []
  | n + 1 => nordP c F b p n ++ if nval c F b p (n : Int) = 0 then [] else [(p, (n : Int), nval c F b p (n : Int))]
def nordFrom (c : Int) (F : Int → Int) : Int → List Int → List Ord
  | _, [] => []
  | b, p :: r => nordP c F b p p.toNat ++ nordFrom c F p r
def norm (ps : List Int) (F : Int → Int) : List Ord := nordFrom (cyc ps) F 0 ps
def lastD (b : Int) (ps : List Int) : Int := (ps.getLast?).getD b
theorem lastD_nil (b : Int) : lastD b [] = b := rfl
theorem lastD_cons (b p : Int) (r : List Int) : lastD b (p :: r) = lastD p r := by
  unfold lastD
  cases r with
  | nil => rfl
  | cons q r => rw [List.getLast?_cons_cons]; simp [List.getLast?_cons]
theorem nordFrom_snoc (c : Int) (F : Int → Int) : ∀ (xs : List Int) (b p : Int), nordFrom c F b (xs ++ [p]) = nordFrom c F b xs ++ nordP c F (lastD b xs) p p.toNat
  | [], b, p => by simp [nordFrom, lastD_nil]
  | x :: xs, b, p => by
    rw [List.cons_append, nordFrom, nordFrom, nordFrom_snoc c F xs x p, lastD_cons, List.append_assoc]
theorem flowAt_app (xs ys : List Ord) (t : Int) : flowAt (xs ++ ys) t = flowAt xs t + flowAt ys t := by
  unfold flowAt; rw [List.map_append, List.sum_append]
theorem flowAt_nil (t : Int) : flowAt [] t = 0 := rfl
theorem flowAt_one (o : Ord) (t : Int) : flowAt [o] t = if t % o.1 = o.2.1 then o.2.2 else 0 := by simp [flowAt]
theorem flowAt_cons (o : Ord) (os : List Ord) (t : Int) : flowAt (o :: os) t = flowAt [o] t + flowAt os t := flowAt_app [o] os t
theorem flow_nordP (c : Int) (F : Int → Int) (b p t : Int) (hp : 0 < p) : ∀ n : Nat, flowAt (nordP c F b p n) t = if t % p < n then nval c F b p (t % p) else 0
  | 0 => by
    have := Int.emod_nonneg t (show p ≠ 0 by omega)
    rw [if_neg (by omega)]; rfl
  | n + 1 => by
    have h0 := Int.emod_nonneg t (show p ≠ 0 by omega)
    rw [nordP, flowAt_app, flow_nordP c F b p t hp n]
    have hc : ((n + 1 : Nat) : Int) = (n : Int) + 1 := by omega
    have key : flowAt (if nval c F b p (n : Int) = 0 then [] else [(p, (n : Int), nval c F b p (n : Int))]) t = if t % p = (n : Int) then nval c F b p (n : Int) else 0 := by
      by_cases hz : nval c F b p (n : Int) = 0
      · rw [if_pos hz, hz, flowAt_nil]; simp
      · rw [if_neg hz, flowAt_one]
    rw [key, hc]
    by_cases h : t % p < n
    · rw [if_pos h, if_neg (by omega), if_pos (by omega), Int.add_zero]
    · rw [if_neg h]
      by_cases h2 : t % p = n
      · rw [if_pos h2, if_pos (by omega), h2, Int.zero_add]
      · rw [if_neg h2, if_neg (by omega), Int.zero_add]
def atB (c : Int) (F : Int → Int) (b t : Int) : Int := if 0 < b then F (t % b + c - b) else 0
theorem flow_nordFrom (c : Int) (F : Int → Int) (t : Int) : ∀ (ps : List Int) (b : Int), 0 ≤ b → calFrom b ps → flowAt (nordFrom c F b ps) t = atB c F (lastD b ps) t - atB c F b t
  | [], b, _, _ => by rw [lastD_nil]; simp [nordFrom, flowAt_nil]
  | p :: r, b, hb, h => by
    obtain ⟨h1, h2, h3, h4⟩ := h
    have hp : 0 < p := by omega
    rw [nordFrom, flowAt_app, flow_nordFrom c F t r p (by omega) h4, lastD_cons, flow_nordP c F b p t hp]
    have hm := Int.emod_lt_of_pos t hp
    rw [if_pos (by omega)]
    unfold nval
    have e1 : atB c F p t = F (t % p + c - p) := by unfold atB; rw [if_pos hp]
    have e2 : (if 0 < b then F (t % p % b + c - b) else 0) = atB c F b t := by
      unfold atB
      by_cases hb0 : 0 < b
      · rw [if_pos hb0, if_pos hb0, Int.emod_emod_of_dvd _ (Int.dvd_of_emod_eq_zero (h3 hb0))]
      · rw [if_neg hb0, if_neg hb0]
    rw [e1, e2]; omega
theorem lastD_cyc (ps : List Int) : lastD 0 ps = cyc ps := rfl
/-- the normal form has the same flows -/
theorem flow_norm {ps : List Int} (h : CalOk ps) (F : Int → Int) (t : Int) : flowAt (norm ps F) t = F (t % cyc ps) := by
  have C := cal_cyc h
  have := C.pos
  unfold norm
  rw [flow_nordFrom _ F t ps 0 (Int.le_refl 0) h.2.2, lastD_cyc]
  unfold atB
  rw [if_pos this, if_neg (by omega)]
  congr 1
  have : t % cyc ps + cyc ps - cyc ps = t % cyc ps := by omega
  rw [this]; omega
theorem mem_nordP {c : Int} {F : Int → Int} {b p : Int} {o : Ord} : ∀ {n : Nat}, o ∈ nordP c F b p n → o.1 = p ∧ 0 ≤ o.2.1 ∧ o.2.1 < n ∧ o.2.2 = nval c F b p o.2.1 ∧ o.2.2 ≠ 0
  | 0, h => by simp [nordP] at h
  | n + 1, h => by
    rw [nordP] at h
    rcases List.mem_append.mp h with z | z
    · obtain ⟨h1, h2, h3, h4⟩ := mem_nordP z
      exact ⟨h1, h2, by omega, h4⟩
    · split at z
      · simp at z
      · rename_i hz
        simp at z
        rw [z]
        exact ⟨rfl, by show 0 ≤ (n : Int); omega, by show (n : Int) < (n + 1 : Nat); omega, rfl, hz⟩
/-- b stands right ahead of p -/
def Ahead (b0 : Int) : List Int → Int → Int → Prop
  | [], _, _ => False
  | q :: r, b, p => (b = b0 ∧ p = q) ∨ Ahead q r b p
theorem mem_nordFrom {c : Int} {F : Int → Int} {o : Ord} : ∀ {ps : List Int} {b : Int}, 0 ≤ b → calFrom b ps → o ∈ nordFrom c F b ps → o.1 ∈ ps ∧ 0 ≤ o.2.1 ∧ o.2.1 < o.1 ∧ o.2.2 ≠ 0 ∧ ∃ q, Ahead b ps q o.1 ∧ o.2.2 = nval c F q o.1 o.2.1
  | [], b, _, _, h => by simp [nordFrom] at h
  | p :: r, b, hb, hc, h => by
    obtain ⟨k1, k2, k3, k4⟩ := hc
    rw [nordFrom] at h
    rcases List.mem_append.mp h with z | z
    · obtain ⟨h1, h2, h3, h4, h5⟩ := mem_nordP z
      rw [h1]
      exact ⟨by simp, h2, by omega, h5, b, .inl ⟨rfl, rfl⟩, h4⟩
    · obtain ⟨h1, h2, h3, h4, q, h5, h6⟩ := mem_nordFrom (by omega) k4 z
      exact ⟨by simp [h1], h2, h3, h4, q, .inr h5, h6⟩
theorem norm_ok {ps : List Int} (h : CalOk ps) (F : Int → Int) : OrdsOk ps (norm ps F) := fun o ho => by
  obtain ⟨h1, h2, h3, h4, _⟩ := mem_nordFrom (Int.le_refl 0) h.2.2 ho
  exact ordB_iff.mpr ⟨h1, h2, h3, h4⟩
/-- strictly ascending by period and day -/
def ordLt (x y : Ord) : Prop := x.1 < y.1 ∨ x.1 = y.1 ∧ x.2.1 < y.2.1
theorem sorted_nordP {c : Int} {F : Int → Int} {b p : Int} : ∀ n, (nordP c F b p n).Pairwise ordLt
  | 0 => .nil
  | n + 1 => by
    rw [nordP, List.pairwise_append]
    refine ⟨sorted_nordP n, by split <;> simp, fun x hx y hy => ?_⟩
    obtain ⟨h1, h2, h3, _⟩ := mem_nordP hx
    split at hy
    · simp at hy
    · simp at hy; rw [hy]; exact .inr ⟨h1, by show x.2.1 < (n : Int); omega⟩
theorem sorted_nordFrom {c : Int} {F : Int → Int} : ∀ {ps : List Int} {b : Int}, 0 ≤ b → calFrom b ps → (nordFrom c F b ps).Pairwise ordLt
  | [], _, _, _ => .nil
  | p :: r, b, hb, hc => by
    obtain ⟨k1, k2, k3, k4⟩ := hc
    rw [nordFrom, List.pairwise_append]
    refine ⟨sorted_nordP _, sorted_nordFrom (by omega) k4, fun x hx y hy => ?_⟩
    obtain ⟨h1, _⟩ := mem_nordP hx
    have h2 := (mem_nordFrom (by omega) k4 hy).1
    have := (calFrom_all (by omega) k4 _ h2).1
    exact .inl (by rw [h1]; exact this)
theorem sorted_norm {ps : List Int} (h : CalOk ps) (F : Int → Int) : (norm ps F).Pairwise ordLt := sorted_nordFrom (Int.le_refl 0) h.2.2
/-- only the flows within a cycle count -/
theorem nordP_congr {c : Int} {F G : Int → Int} {b p : Int} (hp : 0 < p) (hpc : p ≤ c) (hb : b ≤ c) (h : ∀ t, 0 ≤ t → t < c → F t = G t) : ∀ n : Nat, (n : Int) ≤ p → nordP c F b p n = nordP c G b p n
  | 0, _ => rfl
  | n + 1, hn => by
    have e : nval c F b p (n : Int) = nval c G b p (n : Int) := by
      unfold nval
      rw [h _ (by omega) (by omega)]
      split
      · rename_i hb0
        have h1 := Int.emod_nonneg (n : Int) (show b ≠ 0 by omega)
        have h2 := Int.emod_lt_of_pos (n : Int) hb0
        rw [h _ (by omega) (by omega)]
      · rfl
    rw [nordP, nordP, nordP_congr hp hpc hb h n (by omega), e]
theorem nordFrom_congr {c : Int} {F G : Int → Int} (h : ∀ t, 0 ≤ t → t < c → F t = G t) : ∀ {ps : List Int} {b : Int}, 0 ≤ b → b ≤ c → calFrom b ps → (∀ p ∈ ps, p ≤ c) → nordFrom c F b ps = nordFrom c G b ps
  | [], _, _, _, _, _ => rfl
  | p :: r, b, hb, hbc, hc, hall => by
    obtain ⟨k1, k2, k3, k4⟩ := hc
    have hp := hall p (by simp)
    rw [nordFrom, nordFrom, nordFrom_congr h (by omega) hp k4 (fun q hq => hall q (by simp [hq])), nordP_congr (by omega) hp hbc h _ (by omega)]
theorem norm_congr {ps : List Int} (hc : CalOk ps) {F G : Int → Int} (h : ∀ t, 0 ≤ t → t < cyc ps → F t = G t) : norm ps F = norm ps G := by
  have C := cal_cyc hc
  have := C.pos
  exact nordFrom_congr h (Int.le_refl 0) (by omega) hc.2.2 (fun p hp => (C.per p hp).2.1)
theorem norm_norm {ps : List Int} (hc : CalOk ps) (F : Int → Int) : norm ps (flowAt (norm ps F)) = norm ps F :=
  norm_congr hc fun t h0 h1 => by rw [flow_norm hc, Int.emod_eq_of_lt h0 h1]
theorem flowsL_norm {ps : List Int} (hc : CalOk ps) (os : List Ord) : flowsL (cyc ps) (norm ps (flowAt os)) = flowsL (cyc ps) os := by
  unfold flowsL
  refine rowF_ext fun t ht => ?_
  rw [flow_norm hc, Int.emod_eq_of_lt (by omega) (by omega)]
/-! ### no last child -/
theorem nval_last {c : Int} {F : Int → Int} {b p d : Int} (hb : 0 < b) (hbp : p % b = 0) (h0 : p - b ≤ d) (h1 : d < p) : nval c F b p d = 0 := by
  unfold nval
  rw [if_pos hb]
  obtain ⟨k, hk⟩ := Int.dvd_of_emod_eq_zero hbp
  have : d % b = d - (p - b) := by
    have e : d = (d - (p - b)) + b * (k - 1) := by rw [Int.mul_sub, ← hk, Int.mul_one]; omega
    rw [e, Int.add_mul_emod_self_left, Int.emod_eq_of_lt (by omega) (by omega)]
    rw [Int.mul_sub, ← hk, Int.mul_one]; omega
  rw [this]
  have : d - (p - b) + c - b = d + c - p := by omega
  rw [this]; omega
/-- the greatest period below -/
theorem ahead_max : ∀ {ps : List Int} {b0 b p : Int}, 0 ≤ b0 → calFrom b0 ps → Ahead b0 ps b p → p ∈ ps ∧ (b = b0 ∨ b ∈ ps) ∧ b < p ∧ (0 < b → p % b = 0) ∧ ∀ q ∈ ps, q < p → q ≤ b
  | [], _, _, _, _, _, h => h.elim
  | a :: r, b0, b, p, hb, hc, h => by
    obtain ⟨k1, k2, k3, k4⟩ := hc
    rcases h with ⟨rfl, rfl⟩ | h
    · refine ⟨by simp, .inl rfl, k1, k3, fun q hq hlt => ?_⟩
      rcases List.mem_cons.mp hq with z | z
      · omega
      · have := (calFrom_all (by omega) k4 q z).1; omega
    · obtain ⟨h1, h2, h3, h4, h5⟩ := ahead_max (by omega) k4 h
      refine ⟨by simp [h1], .inr ?_, h3, h4, fun q hq hlt => ?_⟩
      · rcases h2 with z | z
        · simp [z]
        · simp [z]
      · rcases List.mem_cons.mp hq with z | z
        · rcases h2 with y | y
          · omega
          · have := (calFrom_all (by omega) k4 b y).1; omega
        · exact h5 q z hlt
/-! ### few orders have a short normal form -/
theorem nordP_add (c : Int) (F G : Int → Int) (b p : Int) : ∀ n, (nordP c (fun t => F t + G t) b p n).length ≤ (nordP c F b p n).length + (nordP c G b p n).length
  | 0 => by simp [nordP]
  | n + 1 => by
    have ih := nordP_add c F G b p n
    have e : nval c (fun t => F t + G t) b p (n : Int) = nval c F b p (n : Int) + nval c G b p (n : Int) := by
      unfold nval; split <;> simp only [] <;> omega
    rw [nordP, nordP, nordP, List.length_append, List.length_append, List.length_append, e]
    by_cases h1 : nval c F b p (n : Int) = 0
    · by_cases h2 : nval c G b p (n : Int) = 0
      · simp [h1, h2]; omega
      · simp [h1, h2]; omega
    · by_cases h2 : nval c G b p (n : Int) = 0
      · simp [h1, h2]; omega
      · simp only [h1, h2, if_false]
        split <;> simp <;> omega
theorem nordFrom_add (c : Int) (F G : Int → Int) : ∀ (ps : List Int) (b : Int), (nordFrom c (fun t => F t + G t) b ps).length ≤ (nordFrom c F b ps).length + (nordFrom c G b ps).length
  | [], _ => by simp [nordFrom]
  | p :: r, b => by
    have h1 := nordP_add c F G b p p.toNat
    have h2 := nordFrom_add c F G r p
    simp only [nordFrom, List.length_append]
    omega
theorem nodupLen {α : Type} [DecidableEq α] : ∀ {l m : List α}, l.Nodup → (∀ x ∈ l, x ∈ m) → l.length ≤ m.length
  | [], _, _, _ => Nat.zero_le _
  | x :: l, m, hn, hs => by
    have hx : x ∈ m := hs x (by simp)
    obtain ⟨h1, h2⟩ := List.nodup_cons.mp hn
    have := nodupLen (l := l) (m := m.erase x) h2 fun y hy => (List.mem_erase_of_ne (by intro z; exact h1 (z ▸ hy))).mpr (hs y (by simp [hy]))
    rw [List.length_erase_of_mem hx] at this
    have : 0 < m.length := List.length_pos_of_mem hx
    simp only [List.length_cons]
    omega
theorem nordP_len {c : Int} {F : Int → Int} {b p : Int} {n : Nat} {cand : List Int} (h : ∀ d : Int, 0 ≤ d → d < n → nval c F b p d ≠ 0 → d ∈ cand) : (nordP c F b p n).length ≤ cand.length := by
  have : ((nordP c F b p n).map fun o => o.2.1).length ≤ cand.length := by
    refine nodupLen ?_ fun d hd => ?_
    · rw [List.nodup_iff_pairwise_ne, List.pairwise_map]
      refine List.Pairwise.imp_of_mem (fun {x y} hx hy hlt => ?_) (sorted_nordP n)
      have h1 := (mem_nordP hx).1
      have h2 := (mem_nordP hy).1
      rcases hlt with z | z
      · omega
      · omega
    · obtain ⟨o, ho, rfl⟩ := List.mem_map.mp hd
      obtain ⟨h1, h2, h3, h4, h5⟩ := mem_nordP ho
      exact h _ h2 h3 (by rw [← h4]; exact h5)
  rwa [List.length_map] at this

theorem calFrom_dvdR : ∀ {r : List Int} {p : Int}, 0 < p → calFrom p r → ∀ q ∈ r, p ∣ q
  | a :: r, p, hp, h, q, hq => by
    obtain ⟨k1, k2, k3, k4⟩ := h
    have hd := Int.dvd_of_emod_eq_zero (k3 hp)
    rcases List.mem_cons.mp hq with z | z
    · rw [z]; exact hd
    · exact Int.dvd_trans hd (calFrom_dvdR (by omega) k4 q z)
theorem mod_back {c P p d : Int} (hP : 0 < P) (hPc : P ∣ c) (hp : 0 < p) (hpP : p ≤ P) (h0 : 0 ≤ d) (h1 : d < p) : (d + c - p) % P = d + P - p := by
  obtain ⟨k, rfl⟩ := hPc
  have e : d + P * k - p = (d + P - p) + P * (k - 1) := by rw [Int.mul_sub, Int.mul_one]; omega
  rw [e, Int.add_mul_emod_self_left, Int.emod_eq_of_lt (by omega) (by omega)]
theorem mod_far {c P p d : Int} (hPc : P ∣ c) (hPp : P ∣ p) : (d + c - p) % P = d % P := by
  obtain ⟨k, rfl⟩ := hPc
  obtain ⟨l, rfl⟩ := hPp
  have e : d + P * k - P * l = d + P * (k - l) := by rw [Int.mul_sub]; omega
  rw [e, Int.add_mul_emod_self_left]
theorem one_len {c b p P D a : Int} (hP : 0 < P) (hPc : P ∣ c) (hD0 : 0 ≤ D) (hDP : D < P) (hp : 0 < p) (hbp : b < p) (hb0 : 0 ≤ b) (hd : 0 < b → p % b = 0) (h4 : 0 < b → p ≤ 4 * b) (hrel : (p ∣ P ∧ p ≤ P) ∨ (0 < b ∧ P ∣ b)) :
    (nordP c (flowAt [(P, D, a)]) b p p.toNat).length ≤ if 0 < b then 3 else 1 := by
  have hF : ∀ t, flowAt [(P, D, a)] t = if t % P = D then a else 0 := fun t => flowAt_one _ t
  rcases hrel with ⟨hpP, hle⟩ | ⟨hb, hPb⟩
  · have hv : ∀ d : Int, 0 ≤ d → d < p → flowAt [(P, D, a)] (d + c - p) = if d + P - p = D then a else 0 := fun d h0 h1 => by rw [hF, mod_back hP hPc hp hle h0 h1]
    by_cases hb : 0 < b
    · rw [if_pos hb]
      have hvb : ∀ d : Int, flowAt [(P, D, a)] (d % b + c - b) = if d % b + P - b = D then a else 0 := fun d => by
        rw [hF, mod_back hP hPc hb (by omega) (Int.emod_nonneg d (by omega)) (Int.emod_lt_of_pos d hb)]
      by_cases hr : 0 ≤ D + b - P
      · refine nordP_len (cand := [D + b - P, D + b - P + b, D + b - P + 2 * b]) fun d h0 h1 hne => ?_
        have hlt : d < p - b := by
          apply Int.not_le.mp
          intro z
          exact hne (nval_last hb (hd hb) z (by omega))
        have hm : d % b = D + b - P := by
          apply Decidable.byContradiction
          intro z
          apply hne
          unfold nval
          rw [if_pos hb, hv d h0 (by omega), hvb, if_neg (by omega), if_neg (by omega)]; rfl
        have h4' := h4 hb
        have e := Int.emod_add_mul_ediv d b
        have q0 : 0 ≤ d / b := Int.ediv_nonneg h0 (by omega)
        have q3 : d / b < 3 := Int.ediv_lt_of_lt_mul hb (by omega)
        have : d / b = 0 ∨ d / b = 1 ∨ d / b = 2 := by omega
        simp only [List.mem_cons, List.not_mem_nil, or_false]
        rcases this with z | z | z <;> rw [z] at e <;> omega
      · refine Nat.le_trans (nordP_len (cand := [D + p - P]) fun d h0 h1 hne => ?_) (by simp)
        have hm := Int.emod_nonneg d (show b ≠ 0 by omega)
        simp only [List.mem_cons, List.not_mem_nil, or_false]
        apply Decidable.byContradiction
        intro z
        apply hne
        unfold nval
        rw [if_pos hb, hv d h0 (by omega), hvb, if_neg (by omega), if_neg (by omega)]; rfl
    · rw [if_neg hb]
      refine nordP_len (cand := [D + p - P]) fun d h0 h1 hne => ?_
      simp only [List.mem_cons, List.not_mem_nil, or_false]
      apply Decidable.byContradiction
      intro z
      apply hne
      unfold nval
      rw [if_neg hb, hv d h0 (by omega), if_neg (by omega)]; rfl
  · rw [if_pos hb]
    have hbd : b ∣ p := Int.dvd_of_emod_eq_zero (hd hb)
    refine Nat.le_trans (nordP_len (cand := []) fun d h0 h1 hne => ?_) (by decide)
    apply absurd _ hne
    unfold nval
    rw [if_pos hb, hF, hF, mod_far hPc (Int.dvd_trans hPb hbd), mod_far hPc hPb, Int.emod_emod_of_dvd _ hPb]; omega
theorem one_from {c P D a : Int} (hP : 0 < P) (hPc : P ∣ c) (hD0 : 0 ≤ D) (hDP : D < P) : ∀ {ps : List Int} {b : Int}, 0 ≤ b → calFrom b ps → rat4 b ps → (P ∈ ps ∨ (0 < b ∧ P ∣ b)) →
    (nordFrom c (flowAt [(P, D, a)]) b ps).length ≤ if 0 < b then 3 * ps.length else 3 * ps.length - 2
  | [], b, _, _, _, _ => by simp [nordFrom]
  | p :: r, b, hb, hc, h4, hrel => by
    obtain ⟨k1, k2, k3, k4⟩ := hc
    have hp : 0 < p := by omega
    have h1 : (nordP c (flowAt [(P, D, a)]) b p p.toNat).length ≤ if 0 < b then 3 else 1 := by
      refine one_len hP hPc hD0 hDP hp k1 hb k3 h4.1 ?_
      rcases hrel with z | z
      · rcases List.mem_cons.mp z with y | y
        · exact .inl ⟨by rw [y]; exact Int.dvd_refl _, by omega⟩
        · exact .inl ⟨calFrom_dvdR hp k4 P y, by have := (calFrom_all (by omega) k4 P y).1; omega⟩
      · exact .inr z
    have h2 : (nordFrom c (flowAt [(P, D, a)]) p r).length ≤ if 0 < p then 3 * r.length else 3 * r.length - 2 := by
      refine one_from hP hPc hD0 hDP (by omega) k4 h4.2 ?_
      rcases hrel with z | z
      · rcases List.mem_cons.mp z with y | y
        · exact .inr ⟨hp, by rw [y]; exact Int.dvd_refl _⟩
        · exact .inl y
      · exact .inr ⟨hp, Int.dvd_trans z.2 (Int.dvd_of_emod_eq_zero (k3 z.1))⟩
    rw [if_pos hp] at h2
    rw [nordFrom, List.length_append, List.length_cons]
    split at h1 <;> rename_i hb0
    · rw [if_pos hb0]; omega
    · rw [if_neg hb0]; omega
theorem zero_len (c : Int) : ∀ (ps : List Int) (b : Int), (nordFrom c (flowAt []) b ps).length = 0
  | [], _ => rfl
  | p :: r, b => by
    have h1 : (nordP c (flowAt []) b p p.toNat).length ≤ 0 := nordP_len (cand := []) fun d _ _ hne => absurd (by unfold nval; split <;> rfl) hne
    rw [nordFrom, List.length_append, zero_len c r p]; omega
theorem norm_len {ps : List Int} (hc : CalOk ps) (h4 : rat4 0 ps) : ∀ {os : List Ord}, OrdsOk ps os → (norm ps (flowAt os)).length ≤ (3 * ps.length - 2) * os.length
  | [], _ => by unfold norm; rw [zero_len]; exact Nat.zero_le _
  | o :: os, ho => by
    have ih := norm_len hc h4 (os := os) fun q hq => ho q (by simp [hq])
    have C := cal_cyc hc
    obtain ⟨k1, k2, k3, k4⟩ := ordB_iff.mp (ho o (by simp))
    have h1 : (nordFrom (cyc ps) (flowAt [o]) 0 ps).length ≤ 3 * ps.length - 2 := one_from (P := o.1) (D := o.2.1) (a := o.2.2) (C.per _ k1).1 (C.per _ k1).2.2 k2 k3 (Int.le_refl 0) hc.2.2 h4 (.inl k1)
    have h2 := nordFrom_add (cyc ps) (flowAt [o]) (flowAt os) ps 0
    have e : (fun t => flowAt [o] t + flowAt os t) = flowAt (o :: os) := funext fun t => (flowAt_cons o os t).symm
    rw [e] at h2
    unfold norm at ih ⊢
    rw [List.length_cons, Nat.mul_add, Nat.mul_one]
    omega
end DL
set_option maxRecDepth 100000
set_option maxHeartbeats 4000000
namespace DL
open PySem L2
local macro_rules | `(tactic| walk_at "dl") => `(tactic| simp only [wRet, wRetN, wSeq, wAsg, wIfS, wDrop, wNext, wVar, wC, wOp, wUn, wFn, wNil, wCons, wTest, wNot, wAnd, wOr, wAndV, wOrV, wNotV, wIf, wChain, wTup, wLst, wCall, wNever, gN, gT, gNil, gCons, gIx, wI, wI0, wNeg, wMax2, wMin2, wLen, wIsN, wNotN, isNon_non, isNon_bl, isNon_int, isNon_str, isNon_lst, isNon_tup, isNon_cell, wIx, wTuple, wAug, wAugIx, wPar, wPar3, wSlL, wSlT, wPart, wNoPart, wCatT, wIsi, wIsi2, isiT, tyD_non, tyD_bl, tyD_int, tyD_str, tyD_lst, tyD_tup, tyD_cell, coTy_lst, seqD_lst, seqD_tp, seqD_cell, coSeq_lst, seen_dat, seen_cell, coDat_lst, startD, wYes, wApp, wEq_int, wEq_bl, allDat_nil, allDat_cons, allDat_map, Option.map_some, List.map_cons, List.map_nil, List.cons_append, List.nil_append, List.length_cons, List.length_nil, List.replicate, List.getElem?_cons_zero, List.getElem?_cons_succ, List.set_cons_zero, List.set_cons_succ, Option.some.injEq, exists_eq_left', exists_eq_left, exists_and_left, exists_eq', exists_eq, Vl.dat.injEq, Vl.raw.injEq, V.ref.injEq, CO.lst.injEq, Dat.int.injEq, Dat.bl.injEq, Dat.tup.injEq, Dat.lst.injEq, List.cons.injEq, and_true, true_and, retE, Nat.reduceAdd, Nat.reduceSub, and_assoc, Prod.mk.injEq, if_true, if_false, Bool.false_eq_true, decide_eq_true_eq, Bool.not_true, Bool.not_false, Bool.not_eq_true', decide_eq_false_iff_not, if_false_left, if_false_right, beq_iff_eq, Bool.or_eq_true, Bool.and_eq_true, Bool.or_self, Bool.or_true, Bool.true_or, Bool.or_false, Bool.false_or, decide_true, decide_false, reduceCtorEq, Cells.put_same, gt_iff_lt, ge_iff_le, beq_self_eq_true, bne_self_eq_false, Bool.decide_eq_true, not_true_eq_false, not_false_eq_true, Decidable.not_not, false_and, and_false, Bool.not_eq_false, at_0, at_1, at_2, at_3, at_4, at_5, ix_0, ix_1, ix_2, ix_3, Nat.reduceLT, Int.reduceLT, Int.reduceLE, Int.reduceNeg, Int.reduceAdd, Int.reduceSub, Int.reduceEq, Int.reducePow, Int.reduceToNat, Cells.put_put])
/-! ### normal_list, normal_orders -/
def sp_normal_list : DSp := fun xs cs Q _ => ∃ (ps : List Int) (F : Int → Int) (x : Vl), xs = [.dat (cal ps), x] ∧ CalOk ps ∧ seqD cs x = some (true, iV (rowF (cyc ps).toNat fun t => F (t : Int))) ∧ Q (.dat (.lst (ordsD (norm ps F)))) cs
theorem len_normal_list : ∀ xs cs Q XP, sp_normal_list xs cs Q XP → xs.length = 2 := by rintro xs cs Q XP ⟨ps, F, x, rfl, _⟩; rfl
def w_normal_list : WS := (wSeq (wPar3 2 3 4 (wCons (wOp wIx (wVar 0) (wUn wNeg (wC (.int 1)))) (wCons (wC .non) (wCons (wLst wNil) wNil))))
    (wSeq (wFor (wiSeq (wVar 0)) (gN 5) (wSeq (wFor (wiRng1 (wCons (wVar 5) wNil)) (gN 6) (wSeq (wAsg (wOp wIx (wVar 1) (wOp wSub (wOp wAdd (wVar 6) (wVar 2)) (wVar 5))) (gN 7))
    (wSeq (wIfS (wTest (wOp wNotN (wVar 3) (wC .non))) (wAug 7 (wOp wIx (wVar 1) (wOp wSub (wOp wAdd (wOp wMod (wVar 6) (wVar 3)) (wVar 2)) (wVar 3))) (fun i j => i - j)) wNext)
    (wIfS (wTest (wOp (wEqD true) (wVar 7) (wC (.int 0)))) (wDrop (wApp (wVar 4) (wTup (wCons (wVar 5) (wCons (wVar 6) (wCons (wVar 7) wNil)))))) wNext))))
    (wAsg (wVar 5) (gN 3))))
    (wRet (wVar 4))))
theorem prev_last {ps : List Int} {i : Nat} (hi : i ≤ ps.length) : lastD 0 (ps.take i) = prevOf ps i := by
  unfold lastD prevOf
  by_cases h : i = 0
  · subst h; rfl
  · rw [if_neg h, List.getLast?_take, if_neg h]
    cases e : ps[i - 1]? with
    | none => rw [List.getElem?_eq_none_iff] at e; omega
    | some z => rfl
def prevV (ps : List Int) (i : Nat) : Vl := if i = 0 then .non else .int (prevOf ps i)
theorem ordsD_app (xs ys : List Ord) : ordsD (xs ++ ys) = ordsD xs ++ ordsD ys := by simp [ordsD]
theorem nordP_le (c : Int) (F : Int → Int) (b p : Int) : ∀ n, (nordP c F b p n).length ≤ n
  | 0 => Nat.le_refl _
  | n + 1 => by
    have := nordP_le c F b p n
    rw [nordP, List.length_append]
    split <;> simp <;> omega
theorem row_at {c : Int} {F : Int → Int} {t : Int} (h0 : 0 ≤ t) (h1 : t < c) : atI (iV (rowF c.toNat fun t => F (t : Int))) t = some (.int (F t)) := by
  refine atI_int h0 (iV_get ?_)
  rw [rowF_get (by omega), Int.toNat_of_nonneg h0]
theorem pure_normal_list (K : Frag) : ∀ xs cs Q XP, sp_normal_list xs cs Q XP → w_normal_list (retE K Q) (startD 8 xs) cs := by
  rintro xs cs Q XP ⟨ps, F, x, rfl, hc, hx, q⟩
  have C := cal_cyc hc
  unfold norm at q
  generalize cyc ps = c at C q hx
  have hpos := C.pos
  have hle := C.le
  unfold w_normal_list
  walk_at "dl"
  refine ⟨_, _, seqD_cal, _, atI_cyc C, by decide, .inl fun p hp => ?_⟩
  walk_at "dl"
  simp only [wFor, wiSeq]
  walk_at "dl"
  refine ⟨_, _, seqD_cal, fun i ρ cs' => cs' = cs.put p (.lst ((ordsD (nordFrom c F 0 (ps.take i))).map .dat)) ∧ (nordFrom c F 0 (ps.take i)).length ≤ 400 * i ∧ ∃ a5 a6 a7, ρ = [some (.dat (cal ps)), some x, some (.int c), some (prevV ps i), some (.cell p), a5, a6, a7], ⟨rfl, by simp [nordFrom], _, _, _, rfl⟩, fun _ _ _ _ _ => seqD_cal, ?_, ?_⟩
  · rintro i v ρ cs' hv ⟨rfl, hlen, a5, a6, a7, rfl⟩
    unfold iV at hv
    rw [List.getElem?_map] at hv
    obtain ⟨P, hP, rfl⟩ := Option.map_eq_some_iff.mp hv
    have hil := (List.getElem?_eq_some_iff.mp hP).1
    obtain ⟨k1, k2, k3⟩ := calFrom_prev hc.2.2 hP
    obtain ⟨p1, p2, p3⟩ := C.per P (List.mem_of_getElem? hP)
    have hb0 : 0 ≤ prevOf ps i := by
      unfold prevOf
      split
      · omega
      · cases e : ps[i - 1]? with
        | none => simp
        | some z => have := (C.per z (List.mem_of_getElem? e)).1; simp; omega
    have hbpos : i ≠ 0 → 0 < prevOf ps i := fun h0 => by
      unfold prevOf
      rw [if_neg h0]
      have : i - 1 < ps.length := by omega
      rw [List.getElem?_eq_getElem this]
      exact (C.per _ (List.getElem_mem this)).1
    have hbz : i = 0 → prevOf ps i = 0 := fun h0 => by unfold prevOf; rw [if_pos h0]
    generalize hB : prevOf ps i = B at k1 k3 hb0 hbpos hbz
    generalize hacc : nordFrom c F 0 (ps.take i) = acc at hlen
    walk_at "dl"
    simp only [wFor, wiRng1]
    walk_at "dl"
    refine ⟨by omega, by omega, fun j ρ cs' => cs' = cs.put p (.lst ((ordsD (acc ++ nordP c F B P j)).map .dat)) ∧ ∃ a6 a7, ρ = [some (.dat (cal ps)), some x, some (.int c), some (prevV ps i), some (.cell p), some (.int P), a6, a7], ⟨by simp [nordP], _, _, rfl⟩, fun _ _ _ _ _ => trivial, ?_, ?_⟩
    · rintro j v ρ cs' hv ⟨rfl, a6, a7, rfl⟩
      obtain ⟨hj, rfl⟩ := rangeD_at hv
      walk_at "dl"
      simp only [Int.mul_one, Int.zero_add]
      refine ⟨_, _, seqD_put hp hx, _, row_at (by omega) (by omega), ?_⟩
      have hn := nordP_le c F B P j
      have fin : ∀ v : Int, v = nval c F B P (j : Int) → v ≠ 0 → ((ordsD (acc ++ nordP c F B P j)).map Vl.dat) ++ [.dat (ord (P, (j : Int), v))] = (ordsD (acc ++ nordP c F B P (j + 1))).map Vl.dat := fun v hv hne => by
        rw [nordP, if_neg (by rw [← hv]; exact hne), ← List.append_assoc, ordsD_app _ [_], List.map_append, ← hv]; rfl
      have fin0 : nval c F B P (j : Int) = 0 → acc ++ nordP c F B P (j + 1) = acc ++ nordP c F B P j := fun hz => by
        rw [nordP, if_pos hz, List.append_nil]
      have hlenl : ((ordsD (acc ++ nordP c F B P j)).map Vl.dat).length < 16777216 := by
        simp only [ordsD, List.length_map, List.length_append]
        have := hc.2.1
        omega
      by_cases hi0 : i = 0
      · have hv0 : nval c F B P (j : Int) = F ((j : Int) + c - P) := by
          unfold nval; rw [hbz hi0]; simp
        unfold prevV
        rw [if_pos hi0]
        walk_at "dl"
        by_cases hz : F ((j : Int) + c - P) = 0
        · rw [if_neg (by simpa using hz), fin0 (by rw [hv0]; exact hz)]
        · rw [if_pos (by simpa using hz)]
          refine ⟨by decide, hlenl, ?_⟩
          rw [← fin _ hv0.symm hz]; rfl
      · have hBp := hbpos hi0
        have m0 := Int.emod_nonneg (j : Int) (show B ≠ 0 by omega)
        have m1 := Int.emod_lt_of_pos (j : Int) hBp
        have hv0 : nval c F B P (j : Int) = F ((j : Int) + c - P) - F ((j : Int) % B + c - B) := by
          unfold nval; rw [if_pos hBp]
        unfold prevV
        rw [if_neg hi0, hB]
        walk_at "dl"
        refine ⟨hBp, _, _, seqD_put hp hx, _, row_at (by omega) (by omega), ?_⟩
        walk_at "dl"
        by_cases hz : F ((j : Int) + c - P) - F ((j : Int) % B + c - B) = 0
        · rw [if_neg (by simpa using hz), fin0 (by rw [hv0]; exact hz)]
        · rw [if_pos (by simpa using hz)]
          refine ⟨by decide, hlenl, ?_⟩
          rw [← fin _ hv0.symm hz]; rfl
    · rintro ρ cs' ⟨rfl, a6, a7, rfl⟩
      walk_at "dl"
      rw [rangeD_len]
      have e : nordFrom c F 0 (ps.take (i + 1)) = acc ++ nordP c F B P P.toNat := by
        rw [take_snoc hP, nordFrom_snoc, hacc, prev_last (by omega), hB]
      have hn := nordP_le c F B P P.toNat
      have e2 : prevV ps (i + 1) = .int P := by
        unfold prevV prevOf
        rw [if_neg (by omega), if_neg (by omega), Nat.add_sub_cancel, hP]; rfl
      rw [e, e2]
      refine ⟨rfl, ?_, rfl⟩
      rw [List.length_append]; omega
  · rintro ρ cs' ⟨rfl, hlen, a5, a6, a7, rfl⟩
    walk_at "dl"
    rw [iV_len, List.take_of_length_le (Nat.le_refl _)]
    refine ⟨_, _, Gh.frz Cells.put_same, ?_⟩
    rw [Cells.del_put hp]
    exact q
def sp_normal_orders : DSp := fun xs cs Q _ => ∃ (ps : List Int) (os : List Ord) (b : Bool), xs = [.dat (cal ps), .dat (seqd b (ordsD os))] ∧ CalOk ps ∧ OrdsOk ps os ∧ Q (.dat (.lst (ordsD (norm ps (flowAt os))))) cs
theorem len_normal_orders : ∀ xs cs Q XP, sp_normal_orders xs cs Q XP → xs.length = 2 := by rintro xs cs Q XP ⟨ps, F, x, rfl, _⟩; rfl
def w_normal_orders : WS := (wSeq (wDrop (wCall sp_validate_orders (wCons (wVar 0) (wCons (wVar 1) wNil))))
    (wRet (wCall sp_normal_list (wCons (wVar 0) (wCons (wCall sp_flow_list (wCons (wVar 0) (wCons (wVar 1) wNil))) wNil)))))
theorem pure_normal_orders (K : Frag) : ∀ xs cs Q XP, sp_normal_orders xs cs Q XP → w_normal_orders (retE K Q) (startD 2 xs) cs := by
  rintro xs cs Q XP ⟨ps, os, b, rfl, hc, ho, q⟩
  unfold w_normal_orders
  walk_at "dl"
  refine ⟨ps, os, b, rfl, hc, ho, ps, os, b, rfl, hc, ho, fun p hp => ⟨ps, flowAt os, .cell p, rfl, hc, ?_, ?_⟩⟩
  · rw [seqD_cell, Cells.put_same, coSeq_lst]; rfl
  · exact .drop (SubC.put hp) q
end DL
set_option maxRecDepth 100000
set_option maxHeartbeats 4000000
namespace DL
open PySem L2
local macro_rules | `(tactic| walk_at "dl") => `(tactic| simp only [wRet, wRetN, wSeq, wAsg, wIfS, wDrop, wNext, wVar, wC, wOp, wUn, wFn, wNil, wCons, wTest, wNot, wAnd, wOr, wAndV, wOrV, wNotV, wIf, wChain, wTup, wLst, wCall, wNever, gN, gT, gNil, gCons, gIx, wI, wI0, wNeg, wMax2, wMin2, wLen, wIsN, wNotN, isNon_non, isNon_bl, isNon_int, isNon_str, isNon_lst, isNon_tup, isNon_cell, wIx, wTuple, wAug, wAugIx, wPar, wPar3, wSlL, wSlT, wPart, wNoPart, wCatT, wIsi, wIsi2, isiT, tyD_non, tyD_bl, tyD_int, tyD_str, tyD_lst, tyD_tup, tyD_cell, coTy_lst, seqD_lst, seqD_tp, seqD_cell, coSeq_lst, seen_dat, seen_cell, coDat_lst, startD, wYes, wApp, wEq_int, wEq_bl, allDat_nil, allDat_cons, allDat_map, Option.map_some, List.map_cons, List.map_nil, List.cons_append, List.nil_append, List.length_cons, List.length_nil, List.replicate, List.getElem?_cons_zero, List.getElem?_cons_succ, List.set_cons_zero, List.set_cons_succ, Option.some.injEq, exists_eq_left', exists_eq_left, exists_and_left, exists_eq', exists_eq, Vl.dat.injEq, Vl.raw.injEq, V.ref.injEq, CO.lst.injEq, Dat.int.injEq, Dat.bl.injEq, Dat.tup.injEq, Dat.lst.injEq, List.cons.injEq, and_true, true_and, retE, Nat.reduceAdd, Nat.reduceSub, and_assoc, Prod.mk.injEq, if_true, if_false, Bool.false_eq_true, decide_eq_true_eq, Bool.not_true, Bool.not_false, Bool.not_eq_true', decide_eq_false_iff_not, if_false_left, if_false_right, beq_iff_eq, Bool.or_eq_true, Bool.and_eq_true, Bool.or_self, Bool.or_true, Bool.true_or, Bool.or_false, Bool.false_or, decide_true, decide_false, reduceCtorEq, Cells.put_same, gt_iff_lt, ge_iff_le, beq_self_eq_true, bne_self_eq_false, Bool.decide_eq_true, not_true_eq_false, not_false_eq_true, Decidable.not_not, false_and, and_false, Bool.not_eq_false, at_0, at_1, at_2, at_3, at_4, at_5, ix_0, ix_1, ix_2, ix_3, Nat.reduceLT, Int.reduceLT, Int.reduceLE, Int.reduceNeg, Int.reduceAdd, Int.reduceSub, Int.reduceEq, Int.reducePow, Int.reduceToNat, Cells.put_put])
/-! ### _law_is_last_child -/
def sp_law_is_last_child : DSp := fun xs cs Q _ => ∃ (ps : List Int) (o : Ord) (b : Int), xs = [.dat (cal ps), .dat (ord o)] ∧ CalOk ps ∧ Ahead 0 ps b o.1 ∧ (0 < b → o.2.1 < o.1 - b) ∧ Q (.bl false) cs
theorem len_law_is_last_child : ∀ xs cs Q XP, sp_law_is_last_child xs cs Q XP → xs.length = 2 := by rintro xs cs Q XP ⟨ps, F, x, rfl, _⟩; rfl
def w_law_is_last_child : WS := (wSeq (wAsg (wLc (wiSeq (wVar 0)) (gN 3) (wTest (wOp wLt (wVar 3) (wOp wIx (wVar 1) (wC (.int 0))))) (wVar 3) [3]) (gN 2))
    (wRet (wAndV (wOp (wEqD true) (wVar 2) (wLst wNil)) (wOp wGe (wOp wIx (wVar 1) (wC (.int 1))) (wOp wSub (wOp wIx (wVar 1) (wC (.int 0))) (wFn wMax (wCons (wVar 2) wNil)))))))
theorem take_filter {α : Type} {f : α → Bool} {xs : List α} {i : Nat} {x : α} (h : xs[i]? = some x) : (xs.take (i + 1)).filter f = (xs.take i).filter f ++ if f x then [x] else [] := by
  rw [take_snoc h, List.filter_append]
  congr 1
  rw [List.filter_cons]
  split <;> simp_all
theorem lvI (ns : List Int) (h : ns.length ≤ 16777216) : (Dat.lst (iD ns)).lv 1 := ⟨by simpa [iD] using h, fun x hx => by
  unfold iD at hx
  obtain ⟨n, _, rfl⟩ := List.mem_map.mp hx
  trivial⟩
theorem pure_law_is_last_child (K : Frag) : ∀ xs cs Q XP, sp_law_is_last_child xs cs Q XP → w_law_is_last_child (retE K Q) (startD 4 xs) cs := by
  rintro xs cs Q XP ⟨ps, ⟨P, D, a⟩, b, rfl, hc, hb, hlt, q⟩
  have C := cal_cyc hc
  obtain ⟨m1, m2, m3, m4, m5⟩ := ahead_max (Int.le_refl 0) hc.2.2 hb
  simp only at m1 m3 m4 m5 hlt
  unfold w_law_is_last_child
  walk_at "dl"
  simp only [wLc, wiSeq]
  walk_at "dl"
  refine ⟨_, _, seqD_cal, fun N hN => ?_⟩
  refine ⟨fun i cs' => cs' = cs.put N (.lst (iV ((ps.take i).filter fun x => decide (x < P)))), rfl, fun _ _ _ _ => seqD_cal, ?_, ?_⟩
  · rintro i v cs' hv rfl
    unfold iV at hv
    rw [List.getElem?_map] at hv
    obtain ⟨x, hx, rfl⟩ := Option.map_eq_some_iff.mp hv
    have hil := (List.getElem?_eq_some_iff.mp hx).1
    have h5 := hc.2.1
    simp only [wipeD, ord]
    walk_at "dl"
    rw [take_filter hx]
    by_cases h : x < P
    · rw [if_pos h, if_pos (by simpa using h)]
      refine ⟨?_, by rw [← iV_app]; rfl⟩
      rw [iV_len]
      have := List.length_filter_le (fun x => decide (x < P)) (ps.take i)
      rw [List.length_take] at this
      omega
    · rw [if_neg h, if_neg (by simpa using h), List.append_nil]
  · rintro cs' rfl
    rw [iV_len, List.take_of_length_le (Nat.le_refl _)]
    generalize hfl : ps.filter (fun x => decide (x < P)) = bs
    have hmem : ∀ x, x ∈ bs ↔ x ∈ ps ∧ x < P := fun x => by rw [← hfl, List.mem_filter]; simp
    have hbl : bs.length ≤ 5 := by
      have := List.length_filter_le (fun x => decide (x < P)) ps
      rw [hfl] at this
      have := hc.2.1
      omega
    refine ⟨_, Cells.put_same, .inr ⟨_, allDat_iV _, ?_⟩⟩
    rw [Cells.del_put hN]
    walk_at "dl"
    refine ⟨by decide, .inr ⟨[], rfl, ?_⟩⟩
    refine wEq_of 1 (by decide) rfl rfl (lvI bs (by omega)) lst_nil_lv (fun he => ?_) (fun he => ?_)
    · walk_at "dl"
      exact .now q
    · simp only [ord]
      walk_at "dl"
      have hne : bs ≠ [] := fun z => he (by rw [z]; rfl)
      obtain ⟨x0, hx0⟩ := List.exists_mem_of_ne_nil bs hne
      have hx0' := (hmem x0).mp hx0
      have hbm : b ∈ bs := by
        rcases m2 with z | z
        · have := m5 x0 hx0'.1 hx0'.2
          have := (C.per x0 hx0'.1).1
          omega
        · exact (hmem b).mpr ⟨z, m3⟩
      have hb0 := (C.per b ((hmem b).mp hbm).1).1
      simp only [wMax]
      walk_at "dl"
      refine ⟨bs, by rw [iD_map]; rfl, List.length_pos_of_mem hbm, fun m hm hle => ?_⟩
      have h1 := hle b hbm
      have h2 := m5 m ((hmem m).mp hm).1 ((hmem m).mp hm).2
      have : m = b := by omega
      subst this
      refine .now ?_
      have := hlt hb0
      rw [decide_eq_false (by omega)]
      exact q
end DL
set_option maxRecDepth 100000
set_option maxHeartbeats 4000000
namespace DL
open PySem L2
local macro_rules | `(tactic| walk_at "dl") => `(tactic| simp only [wRet, wRetN, wSeq, wAsg, wIfS, wDrop, wNext, wVar, wC, wOp, wUn, wFn, wNil, wCons, wTest, wNot, wAnd, wOr, wAndV, wOrV, wNotV, wIf, wChain, wTup, wLst, wCall, wNever, gN, gT, gNil, gCons, gIx, wI, wI0, wNeg, wMax2, wMin2, wLen, wIsN, wNotN, isNon_non, isNon_bl, isNon_int, isNon_str, isNon_lst, isNon_tup, isNon_cell, wIx, wTuple, wAug, wAugIx, wPar, wPar3, wSlL, wSlT, wPart, wNoPart, wCatT, wIsi, wIsi2, isiT, tyD_non, tyD_bl, tyD_int, tyD_str, tyD_lst, tyD_tup, tyD_cell, coTy_lst, seqD_lst, seqD_tp, seqD_cell, coSeq_lst, seen_dat, seen_cell, coDat_lst, startD, wYes, wApp, wEq_int, wEq_bl, allDat_nil, allDat_cons, allDat_map, Option.map_some, List.map_cons, List.map_nil, List.cons_append, List.nil_append, List.length_cons, List.length_nil, List.replicate, List.getElem?_cons_zero, List.getElem?_cons_succ, List.set_cons_zero, List.set_cons_succ, Option.some.injEq, exists_eq_left', exists_eq_left, exists_and_left, exists_eq', exists_eq, Vl.dat.injEq, Vl.raw.injEq, V.ref.injEq, CO.lst.injEq, Dat.int.injEq, Dat.bl.injEq, Dat.tup.injEq, Dat.lst.injEq, List.cons.injEq, and_true, true_and, retE, Nat.reduceAdd, Nat.reduceSub, and_assoc, Prod.mk.injEq, if_true, if_false, Bool.false_eq_true, decide_eq_true_eq, Bool.not_true, Bool.not_false, Bool.not_eq_true', decide_eq_false_iff_not, if_false_left, if_false_right, beq_iff_eq, Bool.or_eq_true, Bool.and_eq_true, Bool.or_self, Bool.or_true, Bool.true_or, Bool.or_false, Bool.false_or, decide_true, decide_false, reduceCtorEq, Cells.put_same, gt_iff_lt, ge_iff_le, beq_self_eq_true, bne_self_eq_false, Bool.decide_eq_true, not_true_eq_false, not_false_eq_true, Decidable.not_not, false_and, and_false, Bool.not_eq_false, at_0, at_1, at_2, at_3, at_4, at_5, ix_0, ix_1, ix_2, ix_3, Nat.reduceLT, Int.reduceLT, Int.reduceLE, Int.reduceNeg, Int.reduceAdd, Int.reduceSub, Int.reduceEq, Int.reducePow, Int.reduceToNat, Cells.put_put])
/-! ### children of a residue -/
theorem cal_dvd : ∀ {ps : List Int} {b P L : Int}, 0 ≤ b → calFrom b ps → P ∈ ps → L ∈ ps → P < L → P ∣ L
  | a :: r, b, P, L, hb, hc, hP, hL, hlt => by
    obtain ⟨k1, k2, k3, k4⟩ := hc
    rcases List.mem_cons.mp hP with z | z
    · subst z
      rcases List.mem_cons.mp hL with y | y
      · omega
      · exact calFrom_dvdR (by omega) k4 L y
    · rcases List.mem_cons.mp hL with y | y
      · have := (calFrom_all (by omega) k4 P z).1
        omega
      · exact cal_dvd (by omega) k4 z y hlt
def kids (L D P a : Int) (n : Nat) : List Ord := (List.range n).map fun (k : Nat) => (L, D + (k : Int) * P, a)
theorem kids_succ (L D P a : Int) (n : Nat) : kids L D P a (n + 1) = kids L D P a n ++ [(L, D + (n : Int) * P, a)] := by simp [kids, List.range_succ]
theorem kid_iff {x D P : Int} {j : Nat} (hP : 0 < P) (h0 : 0 ≤ D) (h1 : D < P) : (x % P = D ∧ x < D + ((j + 1 : Nat) : Int) * P) ↔ ((x % P = D ∧ x < D + (j : Int) * P) ∨ x = D + (j : Int) * P) := by
  have e1 : ((j + 1 : Nat) : Int) * P = (j : Int) * P + P := by rw [Int.natCast_add, Int.add_mul]; simp
  constructor
  · rintro ⟨z1, z2⟩
    by_cases h : x < D + (j : Int) * P
    · exact .inl ⟨z1, h⟩
    · right
      have e2 := Int.emod_add_mul_ediv x P
      rw [z1] at e2
      have l1 : P * (x / P) < P * ((j : Int) + 1) := by rw [Int.mul_add, Int.mul_comm P j]; omega
      have l2 : P * (j : Int) ≤ P * (x / P) := by rw [Int.mul_comm P j]; omega
      have l3 := Int.lt_of_mul_lt_mul_left l1 (by omega)
      have l4 := Int.le_of_mul_le_mul_left l2 hP
      have : x / P = j := by omega
      rw [this, Int.mul_comm] at e2
      omega
  · rintro (⟨z1, z2⟩ | z)
    · exact ⟨z1, by omega⟩
    · subst z
      exact ⟨mod_near (t := 0) hP h0 h1, by omega⟩
theorem flow_kids {L D P a t : Int} (hP : 0 < P) (h0 : 0 ≤ D) (h1 : D < P) (hL : 0 < L) : ∀ n : Nat, flowAt (kids L D P a n) t = if t % L % P = D ∧ t % L < D + (n : Int) * P then a else 0
  | 0 => by
    have hm := Int.emod_nonneg t (show L ≠ 0 by omega)
    rw [if_neg]
    · rfl
    · rintro ⟨z1, z2⟩
      have z3 : t % L < D := by simpa using z2
      rw [Int.emod_eq_of_lt (by omega) (by omega)] at z1
      omega
  | n + 1 => by
    rw [kids_succ, flowAt_snoc, flow_kids hP h0 h1 hL n]
    have k := kid_iff (x := t % L) (j := n) hP h0 h1
    by_cases hx : t % L = D + (n : Int) * P
    · rw [if_neg (fun z => by omega), if_pos hx, if_pos (k.mpr (.inr hx)), Int.zero_add]
    · rw [if_neg (show ¬ t % (L, D + (n : Int) * P, a).1 = (L, D + (n : Int) * P, a).2.1 from hx), Int.add_zero]
      by_cases hy : t % L % P = D ∧ t % L < D + (n : Int) * P
      · rw [if_pos hy, if_pos (k.mpr (.inl hy))]
      · rw [if_neg hy, if_neg (fun z => (k.mp z).elim hy hx)]
theorem flow_allKids {L D P a t : Int} (hP : 0 < P) (h0 : 0 ≤ D) (h1 : D < P) (hPL : P ∣ L) (hlt : P < L) : flowAt (kids L D P a ((L - D - 1) / P + 1).toNat) t = flowAt [(P, D, a)] t := by
  have hq : 0 ≤ (L - D - 1) / P := Int.ediv_nonneg (by omega) (by omega)
  rw [flow_kids hP h0 h1 (by omega), flowAt_one, Int.emod_emod_of_dvd _ hPL, Int.toNat_of_nonneg (by omega)]
  have hb : L - D - 1 < ((L - D - 1) / P + 1) * P := Int.lt_ediv_add_one_mul_self _ hP
  have hm := Int.emod_lt_of_pos t (show 0 < L by omega)
  by_cases h : t % P = D
  · rw [if_pos ⟨h, by omega⟩, if_pos h]
  · rw [if_neg (fun z => h z.1), if_neg h]
theorem mem_kids {L D P a : Int} {n : Nat} {o : Ord} (h : o ∈ kids L D P a n) : ∃ k : Nat, k < n ∧ o = (L, D + (k : Int) * P, a) := by
  unfold kids at h
  obtain ⟨k, hk, rfl⟩ := List.mem_map.mp h
  exact ⟨k, List.mem_range.mp hk, rfl⟩
theorem kids_ok {ps : List Int} {L D P a : Int} (hL : L ∈ ps) (hP : 0 < P) (h0 : 0 ≤ D) (h1 : D < P) (hlt : P < L) (ha : a ≠ 0) : OrdsOk ps (kids L D P a ((L - D - 1) / P + 1).toNat) := fun o ho => by
  obtain ⟨k, hk, rfl⟩ := mem_kids ho
  have hq : 0 ≤ (L - D - 1) / P := Int.ediv_nonneg (by omega) (by omega)
  have hkm : (k : Int) * P ≤ L - D - 1 := Int.le_trans (Int.mul_le_mul_of_nonneg_right (show (k : Int) ≤ (L - D - 1) / P by omega) (by omega)) (Int.ediv_mul_le _ (by omega))
  have hk0 : 0 ≤ (k : Int) * P := Int.mul_nonneg (by omega) (by omega)
  exact ordB_iff.mpr ⟨hL, by show 0 ≤ D + (k : Int) * P; omega, by show D + (k : Int) * P < L; omega, ha⟩
theorem kids_len {L D P a : Int} {n : Nat} : (kids L D P a n).length = n := by simp [kids]
/-! ### _law_other -/
def sp_law_other : DSp := fun xs cs Q _ => ∃ (st : Addr) (ps : List Int) (os : List Ord) (c : CO), xs = [.cell st, .dat (cal ps), .dat (.lst (ordsD os))] ∧ cs st = some c ∧ DrSt c ∧ CalOk ps ∧ OrdsOk ps os ∧ os.length ≤ 100 ∧
  ∀ os' c', OrdsOk ps os' → (∀ t, flowAt os' t = flowAt os t) → DrSt c' → Q (.dat (.lst (ordsD os'))) (cs.put st c')
theorem len_law_other : ∀ xs cs Q XP, sp_law_other xs cs Q XP → xs.length = 3 := by rintro xs cs Q XP ⟨a, ps, n, c, rfl, _⟩; rfl
def w_law_other_b0_5 : WS := (wRet (wOp wCat (wSlL (wVar 3) (wPart (wVar 12)) wNoPart) (wSlL (wVar 3) wNoPart (wPart (wVar 12)))))
def w_law_other_b0_4 : WS := (wSeq (wAsg (wCall sp_law_drawn (wCons (wVar 0) (wCons (wFn wLen (wCons (wVar 3) wNil)) wNil))) (gN 12))
    w_law_other_b0_5)
def w_law_other_b0_3 : WS := (wSeq (wAsg (wOp wCat (wVar 3) (wLst (wCons (wVar 11) (wCons (wOp wCatT (wSlT (wVar 11) wNoPart (wPart (wC (.int 2)))) (wTup (wCons (wOp wSub (wC (.int 0)) (wOp wIx (wVar 11) (wC (.int 2)))) wNil))) wNil)))) (gN 3))
    w_law_other_b0_4)
def w_law_other_b0_2 : WS := (wSeq (wAsg (wCall sp_law_order (wCons (wVar 0) (wCons (wVar 1) (wCons (wC (.int 9)) wNil)))) (gN 11))
    w_law_other_b0_3)
def w_law_other_b0_1 : WS := (wSeq (wFor (wiSeq (wVar 2)) (gT 3 (gCons (gN 4) (gCons (gN 5) (gCons (gN 6) gNil)))) (wSeq (wPar 7 8 (wCons (wCall sp_law_drawn (wCons (wVar 0) (wCons (wC (.int 3)) wNil))) (wCons (wLc (wiSeq (wVar 1)) (gN 13) (wTest (wOp wGt (wVar 13) (wVar 4))) (wVar 13) [13]) wNil)))
    (wIfS (wAnd (wTest (wOp (wEqD false) (wVar 7) (wC (.int 0)))) (wTest (wOp (wEqD true) (wVar 8) (wLst wNil)))) (wSeq (wAsg (wOp wIx (wVar 8) (wCall sp_law_drawn (wCons (wVar 0) (wCons (wFn wLen (wCons (wVar 8) wNil)) wNil)))) (gN 9))
    (wAsg (wOp wCat (wVar 3) (wLc (wiRng3 (wCons (wVar 5) (wCons (wVar 9) (wCons (wVar 4) wNil)))) (gN 13) wYes (wTup (wCons (wVar 9) (wCons (wVar 13) (wCons (wVar 6) wNil)))) [13])) (gN 3))) (wIfS (wTest (wOp (wEqD false) (wVar 7) (wC (.int 1)))) (wSeq (wAsg (wOp wAdd (wC (.int 1)) (wCall sp_law_drawn (wCons (wVar 0) (wCons (wC (.int 9)) wNil)))) (gN 10))
    (wAsg (wOp wCat (wOp wCat (wVar 3) (wLst (wCons (wTup (wCons (wVar 4) (wCons (wVar 5) (wCons (wVar 10) wNil)))) wNil))) (wOp wRep (wLst (wCons (wTup (wCons (wVar 4) (wCons (wVar 5) (wCons (wOp wSub (wVar 6) (wVar 10)) wNil)))) wNil)) (wFn wInt (wCons (wOp (wEqD true) (wVar 6) (wVar 10)) wNil)))) (gN 3))) (wDrop (wApp (wVar 3) (wTup (wCons (wVar 4) (wCons (wVar 5) (wCons (wVar 6) wNil))))))))))
    w_law_other_b0_2)
def w_law_other_b0_0 : WS := (wSeq (wAsg (wLst wNil) (gN 3))
    w_law_other_b0_1)
def w_law_other : WS := w_law_other_b0_0
theorem ne_put {cs : Cells} {a p : Addr} {c : CO} (h : cs.put a c p = none) : p ≠ a ∧ cs p = none := by
  have : p ≠ a := by
    intro z; rw [z, Cells.put_same] at h; cases h
  exact ⟨this, by rwa [Cells.put_ne this] at h⟩
theorem ordsOk_app {ps : List Int} {xs ys : List Ord} (h1 : OrdsOk ps xs) (h2 : OrdsOk ps ys) : OrdsOk ps (xs ++ ys) := fun o ho => by
  rcases List.mem_append.mp ho with z | z
  · exact h1 o z
  · exact h2 o z
theorem ordsOk_one {ps : List Int} {o : Ord} (h : ordB ps o = true) : OrdsOk ps [o] := fun o' ho => by
  simp at ho; rw [ho]; exact h
/-- what holds ahead of turn i -/
def OtInv (cs : Cells) (st : Addr) (ps : List Int) (os : List Ord) (i : Nat) (ρ : DEnv) (cs' : Cells) : Prop := ∃ p os' c', cs' = (cs.put st c').put p (.lst ((ordsD os').map .dat)) ∧ cs p = none ∧ p ≠ st ∧ DrSt c' ∧ OrdsOk ps os' ∧ (∀ t, flowAt os' t = flowAt (os.take i) t) ∧ os'.length ≤ 500 * i ∧
  ∃ a4 a5 a6 a7 a8 a9 a10 a11 a12 a13, ρ = [some (.cell st), some (.dat (cal ps)), some (.dat (.lst (ordsD os))), some (.cell p), a4, a5, a6, a7, a8, a9, a10, a11, a12, a13]
theorem pure_law_other (K : Frag) : ∀ xs cs Q XP, sp_law_other xs cs Q XP → w_law_other (retE K Q) (startD 14 xs) cs := by
  rintro xs cs Q XP ⟨st, ps, os, c, rfl, hst, hD, hc, ho, hos, q⟩
  have C := cal_cyc hc
  have hcle := C.le
  unfold w_law_other w_law_other_b0_0
  walk_at "dl"
  refine ⟨by decide, .inl fun p0 hp0 => ?_⟩
  unfold w_law_other_b0_1
  walk_at "dl"
  simp only [wFor, wiSeq]
  walk_at "dl"
  refine ⟨OtInv cs st ps os, ⟨p0, [], c, by rw [Cells.put_self hst]; rfl, hp0, put_fresh hst hp0 (c' := c), hD, fun _ h => by simp at h, fun t => rfl, by simp, _, _, _, _, _, _, _, _, _, _, rfl⟩, fun _ _ _ _ _ => trivial, ?_, ?_⟩
  · rintro i v ρ cs' hv ⟨p, os', c', rfl, hp, hps, hD', hok, hfl, hlen, a4, a5, a6, a7, a8, a9, a10, a11, a12, a13, rfl⟩
    rw [ordsD_map, List.getElem?_map] at hv
    obtain ⟨⟨P, D, a⟩, hoi, rfl⟩ := Option.map_eq_some_iff.mp hv
    have hil := (List.getElem?_eq_some_iff.mp hoi).1
    have hthis := ho _ (List.mem_of_getElem? hoi)
    obtain ⟨k1, k2, k3, k4⟩ := ordB_iff.mp hthis
    simp only at k1 k2 k3 k4
    obtain ⟨p1, p2, p3⟩ := C.per _ k1
    have htake : ∀ t, flowAt (os.take (i + 1)) t = flowAt os' t + flowAt [(P, D, a)] t := fun t => by
      rw [take_snoc hoi, flowAt_app, hfl]
    simp only [ord]
    walk_at "dl"
    refine ⟨st, 3, c', rfl, by rw [Cells.put_ne hps.symm, Cells.put_same], hD', by decide, by decide, fun br c1 hr0 hr1 hD1 => ?_⟩
    rw [Cells.put_comm hps, Cells.put_put]
    walk_at "dl"
    simp only [wLc, wiSeq]
    walk_at "dl"
    refine ⟨_, _, seqD_cal, fun N hN => ?_⟩
    refine ⟨fun i cs' => cs' = ((cs.put st c1).put p (.lst ((ordsD os').map .dat))).put N (.lst (iV ((ps.take i).filter fun x => decide (P < x)))), rfl, fun _ _ _ _ => seqD_cal, ?_, ?_⟩
    · rintro i v cs' hv rfl
      unfold iV at hv
      rw [List.getElem?_map] at hv
      obtain ⟨x, hx, rfl⟩ := Option.map_eq_some_iff.mp hv
      have hil := (List.getElem?_eq_some_iff.mp hx).1
      have h5 := hc.2.1
      simp only [wipeD]
      walk_at "dl"
      rw [take_filter hx]
      by_cases h : P < x
      · rw [if_pos h, if_pos (by simpa using h)]
        refine ⟨?_, by rw [← iV_app]; rfl⟩
        rw [iV_len]
        have := List.length_filter_le (fun x => decide (P < x)) (ps.take i)
        rw [List.length_take] at this
        omega
      · rw [if_neg h, if_neg (by simpa using h), List.append_nil]
    rintro cs' rfl
    rw [iV_len, List.take_of_length_le (Nat.le_refl _)]
    generalize hfl : ps.filter (fun x => decide (P < x)) = ls
    have hmem : ∀ x, x ∈ ls ↔ x ∈ ps ∧ P < x := fun x => by rw [← hfl, List.mem_filter]; simp
    have hll : ls.length ≤ 5 := by
      have := List.length_filter_le (fun x => decide (P < x)) ps
      rw [hfl] at this
      have := hc.2.1
      omega
    refine ⟨_, Cells.put_same, .inr ⟨_, allDat_iV _, ?_⟩⟩
    rw [Cells.del_put hN]
    have fin : ∀ (p' : Addr) (ys : List Ord) (c2 : CO) (ρ : DEnv), cs p' = none → p' ≠ st → DrSt c2 → OrdsOk ps ys → (∀ t, flowAt ys t = flowAt [(P, D, a)] t) → ys.length ≤ 500 →
        (∃ a4 a5 a6 a7 a8 a9 a10 a11 a12 a13, ρ = [some (.cell st), some (.dat (cal ps)), some (.dat (.lst (ordsD os))), some (.cell p'), a4, a5, a6, a7, a8, a9, a10, a11, a12, a13]) →
        OtInv cs st ps os (i + 1) ρ ((cs.put st c2).put p' (.lst ((ordsD os').map Vl.dat ++ (ordsD ys).map Vl.dat))) := fun p' ys c2 ρ h1 h2 h3 h4 h5 h6 h7 =>
      ⟨p', os' ++ ys, c2, by rw [ordsD_app, List.map_append], h1, h2, h3, ordsOk_app hok h4, fun t => by rw [htake, flowAt_app, h5], by rw [List.length_append]; omega, h7⟩
    have hlenl : ((ordsD os').map Vl.dat).length = os'.length := by simp [ordsD]
    have h51 : os'.length ≤ 50000 := by omega
    have hsub : ∀ c2 : CO, SubC (cs.put st c2) ((cs.put st c2).put p (.lst ((ordsD os').map .dat))) := fun c2 => SubC.put (by rw [Cells.put_ne hps]; exact hp)
    walk_at "dl"
    by_cases h0 : br = 0
    · rw [if_pos h0]
      subst h0
      refine ⟨by decide, .inr ⟨[], rfl, ?_⟩⟩
      refine wEq_of 1 (by decide) rfl rfl (lvI ls (by omega)) lst_nil_lv (fun he => ?_) (fun he => ?_)
      · walk_at "dl"
        exact ⟨by decide, by omega, fin p [(P, D, a)] c1 _ hp hps hD1 (ordsOk_one hthis) (fun _ => rfl) (by simp) ⟨_, _, _, _, _, _, _, _, _, _, rfl⟩⟩
      · walk_at "dl"
        have hne : ls ≠ [] := fun z => he (by rw [z]; rfl)
        have hlp := List.length_pos_iff.mpr hne
        rw [iD_map, iV_len]
        refine ⟨st, _, c1, rfl, by rw [Cells.put_ne hps.symm, Cells.put_same], hD1, by omega, by omega, fun r c2 hq0 hq1 hD2 => ?_⟩
        rw [Cells.put_comm hps, Cells.put_put]
        obtain ⟨L, hL⟩ : ∃ L, ls[r.toNat]? = some L := ⟨_, List.getElem?_eq_getElem (by omega)⟩
        obtain ⟨hLp, hPL⟩ := (hmem L).mp (List.mem_of_getElem? hL)
        obtain ⟨l1, l2, l3⟩ := C.per L hLp
        refine ⟨r, rfl, .int L, atI_int hq0 (iV_get hL), ?_⟩
        simp only [wiRng3]
        walk_at "dl"
        refine ⟨_, rgC_pos k2 (by omega) (by omega) p1 (by omega), fun N2 hN2 => ?_⟩
        refine ⟨fun j cs' => j ≤ 400 ∧ cs' = ((cs.put st c2).put p (.lst ((ordsD os').map .dat))).put N2 (.lst ((ordsD (kids L D P a j)).map .dat)), ⟨by omega, rfl⟩, fun _ _ _ _ => trivial, ?_, ?_⟩
        · rintro j v cs' hv ⟨hj4, rfl⟩
          obtain ⟨hj, rfl⟩ := rangeD_at hv
          have hq : (L - D - 1) / P ≤ L - D - 1 := Int.ediv_le_self _ (by omega)
          have hq0 : 0 ≤ (L - D - 1) / P := Int.ediv_nonneg (by omega) (by omega)
          simp only [wipeD]
          walk_at "dl"
          refine ⟨by decide, by simp [ordsD, kids_len]; omega, by omega, ?_⟩
          rw [kids_succ, ordsD_app, List.map_append]; rfl
        · rintro cs' ⟨hj4, rfl⟩
          rw [rangeD_len] at hj4 ⊢
          refine ⟨_, Cells.put_same, .inl ?_⟩
          have hN2p := ne_put hN2
          refine ⟨p, N2, _, _, cs.put st c2, rfl, rfl, by rw [Cells.put_ne hN2p.1.symm, Cells.put_same], Cells.put_same, by simp [ordsD, kids_len]; omega, (hsub c2).trans (SubC.put hN2), .inl fun p2 hp2 => ?_⟩
          obtain ⟨e1, e2⟩ := ne_put hp2
          exact fin p2 _ c2 _ e2 e1 hD2 (kids_ok hLp p1 k2 k3 hPL k4) (fun t => flow_allKids p1 k2 k3 (cal_dvd (Int.le_refl 0) hc.2.2 k1 hLp hPL) hPL) (by rw [kids_len]; omega) ⟨_, _, _, _, _, _, _, _, _, _, rfl⟩
    · rw [if_neg h0]
      split
      · refine ⟨st, 9, c1, rfl, by rw [Cells.put_ne hps.symm, Cells.put_same], hD1, by decide, by decide, fun r c2 hq0 hq1 hD2 => ?_⟩
        rw [Cells.put_comm hps, Cells.put_put]
        refine ⟨r, rfl, by decide, by decide, .inl fun p1 hp1 => ?_⟩
        have hp1p := ne_put hp1
        refine ⟨p, p1, _, _, cs.put st c2, rfl, rfl, by rw [Cells.put_ne hp1p.1.symm, Cells.put_same], Cells.put_same, by simp [ordsD]; omega, (hsub c2).trans (SubC.put hp1), .inl fun p2 hp2 => ?_⟩
        obtain ⟨e1, e2⟩ := ne_put hp2
        refine ⟨by decide, by decide, .inl fun p3 hp3 => ?_⟩
        have hp3p := ne_put hp3
        refine .inr ⟨_, rfl, ?_⟩
        simp only [wRep]
        walk_at "dl"
        refine ⟨by split <;> decide, by split <;> decide, by split <;> decide, _, SubC.put hp3, .inl fun p4 hp4 => ?_⟩
        have hp4p := ne_put hp4
        refine ⟨p2, p4, _, _, cs.put st c2, rfl, rfl, by rw [Cells.put_ne hp4p.1.symm, Cells.put_same], Cells.put_same, ?_, (SubC.put hp2).trans (SubC.put hp4), .inl fun p5 hp5 => ?_⟩
        · simp [ordsD]
          split <;> omega
        obtain ⟨f1, f2⟩ := ne_put hp5
        rw [List.append_assoc]
        by_cases hz : a = 1 + r
        · have hrep : (List.replicate (if (a == 1 + r) = false then (1 : Int) else 0).toNat [Vl.dat (Dat.tup [Dat.int P, Dat.int D, Dat.int (a - (1 + r))])]).flatten = [] := by
            rw [hz]; simp
          rw [hrep, List.append_nil]
          exact fin p5 [(P, D, 1 + r)] c2 _ f2 f1 hD2 (ordsOk_one (by rw [← hz]; exact hthis)) (fun t => by rw [← hz]) (by simp) ⟨_, _, _, _, _, _, _, _, _, _, rfl⟩
        · have hrep : (List.replicate (if (a == 1 + r) = false then (1 : Int) else 0).toNat [Vl.dat (Dat.tup [Dat.int P, Dat.int D, Dat.int (a - (1 + r))])]).flatten = [Vl.dat (Dat.tup [Dat.int P, Dat.int D, Dat.int (a - (1 + r))])] := by
            rw [if_pos (by simpa using hz)]; rfl
          rw [hrep]
          refine fin p5 [(P, D, 1 + r), (P, D, a - (1 + r))] c2 _ f2 f1 hD2 ?_ (fun t => ?_) (by simp) ⟨_, _, _, _, _, _, _, _, _, _, rfl⟩
          · intro o ho
            simp only [List.mem_cons, List.not_mem_nil, or_false] at ho
            rcases ho with rfl | rfl
            · exact ordB_iff.mpr ⟨k1, k2, k3, by show 1 + r ≠ 0; omega⟩
            · exact ordB_iff.mpr ⟨k1, k2, k3, by show a - (1 + r) ≠ 0; omega⟩
          · rw [flowAt_cons, flowAt_one, flowAt_one, flowAt_one]
            simp only
            split <;> omega
      · exact ⟨by decide, by omega, fin p [(P, D, a)] c1 _ hp hps hD1 (ordsOk_one hthis) (fun _ => rfl) (by simp) ⟨_, _, _, _, _, _, _, _, _, _, rfl⟩⟩
  · rintro ρ cs' ⟨p, os', c', rfl, hp, hps, hD', hok, hfl, hlen, a4, a5, a6, a7, a8, a9, a10, a11, a12, a13, rfl⟩
    rw [ordsD_map, List.length_map] at hfl hlen
    rw [List.take_of_length_le (Nat.le_refl _)] at hfl
    have hlenl : ((ordsD os').map Vl.dat).length = os'.length := by simp [ordsD]
    unfold w_law_other_b0_2
    walk_at "dl"
    refine ⟨st, ps, 9, c', rfl, by rw [Cells.put_ne hps.symm, Cells.put_same], hD', hc, by decide, by decide, ?_⟩
    rintro ⟨P, D, a⟩ c1 hb hl1 hl2 hD1
    obtain ⟨k1, k2, k3, k4⟩ := ordB_iff.mp hb
    simp only at k1 k2 k3 k4
    rw [Cells.put_comm hps, Cells.put_put]
    unfold w_law_other_b0_3
    simp only [ord]
    walk_at "dl"
    simp only [show cutD [Dat.int P, Dat.int D, Dat.int a] none (some 2) = [Dat.int P, Dat.int D] from rfl]
    walk_at "dl"
    refine ⟨by decide, by decide, by decide, .inl fun p1 hp1 => ?_⟩
    have hp1p := ne_put hp1
    refine ⟨p, p1, _, _, cs.put st c1, rfl, rfl, by rw [Cells.put_ne hp1p.1.symm, Cells.put_same], Cells.put_same, by simp [ordsD]; omega, SubC.trans (SubC.put (by rw [Cells.put_ne hps]; exact hp)) (SubC.put hp1), .inl fun p2 hp2 => ?_⟩
    obtain ⟨e1, e2⟩ := ne_put hp2
    generalize hall : os' ++ [(P, D, a), (P, D, 0 - a)] = al
    have hal : (ordsD os').map Vl.dat ++ [Vl.dat (Dat.tup [Dat.int P, Dat.int D, Dat.int a]), Vl.dat (Dat.tup [Dat.int P, Dat.int D, Dat.int (0 - a)])] = (ordsD al).map Vl.dat := by
      rw [← hall, ordsD_app, List.map_append]; rfl
    rw [hal]
    have halen : al.length = os'.length + 2 := by rw [← hall, List.length_append]; rfl
    have halok : OrdsOk ps al := by
      rw [← hall]
      refine ordsOk_app hok fun o ho => ?_
      simp only [List.mem_cons, List.not_mem_nil, or_false] at ho
      rcases ho with rfl | rfl
      · exact hb
      · exact ordB_iff.mpr ⟨k1, k2, k3, by show 0 - a ≠ 0; omega⟩
    have halfl : ∀ t, flowAt al t = flowAt os t := fun t => by
      rw [← hall, flowAt_app, hfl, flowAt_cons, flowAt_one, flowAt_one]
      simp only
      split <;> omega
    have hl3 : ((ordsD al).map Vl.dat).length = al.length := by simp [ordsD]
    unfold w_law_other_b0_4
    walk_at "dl"
    rw [hl3]
    refine ⟨st, _, c1, rfl, by rw [Cells.put_ne e1.symm, Cells.put_same], hD1, by omega, by omega, fun r c2 hq0 hq1 hD2 => ?_⟩
    rw [Cells.put_comm e1, Cells.put_put]
    unfold w_law_other_b0_5
    walk_at "dl"
    have hr : r.toNat ≤ al.length := by omega
    have cut1 : cutD ((ordsD al).map Vl.dat) (some r) none = (ordsD (al.drop r.toNat)).map Vl.dat := by
      unfold cutD
      rw [hl3]
      have e : HT.sIx al.length 0 (some r) = r.toNat := by
        show (if r < 0 then _ else min r.toNat al.length) = _
        rw [if_neg (by omega)]; omega
      rw [e]
      show List.take (al.length - r.toNat) _ = _
      simp only [ordsD, List.map_drop]
      rw [List.take_of_length_le (by simp)]
    have cut2 : cutD ((ordsD al).map Vl.dat) none (some r) = (ordsD (al.take r.toNat)).map Vl.dat := by
      unfold cutD
      rw [hl3]
      have e : HT.sIx al.length al.length (some r) = r.toNat := by
        show (if r < 0 then _ else min r.toNat al.length) = _
        rw [if_neg (by omega)]; omega
      rw [e]
      show List.take (r.toNat - 0) (List.drop 0 _) = _
      simp only [ordsD, List.map_take, Nat.sub_zero, List.drop_zero]
    rw [cut1]
    refine .inl fun p3 hp3 => ?_
    have hp3p := ne_put hp3
    refine ⟨_, by rw [Cells.put_ne hp3p.1.symm, Cells.put_same, coSeq_lst], ?_⟩
    rw [cut2]
    refine .inl fun p4 hp4 => ?_
    have hp4p := ne_put hp4
    refine ⟨p3, p4, _, _, cs.put st c2, rfl, rfl, by rw [Cells.put_ne hp4p.1.symm, Cells.put_same], Cells.put_same, by simp [ordsD]; omega, (SubC.put (by rw [Cells.put_ne e1]; exact e2)).trans ((SubC.put hp3).trans (SubC.put hp4)), .inr ⟨_, by rw [← List.map_append]; exact allDat_map _, .now ?_⟩⟩
    rw [← ordsD_app]
    refine q _ c2 (fun o ho => ?_) (fun t => ?_) hD2
    · refine halok o ?_
      rcases List.mem_append.mp ho with z | z
      · exact List.mem_of_mem_drop z
      · exact List.mem_of_mem_take z
    · rw [flowAt_app, Int.add_comm, ← flowAt_app, List.take_append_drop]
      exact halfl t
end DL
set_option maxRecDepth 100000
set_option maxHeartbeats 4000000
namespace DL
open PySem L2
local macro_rules | `(tactic| walk_at "dl") => `(tactic| simp only [wRet, wRetN, wSeq, wAsg, wIfS, wDrop, wNext, wVar, wC, wOp, wUn, wFn, wNil, wCons, wTest, wNot, wAnd, wOr, wAndV, wOrV, wNotV, wIf, wChain, wTup, wLst, wCall, wNever, gN, gT, gNil, gCons, gIx, wI, wI0, wNeg, wMax2, wMin2, wLen, wIsN, wNotN, isNon_non, isNon_bl, isNon_int, isNon_str, isNon_lst, isNon_tup, isNon_cell, wIx, wTuple, wAug, wAugIx, wPar, wPar3, wSlL, wSlT, wPart, wNoPart, wCatT, wIsi, wIsi2, isiT, tyD_non, tyD_bl, tyD_int, tyD_str, tyD_lst, tyD_tup, tyD_cell, coTy_lst, seqD_lst, seqD_tp, seqD_cell, coSeq_lst, seen_dat, seen_cell, coDat_lst, startD, wYes, wApp, wEq_int, wEq_bl, allDat_nil, allDat_cons, allDat_map, Option.map_some, List.map_cons, List.map_nil, List.cons_append, List.nil_append, List.length_cons, List.length_nil, List.replicate, List.getElem?_cons_zero, List.getElem?_cons_succ, List.set_cons_zero, List.set_cons_succ, Option.some.injEq, exists_eq_left', exists_eq_left, exists_and_left, exists_eq', exists_eq, Vl.dat.injEq, Vl.raw.injEq, V.ref.injEq, CO.lst.injEq, Dat.int.injEq, Dat.bl.injEq, Dat.tup.injEq, Dat.lst.injEq, List.cons.injEq, and_true, true_and, retE, Nat.reduceAdd, Nat.reduceSub, and_assoc, Prod.mk.injEq, if_true, if_false, Bool.false_eq_true, decide_eq_true_eq, Bool.not_true, Bool.not_false, Bool.not_eq_true', decide_eq_false_iff_not, if_false_left, if_false_right, beq_iff_eq, Bool.or_eq_true, Bool.and_eq_true, Bool.or_self, Bool.or_true, Bool.true_or, Bool.or_false, Bool.false_or, decide_true, decide_false, reduceCtorEq, Cells.put_same, gt_iff_lt, ge_iff_le, beq_self_eq_true, bne_self_eq_false, Bool.decide_eq_true, not_true_eq_false, not_false_eq_true, Decidable.not_not, false_and, and_false, Bool.not_eq_false, at_0, at_1, at_2, at_3, at_4, at_5, ix_0, ix_1, ix_2, ix_3, Nat.reduceLT, Int.reduceLT, Int.reduceLE, Int.reduceNeg, Int.reduceAdd, Int.reduceSub, Int.reduceEq, Int.reducePow, Int.reduceToNat, Cells.put_put])
def sp_law : DSp := fun xs cs Q _ => ∃ ns : List Int, xs = [.dat (.lst (iD ns))] ∧ ∀ cs', Q (.bl true) cs'
theorem len_law : ∀ xs cs Q XP, sp_law xs cs Q XP → xs.length = 1 := by rintro xs cs Q XP ⟨ns, rfl, _⟩; rfl
/-- law: slots _law_script, _law_state, _law_turn, _law_calendar_here, _law_orders_here, _law_actual, _law_order_here -/
def w_law_b1_7 : WS := (wIfS (wTest (wOp (wEqD true) (wCall sp_normal_orders (wCons (wVar 3) (wCons (wVar 5) wNil))) (wVar 5))) (wRet (wC (.bl false))) wNext)
def w_law_b1_6 : WS := (wSeq (wIfS (wNot (wTest (wCall (sp_law_same 3) (wCons (wCall sp_normal_orders (wCons (wVar 3) (wCons (wCall sp_law_other (wCons (wVar 1) (wCons (wVar 3) (wCons (wVar 4) wNil)))) wNil))) (wCons (wVar 5) wNil))))) (wRet (wC (.bl false))) wNext)
    w_law_b1_7)
def w_law_b1_5 : WS := (wSeq (wIfS (wTest (wOp (wEqD true) (wLc (wiSeq (wVar 5)) (gN 6) (wTest (wCall sp_law_is_last_child (wCons (wVar 3) (wCons (wVar 6) wNil)))) (wVar 6) [6]) (wLst wNil))) (wRet (wC (.bl false))) wNext)
    w_law_b1_6)
def w_law_b1_4 : WS := (wSeq (wIfS (wOr (wTest (wOp (wEqD true) (wVar 5) (wFn wSortT (wCons (wVar 5) wNil)))) (wTest (wOp (wEqD true) (wLenSet (wLc (wiSeq (wVar 5)) (gN 6) wYes (wSlT (wVar 6) wNoPart (wPart (wC (.int 2)))) [6])) (wFn wLen (wCons (wVar 5) wNil))))) (wRet (wC (.bl false))) wNext)
    w_law_b1_5)
def w_law_b1_3 : WS := (wSeq (wIfS (wOr (wNot (wTest (wIsi .list (wVar 5)))) (wTest (wOp (wEqD true) (wCall sp_flows (wCons (wVar 3) (wCons (wVar 5) wNil))) (wCall sp_flows (wCons (wVar 3) (wCons (wVar 4) wNil)))))) (wRet (wC (.bl false))) wNext)
    w_law_b1_4)
def w_law_b1_2 : WS := (wSeq (wAsg (wCall sp_normal_orders (wCons (wVar 3) (wCons (wVar 4) wNil))) (gN 5))
    w_law_b1_3)
def w_law_b1_1 : WS := (wSeq (wAsg (wCall sp_law_orders (wCons (wVar 1) (wCons (wVar 3) (wCons (wC (.int 6)) (wCons (wC (.int 9)) wNil))))) (gN 4))
    w_law_b1_2)
def w_law_b1_0 : WS := (wSeq (wAsg (wCall sp_law_calendar (wCons (wVar 1) (wCons (wOp wIx (wLst (wCons (wC (.int 12)) (wCons (wC (.int 60)) (wCons (wC (.int 400)) wNil)))) (wCall sp_law_drawn (wCons (wVar 1) (wCons (wC (.int 3)) wNil)))) wNil))) (gN 3))
    w_law_b1_1)
def w_law_b0_2 : WS := (wRet (wC (.bl true)))
def w_law_b0_1 : WS := (wSeq (wFor (wiRng1 (wCons (wC (.int 5)) wNil)) (gN 2) w_law_b1_0)
    w_law_b0_2)
def w_law_b0_0 : WS := (wSeq (wAsg (wCall sp_law_start (wCons (wVar 0) wNil)) (gN 1))
    w_law_b0_1)
def w_law : WS := w_law_b0_0

theorem pick3 {a b c : Vl} {r : Int} (h0 : 0 ≤ r) (h1 : r < 3) : ∃ v, atI [a, b, c] r = some v ∧ (v = a ∨ v = b ∨ v = c) := by
  have : r = 0 ∨ r = 1 ∨ r = 2 := by omega
  rcases this with z | z | z <;> subst z
  · exact ⟨a, at_0, .inl rfl⟩
  · exact ⟨b, at_1, .inr (.inl rfl)⟩
  · exact ⟨c, at_2, .inr (.inr rfl)⟩
theorem lvOrds (os : List Ord) (h : os.length ≤ 16777216) : (Dat.lst (ordsD os)).lv 2 := ⟨by simpa [ordsD] using h, fun x hx => by
  unfold ordsD at hx
  obtain ⟨o, _, rfl⟩ := List.mem_map.mp hx
  refine ⟨by simp, fun y hy => ?_⟩
  simp only [List.mem_cons, List.not_mem_nil, or_false] at hy
  rcases hy with rfl | rfl | rfl <;> trivial⟩
def key3 (o : Ord) : List Int := [o.1, o.2.1, o.2.2]
def key2 (o : Ord) : List Int := [o.1, o.2.1]
theorem ord_tupI (o : Ord) : ord o = tupI (key3 o) := rfl
theorem lt_key3 {x y : Ord} (h : ordLt x y) : key3 x < key3 y := by
  unfold key3
  rw [List.cons_lt_cons_iff, List.cons_lt_cons_iff]
  rcases h with h | ⟨h1, h2⟩
  · exact .inl h
  · exact .inr ⟨h1, .inl h2⟩
theorem merge_sorted {os : List Ord} (h : os.Pairwise ordLt) : (os.map key3).mergeSort leI = os.map key3 := by
  refine List.mergeSort_of_pairwise ?_
  rw [List.pairwise_map]
  exact h.imp fun {x y} hxy => by
    unfold leI
    exact decide_eq_true (Std.le_of_lt (lt_key3 hxy))
theorem keys_nodup {os : List Ord} (h : os.Pairwise ordLt) : (os.map key2).Nodup := by
  rw [List.nodup_iff_pairwise_ne, List.pairwise_map]
  refine h.imp fun {x y} hxy he => ?_
  unfold key2 at he
  simp only [List.cons.injEq, and_true] at he
  rcases hxy with z | z <;> omega
theorem ordsV_keys (os : List Ord) : (ordsD os).map Vl.dat = (os.map key3).map fun ns => Vl.dat (tupI ns) := by
  simp [ordsD, ord_tupI]
def Inv0 (ns : List Int) (a : Addr) (i : Nat) (ρ : DEnv) (cs : Cells) : Prop := (∃ c, cs a = some c ∧ DrSt c) ∧ ∃ x2 x3 x4 x5 x6, ρ = [some (.dat (.lst (iD ns))), some (.cell a), x2, x3, x4, x5, x6]
theorem pure_law (K : Frag) : ∀ xs cs Q XP, sp_law xs cs Q XP → w_law (retE K Q) (startD 7 xs) cs := by
  rintro xs cs Q XP ⟨ns, rfl, q⟩
  unfold w_law w_law_b0_0
  walk_at "dl"
  refine ⟨ns, rfl, fun a c ha hD => ?_⟩
  unfold w_law_b0_1
  walk_at "dl"
  simp only [wFor, wiRng1]
  walk_at "dl"
  refine ⟨Inv0 ns a, ⟨⟨c, Cells.put_same, hD⟩, _, _, _, _, _, rfl⟩, fun _ _ _ _ _ => trivial, ?_, ?_⟩
  · rintro i x ρ cs1 hx ⟨⟨c1, hc1, hD1⟩, x2, x3, x4, x5, x6, rfl⟩
    obtain ⟨hi, rfl⟩ := rangeD_at hx
    clear hx
    unfold w_law_b1_0
    walk_at "dl"
    refine ⟨by decide, .inr ⟨_, rfl, a, 3, c1, rfl, hc1, hD1, by decide, by decide, fun r c2 hr0 hr1 hD2 => ?_⟩⟩
    walk_at "dl"
    obtain ⟨v, hv, hv2⟩ := pick3 (a := Vl.int 12) (b := Vl.int 60) (c := Vl.int 400) hr0 hr1
    obtain ⟨n, rfl, hn1, hn2⟩ : ∃ n : Int, v = .int n ∧ 1 ≤ n ∧ n ≤ 400 := by
      rcases hv2 with z | z | z
      · exact ⟨12, z, by decide, by decide⟩
      · exact ⟨60, z, by decide, by decide⟩
      · exact ⟨400, z, by decide, by decide⟩
    refine ⟨_, hv, a, n, c2, rfl, Cells.put_same, hD2, hn1, hn2, fun ps c3 hcal _ hl4 hD3 => ?_⟩
    rw [Cells.put_put]
    unfold w_law_b1_1
    walk_at "dl"
    refine ⟨a, ps, 6, _, c3, rfl, Cells.put_same, hD3, hcal, by decide, by decide, by decide, by decide, fun os c4 hos _ hlos hD4 => ?_⟩
    rw [Cells.put_put]
    unfold w_law_b1_2
    walk_at "dl"
    refine ⟨ps, os, true, rfl, hcal, hos, ?_⟩
    have hnl := norm_len hcal hl4.2 hos
    have hn60 : (norm ps (flowAt os)).length < 64 := by
      have : (3 * ps.length - 2) * os.length ≤ 10 * 6 := Nat.mul_le_mul (by omega) (by omega)
      omega
    have hnok := norm_ok hcal (flowAt os)
    have hnfl := flowsL_norm hcal os
    have hnn := norm_norm hcal (flowAt os)
    have hsrt := sorted_norm hcal (flowAt os)
    have hmemn : ∀ o ∈ norm ps (flowAt os), ∃ b, Ahead 0 ps b o.1 ∧ (0 < b → o.2.1 < o.1 - b) := fun o ho => by
      obtain ⟨m1, m2, m3, m4, b, m5, m6⟩ := mem_nordFrom (Int.le_refl 0) hcal.2.2 ho
      refine ⟨b, m5, fun hb => ?_⟩
      apply Int.not_le.mp
      intro z
      exact m4 (by rw [m6]; exact nval_last hb ((ahead_max (Int.le_refl 0) hcal.2.2 m5).2.2.2.1 hb) z m3)
    have hcg : ∀ os', (∀ t, flowAt os' t = flowAt os t) → norm ps (flowAt os') = norm ps (flowAt os) := fun os' h => norm_congr hcal fun t _ _ => h t
    generalize norm ps (flowAt os) = nl at *
    generalize hcs2 : cs1.put a c4 = cs2
    have h2a : cs2 a = some c4 := by rw [← hcs2, Cells.put_same]
    clear hcs2
    unfold w_law_b1_3
    walk_at "dl"
    refine ⟨ps, nl, true, rfl, hcal, hnok, fun f hf => ⟨ps, os, true, rfl, hcal, hos, fun g hg => ?_⟩⟩
    have hfa : f ≠ a := by intro z; rw [z, h2a] at hf; cases hf
    obtain ⟨hgf, hg2⟩ := ne_put hg
    have hga : g ≠ a := by intro z; rw [z, h2a] at hg2; cases hg2
    rw [hnfl]
    have hfl1 : (flowsL (cyc ps) os).length ≤ 16777216 := by
      unfold flowsL
      rw [rowF_len]
      have := (cal_cyc hcal).le
      omega
    generalize flowsL (cyc ps) os = fl at hfl1
    refine wEq_of 1 (by decide) (d := .lst (iD fl)) (e := .lst (iD fl)) (by rw [seen_cell, Cells.put_ne hgf.symm, Cells.put_same, coDat_lst, allDat_iV]; rfl) (by rw [seen_cell, Cells.put_same, coDat_lst, allDat_iV]; rfl) (lvI fl hfl1) (lvI fl hfl1) (fun _ => ?_) (fun z => absurd rfl z)
    walk_at "dl"
    generalize hcs3 : (cs2.put f (.lst (iV fl))).put g (.lst (iV fl)) = cs3
    have h3a : cs3 a = some c4 := by rw [← hcs3, Cells.put_ne hga.symm, Cells.put_ne hfa.symm, h2a]
    clear hcs3
    unfold w_law_b1_4
    walk_at "dl"
    have hnl2 : nl.length ≤ 16777216 := by omega
    have hlvn := lvOrds nl hnl2
    refine ⟨_, nl.map key3, rfl, by rw [← ordsV_keys]; rfl, fun n hn => ?_, ?_⟩
    · obtain ⟨o, _, rfl⟩ := List.mem_map.mp hn
      unfold key3; simp
    rw [merge_sorted hsrt, ← ordsV_keys]
    refine .inr ⟨_, allDat_map _, ?_⟩
    refine wEq_of 2 (by decide) rfl rfl hlvn hlvn (fun _ => ?_) (fun z => absurd rfl z)
    walk_at "dl"
    simp only [wLenSet, wLc, wiSeq]
    walk_at "dl"
    refine fun N hN => ⟨fun j cs' => j ≤ nl.length ∧ cs' = cs3.put N (.lst (((nl.take j).map key2).map fun ns => Vl.dat (tupI ns))), ⟨Nat.zero_le _, rfl⟩, fun _ _ _ _ => trivial, ?_, ?_⟩
    · rintro j v cs' hv ⟨hj, rfl⟩
      rw [ordsD_map, List.getElem?_map] at hv
      obtain ⟨o, hoi, rfl⟩ := Option.map_eq_some_iff.mp hv
      have hjl := (List.getElem?_eq_some_iff.mp hoi).1
      simp only [wipeD]
      walk_at "dl"
      refine ⟨[.int o.1, .int o.2.1, .int o.2.2], rfl, by simp; omega, hjl, ?_⟩
      rw [take_snoc hoi, List.map_append, List.map_append]; rfl
    rintro cs' ⟨-, rfl⟩
    have hlm : ((ordsD nl).map Vl.dat).length = nl.length := by simp [ordsD]
    rw [hlm, List.take_of_length_le (Nat.le_refl _)]
    refine ⟨_, Cells.put_same, .inl ⟨nl.map key2, by rw [seqD_cell, Cells.put_same, coSeq_lst], by rw [List.length_map]; exact hn60, keys_nodup hsrt, ?_⟩⟩
    rw [List.length_map]
    walk_at "dl"
    have hN1 : N ≠ a := by
      intro z
      rw [z, h3a] at hN
      cases hN
    generalize hcs4 : cs3.put N (.lst ((nl.map key2).map fun ns => Vl.dat (tupI ns))) = cs4
    have h4a : cs4 a = some c4 := by rw [← hcs4, Cells.put_ne hN1.symm, h3a]
    clear hcs4 hN
    unfold w_law_b1_5
    walk_at "dl"
    simp only [wLc, wiSeq]
    walk_at "dl"
    refine fun N hN => ⟨fun j cs' => cs' = cs4.put N (.lst []), rfl, fun _ _ _ _ => trivial, ?_, ?_⟩
    · rintro j v cs' hv rfl
      rw [ordsD_map, List.getElem?_map] at hv
      obtain ⟨o, hoi, rfl⟩ := Option.map_eq_some_iff.mp hv
      obtain ⟨b, hb1, hb2⟩ := hmemn o (List.mem_of_getElem? hoi)
      simp only [wipeD]
      walk_at "dl"
      refine ⟨ps, o, b, rfl, hcal, hb1, hb2, ?_⟩
      walk_at "dl"
    rintro cs' rfl
    refine ⟨_, Cells.put_same, .inr ⟨[], rfl, ?_⟩⟩
    rw [Cells.del_put hN]
    walk_at "dl"
    refine ⟨by decide, .inr ⟨[], rfl, ?_⟩⟩
    refine wEq_of 1 (by decide) rfl rfl lst_nil_lv lst_nil_lv (fun _ => ?_) (fun z => absurd rfl z)
    walk_at "dl"
    unfold w_law_b1_6
    walk_at "dl"
    refine ⟨a, ps, os, c4, rfl, h4a, hD4, hcal, hos, by omega, fun os' c5 hos' hfl' hD5 => ?_⟩
    refine ⟨ps, os', true, rfl, hcal, hos', ?_⟩
    rw [hcg os' hfl']
    refine ⟨_, _, .lst (ordsD nl), rfl, rfl, rfl, hlvn, by decide, ?_⟩
    walk_at "dl"
    unfold w_law_b1_7
    walk_at "dl"
    refine ⟨ps, nl, true, rfl, hcal, hnok, ?_⟩
    rw [hnn]
    refine wEq_of 2 (by decide) rfl rfl hlvn hlvn (fun _ => ?_) (fun z => absurd rfl z)
    walk_at "dl"
    exact ⟨⟨c5, Cells.put_same, hD5⟩, _, _, _, _, _, rfl⟩
  · rintro ρ cs' ⟨_, x2, x3, x4, x5, x6, rfl⟩
    unfold w_law_b0_2
    walk_at "dl"
    exact .now (q _)
theorem law_start (ns : List Int) (cs : Cells) (Q : Vl → Cells → Prop) (XP : DXP) (hl : ns.length ≤ 63) (q : ∀ cs', Q (.dat (.bl true)) cs') : sp_law [.dat (.lst (ns.map .int))] cs Q XP := ⟨ns, rfl, q⟩
end DL
namespace Law
open PySem L2 DL
def top (i : Nat) : Stmt := PySem.Challenge.pw_standingorders_k07_normal_form.main.body.getD i (.Pass ⟨0, 0, 0, 0⟩)
abbrev s_is_integer : Stmt := top 7
abbrev s_validate_calendar : Stmt := top 8
abbrev s_is_order : Stmt := top 9
abbrev s_first_invalid_order : Stmt := top 10
abbrev s_validate_orders : Stmt := top 11
abbrev s_flow_list : Stmt := top 12
abbrev s_flows : Stmt := top 13
abbrev s_normal_list : Stmt := top 15
abbrev s_normal_orders : Stmt := top 16
abbrev s_law_start : Stmt := top 18
abbrev s_law_drawn : Stmt := top 19
abbrev s_law_same : Stmt := top 20
abbrev s_law_calendar : Stmt := top 21
abbrev s_law_order : Stmt := top 22
abbrev s_law_orders : Stmt := top 23
abbrev s_law_is_last_child : Stmt := top 25
abbrev s_law_other : Stmt := top 26
abbrev s_law : Stmt := top 27
structure Bi (mg : Str → Option Value) : Prop where
  b_bool : mg "bool" = none
  b_enumerate : mg "enumerate" = none
  b_int : mg "int" = none
  b_isinstance : mg "isinstance" = none
  b_len : mg "len" = none
  b_list : mg "list" = none
  b_max : mg "max" = none
  b_min : mg "min" = none
  b_range : mg "range" = none
  b_set : mg "set" = none
  b_sorted : mg "sorted" = none
  b_tuple : mg "tuple" = none
  g_MAX_PERIOD : ∃ t, mg "MAX_PERIOD" = some (.int 400 t)
  g_MAX_PERIODS : ∃ t, mg "MAX_PERIODS" = some (.int 5 t)
section
variable {P : Program} {w : World} {K : Frag} {mg : Str → Option Value} {base : Heap}
theorem sc_is_integer : FnScope ["value"] ["value"] (defScope s_is_integer) := ⟨rfl, rfl, rfl, by decide +kernel, rfl, by decide +kernel, by decide +kernel⟩
theorem ok_is_integer {f : Addr} {fd : FuncData} (F : Fun K "is_integer" "is_integer" s_is_integer f fd) (hm : mg "is_integer" = some (.ref f)) (B : Bi mg)  : DOk P w K mg base CX0 "is_integer" ["value"] 1 sp_is_integer :=
  fn_data F sc_is_integer hm (F.binds (ps := ["value"]) (fun _ _ _ _ _ _ us hl => match us, hl with | [_], _ => rfl)) len_is_integer (fun cdv A outer s H E hr =>
      (dss_one (ds_ret (de_and (de_isi .int B.b_isinstance B.b_int (by decide +kernel) (de_var 0)) (de_one (de_not (de_isi .bool B.b_isinstance B.b_bool (by decide +kernel) (de_var 0)))))))) (fun xs cs Q XP h => pure_is_integer K xs cs Q XP h)
theorem sc_validate_calendar : FnScope ["calendar", "before", "index", "period"] ["calendar"] (defScope s_validate_calendar) := ⟨rfl, rfl, rfl, by decide +kernel, rfl, by decide +kernel, by decide +kernel⟩
theorem ok_validate_calendar {f : Addr} {fd : FuncData} (F : Fun K "validate_calendar" "validate_calendar" s_validate_calendar f fd) (hm : mg "validate_calendar" = some (.ref f)) (B : Bi mg) (G_is_integer : DOk P w K mg base CX0 "is_integer" ["value"] 1 sp_is_integer) : DOk P w K mg base CX0 "validate_calendar" ["calendar"] 2 sp_validate_calendar :=
  fn_data F sc_validate_calendar hm (F.binds (ps := ["calendar"]) (fun _ _ _ _ _ _ us hl => match us, hl with | [_], _ => rfl)) len_validate_calendar (fun cdv A outer s H E hr =>
      (dss_cons (ds_if (dt_not (dt_chainD c_le c_le de_int (de_len B.b_len (da_cons (de_var 0) da_nil)) (de_gintE B.g_MAX_PERIODS))) (dss_one ds_never) dss_nil)
      (dss_cons (ds_set (i := 1) sc_validate_calendar.nd de_int)
      (dss_one (ds_for (di_enum B.b_enumerate (da_cons (de_var 0) da_nil)) (dg_tup rfl (dgs_cons (dg_name (i := 2) sc_validate_calendar.nd) (dgs_cons (dg_name (i := 3) sc_validate_calendar.nd) dgs_nil))) (dss_cons (ds_if (DW.dt (dw_or (dt_not (dt_val (de_call G_is_integer (hr.mono (by decide)) (da_cons (de_var 3) da_nil)))) (dw_or (dt_not (dt_chainD c_lt c_le (de_var 1) (de_var 3) (de_gintE B.g_MAX_PERIOD))) (dw_or1 (DW.dt (dw_and (dt_cmpD c_gt (de_var 1) de_int) (dw_and1 (dt_cmpD (c_ne hr.units) (de_mod (de_var 3) (de_var 1)) de_int)))))))) (dss_one ds_never) dss_nil)
      (dss_one (ds_set (i := 1) sc_validate_calendar.nd (de_var 3))))))))) (fun xs cs Q XP h => pure_validate_calendar K xs cs Q XP h)
theorem sc_is_order : FnScope ["calendar", "order", "period", "day", "amount"] ["calendar", "order"] (defScope s_is_order) := ⟨rfl, rfl, rfl, by decide +kernel, rfl, by decide +kernel, by decide +kernel⟩
theorem ok_is_order {f : Addr} {fd : FuncData} (F : Fun K "is_order" "is_order" s_is_order f fd) (hm : mg "is_order" = some (.ref f)) (B : Bi mg) (G_is_integer : DOk P w K mg base CX0 "is_integer" ["value"] 1 sp_is_integer) : DOk P w K mg base CX0 "is_order" ["calendar", "order"] 2 sp_is_order :=
  fn_data F sc_is_order hm (F.binds (ps := ["calendar", "order"]) (fun _ _ _ _ _ _ us hl => match us, hl with | [_, _], _ => rfl)) len_is_order (fun cdv A outer s H E hr =>
      (dss_cons (ds_asg (de_var 1) (dg_tup rfl (dgs_cons (dg_name (i := 2) sc_is_order.nd) (dgs_cons (dg_name (i := 3) sc_is_order.nd) (dgs_cons (dg_name (i := 4) sc_is_order.nd) dgs_nil)))))
      (dss_cons (ds_if (DW.dt (dw_or (dt_notin (de_var 2) (de_var 0)) (dw_or (dt_not (dt_val (de_call G_is_integer (hr.mono (by decide)) (da_cons (de_var 3) da_nil)))) (dw_or1 (dt_not (dt_chainD c_le c_lt de_int (de_var 3) (de_var 2))))))) (dss_one (ds_ret de_bl)) dss_nil)
      (dss_one (ds_ret (de_and (de_call G_is_integer (hr.mono (by decide)) (da_cons (de_var 4) da_nil)) (de_one (de_cmpD (c_ne hr.units) (de_var 4) de_int)))))))) (fun xs cs Q XP h => pure_is_order K xs cs Q XP h)
theorem sc_first_invalid_order : FnScope ["calendar", "orders", "index", "order"] ["calendar", "orders"] (defScope s_first_invalid_order) := ⟨rfl, rfl, rfl, by decide +kernel, rfl, by decide +kernel, by decide +kernel⟩
theorem ok_first_invalid_order {f : Addr} {fd : FuncData} (F : Fun K "first_invalid_order" "first_invalid_order" s_first_invalid_order f fd) (hm : mg "first_invalid_order" = some (.ref f)) (B : Bi mg) (G_is_order : DOk P w K mg base CX0 "is_order" ["calendar", "order"] 2 sp_is_order) : DOk P w K mg base CX0 "first_invalid_order" ["calendar", "orders"] 3 sp_first_invalid_order :=
  fn_data F sc_first_invalid_order hm (F.binds (ps := ["calendar", "orders"]) (fun _ _ _ _ _ _ us hl => match us, hl with | [_, _], _ => rfl)) len_first_invalid_order (fun cdv A outer s H E hr =>
      (dss_cons (ds_for (di_enum B.b_enumerate (da_cons (de_var 1) da_nil)) (dg_tup rfl (dgs_cons (dg_name (i := 2) sc_first_invalid_order.nd) (dgs_cons (dg_name (i := 3) sc_first_invalid_order.nd) dgs_nil))) (dss_one (ds_if (dt_not (dt_val (de_call G_is_order (hr.mono (by decide)) (da_cons (de_var 0) (da_cons (de_var 3) da_nil))))) (dss_one (ds_ret (de_var 2))) dss_nil)))
      (dss_one (ds_ret de_non)))) (fun xs cs Q XP h => pure_first_invalid_order K xs cs Q XP h)
theorem sc_validate_orders : FnScope ["calendar", "orders", "index"] ["calendar", "orders"] (defScope s_validate_orders) := ⟨rfl, rfl, rfl, by decide +kernel, rfl, by decide +kernel, by decide +kernel⟩
theorem ok_validate_orders {f : Addr} {fd : FuncData} (F : Fun K "validate_orders" "validate_orders" s_validate_orders f fd) (hm : mg "validate_orders" = some (.ref f)) (B : Bi mg) (G_validate_calendar : DOk P w K mg base CX0 "validate_calendar" ["calendar"] 2 sp_validate_calendar) (G_first_invalid_order : DOk P w K mg base CX0 "first_invalid_order" ["calendar", "orders"] 3 sp_first_invalid_order) : DOk P w K mg base CX0 "validate_orders" ["calendar", "orders"] 4 sp_validate_orders :=
  fn_data F sc_validate_orders hm (F.binds (ps := ["calendar", "orders"]) (fun _ _ _ _ _ _ us hl => match us, hl with | [_, _], _ => rfl)) len_validate_orders (fun cdv A outer s H E hr =>
      (dss_cons (ds_expr (de_call G_validate_calendar (hr.mono (by decide)) (da_cons (de_var 0) da_nil)))
      (dss_cons (ds_set (i := 2) sc_validate_orders.nd (de_call G_first_invalid_order (hr.mono (by decide)) (da_cons (de_var 0) (da_cons (de_var 1) da_nil))))
      (dss_one (ds_if (dt_cmpD c_notN (de_var 2) de_non) (dss_one ds_never) dss_nil))))) (fun xs cs Q XP h => pure_validate_orders K xs cs Q XP h)
theorem sc_flow_list : FnScope ["calendar", "orders", "amounts", "period", "day", "amount", "residue"] ["calendar", "orders"] (defScope s_flow_list) := ⟨rfl, rfl, rfl, by decide +kernel, rfl, by decide +kernel, by decide +kernel⟩
theorem ok_flow_list {f : Addr} {fd : FuncData} (F : Fun K "flow_list" "flow_list" s_flow_list f fd) (hm : mg "flow_list" = some (.ref f)) (B : Bi mg)  : DOk P w K mg base CX0 "flow_list" ["calendar", "orders"] 1 sp_flow_list :=
  fn_data F sc_flow_list hm (F.binds (ps := ["calendar", "orders"]) (fun _ _ _ _ _ _ us hl => match us, hl with | [_, _], _ => rfl)) len_flow_list (fun cdv A outer s H E hr =>
      (dss_cons (ds_set (i := 2) sc_flow_list.nd (de_rep (de_lst (da_cons de_int da_nil)) (de_ix (de_var 0) (de_neg de_int))))
      (dss_cons (ds_for (di_seq (de_var 1)) (dg_tup rfl (dgs_cons (dg_name (i := 3) sc_flow_list.nd) (dgs_cons (dg_name (i := 4) sc_flow_list.nd) (dgs_cons (dg_name (i := 5) sc_flow_list.nd) dgs_nil)))) (dss_one (ds_for (di_range3 B.b_range (da_cons (de_var 4) (da_cons (de_ix (de_var 0) (de_neg de_int)) (da_cons (de_var 3) da_nil)))) (dg_name (i := 6) sc_flow_list.nd) (dss_one (ds_augIx (de_var 2) (de_var 6) (de_var 5) ip_add)))))
      (dss_one (ds_ret (de_var 2)))))) (fun xs cs Q XP h => pure_flow_list K xs cs Q XP h)
theorem sc_flows : FnScope ["calendar", "orders"] ["calendar", "orders"] (defScope s_flows) := ⟨rfl, rfl, rfl, by decide +kernel, rfl, by decide +kernel, by decide +kernel⟩
theorem ok_flows {f : Addr} {fd : FuncData} (F : Fun K "flows" "flows" s_flows f fd) (hm : mg "flows" = some (.ref f)) (B : Bi mg) (G_validate_orders : DOk P w K mg base CX0 "validate_orders" ["calendar", "orders"] 4 sp_validate_orders) (G_flow_list : DOk P w K mg base CX0 "flow_list" ["calendar", "orders"] 1 sp_flow_list) : DOk P w K mg base CX0 "flows" ["calendar", "orders"] 5 sp_flows :=
  fn_data F sc_flows hm (F.binds (ps := ["calendar", "orders"]) (fun _ _ _ _ _ _ us hl => match us, hl with | [_, _], _ => rfl)) len_flows (fun cdv A outer s H E hr =>
      (dss_cons (ds_expr (de_call G_validate_orders (hr.mono (by decide)) (da_cons (de_var 0) (da_cons (de_var 1) da_nil))))
      (dss_one (ds_ret (de_call G_flow_list (hr.mono (by decide)) (da_cons (de_var 0) (da_cons (de_var 1) da_nil))))))) (fun xs cs Q XP h => pure_flows K xs cs Q XP h)
theorem sc_normal_list : FnScope ["calendar", "amounts", "cycle", "before", "orders", "period", "day", "amount"] ["calendar", "amounts"] (defScope s_normal_list) := ⟨rfl, rfl, rfl, by decide +kernel, rfl, by decide +kernel, by decide +kernel⟩
theorem ok_normal_list {f : Addr} {fd : FuncData} (F : Fun K "normal_list" "normal_list" s_normal_list f fd) (hm : mg "normal_list" = some (.ref f)) (B : Bi mg)  : DOk P w K mg base CX0 "normal_list" ["calendar", "amounts"] 1 sp_normal_list :=
  fn_data F sc_normal_list hm (F.binds (ps := ["calendar", "amounts"]) (fun _ _ _ _ _ _ us hl => match us, hl with | [_, _], _ => rfl)) len_normal_list (fun cdv A outer s H E hr =>
      (dss_cons (ds_par3 (i := 2) (j := 3) (l := 4) rfl sc_normal_list.nd (da_cons (de_ix (de_var 0) (de_neg de_int)) (da_cons de_non (da_cons (de_lst da_nil) da_nil))))
      (dss_cons (ds_for (di_seq (de_var 0)) (dg_name (i := 5) sc_normal_list.nd) (dss_cons (ds_for (di_range1 B.b_range (da_cons (de_var 5) da_nil)) (dg_name (i := 6) sc_normal_list.nd) (dss_cons (ds_set (i := 7) sc_normal_list.nd (de_ix (de_var 1) (de_sub (de_add (de_var 6) (de_var 2)) (de_var 5))))
      (dss_cons (ds_if (dt_cmpD c_notN (de_var 3) de_non) (dss_one (ds_aug (i := 7) sc_normal_list.nd (de_ix (de_var 1) (de_sub (de_add (de_mod (de_var 6) (de_var 3)) (de_var 2)) (de_var 3))) ip_sub)) dss_nil)
      (dss_one (ds_if (dt_cmpD (c_ne hr.units) (de_var 7) de_int) (dss_one (ds_expr (de_append (de_var 4) (de_tup (da_cons (de_var 5) (da_cons (de_var 6) (da_cons (de_var 7) da_nil))))))) dss_nil)))))
      (dss_one (ds_set (i := 3) sc_normal_list.nd (de_var 5)))))
      (dss_one (ds_ret (de_var 4)))))) (fun xs cs Q XP h => pure_normal_list K xs cs Q XP h)
theorem sc_normal_orders : FnScope ["calendar", "orders"] ["calendar", "orders"] (defScope s_normal_orders) := ⟨rfl, rfl, rfl, by decide +kernel, rfl, by decide +kernel, by decide +kernel⟩
theorem ok_normal_orders {f : Addr} {fd : FuncData} (F : Fun K "normal_orders" "normal_orders" s_normal_orders f fd) (hm : mg "normal_orders" = some (.ref f)) (B : Bi mg) (G_validate_orders : DOk P w K mg base CX0 "validate_orders" ["calendar", "orders"] 4 sp_validate_orders) (G_flow_list : DOk P w K mg base CX0 "flow_list" ["calendar", "orders"] 1 sp_flow_list) (G_normal_list : DOk P w K mg base CX0 "normal_list" ["calendar", "amounts"] 1 sp_normal_list) : DOk P w K mg base CX0 "normal_orders" ["calendar", "orders"] 5 sp_normal_orders :=
  fn_data F sc_normal_orders hm (F.binds (ps := ["calendar", "orders"]) (fun _ _ _ _ _ _ us hl => match us, hl with | [_, _], _ => rfl)) len_normal_orders (fun cdv A outer s H E hr =>
      (dss_cons (ds_expr (de_call G_validate_orders (hr.mono (by decide)) (da_cons (de_var 0) (da_cons (de_var 1) da_nil))))
      (dss_one (ds_ret (de_call G_normal_list (hr.mono (by decide)) (da_cons (de_var 0) (da_cons (de_call G_flow_list (hr.mono (by decide)) (da_cons (de_var 0) (da_cons (de_var 1) da_nil))) da_nil))))))) (fun xs cs Q XP h => pure_normal_orders K xs cs Q XP h)
theorem sc_law_start : FnScope ["_law_script", "_law_mixed", "_law_cell"] ["_law_script"] (defScope s_law_start) := ⟨rfl, rfl, rfl, by decide +kernel, rfl, by decide +kernel, by decide +kernel⟩
theorem ok_law_start {f : Addr} {fd : FuncData} (F : Fun K "_law_start" "_law_start" s_law_start f fd) (hm : mg "_law_start" = some (.ref f)) (B : Bi mg)  : DOk P w K mg base CX0 "_law_start" ["_law_script"] 1 sp_law_start :=
  fn_data F sc_law_start hm (F.binds (ps := ["_law_script"]) (fun _ _ _ _ _ _ us hl => match us, hl with | [_], _ => rfl)) len_law_start (fun cdv A outer s H E hr =>
      (dss_cons (ds_set (i := 1) sc_law_start.nd de_int)
      (dss_cons (ds_for (di_seq (de_var 0)) (dg_name (i := 2) sc_law_start.nd) (dss_one (ds_set (i := 1) sc_law_start.nd (de_mod (de_add (de_add (de_mul (de_var 1) de_int) (de_var 2)) de_int) de_int))))
      (dss_one (ds_ret (de_lst (da_cons (de_var 0) (da_cons de_int (da_cons (de_var 1) (da_cons de_int da_nil)))))))))) (fun xs cs Q XP h => pure_law_start K xs cs Q XP h)
theorem sc_law_drawn : FnScope ["_law_state", "_law_count", "_law_result", "_law_cell"] ["_law_state", "_law_count"] (defScope s_law_drawn) := ⟨rfl, rfl, rfl, by decide +kernel, rfl, by decide +kernel, by decide +kernel⟩
theorem ok_law_drawn {f : Addr} {fd : FuncData} (F : Fun K "_law_drawn" "_law_drawn" s_law_drawn f fd) (hm : mg "_law_drawn" = some (.ref f)) (B : Bi mg)  : DOk P w K mg base CX0 "_law_drawn" ["_law_state", "_law_count"] 1 sp_law_drawn :=
  fn_data F sc_law_drawn hm (F.binds (ps := ["_law_state", "_law_count"]) (fun _ _ _ _ _ _ us hl => match us, hl with | [_, _], _ => rfl)) len_law_drawn (fun cdv A outer s H E hr =>
      (dss_cons (ds_if (dt_cmpD c_gt (de_ix (de_var 0) de_int) de_int) (dss_cons (ds_set (i := 2) sc_law_drawn.nd (de_mod (de_ix (de_var 0) de_int) (de_var 1)))
      (dss_cons (ds_asg (de_div (de_ix (de_var 0) de_int) (de_var 1)) (dg_ix (de_var 0) de_int))
      (dss_one (ds_ret (de_var 2))))) dss_nil)
      (dss_cons (ds_asg (de_add (de_ix (de_var 0) de_int) de_int) (dg_ix (de_var 0) de_int))
      (dss_cons (ds_if (dt_cmpD c_le (de_ix (de_var 0) de_int) (de_len B.b_len (da_cons (de_ix (de_var 0) de_int) da_nil))) (dss_cons (ds_set (i := 3) sc_law_drawn.nd (de_ix (de_ix (de_var 0) de_int) (de_sub (de_ix (de_var 0) de_int) de_int)))
      (dss_cons (ds_asg (de_if (dt_cmpD c_ge (de_var 3) (de_pow de_int de_int)) (de_div (de_var 3) (de_var 1)) de_int) (dg_ix (de_var 0) de_int))
      (dss_one (ds_ret (de_mod (de_var 3) (de_var 1)))))) dss_nil)
      (dss_cons (ds_asg (de_mod (de_add (de_mul (de_ix (de_var 0) de_int) de_int) de_int) de_int) (dg_ix (de_var 0) de_int))
      (dss_one (ds_ret (de_mod (de_div (de_ix (de_var 0) de_int) de_int) (de_var 1))))))))) (fun xs cs Q XP h => pure_law_drawn K xs cs Q XP h)
theorem sc_law_same : FnScope ["_law_result", "_law_expected", "_law_k"] ["_law_result", "_law_expected"] (defScope s_law_same) := ⟨rfl, rfl, rfl, by decide +kernel, rfl, by decide +kernel, by decide +kernel⟩
theorem step_law_same {f : Addr} {fd : FuncData} {k : Nat} {n : Nat} (hk : 0 ≤ k) (F : Fun K "_law_same" "_law_same" s_law_same f fd) (hm : mg "_law_same" = some (.ref f)) (B : Bi mg)  (R : DOk P w K mg base CX0 "_law_same" ["_law_result", "_law_expected"] k (sp_law_same n)) : DOk P w K mg base CX0 "_law_same" ["_law_result", "_law_expected"] (k + 1) (sp_law_same (n + 1)) :=
  fn_data F sc_law_same hm (F.binds (ps := ["_law_result", "_law_expected"]) (fun _ _ _ _ _ _ us hl => match us, hl with | [_, _], _ => rfl)) len_law_same (fun cdv A outer s H E hr =>
      (dss_cons (ds_if (dt_val (de_isi2 .tuple .list B.b_isinstance B.b_tuple B.b_list (by decide +kernel) (by decide +kernel) (de_var 1))) (dss_cons (ds_if (DW.dt (dw_or (dt_not (dt_val (de_isi2 .tuple .list B.b_isinstance B.b_tuple B.b_list (by decide +kernel) (by decide +kernel) (de_var 0)))) (dw_or1 (dt_cmpD (c_ne hr.units) (de_isi .list B.b_isinstance B.b_list (by decide +kernel) (de_var 0)) (de_isi .list B.b_isinstance B.b_list (by decide +kernel) (de_var 1)))))) (dss_one (ds_ret de_bl)) dss_nil)
      (dss_cons (ds_if (dt_cmpD (c_ne hr.units) (de_len B.b_len (da_cons (de_var 0) da_nil)) (de_len B.b_len (da_cons (de_var 1) da_nil))) (dss_one (ds_ret de_bl)) dss_nil)
      (dss_one (ds_ret (de_cmpD (c_eq hr.units) (de_lc (own := [("_law_k", 2)]) sc_law_same.nd (di_range1 B.b_range (da_cons (de_len B.b_len (da_cons (de_var 1) da_nil)) da_nil)) (blkOk_by (N := ["_law_result", "_law_expected", "_law_k"]) (sc := defScope s_law_same) (by decide +kernel)) (fun _ _ _ _ _ => (dg_name (i := 2) sc_law_same.nd)) (fun _ _ _ _ _ => (dts_one (dt_not (dt_val (de_call R hr (da_cons (de_ix (de_var 0) (de_var 2)) (da_cons (de_ix (de_var 1) (de_var 2)) da_nil))))))) (fun _ _ _ _ _ => (de_var 2)) (by decide)) (de_lst da_nil)))))) dss_nil)
      (dss_cons (ds_if (dt_cmpD (c_ne hr.units) (de_isi .bool B.b_isinstance B.b_bool (by decide +kernel) (de_var 0)) (de_isi .bool B.b_isinstance B.b_bool (by decide +kernel) (de_var 1))) (dss_one (ds_ret de_bl)) dss_nil)
      (dss_one (ds_ret (de_and (de_cmpD (c_eq hr.units) (de_isi .int B.b_isinstance B.b_int (by decide +kernel) (de_var 0)) (de_isi .int B.b_isinstance B.b_int (by decide +kernel) (de_var 1))) (de_one (de_cmpD (c_eq hr.units) (de_var 0) (de_var 1))))))))) (fun xs cs Q XP h => pure_law_same K n xs cs Q XP h)
theorem ok_law_same {f : Addr} {fd : FuncData} (F : Fun K "_law_same" "_law_same" s_law_same f fd) (hm : mg "_law_same" = some (.ref f)) (B : Bi mg)  : DOk P w K mg base CX0 "_law_same" ["_law_result", "_law_expected"] 3 (sp_law_same 3) := by
  have R0 : DOk P w K mg base CX0 "_law_same" ["_law_result", "_law_expected"] 0 (sp_law_same 0) := never_data F hm (F.binds (ps := ["_law_result", "_law_expected"]) (fun _ _ _ _ _ _ us hl => match us, hl with | [_, _], _ => rfl))
  have R1 : DOk P w K mg base CX0 "_law_same" ["_law_result", "_law_expected"] 1 (sp_law_same 1) := step_law_same (by decide) F hm B  R0
  have R2 : DOk P w K mg base CX0 "_law_same" ["_law_result", "_law_expected"] 2 (sp_law_same 2) := step_law_same (by decide) F hm B  R1
  have R3 : DOk P w K mg base CX0 "_law_same" ["_law_result", "_law_expected"] 3 (sp_law_same 3) := step_law_same (by decide) F hm B  R2
  exact R3
theorem sc_law_calendar : FnScope ["_law_state", "_law_longest", "_law_periods", "_law_k", "_law_period"] ["_law_state", "_law_longest"] (defScope s_law_calendar) := ⟨rfl, rfl, rfl, by decide +kernel, rfl, by decide +kernel, by decide +kernel⟩
theorem ok_law_calendar {f : Addr} {fd : FuncData} (F : Fun K "_law_calendar" "_law_calendar" s_law_calendar f fd) (hm : mg "_law_calendar" = some (.ref f)) (B : Bi mg) (G_law_drawn : DOk P w K mg base CX0 "_law_drawn" ["_law_state", "_law_count"] 1 sp_law_drawn) : DOk P w K mg base CX0 "_law_calendar" ["_law_state", "_law_longest"] 2 sp_law_calendar :=
  fn_data F sc_law_calendar hm (F.binds (ps := ["_law_state", "_law_longest"]) (fun _ _ _ _ _ _ us hl => match us, hl with | [_, _], _ => rfl)) len_law_calendar (fun cdv A outer s H E hr =>
      (dss_cons (ds_set (i := 2) sc_law_calendar.nd (de_lst (da_cons (de_add de_int (de_call G_law_drawn (hr.mono (by decide)) (da_cons (de_var 0) (da_cons (de_min2 rfl B.b_min (da_cons de_int (da_cons (de_var 1) da_nil))) da_nil)))) da_nil)))
      (dss_cons (ds_for (di_range1 B.b_range (da_cons (de_call G_law_drawn (hr.mono (by decide)) (da_cons (de_var 0) (da_cons de_int da_nil))) da_nil)) (dg_name (i := 3) sc_law_calendar.nd) (dss_cons (ds_set (i := 4) sc_law_calendar.nd (de_mul (de_ix (de_var 2) (de_sub de_int de_int)) (de_add de_int (de_call G_law_drawn (hr.mono (by decide)) (da_cons (de_var 0) (da_cons de_int da_nil))))))
      (dss_one (ds_if (dt_cmpD c_le (de_var 4) (de_var 1)) (dss_one (ds_expr (de_append (de_var 2) (de_var 4)))) dss_nil))))
      (dss_one (ds_ret (de_tuple B.b_tuple (da_cons (de_var 2) da_nil))))))) (fun xs cs Q XP h => pure_law_calendar K xs cs Q XP h)
theorem sc_law_order : FnScope ["_law_state", "_law_calendar_here", "_law_high", "_law_period", "_law_amount"] ["_law_state", "_law_calendar_here", "_law_high"] (defScope s_law_order) := ⟨rfl, rfl, rfl, by decide +kernel, rfl, by decide +kernel, by decide +kernel⟩
theorem ok_law_order {f : Addr} {fd : FuncData} (F : Fun K "_law_order" "_law_order" s_law_order f fd) (hm : mg "_law_order" = some (.ref f)) (B : Bi mg) (G_law_drawn : DOk P w K mg base CX0 "_law_drawn" ["_law_state", "_law_count"] 1 sp_law_drawn) : DOk P w K mg base CX0 "_law_order" ["_law_state", "_law_calendar_here", "_law_high"] 2 sp_law_order :=
  fn_data F sc_law_order hm (F.binds (ps := ["_law_state", "_law_calendar_here", "_law_high"]) (fun _ _ _ _ _ _ us hl => match us, hl with | [_, _, _], _ => rfl)) len_law_order (fun cdv A outer s H E hr =>
      (dss_cons (ds_set (i := 3) sc_law_order.nd (de_ix (de_var 1) (de_call G_law_drawn (hr.mono (by decide)) (da_cons (de_var 0) (da_cons (de_len B.b_len (da_cons (de_var 1) da_nil)) da_nil)))))
      (dss_cons (ds_set (i := 4) sc_law_order.nd (de_add (de_call G_law_drawn (hr.mono (by decide)) (da_cons (de_var 0) (da_cons (de_var 2) da_nil))) de_int))
      (dss_one (ds_ret (de_tup (da_cons (de_var 3) (da_cons (de_call G_law_drawn (hr.mono (by decide)) (da_cons (de_var 0) (da_cons (de_var 3) da_nil))) (da_cons (de_if (dt_cmpD (c_eq hr.units) (de_call G_law_drawn (hr.mono (by decide)) (da_cons (de_var 0) (da_cons de_int da_nil))) de_int) (de_var 4) (de_sub de_int (de_var 4))) da_nil))))))))) (fun xs cs Q XP h => pure_law_order K xs cs Q XP h)
theorem sc_law_orders : FnScope ["_law_state", "_law_calendar_here", "_law_most", "_law_high", "_law_k"] ["_law_state", "_law_calendar_here", "_law_most", "_law_high"] (defScope s_law_orders) := ⟨rfl, rfl, rfl, by decide +kernel, rfl, by decide +kernel, by decide +kernel⟩
theorem ok_law_orders {f : Addr} {fd : FuncData} (F : Fun K "_law_orders" "_law_orders" s_law_orders f fd) (hm : mg "_law_orders" = some (.ref f)) (B : Bi mg) (G_law_drawn : DOk P w K mg base CX0 "_law_drawn" ["_law_state", "_law_count"] 1 sp_law_drawn) (G_law_order : DOk P w K mg base CX0 "_law_order" ["_law_state", "_law_calendar_here", "_law_high"] 2 sp_law_order) : DOk P w K mg base CX0 "_law_orders" ["_law_state", "_law_calendar_here", "_law_most", "_law_high"] 3 sp_law_orders :=
  fn_data F sc_law_orders hm (F.binds (ps := ["_law_state", "_law_calendar_here", "_law_most", "_law_high"]) (fun _ _ _ _ _ _ us hl => match us, hl with | [_, _, _, _], _ => rfl)) len_law_orders (fun cdv A outer s H E hr =>
      (dss_one (ds_ret (de_lc (own := [("_law_k", 4)]) sc_law_orders.nd (di_range1 B.b_range (da_cons (de_call G_law_drawn (hr.mono (by decide)) (da_cons (de_var 0) (da_cons (de_add (de_var 2) de_int) da_nil))) da_nil)) (blkOk_by (N := ["_law_state", "_law_calendar_here", "_law_most", "_law_high", "_law_k"]) (sc := defScope s_law_orders) (by decide +kernel)) (fun _ _ _ _ _ => (dg_name (i := 4) sc_law_orders.nd)) (fun _ _ _ _ _ => dts_nil) (fun _ _ _ _ _ => (de_call G_law_order (hr.mono (by decide)) (da_cons (de_var 0) (da_cons (de_var 1) (da_cons (de_var 3) da_nil))))) (by decide))))) (fun xs cs Q XP h => pure_law_orders K xs cs Q XP h)
theorem sc_law_is_last_child : FnScope ["_law_calendar_here", "_law_order_here", "_law_before", "_law_period"] ["_law_calendar_here", "_law_order_here"] (defScope s_law_is_last_child) := ⟨rfl, rfl, rfl, by decide +kernel, rfl, by decide +kernel, by decide +kernel⟩
theorem ok_law_is_last_child {f : Addr} {fd : FuncData} (F : Fun K "_law_is_last_child" "_law_is_last_child" s_law_is_last_child f fd) (hm : mg "_law_is_last_child" = some (.ref f)) (B : Bi mg)  : DOk P w K mg base CX0 "_law_is_last_child" ["_law_calendar_here", "_law_order_here"] 1 sp_law_is_last_child :=
  fn_data F sc_law_is_last_child hm (F.binds (ps := ["_law_calendar_here", "_law_order_here"]) (fun _ _ _ _ _ _ us hl => match us, hl with | [_, _], _ => rfl)) len_law_is_last_child (fun cdv A outer s H E hr =>
      (dss_cons (ds_setLc (i := 2) (own := [("_law_period", 3)]) sc_law_is_last_child.nd (di_seq (de_var 0)) (blkOk_by (N := ["_law_calendar_here", "_law_order_here", "_law_before", "_law_period"]) (sc := defScope s_law_is_last_child) (by decide +kernel)) (fun _ _ _ _ _ => (dg_name (i := 3) sc_law_is_last_child.nd)) (fun _ _ _ _ _ => (dts_one (dt_cmpD c_lt (de_var 3) (de_ix (de_var 1) de_int)))) (fun _ _ _ _ _ => (de_var 3)) (by decide) (sw_true rfl rfl rfl (by decide +kernel)))
      (dss_one (ds_ret (de_and (de_cmpD (c_ne hr.units) (de_var 2) (de_lst da_nil)) (de_one (de_cmpD c_ge (de_ix (de_var 1) de_int) (de_sub (de_ix (de_var 1) de_int) (de_max rfl B.b_max (da_cons (de_var 2) da_nil)))))))))) (fun xs cs Q XP h => pure_law_is_last_child K xs cs Q XP h)
theorem sc_law_other : FnScope ["_law_state", "_law_calendar_here", "_law_orders_here", "_law_result", "_law_period", "_law_day", "_law_amount", "_law_branch", "_law_later", "_law_longer", "_law_part", "_law_extra", "_law_at", "_law_one"] ["_law_state", "_law_calendar_here", "_law_orders_here"] (defScope s_law_other) := ⟨rfl, rfl, rfl, by decide +kernel, rfl, by decide +kernel, by decide +kernel⟩
theorem ok_law_other {f : Addr} {fd : FuncData} (F : Fun K "_law_other" "_law_other" s_law_other f fd) (hm : mg "_law_other" = some (.ref f)) (B : Bi mg) (G_law_drawn : DOk P w K mg base CX0 "_law_drawn" ["_law_state", "_law_count"] 1 sp_law_drawn) (G_law_order : DOk P w K mg base CX0 "_law_order" ["_law_state", "_law_calendar_here", "_law_high"] 2 sp_law_order) : DOk P w K mg base CX0 "_law_other" ["_law_state", "_law_calendar_here", "_law_orders_here"] 3 sp_law_other :=
  fn_data F sc_law_other hm (F.binds (ps := ["_law_state", "_law_calendar_here", "_law_orders_here"]) (fun _ _ _ _ _ _ us hl => match us, hl with | [_, _, _], _ => rfl)) len_law_other (fun cdv A outer s H E hr =>
      (dss_cons (ds_set (i := 3) sc_law_other.nd (de_lst da_nil))
      (dss_cons (ds_for (di_seq (de_var 2)) (dg_tup rfl (dgs_cons (dg_name (i := 4) sc_law_other.nd) (dgs_cons (dg_name (i := 5) sc_law_other.nd) (dgs_cons (dg_name (i := 6) sc_law_other.nd) dgs_nil)))) (dss_cons (ds_par (i := 7) (j := 8) rfl sc_law_other.nd (da_cons (de_call G_law_drawn (hr.mono (by decide)) (da_cons (de_var 0) (da_cons de_int da_nil))) (da_cons (de_lc (own := [("_law_one", 13)]) sc_law_other.nd (di_seq (de_var 1)) (blkOk_by (N := ["_law_state", "_law_calendar_here", "_law_orders_here", "_law_result", "_law_period", "_law_day", "_law_amount", "_law_branch", "_law_later", "_law_longer", "_law_part", "_law_extra", "_law_at", "_law_one"]) (sc := defScope s_law_other) (by decide +kernel)) (fun _ _ _ _ _ => (dg_name (i := 13) sc_law_other.nd)) (fun _ _ _ _ _ => (dts_one (dt_cmpD c_gt (de_var 13) (de_var 4)))) (fun _ _ _ _ _ => (de_var 13)) (by decide)) da_nil)))
      (dss_one (ds_if (DW.dt (dw_and (dt_cmpD (c_eq hr.units) (de_var 7) de_int) (dw_and1 (dt_cmpD (c_ne hr.units) (de_var 8) (de_lst da_nil))))) (dss_cons (ds_set (i := 9) sc_law_other.nd (de_ix (de_var 8) (de_call G_law_drawn (hr.mono (by decide)) (da_cons (de_var 0) (da_cons (de_len B.b_len (da_cons (de_var 8) da_nil)) da_nil)))))
      (dss_one (ds_set (i := 3) sc_law_other.nd (de_cat (de_var 3) (de_lc (own := [("_law_one", 13)]) sc_law_other.nd (di_range3 B.b_range (da_cons (de_var 5) (da_cons (de_var 9) (da_cons (de_var 4) da_nil)))) (blkOk_by (N := ["_law_state", "_law_calendar_here", "_law_orders_here", "_law_result", "_law_period", "_law_day", "_law_amount", "_law_branch", "_law_later", "_law_longer", "_law_part", "_law_extra", "_law_at", "_law_one"]) (sc := defScope s_law_other) (by decide +kernel)) (fun _ _ _ _ _ => (dg_name (i := 13) sc_law_other.nd)) (fun _ _ _ _ _ => dts_nil) (fun _ _ _ _ _ => (de_tup (da_cons (de_var 9) (da_cons (de_var 13) (da_cons (de_var 6) da_nil))))) (by decide)))))) (dss_one (ds_if (dt_cmpD (c_eq hr.units) (de_var 7) de_int) (dss_cons (ds_set (i := 10) sc_law_other.nd (de_add de_int (de_call G_law_drawn (hr.mono (by decide)) (da_cons (de_var 0) (da_cons de_int da_nil)))))
      (dss_one (ds_set (i := 3) sc_law_other.nd (de_cat (de_cat (de_var 3) (de_lst (da_cons (de_tup (da_cons (de_var 4) (da_cons (de_var 5) (da_cons (de_var 10) da_nil)))) da_nil))) (de_rep (de_lst (da_cons (de_tup (da_cons (de_var 4) (da_cons (de_var 5) (da_cons (de_sub (de_var 6) (de_var 10)) da_nil)))) da_nil)) (de_int1 B.b_int (da_cons (de_cmpD (c_ne hr.units) (de_var 6) (de_var 10)) da_nil))))))) (dss_one (ds_expr (de_append (de_var 3) (de_tup (da_cons (de_var 4) (da_cons (de_var 5) (da_cons (de_var 6) da_nil)))))))))))))
      (dss_cons (ds_set (i := 11) sc_law_other.nd (de_call G_law_order (hr.mono (by decide)) (da_cons (de_var 0) (da_cons (de_var 1) (da_cons de_int da_nil)))))
      (dss_cons (ds_set (i := 3) sc_law_other.nd (de_cat (de_var 3) (de_lst (da_cons (de_var 11) (da_cons (de_catT (de_slT (de_var 11) do_none (do_some de_int)) (de_tup (da_cons (de_sub de_int (de_ix (de_var 11) de_int)) da_nil))) da_nil)))))
      (dss_cons (ds_set (i := 12) sc_law_other.nd (de_call G_law_drawn (hr.mono (by decide)) (da_cons (de_var 0) (da_cons (de_len B.b_len (da_cons (de_var 3) da_nil)) da_nil))))
      (dss_one (ds_ret (de_cat (de_slL (de_var 3) (do_some (de_var 12)) do_none) (de_slL (de_var 3) do_none (do_some (de_var 12)))))))))))) (fun xs cs Q XP h => pure_law_other K xs cs Q XP h)
theorem sc_law : FnScope ["_law_script", "_law_state", "_law_turn", "_law_calendar_here", "_law_orders_here", "_law_actual", "_law_order_here"] ["_law_script"] (defScope s_law) := ⟨rfl, rfl, rfl, by decide +kernel, rfl, by decide +kernel, by decide +kernel⟩
theorem ok_law {f : Addr} {fd : FuncData} (F : Fun K "law" "law" s_law f fd) (B : Bi mg) (G_law_start : DOk P w K mg base CX0 "_law_start" ["_law_script"] 1 sp_law_start) (G_law_drawn : DOk P w K mg base CX0 "_law_drawn" ["_law_state", "_law_count"] 1 sp_law_drawn) (G_law_calendar : DOk P w K mg base CX0 "_law_calendar" ["_law_state", "_law_longest"] 2 sp_law_calendar) (G_law_orders : DOk P w K mg base CX0 "_law_orders" ["_law_state", "_law_calendar_here", "_law_most", "_law_high"] 3 sp_law_orders) (G_normal_orders : DOk P w K mg base CX0 "normal_orders" ["calendar", "orders"] 5 sp_normal_orders) (G_flows : DOk P w K mg base CX0 "flows" ["calendar", "orders"] 5 sp_flows) (G_law_is_last_child : DOk P w K mg base CX0 "_law_is_last_child" ["_law_calendar_here", "_law_order_here"] 1 sp_law_is_last_child) (G_law_other : DOk P w K mg base CX0 "_law_other" ["_law_state", "_law_calendar_here", "_law_orders_here"] 3 sp_law_other) (G_law_same : DOk P w K mg base CX0 "_law_same" ["_law_result", "_law_expected"] 3 (sp_law_same 3)) : FnOk P w K mg base CX0 6 f fd ["_law_script"] (liftSp K sp_law) :=
  fn_dataF F sc_law len_law (fun cdv A outer s H E hr =>
      (dss_cons (ds_set (i := 1) sc_law.nd (de_call G_law_start (hr.mono (by decide)) (da_cons (de_var 0) da_nil)))
      (dss_cons (ds_for (di_range1 B.b_range (da_cons de_int da_nil)) (dg_name (i := 2) sc_law.nd) (dss_cons (ds_set (i := 3) sc_law.nd (de_call G_law_calendar (hr.mono (by decide)) (da_cons (de_var 1) (da_cons (de_ix (de_lst (da_cons de_int (da_cons de_int (da_cons de_int da_nil)))) (de_call G_law_drawn (hr.mono (by decide)) (da_cons (de_var 1) (da_cons de_int da_nil)))) da_nil))))
      (dss_cons (ds_set (i := 4) sc_law.nd (de_call G_law_orders (hr.mono (by decide)) (da_cons (de_var 1) (da_cons (de_var 3) (da_cons de_int (da_cons de_int da_nil))))))
      (dss_cons (ds_set (i := 5) sc_law.nd (de_call G_normal_orders (hr.mono (by decide)) (da_cons (de_var 3) (da_cons (de_var 4) da_nil))))
      (dss_cons (ds_if (DW.dt (dw_or (dt_not (dt_val (de_isi .list B.b_isinstance B.b_list (by decide +kernel) (de_var 5)))) (dw_or1 (dt_cmpD (c_ne hr.units) (de_call G_flows (hr.mono (by decide)) (da_cons (de_var 3) (da_cons (de_var 5) da_nil))) (de_call G_flows (hr.mono (by decide)) (da_cons (de_var 3) (da_cons (de_var 4) da_nil))))))) (dss_one (ds_ret de_bl)) dss_nil)
      (dss_cons (ds_if (DW.dt (dw_or (dt_cmpD (c_ne hr.units) (de_var 5) (de_sortT hr.units B.b_sorted (da_cons (de_var 5) da_nil))) (dw_or1 (dt_cmpD (c_ne hr.units) (de_lenSet rfl hr.units B.b_len B.b_set (de_lc (own := [("_law_order_here", 6)]) sc_law.nd (di_seq (de_var 5)) (blkOk_by (N := ["_law_script", "_law_state", "_law_turn", "_law_calendar_here", "_law_orders_here", "_law_actual", "_law_order_here"]) (sc := defScope s_law) (by decide +kernel)) (fun _ _ _ _ _ => (dg_name (i := 6) sc_law.nd)) (fun _ _ _ _ _ => dts_nil) (fun _ _ _ _ _ => (de_slT (de_var 6) do_none (do_some de_int))) (by decide))) (de_len B.b_len (da_cons (de_var 5) da_nil)))))) (dss_one (ds_ret de_bl)) dss_nil)
      (dss_cons (ds_if (dt_cmpD (c_ne hr.units) (de_lc (own := [("_law_order_here", 6)]) sc_law.nd (di_seq (de_var 5)) (blkOk_by (N := ["_law_script", "_law_state", "_law_turn", "_law_calendar_here", "_law_orders_here", "_law_actual", "_law_order_here"]) (sc := defScope s_law) (by decide +kernel)) (fun _ _ _ _ _ => (dg_name (i := 6) sc_law.nd)) (fun _ _ _ _ _ => (dts_one (dt_val (de_call G_law_is_last_child (hr.mono (by decide)) (da_cons (de_var 3) (da_cons (de_var 6) da_nil)))))) (fun _ _ _ _ _ => (de_var 6)) (by decide)) (de_lst da_nil)) (dss_one (ds_ret de_bl)) dss_nil)
      (dss_cons (ds_if (dt_not (dt_val (de_call G_law_same (hr.mono (by decide)) (da_cons (de_call G_normal_orders (hr.mono (by decide)) (da_cons (de_var 3) (da_cons (de_call G_law_other (hr.mono (by decide)) (da_cons (de_var 1) (da_cons (de_var 3) (da_cons (de_var 4) da_nil)))) da_nil))) (da_cons (de_var 5) da_nil))))) (dss_one (ds_ret de_bl)) dss_nil)
      (dss_one (ds_if (dt_cmpD (c_ne hr.units) (de_call G_normal_orders (hr.mono (by decide)) (da_cons (de_var 3) (da_cons (de_var 5) da_nil))) (de_var 5)) (dss_one (ds_ret de_bl)) dss_nil))))))))))
      (dss_one (ds_ret de_bl))))) (fun xs cs Q XP h => pure_law K xs cs Q XP h)
end
theorem all_mk {l : PySem.W.OpenLaw} {w : World} {K : PySem.W.Frag} {h : Heap} {mg : Str → Option Value} {fa f0 f1 f2 f3 f4 f5 f6 f7 f8 f9 f10 f11 f12 f13 f14 f15 f16 f17 : Addr} (X : K.In h) (G : h.Ns mainGlobals mg) (hfa : mg "law" = some (.ref fa))
    {od0 an0 od1 an1 od2 an2 od3 an3 od4 an4 od5 an5 od6 an6 od7 an7 od8 an8 od9 an9 od10 an10 od11 an11 od12 an12 od13 an13 od14 an14 od15 an15 od16 an16 od17 an17 : Option Addr} {sl0 sl1 sl2 sl3 sl4 sl5 sl6 sl7 sl8 sl9 sl10 sl11 sl12 sl13 sl14 sl15 sl16 sl17 : Array (Option Value)} {oc0 kV0 dc0 pm0 cd0 ct0 oc1 kV1 dc1 pm1 cd1 ct1 oc2 kV2 dc2 pm2 cd2 ct2 oc3 kV3 dc3 pm3 cd3 ct3 oc4 kV4 dc4 pm4 cd4 ct4 oc5 kV5 dc5 pm5 cd5 ct5 oc6 kV6 dc6 pm6 cd6 ct6 oc7 kV7 dc7 pm7 cd7 ct7 oc8 kV8 dc8 pm8 cd8 ct8 oc9 kV9 dc9 pm9 cd9 ct9 oc10 kV10 dc10 pm10 cd10 ct10 oc11 kV11 dc11 pm11 cd11 ct11 oc12 kV12 dc12 pm12 cd12 ct12 oc13 kV13 dc13 pm13 cd13 ct13 oc14 kV14 dc14 pm14 cd14 ct14 oc15 kV15 dc15 pm15 cd15 ct15 oc16 kV16 dc16 pm16 cd16 ct16 oc17 kV17 dc17 pm17 cd17 ct17 : Value}
    {t_MAX_PERIOD t_MAX_PERIODS : Tok}
    (a0 : PySem.W.nsIn K mainGlobals "is_integer" = some (some (.ref f0))) (l0 : K.lookup f0 = some ⟨oc0, od0, .func (PySem.W.fnOf "is_integer" "is_integer" (defArgs s_is_integer) (defBody s_is_integer) (defScope s_is_integer) .none kV0 dc0 pm0 an0 cd0 ct0), sl0⟩) (c0 : PySem.W.codeIn K cd0 "is_integer" = true) (k0 : PySem.W.keepIn K (.ref f0) = true)
    (a1 : PySem.W.nsIn K mainGlobals "validate_calendar" = some (some (.ref f1))) (l1 : K.lookup f1 = some ⟨oc1, od1, .func (PySem.W.fnOf "validate_calendar" "validate_calendar" (defArgs s_validate_calendar) (defBody s_validate_calendar) (defScope s_validate_calendar) .none kV1 dc1 pm1 an1 cd1 ct1), sl1⟩) (c1 : PySem.W.codeIn K cd1 "validate_calendar" = true) (k1 : PySem.W.keepIn K (.ref f1) = true)
    (a2 : PySem.W.nsIn K mainGlobals "is_order" = some (some (.ref f2))) (l2 : K.lookup f2 = some ⟨oc2, od2, .func (PySem.W.fnOf "is_order" "is_order" (defArgs s_is_order) (defBody s_is_order) (defScope s_is_order) .none kV2 dc2 pm2 an2 cd2 ct2), sl2⟩) (c2 : PySem.W.codeIn K cd2 "is_order" = true) (k2 : PySem.W.keepIn K (.ref f2) = true)
    (a3 : PySem.W.nsIn K mainGlobals "first_invalid_order" = some (some (.ref f3))) (l3 : K.lookup f3 = some ⟨oc3, od3, .func (PySem.W.fnOf "first_invalid_order" "first_invalid_order" (defArgs s_first_invalid_order) (defBody s_first_invalid_order) (defScope s_first_invalid_order) .none kV3 dc3 pm3 an3 cd3 ct3), sl3⟩) (c3 : PySem.W.codeIn K cd3 "first_invalid_order" = true) (k3 : PySem.W.keepIn K (.ref f3) = true)
    (a4 : PySem.W.nsIn K mainGlobals "validate_orders" = some (some (.ref f4))) (l4 : K.lookup f4 = some ⟨oc4, od4, .func (PySem.W.fnOf "validate_orders" "validate_orders" (defArgs s_validate_orders) (defBody s_validate_orders) (defScope s_validate_orders) .none kV4 dc4 pm4 an4 cd4 ct4), sl4⟩) (c4 : PySem.W.codeIn K cd4 "validate_orders" = true) (k4 : PySem.W.keepIn K (.ref f4) = true)
    (a5 : PySem.W.nsIn K mainGlobals "flow_list" = some (some (.ref f5))) (l5 : K.lookup f5 = some ⟨oc5, od5, .func (PySem.W.fnOf "flow_list" "flow_list" (defArgs s_flow_list) (defBody s_flow_list) (defScope s_flow_list) .none kV5 dc5 pm5 an5 cd5 ct5), sl5⟩) (c5 : PySem.W.codeIn K cd5 "flow_list" = true) (k5 : PySem.W.keepIn K (.ref f5) = true)
    (a6 : PySem.W.nsIn K mainGlobals "flows" = some (some (.ref f6))) (l6 : K.lookup f6 = some ⟨oc6, od6, .func (PySem.W.fnOf "flows" "flows" (defArgs s_flows) (defBody s_flows) (defScope s_flows) .none kV6 dc6 pm6 an6 cd6 ct6), sl6⟩) (c6 : PySem.W.codeIn K cd6 "flows" = true) (k6 : PySem.W.keepIn K (.ref f6) = true)
    (a7 : PySem.W.nsIn K mainGlobals "normal_list" = some (some (.ref f7))) (l7 : K.lookup f7 = some ⟨oc7, od7, .func (PySem.W.fnOf "normal_list" "normal_list" (defArgs s_normal_list) (defBody s_normal_list) (defScope s_normal_list) .none kV7 dc7 pm7 an7 cd7 ct7), sl7⟩) (c7 : PySem.W.codeIn K cd7 "normal_list" = true) (k7 : PySem.W.keepIn K (.ref f7) = true)
    (a8 : PySem.W.nsIn K mainGlobals "normal_orders" = some (some (.ref f8))) (l8 : K.lookup f8 = some ⟨oc8, od8, .func (PySem.W.fnOf "normal_orders" "normal_orders" (defArgs s_normal_orders) (defBody s_normal_orders) (defScope s_normal_orders) .none kV8 dc8 pm8 an8 cd8 ct8), sl8⟩) (c8 : PySem.W.codeIn K cd8 "normal_orders" = true) (k8 : PySem.W.keepIn K (.ref f8) = true)
    (a9 : PySem.W.nsIn K mainGlobals "_law_start" = some (some (.ref f9))) (l9 : K.lookup f9 = some ⟨oc9, od9, .func (PySem.W.fnOf "_law_start" "_law_start" (defArgs s_law_start) (defBody s_law_start) (defScope s_law_start) .none kV9 dc9 pm9 an9 cd9 ct9), sl9⟩) (c9 : PySem.W.codeIn K cd9 "_law_start" = true) (k9 : PySem.W.keepIn K (.ref f9) = true)
    (a10 : PySem.W.nsIn K mainGlobals "_law_drawn" = some (some (.ref f10))) (l10 : K.lookup f10 = some ⟨oc10, od10, .func (PySem.W.fnOf "_law_drawn" "_law_drawn" (defArgs s_law_drawn) (defBody s_law_drawn) (defScope s_law_drawn) .none kV10 dc10 pm10 an10 cd10 ct10), sl10⟩) (c10 : PySem.W.codeIn K cd10 "_law_drawn" = true) (k10 : PySem.W.keepIn K (.ref f10) = true)
    (a11 : PySem.W.nsIn K mainGlobals "_law_same" = some (some (.ref f11))) (l11 : K.lookup f11 = some ⟨oc11, od11, .func (PySem.W.fnOf "_law_same" "_law_same" (defArgs s_law_same) (defBody s_law_same) (defScope s_law_same) .none kV11 dc11 pm11 an11 cd11 ct11), sl11⟩) (c11 : PySem.W.codeIn K cd11 "_law_same" = true) (k11 : PySem.W.keepIn K (.ref f11) = true)
    (a12 : PySem.W.nsIn K mainGlobals "_law_calendar" = some (some (.ref f12))) (l12 : K.lookup f12 = some ⟨oc12, od12, .func (PySem.W.fnOf "_law_calendar" "_law_calendar" (defArgs s_law_calendar) (defBody s_law_calendar) (defScope s_law_calendar) .none kV12 dc12 pm12 an12 cd12 ct12), sl12⟩) (c12 : PySem.W.codeIn K cd12 "_law_calendar" = true) (k12 : PySem.W.keepIn K (.ref f12) = true)
    (a13 : PySem.W.nsIn K mainGlobals "_law_order" = some (some (.ref f13))) (l13 : K.lookup f13 = some ⟨oc13, od13, .func (PySem.W.fnOf "_law_order" "_law_order" (defArgs s_law_order) (defBody s_law_order) (defScope s_law_order) .none kV13 dc13 pm13 an13 cd13 ct13), sl13⟩) (c13 : PySem.W.codeIn K cd13 "_law_order" = true) (k13 : PySem.W.keepIn K (.ref f13) = true)
    (a14 : PySem.W.nsIn K mainGlobals "_law_orders" = some (some (.ref f14))) (l14 : K.lookup f14 = some ⟨oc14, od14, .func (PySem.W.fnOf "_law_orders" "_law_orders" (defArgs s_law_orders) (defBody s_law_orders) (defScope s_law_orders) .none kV14 dc14 pm14 an14 cd14 ct14), sl14⟩) (c14 : PySem.W.codeIn K cd14 "_law_orders" = true) (k14 : PySem.W.keepIn K (.ref f14) = true)
    (a15 : PySem.W.nsIn K mainGlobals "_law_is_last_child" = some (some (.ref f15))) (l15 : K.lookup f15 = some ⟨oc15, od15, .func (PySem.W.fnOf "_law_is_last_child" "_law_is_last_child" (defArgs s_law_is_last_child) (defBody s_law_is_last_child) (defScope s_law_is_last_child) .none kV15 dc15 pm15 an15 cd15 ct15), sl15⟩) (c15 : PySem.W.codeIn K cd15 "_law_is_last_child" = true) (k15 : PySem.W.keepIn K (.ref f15) = true)
    (a16 : PySem.W.nsIn K mainGlobals "_law_other" = some (some (.ref f16))) (l16 : K.lookup f16 = some ⟨oc16, od16, .func (PySem.W.fnOf "_law_other" "_law_other" (defArgs s_law_other) (defBody s_law_other) (defScope s_law_other) .none kV16 dc16 pm16 an16 cd16 ct16), sl16⟩) (c16 : PySem.W.codeIn K cd16 "_law_other" = true) (k16 : PySem.W.keepIn K (.ref f16) = true)
    (a17 : PySem.W.nsIn K mainGlobals "law" = some (some (.ref f17))) (l17 : K.lookup f17 = some ⟨oc17, od17, .func (PySem.W.fnOf "law" "law" (defArgs s_law) (defBody s_law) (defScope s_law) .none kV17 dc17 pm17 an17 cd17 ct17), sl17⟩) (c17 : PySem.W.codeIn K cd17 "law" = true) (k17 : PySem.W.keepIn K (.ref f17) = true)
    (z_bool : PySem.W.nsIn K mainGlobals "bool" = some none)
    (z_enumerate : PySem.W.nsIn K mainGlobals "enumerate" = some none)
    (z_int : PySem.W.nsIn K mainGlobals "int" = some none)
    (z_isinstance : PySem.W.nsIn K mainGlobals "isinstance" = some none)
    (z_len : PySem.W.nsIn K mainGlobals "len" = some none)
    (z_list : PySem.W.nsIn K mainGlobals "list" = some none)
    (z_max : PySem.W.nsIn K mainGlobals "max" = some none)
    (z_min : PySem.W.nsIn K mainGlobals "min" = some none)
    (z_range : PySem.W.nsIn K mainGlobals "range" = some none)
    (z_set : PySem.W.nsIn K mainGlobals "set" = some none)
    (z_sorted : PySem.W.nsIn K mainGlobals "sorted" = some none)
    (z_tuple : PySem.W.nsIn K mainGlobals "tuple" = some none)
    (y_MAX_PERIOD : PySem.W.nsIn K mainGlobals "MAX_PERIOD" = some (some (.int 400 t_MAX_PERIOD)))
    (y_MAX_PERIODS : PySem.W.nsIn K mainGlobals "MAX_PERIODS" = some (some (.int 5 t_MAX_PERIODS)))
    : ∃ fd : FuncData, (∀ (s : Shared) (v : Value), BindsTo s fd ⟨[v], []⟩ [("_law_script", v)]) ∧ ∀ base : Heap, K.In base → base.Ns mainGlobals mg → FnOk l.prog w K mg base CX0 6 fa fd ["_law_script"] (spLaw K) := by
  have e := hfa.symm.trans (PySem.W.mg_of X G a17)
  cases e
  have B : Bi mg := ⟨PySem.W.mg_none_of X G z_bool, PySem.W.mg_none_of X G z_enumerate, PySem.W.mg_none_of X G z_int, PySem.W.mg_none_of X G z_isinstance, PySem.W.mg_none_of X G z_len, PySem.W.mg_none_of X G z_list, PySem.W.mg_none_of X G z_max, PySem.W.mg_none_of X G z_min, PySem.W.mg_none_of X G z_range, PySem.W.mg_none_of X G z_set, PySem.W.mg_none_of X G z_sorted, PySem.W.mg_none_of X G z_tuple, ⟨_, PySem.W.mg_of X G y_MAX_PERIOD⟩, ⟨_, PySem.W.mg_of X G y_MAX_PERIODS⟩⟩
  refine ⟨PySem.W.fnOf "law" "law" (defArgs s_law) (defBody s_law) (defScope s_law) .none kV17 dc17 pm17 an17 cd17 ct17, fun s v => .of_eq rfl, fun base _ _ => ?_⟩
  have G_is_integer := ok_is_integer (P := l.prog) (w := w) (base := base) (fun_mk (st := s_is_integer) l0 c0 k0) (PySem.W.mg_of X G a0) B 
  have G_validate_calendar := ok_validate_calendar (P := l.prog) (w := w) (base := base) (fun_mk (st := s_validate_calendar) l1 c1 k1) (PySem.W.mg_of X G a1) B G_is_integer
  have G_is_order := ok_is_order (P := l.prog) (w := w) (base := base) (fun_mk (st := s_is_order) l2 c2 k2) (PySem.W.mg_of X G a2) B G_is_integer
  have G_first_invalid_order := ok_first_invalid_order (P := l.prog) (w := w) (base := base) (fun_mk (st := s_first_invalid_order) l3 c3 k3) (PySem.W.mg_of X G a3) B G_is_order
  have G_validate_orders := ok_validate_orders (P := l.prog) (w := w) (base := base) (fun_mk (st := s_validate_orders) l4 c4 k4) (PySem.W.mg_of X G a4) B G_validate_calendar G_first_invalid_order
  have G_flow_list := ok_flow_list (P := l.prog) (w := w) (base := base) (fun_mk (st := s_flow_list) l5 c5 k5) (PySem.W.mg_of X G a5) B 
  have G_flows := ok_flows (P := l.prog) (w := w) (base := base) (fun_mk (st := s_flows) l6 c6 k6) (PySem.W.mg_of X G a6) B G_validate_orders G_flow_list
  have G_normal_list := ok_normal_list (P := l.prog) (w := w) (base := base) (fun_mk (st := s_normal_list) l7 c7 k7) (PySem.W.mg_of X G a7) B 
  have G_normal_orders := ok_normal_orders (P := l.prog) (w := w) (base := base) (fun_mk (st := s_normal_orders) l8 c8 k8) (PySem.W.mg_of X G a8) B G_validate_orders G_flow_list G_normal_list
  have G_law_start := ok_law_start (P := l.prog) (w := w) (base := base) (fun_mk (st := s_law_start) l9 c9 k9) (PySem.W.mg_of X G a9) B 
  have G_law_drawn := ok_law_drawn (P := l.prog) (w := w) (base := base) (fun_mk (st := s_law_drawn) l10 c10 k10) (PySem.W.mg_of X G a10) B 
  have G_law_same := ok_law_same (P := l.prog) (w := w) (base := base) (fun_mk (st := s_law_same) l11 c11 k11) (PySem.W.mg_of X G a11) B 
  have G_law_calendar := ok_law_calendar (P := l.prog) (w := w) (base := base) (fun_mk (st := s_law_calendar) l12 c12 k12) (PySem.W.mg_of X G a12) B G_law_drawn
  have G_law_order := ok_law_order (P := l.prog) (w := w) (base := base) (fun_mk (st := s_law_order) l13 c13 k13) (PySem.W.mg_of X G a13) B G_law_drawn
  have G_law_orders := ok_law_orders (P := l.prog) (w := w) (base := base) (fun_mk (st := s_law_orders) l14 c14 k14) (PySem.W.mg_of X G a14) B G_law_drawn G_law_order
  have G_law_is_last_child := ok_law_is_last_child (P := l.prog) (w := w) (base := base) (fun_mk (st := s_law_is_last_child) l15 c15 k15) (PySem.W.mg_of X G a15) B 
  have G_law_other := ok_law_other (P := l.prog) (w := w) (base := base) (fun_mk (st := s_law_other) l16 c16 k16) (PySem.W.mg_of X G a16) B G_law_drawn G_law_order
  exact (ok_law (fun_mk (st := s_law) l17 c17 k17) B G_law_start G_law_drawn G_law_calendar G_law_orders G_normal_orders G_flows G_law_is_last_child G_law_other G_law_same).imp (law_imp fun ns cs Q XP hl q => law_start ns cs Q XP hl q)
theorem walk {l : PySem.W.OpenLaw} {q : Program} {loose : List Str} {XP : (Str → Option Value) → Heap → Prop} {YP : World → Heap → Prop} {d : DefRec} {K : Params → PySem.W.Frag} (hn : l.most = some 63) (hdf : d.params.defaults = [])
    (hY : ∀ (w : World) (h : Heap), YP w h → (K w.params).In h)
    (F : ∀ (w : World) (mg : Str → Option Value) (fa : Addr) (h : Heap), (K w.params).In h → h.Ns mainGlobals mg → mg d.name = some (.ref fa) →
      ∃ fd : FuncData, (∀ (s : Shared) (u : Value), BindsTo s fd ⟨[u], []⟩ [("_law_script", u)]) ∧ ∀ base : Heap, (K w.params).In base → base.Ns mainGlobals mg → FnOk l.prog w (K w.params) mg base CX0 6 fa fd ["_law_script"] (spLaw (K w.params))) :
    PySem.W.WalkO q loose XP YP l.row.toRowW d [] (fun f vs => PySem.call f vs) :=
  L2.walk_of (n := 63) (k := 6) (x := "_law_script") (CX := fun _ => CX0) (sp := fun w => spLaw (K w.params)) hn (by decide) hdf ⟨rfl, by decide, by decide⟩ hY F (fun _ _ a ns hl _ hS => ⟨a, ns, rfl, hS, hl, fun _ => rfl⟩) fun _ _ _ _ _ z => z
end Law
open PySem PySem.W PyProof.Rows
set_option maxRecDepth 100000 in
set_option maxHeartbeats 0 in
theorem PySem.Challenge.cw_standingorders_k07_normal_form_holds : PySem.Challenge.rw_standingorders_k07_normal_form.Holds := by
  w_on; o_law; k_head; (case hw => w_witness2)
  k_fill
  refine Law.walk (l := PySem.Challenge.rw_standingorders_k07_normal_form) rfl rfl (fun w h Y => PySem.W.kIn_of Y) ?F
  case F =>
    intro w mg fa h KX G hmg
    refine' Law.all_mk KX G hmg ?a0 ?l0 ?c0 ?k0 ?a1 ?l1 ?c1 ?k1 ?a2 ?l2 ?c2 ?k2 ?a3 ?l3 ?c3 ?k3 ?a4 ?l4 ?c4 ?k4 ?a5 ?l5 ?c5 ?k5 ?a6 ?l6 ?c6 ?k6 ?a7 ?l7 ?c7 ?k7 ?a8 ?l8 ?c8 ?k8 ?a9 ?l9 ?c9 ?k9 ?a10 ?l10 ?c10 ?k10 ?a11 ?l11 ?c11 ?k11 ?a12 ?l12 ?c12 ?k12 ?a13 ?l13 ?c13 ?k13 ?a14 ?l14 ?c14 ?k14 ?a15 ?l15 ?c15 ?k15 ?a16 ?l16 ?c16 ?k16 ?a17 ?l17 ?c17 ?k17 ?z_bool ?z_enumerate ?z_int ?z_isinstance ?z_len ?z_list ?z_max ?z_min ?z_range ?z_set ?z_sorted ?z_tuple ?y_MAX_PERIOD ?y_MAX_PERIODS
    (case a0 => k_is); (case l0 => k_is); (case c0 => k_is); (case k0 => k_is); (case a1 => k_is); (case l1 => k_is); (case c1 => k_is); (case k1 => k_is); (case a2 => k_is); (case l2 => k_is); (case c2 => k_is); (case k2 => k_is); (case a3 => k_is); (case l3 => k_is); (case c3 => k_is); (case k3 => k_is); (case a4 => k_is); (case l4 => k_is); (case c4 => k_is); (case k4 => k_is); (case a5 => k_is); (case l5 => k_is); (case c5 => k_is); (case k5 => k_is); (case a6 => k_is); (case l6 => k_is); (case c6 => k_is); (case k6 => k_is); (case a7 => k_is); (case l7 => k_is); (case c7 => k_is); (case k7 => k_is); (case a8 => k_is); (case l8 => k_is); (case c8 => k_is); (case k8 => k_is); (case a9 => k_is); (case l9 => k_is); (case c9 => k_is); (case k9 => k_is); (case a10 => k_is); (case l10 => k_is); (case c10 => k_is); (case k10 => k_is); (case a11 => k_is); (case l11 => k_is); (case c11 => k_is); (case k11 => k_is); (case a12 => k_is); (case l12 => k_is); (case c12 => k_is); (case k12 => k_is); (case a13 => k_is); (case l13 => k_is); (case c13 => k_is); (case k13 => k_is); (case a14 => k_is); (case l14 => k_is); (case c14 => k_is); (case k14 => k_is); (case a15 => k_is); (case l15 => k_is); (case c15 => k_is); (case k15 => k_is); (case a16 => k_is); (case l16 => k_is); (case c16 => k_is); (case k16 => k_is); (case a17 => k_is); (case l17 => k_is); (case c17 => k_is); (case k17 => k_is); (case z_bool => k_is); (case z_enumerate => k_is); (case z_int => k_is); (case z_isinstance => k_is); (case z_len => k_is); (case z_list => k_is); (case z_max => k_is); (case z_min => k_is); (case z_range => k_is); (case z_set => k_is); (case z_sorted => k_is); (case z_tuple => k_is); (case y_MAX_PERIOD => k_is); (case y_MAX_PERIODS => k_is)
