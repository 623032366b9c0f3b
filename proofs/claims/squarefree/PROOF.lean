import PyProof.Rows.All
import Wide.All
import OpenK.AllK
import Wide.FinOn
import KE.KStateDown
import HandS.ForExc
import HandS.Comp
import HandS.Iter
import HandS.Evl
import HandS.OwnEq
import HandS.TupAny
import HandS.Gcd
import HandS.Wide
import HandS.IsInst
import HandS.Defaults
import HandS.CallRecv
import PyProof.InstNe
import HandS.Codes
import HandS.HeadHook2
import PySem.Challenge.RW_similarforms_k10_whole_squarefree_parts
import HandS.HeadEnd
import HandS.Head3
import HandS.Deep
import KE.KEqDeep
set_option Elab.async false
section
set_option Elab.async false
set_option linter.all false
set_option maxRecDepth 100000
/-! The typed layer: a value is known by a relation to plain data that stays true while the heap grows; an expression, a statement by what it makes of the slots' relations. -/
namespace Sq
open PySem PySem.Spec L2
open PyProof.Rows hiding St
open Evl (Ex)

/-! ### relations -/
structure Rl where
  p : V → Hp → Prop
  mo : ∀ v H H', Ex H H' → p v H → p v H'
/-- the value itself -/
def rV (w : V) : Rl := ⟨fun v _ => v = w, fun _ _ _ _ h => h⟩
def rAnd (P : Prop) (R : Rl) : Rl := ⟨fun v H => P ∧ R.p v H, fun v H H' e h => ⟨h.1, R.mo v H H' e h.2⟩⟩
def AllR : List V → List Rl → Hp → Prop
  | [], [], _ => True
  | v :: vs, R :: Rs, H => R.p v H ∧ AllR vs Rs H
  | _, _, _ => False
theorem AllR.mo {H H' : Hp} (e : Ex H H') : ∀ {vs : List V} {Rs : List Rl}, AllR vs Rs H → AllR vs Rs H'
  | [], [], _ => trivial
  | v :: vs, R :: Rs, h => ⟨R.mo v H H' e h.1, AllR.mo e h.2⟩
  | [], _ :: _, h => h.elim
  | _ :: _, [], h => h.elim
theorem AllR.len {H : Hp} : ∀ {vs : List V} {Rs : List Rl}, AllR vs Rs H → vs.length = Rs.length
  | [], [], _ => rfl
  | v :: vs, R :: Rs, h => by rw [List.length_cons, List.length_cons, AllR.len h.2]
  | [], _ :: _, h => h.elim
  | _ :: _, [], h => h.elim
theorem AllR.get {H : Hp} : ∀ {vs : List V} {Rs : List Rl} {i : Nat} {R : Rl}, AllR vs Rs H → Rs[i]? = some R → ∃ v, vs[i]? = some v ∧ R.p v H
  | [], [], i, R, _, e => by simp at e
  | v :: vs, R :: Rs, 0, R', h, e => by
    simp at e
    subst e
    exact ⟨v, rfl, h.1⟩
  | v :: vs, R :: Rs, i + 1, R', h, e => by
    obtain ⟨w, e1, r⟩ := AllR.get (i := i) (R := R') h.2 (by simpa using e)
    exact ⟨w, by simpa using e1, r⟩
  | [], _ :: _, _, _, h, _ => h.elim
  | _ :: _, [], _, _, h, _ => h.elim
theorem AllR.getV {H : Hp} {vs : List V} {Rs : List Rl} {i : Nat} {v : V} (h : AllR vs Rs H) (e : vs[i]? = some v) : ∃ R, Rs[i]? = some R ∧ R.p v H := by
  have hl : i < Rs.length := by
    rw [← h.len]
    exact (List.getElem?_eq_some_iff.mp e).1
  obtain ⟨w, e1, r⟩ := h.get (List.getElem?_eq_getElem hl)
  rw [e] at e1
  cases e1
  exact ⟨_, List.getElem?_eq_getElem hl, r⟩
theorem AllR.append {H : Hp} : ∀ {vs : List V} {Rs : List Rl} {ws : List V} {Ss : List Rl}, AllR vs Rs H → AllR ws Ss H → AllR (vs ++ ws) (Rs ++ Ss) H
  | [], [], _, _, _, h => h
  | v :: vs, R :: Rs, _, _, h, h' => ⟨h.1, AllR.append h.2 h'⟩
  | [], _ :: _, _, _, h, _ => h.elim
  | _ :: _, [], _, _, h, _ => h.elim
theorem AllR.take {H : Hp} : ∀ {vs : List V} {Rs : List Rl} (n : Nat), AllR vs Rs H → AllR (vs.take n) (Rs.take n) H
  | _, _, 0, _ => trivial
  | [], [], _ + 1, _ => trivial
  | v :: vs, R :: Rs, n + 1, h => ⟨h.1, AllR.take n h.2⟩
  | [], _ :: _, _ + 1, h => h.elim
  | _ :: _, [], _ + 1, h => h.elim
theorem AllR.drop {H : Hp} : ∀ {vs : List V} {Rs : List Rl} (n : Nat), AllR vs Rs H → AllR (vs.drop n) (Rs.drop n) H
  | _, _, 0, h => h
  | [], [], _ + 1, _ => trivial
  | v :: vs, R :: Rs, n + 1, h => AllR.drop n h.2
  | [], _ :: _, _ + 1, h => h.elim
  | _ :: _, [], _ + 1, h => h.elim
theorem AllR.imp {H : Hp} {α : Type} {f g : α → Rl} (k : ∀ a v, (f a).p v H → (g a).p v H) : ∀ {vs : List V} {l : List α}, AllR vs (l.map f) H → AllR vs (l.map g) H
  | [], [], _ => trivial
  | v :: vs, a :: l, h => ⟨k a v h.1, AllR.imp k h.2⟩
  | [], _ :: _, h => h.elim
  | _ :: _, [], h => h.elim
/-- a list, a tuple, of items so known -/
def rLst (K : PySem.W.Frag) (Rs : List Rl) : Rl := ⟨fun v H => ∃ a vs, v = .ref a ∧ SqL K H a vs ∧ AllR vs Rs H, fun v H H' e ⟨a, vs, h1, h2, h3⟩ => ⟨a, vs, h1, Evl.ex_l e h2, h3.mo e⟩⟩
def rTup (K : PySem.W.Frag) (Rs : List Rl) : Rl := ⟨fun v H => ∃ a vs, v = .ref a ∧ SqT K H a vs ∧ AllR vs Rs H, fun v H H' e ⟨a, vs, h1, h2, h3⟩ => ⟨a, vs, h1, Evl.ex_t e h2, h3.mo e⟩⟩
abbrev Fl := List (Str × Rl)
def AllF : List (Str × V) → Fl → Hp → Prop
  | [], [], _ => True
  | v :: vs, R :: Rs, H => v.1 = R.1 ∧ R.2.p v.2 H ∧ AllF vs Rs H
  | _, _, _ => False
theorem AllF.mo {H H' : Hp} (e : Ex H H') : ∀ {vs : List (Str × V)} {Rs : Fl}, AllF vs Rs H → AllF vs Rs H'
  | [], [], _ => trivial
  | v :: vs, R :: Rs, h => ⟨h.1, R.2.mo _ H H' e h.2.1, AllF.mo e h.2.2⟩
  | [], _ :: _, h => h.elim
  | _ :: _, [], h => h.elim
theorem AllF.get {H : Hp} {f : Str} {R : Rl} : ∀ {vs : List (Str × V)} {Rs : Fl}, AllF vs Rs H → Rs.lookup f = some R → ∃ v, vs.lookup f = some v ∧ R.p v H
  | [], [], _, e => by cases e
  | (n, v) :: vs, (m, S) :: Rs, h, e => by
    obtain ⟨h1, h2, h3⟩ := h
    obtain rfl : n = m := h1
    rw [List.lookup_cons] at e ⊢
    cases q : (f == n) with
    | true =>
      rw [q] at e
      cases e
      exact ⟨v, rfl, h2⟩
    | false =>
      rw [q] at e
      exact AllF.get h3 e
  | [], _ :: _, h, _ => h.elim
  | _ :: _, [], h, _ => h.elim
theorem AllF.none {H : Hp} {f : Str} : ∀ {vs : List (Str × V)} {Rs : Fl}, AllF vs Rs H → Rs.lookup f = Option.none → vs.lookup f = Option.none
  | [], [], _, _ => rfl
  | (n, v) :: vs, (m, S) :: Rs, h, e => by
    obtain ⟨h1, h2, h3⟩ := h
    obtain rfl : n = m := h1
    rw [List.lookup_cons] at e ⊢
    cases q : (f == n) with
    | true =>
      rw [q] at e
      cases e
    | false =>
      rw [q] at e
      exact AllF.none h3 e
  | [], _ :: _, h, _ => h.elim
  | _ :: _, [], h, _ => h.elim
/-- an instance, by its attributes -/
def rIns (C : Addr) (fl : Fl) : Rl := ⟨fun v H => ∃ a dx fs, v = .ref a ∧ H a = some (.ins C dx fs) ∧ AllF fs fl H, fun v H H' e ⟨a, dx, fs, h1, h2, h3⟩ => ⟨a, dx, fs, h1, e _ _ h2, h3.mo e⟩⟩

/-! ### the slots, known -/
abbrev Ty := List (Option Rl)
def Typ (σ : St) (τ : Ty) (H : Hp) : Prop := σ.length = τ.length ∧ ∀ (i : Nat) (R : Rl), τ[i]? = some (some R) → ∃ v, σ[i]? = some (some v) ∧ R.p v H
theorem Typ.mo {σ : St} {τ : Ty} {H H' : Hp} (h : Typ σ τ H) (e : Ex H H') : Typ σ τ H' := ⟨h.1, fun i R q => by
  obtain ⟨v, h1, h2⟩ := h.2 i R q
  exact ⟨v, h1, R.mo v H H' e h2⟩⟩
theorem Typ.set {σ : St} {τ : Ty} {H : Hp} (h : Typ σ τ H) {v : V} {R : Rl} (i : Nat) (r : R.p v H) : Typ (σ.set i (some v)) (τ.set i (some R)) H := by
  refine ⟨by rw [List.length_set, List.length_set]; exact h.1, fun j S q => ?_⟩
  by_cases e : i = j
  · subst e
    by_cases l : i < τ.length
    · rw [List.getElem?_set_self l] at q
      cases q
      exact ⟨v, by rw [List.getElem?_set_self (by rw [h.1]; exact l)], r⟩
    · rw [List.getElem?_eq_none (by rw [List.length_set]; omega)] at q
      cases q
  · rw [List.getElem?_set_ne e] at q
    obtain ⟨u, h1, h2⟩ := h.2 j S q
    exact ⟨u, by rw [List.getElem?_set_ne e]; exact h1, h2⟩
/-- a slot is not known any more, whatever it holds -/
theorem Typ.lose {σ : St} {τ : Ty} {H : Hp} (h : Typ σ τ H) (i : Nat) (o : Option V) : Typ (σ.set i o) (τ.set i none) H := by
  refine ⟨by rw [List.length_set, List.length_set]; exact h.1, fun j S q => ?_⟩
  by_cases e : i = j
  · subst e
    by_cases l : i < τ.length
    · rw [List.getElem?_set_self l] at q
      cases q
    · rw [List.getElem?_eq_none (by rw [List.length_set]; omega)] at q
      cases q
  · rw [List.getElem?_set_ne e] at q
    obtain ⟨u, h1, h2⟩ := h.2 j S q
    exact ⟨u, by rw [List.getElem?_set_ne e]; exact h1, h2⟩
/-- less is known -/
theorem Typ.sub {σ : St} {τ τ' : Ty} {H : Hp} (h : Typ σ τ H) (hl : τ.length = τ'.length) (k : ∀ (i : Nat) (R : Rl), τ'[i]? = some (some R) → τ[i]? = some (some R)) : Typ σ τ' H := ⟨h.1.trans hl, fun i R q => h.2 i R (k i R q)⟩
theorem typ_start {N : List Str} {vs : List V} {Rs : List Rl} {H : Hp} (h : AllR vs Rs H) : Typ (L2.start N vs) (Rs.map some ++ List.replicate (N.length - Rs.length) none) H := by
  refine ⟨by unfold L2.start; rw [List.length_append, List.length_append, List.length_map, List.length_map, List.length_replicate, List.length_replicate, h.len], fun i R q => ?_⟩
  by_cases l : i < Rs.length
  · rw [List.getElem?_append_left (by rw [List.length_map]; exact l), List.getElem?_map, List.getElem?_eq_getElem l] at q
    have e : Rs[i]? = some R := by
      rw [List.getElem?_eq_getElem l]
      exact congrArg some (Option.some.inj (Option.some.inj q))
    obtain ⟨v, h1, h2⟩ := h.get e
    refine ⟨v, ?_, h2⟩
    unfold L2.start
    rw [List.getElem?_append_left (by rw [List.length_map, h.len]; exact l), List.getElem?_map, h1]
    rfl
  · rw [List.getElem?_append_right (by rw [List.length_map]; omega), List.getElem?_replicate] at q
    split at q <;> cases q

/-! ### readings by meaning -/
def SE (X : Cx) (e : Expr) : TE := fun σ H Q => ∀ pins s, Inv X pins σ H s → wpAny (model X.prog X.w) X.A (eval e X.env) (EP X pins σ Q) X.xe s
def ST (X : Cx) (e : Expr) : TT := fun σ H Q => ∀ pins s, Inv X pins σ H s → wpAny (model X.prog X.w) X.A (isTrue e X.env (eval e X.env)) (TP X pins σ Q) X.xe s
def SA (X : Cx) (es : List Expr) : TA := fun σ H Q => ∀ (pos : Pos) pins s, Inv X pins σ H s → wpAny (model X.prog X.w) X.A (spliced (backTo pos (starEach es X.env))) (AP X pins σ Q) X.xe s
def SS (X : Cx) (st : Stmt) : TS := fun D σ H => ∀ pins s, Inv X pins σ H s → wpAny (model X.prog X.w) X.A (exec st X.env) (SP X pins D) X.xe s
def SSs (X : Cx) (st : List Stmt) : TS := fun D σ H => ∀ pins s, Inv X pins σ H s → wpAny (model X.prog X.w) X.A (execs st X.env) (SP X pins D) X.xe s
section
variable {X : Cx} {e : Expr} {es : List Expr} {st : Stmt} {sts : List Stmt} {te : TE} {tt : TT} {ta : TA} {t : TS} {σ : St} {H : Hp}
theorem se_pe : PE X e (SE X e) := ⟨fun pins s σ H Q I h => h pins s I⟩
theorem st_pt : PT X e (ST X e) := ⟨fun pins s σ H Q I h => h pins s I⟩
theorem sa_pa : PA X es (SA X es) := ⟨fun pos pins s σ H Q I h => h pos pins s I⟩
theorem ss_ps : PS X st (SS X st) := ⟨fun pins s σ H D I h => h pins s I⟩
theorem sss_pss : PSs X sts (SSs X sts) := ⟨fun pins s σ H D I h => h pins s I⟩
theorem pe_se (h : PE X e te) {Q : VK} (q : te σ H Q) : SE X e σ H Q := fun pins s I => h.run pins s σ H Q I q
theorem pt_st (h : PT X e tt) {Q : Bool → Hp → Prop} (q : tt σ H Q) : ST X e σ H Q := fun pins s I => h.run pins s σ H Q I q
theorem pa_sa (h : PA X es ta) {Q : List V → Hp → Prop} (q : ta σ H Q) : SA X es σ H Q := fun pos pins s I => h.run pos pins s σ H Q I q
theorem ps_ss (h : PS X st t) {D : Ends} (q : t D σ H) : SS X st D σ H := fun pins s I => h.run pins s σ H D I q
theorem pss_sss (h : PSs X sts t) {D : Ends} (q : t D σ H) : SSs X sts D σ H := fun pins s I => h.run pins s σ H D I q
theorem SE.mono {Q Q' : VK} (h : SE X e σ H Q) (k : ∀ v H', Q v H' → Q' v H') : SE X e σ H Q' := fun pins s I => thn (h pins s I) fun u s' ⟨v, H', I', r, q⟩ => ⟨v, H', I', r, k v H' q⟩
theorem ST.mono {Q Q' : Bool → Hp → Prop} (h : ST X e σ H Q) (k : ∀ v H', Q v H' → Q' v H') : ST X e σ H Q' := fun pins s I => thn (h pins s I) fun u s' ⟨H', I', q⟩ => ⟨H', I', k u H' q⟩
theorem SA.mono {Q Q' : List V → Hp → Prop} (h : SA X es σ H Q) (k : ∀ v H', Q v H' → Q' v H') : SA X es σ H Q' := fun pos pins s I => thn (h pos pins s I) fun u s' ⟨v, H', I', r, q⟩ => ⟨v, H', I', r, k v H' q⟩
theorem sp_mono {pins : List (Addr × Obj)} {D D' : Ends} {f : Flow} {s' : Shared} (h : SP X pins D f s') (k1 : ∀ σ' H', D.nx σ' H' → D'.nx σ' H') (k2 : ∀ v H', D.rt v H' → D'.rt v H') (k3 : ∀ σ' H', D.bk σ' H' → D'.bk σ' H') (k4 : ∀ σ' H', D.ct σ' H' → D'.ct σ' H') : SP X pins D' f s' := by
  cases f with
  | next => obtain ⟨σ', H', I, q⟩ := h; exact ⟨σ', H', I, k1 _ _ q⟩
  | brk => obtain ⟨σ', H', I, q⟩ := h; exact ⟨σ', H', I, k3 _ _ q⟩
  | cont => obtain ⟨σ', H', I, q⟩ := h; exact ⟨σ', H', I, k4 _ _ q⟩
  | ret u => obtain ⟨v, σ', H', I, r, q⟩ := h; exact ⟨v, σ', H', I, r, k2 _ _ q⟩
theorem SSs.mono {D D' : Ends} (h : SSs X sts D σ H) (k1 : ∀ σ' H', D.nx σ' H' → D'.nx σ' H') (k2 : ∀ v H', D.rt v H' → D'.rt v H') (k3 : ∀ σ' H', D.bk σ' H' → D'.bk σ' H') (k4 : ∀ σ' H', D.ct σ' H' → D'.ct σ' H') : SSs X sts D' σ H :=
  fun pins s I => thn (h pins s I) fun u s' q => sp_mono q k1 k2 k3 k4
theorem SS.mono {D D' : Ends} (h : SS X st D σ H) (k1 : ∀ σ' H', D.nx σ' H' → D'.nx σ' H') (k2 : ∀ v H', D.rt v H' → D'.rt v H') (k3 : ∀ σ' H', D.bk σ' H' → D'.bk σ' H') (k4 : ∀ σ' H', D.ct σ' H' → D'.ct σ' H') : SS X st D' σ H :=
  fun pins s I => thn (h pins s I) fun u s' q => sp_mono q k1 k2 k3 k4
end

/-! ### judgements -/
def JE (X : Cx) (e : Expr) (τ : Ty) (R : Rl) : Prop := ∀ σ H, Typ σ τ H → SE X e σ H fun v H' => Ex H H' ∧ R.p v H'
def JA (X : Cx) (es : List Expr) (τ : Ty) (Rs : List Rl) : Prop := ∀ σ H, Typ σ τ H → SA X es σ H fun vs H' => Ex H H' ∧ AllR vs Rs H'
def JT (X : Cx) (e : Expr) (τ : Ty) (b : Bool) : Prop := ∀ σ H, Typ σ τ H → ST X e σ H fun c H' => c = b ∧ Ex H H'
/-- the rest of a chain of and, or: whatever its 'whole' is -/
def JW (X : Cx) (e : Expr) (τ : Ty) (b : Bool) : Prop := ∀ (whole : Sem Value) pins s σ H, Typ σ τ H → Inv X pins σ H s → wpAny (model X.prog X.w) X.A (isTrue e X.env whole) (TP X pins σ fun c H' => c = b ∧ Ex H H') X.xe s
/-- what is wanted behind: where one falls through, what is returned -/
def enD (H : Hp) (Nx : Ty → Prop) (Rt : Rl) : Ends := { nx := fun σ' H' => Ex H H' ∧ ∃ τ', Nx τ' ∧ Typ σ' τ' H', rt := fun v H' => Ex H H' ∧ Rt.p v H' }
def JS (X : Cx) (st : Stmt) (τ : Ty) (Nx : Ty → Prop) (Rt : Rl) : Prop := ∀ σ H, Typ σ τ H → SS X st (enD H Nx Rt) σ H
def JSs (X : Cx) (sts : List Stmt) (τ : Ty) (Nx : Ty → Prop) (Rt : Rl) : Prop := ∀ σ H, Typ σ τ H → SSs X sts (enD H Nx Rt) σ H
def rNone : Rl := rV .non
/-- never -/
def rNo : Rl := ⟨fun _ _ => False, fun _ _ _ _ h => h⟩
section
variable {X : Cx} {τ τ' : Ty} {R R' Ra Rb Rt : Rl} {Rs : List Rl} {a b c e o : Expr} {es : List Expr} {pos : Pos} {x : Str} {Nx : Ty → Prop} {st : Stmt} {sts rest body : List Stmt}
theorem JE.sub (h : JE X e τ R) (k : ∀ v H, R.p v H → R'.p v H) : JE X e τ R' := fun σ H t => (h σ H t).mono fun v H' ⟨e1, r⟩ => ⟨e1, k v H' r⟩
/-- the same by what holds of the slots at the start -/
theorem JE.of (h : ∀ σ H, Typ σ τ H → JE X e τ R) : JE X e τ R := fun σ H t => h σ H t σ H t
theorem je_var (i : Nat) (hN : X.N[i]? = some x := by rfl) (hv : Vis X.env.scope x := by first | exact Or.inl rfl | exact Or.inr (Or.inl rfl) | exact Or.inr (Or.inr rfl)) (ht : τ[i]? = some (some R) := by rfl) (hd : (x == ("__debug__" : Str)) = false := by decide)
    (hcd : (x == ("__classdict__" : Str)) = false := by decide) : JE X (.Name x pos) τ R := fun σ H t => pe_se (pe_var hN hv hd hcd) (by
  obtain ⟨v, e, r⟩ := t.2 i R ht
  exact ⟨v, e, Evl.Ex.refl H, r⟩)
theorem je_int {i j} : JE X (.Constant (.int i) j pos) τ (rV (.int i)) := fun σ H t => pe_se pe_int ⟨Evl.Ex.refl H, rfl⟩
theorem je_bl {i j} : JE X (.Constant (.bool i) j pos) τ (rV (.bl i)) := fun σ H t => pe_se pe_bl ⟨Evl.Ex.refl H, rfl⟩
theorem je_pe {te : TE} (h : PE X e te) (q : ∀ σ H, Typ σ τ H → te σ H fun v H' => Ex H H' ∧ R.p v H') : JE X e τ R := fun σ H t => pe_se h (q σ H t)
theorem je_glob {v : V} {u : Value} (hg : Gl X x) (hm : X.mg x = some u) (r : RelV v u) (hd : (x == ("__debug__" : Str)) = false := by decide) : JE X (.Name x pos) τ (rV v) := fun σ H t => pe_se (pe_glob hg hm r hd) ⟨Evl.Ex.refl H, rfl⟩
theorem je_bltn {v : V} {u : Value} (hg : Gl X x) (hm : X.mg x = none) (hv : bootBuiltins x = some u) (r : RelV v u) (hn : x ≠ "__name__" := by decide) (hd : (x == ("__debug__" : Str)) = false := by decide) : JE X (.Name x pos) τ (rV v) :=
  fun σ H t => pe_se (pe_bltn hg hm hv r hn hd) ⟨Evl.Ex.refl H, rfl⟩
/-- two parts, then a rule upon their values -/
theorem je_op {op : Operator} {r : R2} (ho : OpR X (binaryOp op) r) (ha : JE X a τ Ra) (hb : JE X b τ Rb) (hr : ∀ x y H (Q : VK), Ra.p x H → Rb.p y H → (∀ z H', Ex H H' → R.p z H' → Q z H') → r x y H Q) : JE X (.BinOp a op b pos) τ R := fun σ H t =>
  pe_se (pe_op ho se_pe se_pe) ((ha σ H t).mono fun x H1 ⟨e1, r1⟩ => (hb σ H1 (t.mo e1)).mono fun y H2 ⟨e2, r2⟩ => hr x y H2 _ (Ra.mo _ _ _ e2 r1) r2 fun z H3 e3 r3 => ⟨(e1.trans e2).trans e3, r3⟩)
theorem je_ix {r : R2} (ho : IxR X r) (ha : JE X a τ Ra) (hb : JE X b τ Rb) (hs : PlainIx b) (hr : ∀ x y H (Q : VK), Ra.p x H → Rb.p y H → (∀ z H', Ex H H' → R.p z H' → Q z H') → r x y H Q) : JE X (.Subscript a b pos) τ R := fun σ H t =>
  pe_se (pe_ix ho se_pe se_pe hs) ((ha σ H t).mono fun x H1 ⟨e1, r1⟩ => (hb σ H1 (t.mo e1)).mono fun y H2 ⟨e2, r2⟩ => hr x y H2 _ (Ra.mo _ _ _ e2 r1) r2 fun z H3 e3 r3 => ⟨(e1.trans e2).trans e3, r3⟩)
theorem je_un {op : UnaryOp} {r : V → Hp → VK → Prop} (ho : UnR X (unaryOp op) r) (ha : JE X a τ Ra) (hr : ∀ x H (Q : VK), Ra.p x H → (∀ z H', Ex H H' → R.p z H' → Q z H') → r x H Q) : JE X (.UnaryOp op a pos) τ R := fun σ H t =>
  pe_se (pe_un ho se_pe) ((ha σ H t).mono fun x H1 ⟨e1, r1⟩ => hr x H1 _ r1 fun z H3 e3 r3 => ⟨e1.trans e3, r3⟩)
theorem je_cmpR {op : CmpOp} {r : R2} (ho : OpR X (compareOp op) r) (ha : JE X a τ Ra) (hb : JE X b τ Rb) (hm : behindInMarks op b = false) (hr : ∀ x y H (Q : VK), Ra.p x H → Rb.p y H → (∀ z H', Ex H H' → R.p z H' → Q z H') → r x y H Q) : JE X (.Compare a [op] [b] pos) τ R := fun σ H t =>
  pe_se (pe_cmpR ho se_pe se_pe hm) ((ha σ H t).mono fun x H1 ⟨e1, r1⟩ => (hb σ H1 (t.mo e1)).mono fun y H2 ⟨e2, r2⟩ => hr x y H2 _ (Ra.mo _ _ _ e2 r1) r2 fun z H3 e3 r3 => ⟨(e1.trans e2).trans e3, r3⟩)
theorem jt_cmpR {op : CmpOp} {r : R2} {k : Bool} (ho : OpR X (compareOp op) r) (ha : JE X a τ Ra) (hb : JE X b τ Rb) (hm : behindInMarks op b = false) (hr : ∀ x y H (Q : VK), Ra.p x H → Rb.p y H → (∀ H', Ex H H' → Q (.bl k) H') → r x y H Q) : JT X (.Compare a [op] [b] pos) τ k := fun σ H t =>
  pt_st (pt_cmpR ho se_pe se_pe hm) ((ha σ H t).mono fun x H1 ⟨e1, r1⟩ => (hb σ H1 (t.mo e1)).mono fun y H2 ⟨e2, r2⟩ => hr x y H2 _ (Ra.mo _ _ _ e2 r1) r2 fun H3 e3 => ⟨k, rfl, rfl, (e1.trans e2).trans e3⟩)
/-! ints -/
theorem je_I0 {op : Operator} {g : Int → Int → V} {i j : Int} (ho : OpR X (binaryOp op) (rI0 g)) (ha : JE X a τ (rV (.int i))) (hb : JE X b τ (rV (.int j))) : JE X (.BinOp a op b pos) τ (rV (g i j)) :=
  je_op ho ha hb fun x y H Q r1 r2 q => ⟨i, j, r1, r2, q _ H (Evl.Ex.refl H) rfl⟩
theorem je_IC {op : Operator} {C : Int → Int → Prop} {g : Int → Int → V} {i j : Int} (ho : OpR X (binaryOp op) (rI C g)) (ha : JE X a τ (rV (.int i))) (hb : JE X b τ (rV (.int j))) (hc : C i j) : JE X (.BinOp a op b pos) τ (rV (g i j)) :=
  je_op ho ha hb fun x y H Q r1 r2 q => ⟨i, j, r1, r2, hc, q _ H (Evl.Ex.refl H) rfl⟩
theorem je_add {i j : Int} (ha : JE X a τ (rV (.int i))) (hb : JE X b τ (rV (.int j))) : JE X (.BinOp a .Add b pos) τ (rV (.int (i + j))) := je_I0 op_add ha hb
theorem je_sub {i j : Int} (ha : JE X a τ (rV (.int i))) (hb : JE X b τ (rV (.int j))) : JE X (.BinOp a .Sub b pos) τ (rV (.int (i - j))) := je_I0 op_sub ha hb
theorem je_mul {i j : Int} (hc : CMul i j) (ha : JE X a τ (rV (.int i))) (hb : JE X b τ (rV (.int j))) : JE X (.BinOp a .Mult b pos) τ (rV (.int (i * j))) := je_IC op_mul ha hb hc
theorem je_mulW {i j : Int} (hc : CMulW i j) (ha : JE X a τ (rV (.int i))) (hb : JE X b τ (rV (.int j))) : JE X (.BinOp a .Mult b pos) τ (rV (.int (i * j))) := je_IC op_mulW ha hb hc
theorem je_divW {i j : Int} (hc : CDivW i j) (ha : JE X a τ (rV (.int i))) (hb : JE X b τ (rV (.int j))) : JE X (.BinOp a .FloorDiv b pos) τ (rV (.int (i / j))) := je_IC op_fdivW ha hb hc
theorem je_div {i j : Int} (hc : CDiv i j) (ha : JE X a τ (rV (.int i))) (hb : JE X b τ (rV (.int j))) : JE X (.BinOp a .FloorDiv b pos) τ (rV (.int (i / j))) := je_IC op_fdiv ha hb hc
theorem je_mod {i j : Int} (hc : 0 < j) (ha : JE X a τ (rV (.int i))) (hb : JE X b τ (rV (.int j))) : JE X (.BinOp a .Mod b pos) τ (rV (.int (i % j))) := je_IC op_mod ha hb hc
theorem je_neg {i : Int} (ha : JE X a τ (rV (.int i))) : JE X (.UnaryOp .USub a pos) τ (rV (.int (-i))) := je_un un_neg ha fun x H Q r q => ⟨i, r, q _ H (Evl.Ex.refl H) rfl⟩
/-- == of ints, bools, texts, None -/
theorem je_eq {v w : V} (hs : scal v w = true) (ha : JE X a τ (rV v)) (hb : JE X b τ (rV w)) : JE X (.Compare a [.Eq] [b] pos) τ (rV (.bl (decide (v = w)))) :=
  je_cmpR op_eq ha hb (nomark _) fun x y H Q (r1 : x = v) (r2 : y = w) q => by rw [r1, r2]; exact ⟨hs, q _ H (Evl.Ex.refl H) rfl⟩
theorem jt_eq {v w : V} (hs : scal v w = true) (ha : JE X a τ (rV v)) (hb : JE X b τ (rV w)) : JT X (.Compare a [.Eq] [b] pos) τ (decide (v = w)) :=
  jt_cmpR op_eq ha hb (nomark _) fun x y H Q (r1 : x = v) (r2 : y = w) q => by rw [r1, r2]; exact ⟨hs, q H (Evl.Ex.refl H)⟩
theorem je_ne {v w : V} (hs : scal v w = true) (ha : JE X a τ (rV v)) (hb : JE X b τ (rV w)) : JE X (.Compare a [.NotEq] [b] pos) τ (rV (.bl (!decide (v = w)))) :=
  je_cmpR op_ne ha hb (nomark _) fun x y H Q (r1 : x = v) (r2 : y = w) q => by rw [r1, r2]; exact ⟨hs, q _ H (Evl.Ex.refl H) rfl⟩
theorem jt_ne {v w : V} (hs : scal v w = true) (ha : JE X a τ (rV v)) (hb : JE X b τ (rV w)) : JT X (.Compare a [.NotEq] [b] pos) τ (!decide (v = w)) :=
  jt_cmpR op_ne ha hb (nomark _) fun x y H Q (r1 : x = v) (r2 : y = w) q => by rw [r1, r2]; exact ⟨hs, q H (Evl.Ex.refl H)⟩
theorem jt_I {op : CmpOp} {g : Int → Int → Bool} {i j : Int} (ho : OpR X (compareOp op) (rI0 fun i j => .bl (g i j))) (hm : behindInMarks op b = false) (ha : JE X a τ (rV (.int i))) (hb : JE X b τ (rV (.int j))) : JT X (.Compare a [op] [b] pos) τ (g i j) :=
  jt_cmpR ho ha hb hm fun x y H Q r1 r2 q => ⟨i, j, r1, r2, q H (Evl.Ex.refl H)⟩
theorem jt_lt {i j : Int} (ha : JE X a τ (rV (.int i))) (hb : JE X b τ (rV (.int j))) : JT X (.Compare a [.Lt] [b] pos) τ (decide (i < j)) := jt_I op_lt (nomark _) ha hb
theorem jt_gt {i j : Int} (ha : JE X a τ (rV (.int i))) (hb : JE X b τ (rV (.int j))) : JT X (.Compare a [.Gt] [b] pos) τ (decide (j < i)) := jt_I op_gt (nomark _) ha hb
theorem jt_ge {i j : Int} (ha : JE X a τ (rV (.int i))) (hb : JE X b τ (rV (.int j))) : JT X (.Compare a [.GtE] [b] pos) τ (decide (j ≤ i)) := jt_I op_ge (nomark _) ha hb
theorem jt_le {i j : Int} (ha : JE X a τ (rV (.int i))) (hb : JE X b τ (rV (.int j))) : JT X (.Compare a [.LtE] [b] pos) τ (decide (i ≤ j)) := jt_I op_le (nomark _) ha hb
/-! tests -/
theorem JT.eq {k k' : Bool} (h : JT X e τ k) (q : k = k') : JT X e τ k' := q ▸ h
theorem jt_val {k : Bool} (h : JE X e τ (rV (.bl k))) (he : ∀ whole, isTrue e X.env whole = (do let v ← whole; standAt e.pos; holding [v] (truthy v)) := by intro _; rfl) : JT X e τ k := fun σ H t =>
  pt_st (pt_val se_pe he) ((h σ H t).mono fun x H1 ⟨e1, r1⟩ => ⟨k, r1, rfl, e1⟩)
theorem jt_not {k : Bool} (h : JT X e τ k) : JT X (.UnaryOp .Not e pos) τ (!k) := fun σ H t => pt_st (pt_not st_pt) ((h σ H t).mono fun x H1 ⟨e1, r1⟩ => ⟨by rw [e1], r1⟩)
theorem jw_and1 {k : Bool} (ha : JT X a τ k) : JW X (.BoolOp .And [a] pos) τ k := fun whole pins s σ H t I => (pw_and1 (tA := ST X a) st_pt).run whole pins s σ H _ I (ha σ H t)
theorem jw_or1 {k : Bool} (ha : JT X a τ k) : JW X (.BoolOp .Or [a] pos) τ k := fun whole pins s σ H t I => (pw_or1 (tA := ST X a) st_pt).run whole pins s σ H _ I (ha σ H t)
/-- the rest of the chain as a reading -/
def SW (X : Cx) (e : Expr) : TT := fun σ H Q => ∀ (whole : Sem Value) pins s, Inv X pins σ H s → wpAny (model X.prog X.w) X.A (isTrue e X.env whole) (TP X pins σ Q) X.xe s
theorem sw_pw : PW X e (SW X e) := ⟨fun whole pins s σ H Q I h => h whole pins s I⟩
theorem jw_and {k l : Bool} (ha : JT X a τ k) (hb : k = true → JW X (.BoolOp .And (b :: es) pos) τ l) : JW X (.BoolOp .And (a :: b :: es) pos) τ (k && l) := fun whole pins s σ H t I =>
  (pw_and (tA := ST X a) st_pt sw_pw).run whole pins s σ H _ I ((ha σ H t).mono fun c H1 ⟨e1, r1⟩ => by
    subst e1
    cases c with
    | true =>
      rw [if_pos rfl]
      intro wh pins s I
      exact thn (hb rfl wh pins s σ H1 (t.mo r1) I) fun d s' ⟨H2, I2, q2, q3⟩ => ⟨H2, I2, by rw [q2, Bool.true_and], r1.trans q3⟩
    | false =>
      rw [if_neg Bool.false_ne_true]
      exact ⟨rfl, r1⟩)
theorem jw_or {k l : Bool} (ha : JT X a τ k) (hb : k = false → JW X (.BoolOp .Or (b :: es) pos) τ l) : JW X (.BoolOp .Or (a :: b :: es) pos) τ (k || l) := fun whole pins s σ H t I =>
  (pw_or (tA := ST X a) st_pt sw_pw).run whole pins s σ H _ I ((ha σ H t).mono fun c H1 ⟨e1, r1⟩ => by
    subst e1
    cases c with
    | false =>
      rw [if_neg Bool.false_ne_true]
      intro wh pins s I
      exact thn (hb rfl wh pins s σ H1 (t.mo r1) I) fun d s' ⟨H2, I2, q2, q3⟩ => ⟨H2, I2, by rw [q2, Bool.false_or], r1.trans q3⟩
    | true =>
      rw [if_pos rfl]
      exact ⟨rfl, r1⟩)
theorem JW.jt {k : Bool} (h : JW X e τ k) : JT X e τ k := fun σ H t pins s I => h _ pins s σ H t I
/-- a and b, a or b as values -/
theorem je_one {op} (h : JE X a τ R) : JE X (.BoolOp op [a] pos) τ R := fun σ H t => pe_se (pe_one se_pe) (h σ H t)
theorem je_and {k l : Bool} (ha : JE X a τ (rV (.bl k))) (hb : k = true → JE X (.BoolOp .And (b :: es) pos) τ (rV (.bl l))) : JE X (.BoolOp .And (a :: b :: es) pos) τ (rV (.bl (k && l))) := fun σ H t =>
  pe_se (pe_and se_pe se_pe) ((ha σ H t).mono fun c H1 ⟨e1, r1⟩ => ⟨k, r1, by
    cases k with
    | true =>
      rw [if_pos rfl]
      exact (hb rfl σ H1 (t.mo e1)).mono fun d H2 ⟨e2, r2⟩ => ⟨e1.trans e2, r2⟩
    | false =>
      rw [if_neg Bool.false_ne_true]
      exact ⟨e1, rfl⟩⟩)
theorem je_not {k : Bool} (ha : JE X a τ (rV (.bl k))) : JE X (.UnaryOp .Not a pos) τ (rV (.bl (!k))) := fun σ H t =>
  pe_se (pe_not se_pe) ((ha σ H t).mono fun c H1 ⟨e1, r1⟩ => ⟨k, r1, e1, rfl⟩)
/-! arguments -/
theorem ja_nil : JA X [] τ [] := fun σ H t => pa_sa pa_nil ⟨Evl.Ex.refl H, trivial⟩
theorem ja_cons (ha : JE X a τ R) (hs : JA X es τ Rs) (hst : starEach (a :: es) X.env = (false, eval a X.env) :: starEach es X.env := by rfl) : JA X (a :: es) τ (R :: Rs) := fun σ H t =>
  pa_sa (pa_cons se_pe sa_pa hst) ((ha σ H t).mono fun x H1 ⟨e1, r1⟩ => (hs σ H1 (t.mo e1)).mono fun xs H2 ⟨e2, r2⟩ => ⟨e1.trans e2, R.mo _ _ _ e2 r1, r2⟩)
theorem je_tup {x1} (h : JA X es τ Rs) (hl : Rs.length ≤ 1000) : JE X (.Tuple es x1 pos) τ (rTup X.K Rs) := fun σ H t =>
  pe_se (pe_tup sa_pa) ((h σ H t).mono fun vs H1 ⟨e1, r1⟩ => ⟨by rw [r1.len]; exact Nat.le_of_lt (small1000 hl), fun p hp => ⟨e1.trans (Evl.Ex.new hp), p, vs, rfl, SqT.of upd_same, r1.mo (Evl.Ex.new hp)⟩⟩)
theorem je_lst (h : JA X es τ Rs) (hl : Rs.length ≤ 1000) : JE X (.List es pos) τ (rLst X.K Rs) := fun σ H t =>
  pe_se (pe_lst sa_pa) ((h σ H t).mono fun vs H1 ⟨e1, r1⟩ => ⟨by rw [r1.len]; exact Nat.le_of_lt (small1000 hl), fun p hp => ⟨e1.trans (Evl.Ex.new hp), p, vs, rfl, SqL.of upd_same, r1.mo (Evl.Ex.new hp)⟩⟩)
/-! an item, an attribute -/
theorem je_ixT {i : Int} {k : Nat} (ha : JE X a τ (rTup X.K Rs)) (hb : JE X b τ (rV (.int i))) (hs : PlainIx b) (hk : ixN Rs.length i = some k) (hR : Rs[k]? = some R) : JE X (.Subscript a b pos) τ R :=
  je_ix ix_tup ha hb hs fun x y H Q ⟨p, vs, h1, h2, h3⟩ r2 q => by
    obtain ⟨w, hw, rw'⟩ := h3.get hR
    exact ⟨p, vs, i, w, h1, r2, h2, (by unfold atI; rw [h3.len, hk]; exact hw), q w H (Evl.Ex.refl H) rw'⟩
theorem je_ixL {i : Int} {k : Nat} (ha : JE X a τ (rLst X.K Rs)) (hb : JE X b τ (rV (.int i))) (hs : PlainIx b) (hk : ixN Rs.length i = some k) (hR : Rs[k]? = some R) : JE X (.Subscript a b pos) τ R :=
  je_ix ix_list ha hb hs fun x y H Q ⟨p, vs, h1, h2, h3⟩ r2 q => by
    obtain ⟨w, hw, rw'⟩ := h3.get hR
    exact ⟨p, vs, i, w, h1, r2, h2, (by unfold atI; rw [h3.len, hk]; exact hw), q w H (Evl.Ex.refl H) rw'⟩
theorem je_fld {C : Addr} {fl : Fl} {f : Str} (ho : JE X o τ (rIns C fl)) (c : Cls X.K C) (n : NoAttr X.K C f) (hf : fl.lookup f = some R) (hb : attributeBase o f X.env (eval o X.env) = eval o X.env := by rfl) : JE X (.Attribute o f pos) τ R := fun σ H t =>
  pe_se (pe_fld se_pe hb) ((ho σ H t).mono fun x H1 ⟨e1, a, dx, fs, h1, h2, h3⟩ => by
    obtain ⟨w, hw, r⟩ := h3.get hf
    exact ⟨a, C, dx, fs, w, h1, h2, c, n, hw, e1, r⟩)
end
end Sq
end
section
set_option Elab.async false
set_option linter.all false
set_option maxRecDepth 100000
namespace Sq
open PySem PySem.Spec L2
open PyProof.Rows hiding St
open Evl (Ex)
/-! ### contracts: typed instances (arguments, answer) -/
abbrev Sg := List Rl → Rl → Prop
def spS (S : Sg) : Sp := fun vs H Q _ => ∃ Rs R, S Rs R ∧ AllR vs Rs H ∧ ∀ v H', Ex H H' → R.p v H' → Q v H'
/-- __init__ of the class at C: what the instance is worth behind it -/
def spI (C : Addr) (S : Sg) : Sp := fun vs H Q _ => ∃ (p dx : Addr) (args : List V) (Rs : List Rl) (Ro : Rl) (H0 : Hp), vs = .ref p :: args ∧ H p = some (.ins C dx []) ∧ Ex H0 H ∧ H0 p = none ∧ AllR args Rs H0 ∧ S Rs Ro ∧
  ∀ H', Ex H0 H' → Ro.p (.ref p) H' → Q .non H'
/-- defaults -/
def DflR (dvs : List V) (dRs : List Rl) : Prop := ∀ H, AllR dvs dRs H
theorem dfl0 : DflR [] [] := fun _ => trivial
theorem AllR.one {vs : List V} {R : Rl} {H : Hp} (h : AllR vs [R] H) : ∃ v, vs = [v] ∧ R.p v H := by
  cases vs with
  | nil => exact h.elim
  | cons v r =>
    cases r with
    | nil => exact ⟨v, rfl, h.1⟩
    | cons w r => exact h.2.elim
theorem AllR.two {vs : List V} {R S : Rl} {H : Hp} (h : AllR vs [R, S] H) : ∃ v w, vs = [v, w] ∧ R.p v H ∧ S.p w H := by
  cases vs with
  | nil => exact h.elim
  | cons v r =>
    obtain ⟨w, e, q⟩ := AllR.one h.2
    exact ⟨v, w, by rw [e], h.1, q⟩
section
variable {X : Cx} {τ τ' : Ty} {R R' Ra Rb Ro Rt : Rl} {Rs dRs : List Rl} {a b c e o : Expr} {es : List Expr} {pos p apos : Pos} {x m : Str} {Nx : Ty → Prop} {st : Stmt} {sts rest body : List Stmt}
  {CX : CXT} {k : Nat} {f C : Addr} {fd : FuncData} {ps : List Str} {S : Sg} {dvs : List V} {ds : List Value}
theorem je_callD (F : FnOk X.prog X.w X.K X.mg X.base CX k f fd ps (spS S)) (hr : Room k X.A) (hg : Gl X x) (hm : X.mg x = some (.ref f)) (hk : PySem.W.keepIn X.K (.ref f) = true) (hb : Binds X.K fd ps ds) (hd : Vals dvs ds) (hx : Passes CX X E0)
    (dR : DflR dvs dRs) (ha : JA X (e :: es) τ Rs) (hS : S (Rs ++ dRs) R)
    (hdb : (x == ("__debug__" : Str)) = false := by decide) (he : starEach (e :: es) X.env = (false, eval e X.env) :: starEach es X.env := by rfl) (hpl : (backTo pos (starEach es X.env)).any (·.1) = false := by rfl) :
    JE X (.Call (.Name x p) (e :: es) [] pos) τ R := fun σ H t =>
  pe_se (pe_call F hr hg hm hk hb hd hx sa_pa hdb he hpl) ((ha σ H t).mono fun vs H1 ⟨e1, r1⟩ => ⟨_, R, hS, r1.append (dR H1), fun v H2 e2 r => ⟨e1.trans e2, r⟩⟩)
theorem je_call (F : FnOk X.prog X.w X.K X.mg X.base CX k f fd ps (spS S)) (hr : Room k X.A) (hg : Gl X x) (hm : X.mg x = some (.ref f)) (hk : PySem.W.keepIn X.K (.ref f) = true) (hb : Binds X.K fd ps []) (hx : Passes CX X E0)
    (ha : JA X (e :: es) τ Rs) (hS : S Rs R)
    (hdb : (x == ("__debug__" : Str)) = false := by decide) (he : starEach (e :: es) X.env = (false, eval e X.env) :: starEach es X.env := by rfl) (hpl : (backTo pos (starEach es X.env)).any (·.1) = false := by rfl) :
    JE X (.Call (.Name x p) (e :: es) [] pos) τ R := je_callD F hr hg hm hk hb .nil hx dfl0 ha (by rw [List.append_nil]; exact hS) hdb he hpl
/-- what a receiver must be -/
def Recv (C : Addr) (m : Str) (R : Rl) : Prop := ∀ v H, R.p v H → ∃ a dx fs, v = .ref a ∧ H a = some (.ins C dx fs) ∧ fs.lookup m = none
theorem recv_ins {C : Addr} {fl : Fl} {m : Str} (h : fl.lookup m = none) : Recv C m (rIns C fl) := fun v H ⟨a, dx, fs, h1, h2, h3⟩ => ⟨a, dx, fs, h1, h2, h3.none h⟩
theorem je_methD {pl : Sem Bool} (ho : JE X o τ Ro) (c : Cls X.K C) (rc : Recv C m Ro) (hm : Meth X.K C m f) (F : FnOk X.prog X.w X.K X.mg X.base CX k f fd ps (spS S)) (hr : Room k X.A) (hb : Binds X.K fd ps ds) (hd : Vals dvs ds) (hx : Passes CX X E0)
    (dR : DflR dvs dRs) (ha : JA X (e :: es) τ Rs) (hS : S (Ro :: (Rs ++ dRs)) R)
    (hst : starEach (e :: es) X.env = (false, eval e X.env) :: starEach es X.env := by rfl) (hpl : (backTo pos (starEach es X.env)).any (·.1) = false := by rfl)
    (ht : eval (.Call (.Attribute o m apos) (e :: es) [] pos) X.env = (do
      let ov ← eval o X.env
      standAt apos.atName
      let (f, first) ← holding [ov] (getMethod ov m pl)
      callWith pos f first (backTo pos (starEach (e :: es) X.env)) (backToKw pos (keywordEach [] X.env))) := by rfl) :
    JE X (.Call (.Attribute o m apos) (e :: es) [] pos) τ R := fun σ H t =>
  pe_se (pe_meth (pl := pl) se_pe c hm F hr hb hd hx sa_pa hst hpl ht) ((ho σ H t).mono fun v H1 ⟨e1, r1⟩ => by
    obtain ⟨q, dx, fs, h1, h2, h3⟩ := rc v H1 r1
    refine ⟨q, dx, fs, h1, h2, h3, ?_⟩
    exact (ha σ H1 (t.mo e1)).mono fun vs H2 ⟨e2, r2⟩ => ⟨_, R, hS, ⟨Ro.mo _ _ _ e2 r1, r2.append (dR H2)⟩, fun v H3 e3 r => ⟨(e1.trans e2).trans e3, r⟩⟩)
theorem je_meth {pl : Sem Bool} (ho : JE X o τ Ro) (c : Cls X.K C) (rc : Recv C m Ro) (hm : Meth X.K C m f) (F : FnOk X.prog X.w X.K X.mg X.base CX k f fd ps (spS S)) (hr : Room k X.A) (hb : Binds X.K fd ps []) (hx : Passes CX X E0)
    (ha : JA X (e :: es) τ Rs) (hS : S (Ro :: Rs) R)
    (hst : starEach (e :: es) X.env = (false, eval e X.env) :: starEach es X.env := by rfl) (hpl : (backTo pos (starEach es X.env)).any (·.1) = false := by rfl)
    (ht : eval (.Call (.Attribute o m apos) (e :: es) [] pos) X.env = (do
      let ov ← eval o X.env
      standAt apos.atName
      let (f, first) ← holding [ov] (getMethod ov m pl)
      callWith pos f first (backTo pos (starEach (e :: es) X.env)) (backToKw pos (keywordEach [] X.env))) := by rfl) :
    JE X (.Call (.Attribute o m apos) (e :: es) [] pos) τ R := je_methD (pl := pl) ho c rc hm F hr hb .nil hx dfl0 ha (by rw [List.append_nil]; exact hS) hst hpl ht
theorem je_meth0 {pl : Sem Bool} (ho : JE X o τ Ro) (c : Cls X.K C) (rc : Recv C m Ro) (hm : Meth X.K C m f) (F : FnOk X.prog X.w X.K X.mg X.base CX k f fd ps (spS S)) (hr : Room k X.A) (hb : Binds X.K fd ps []) (hx : Passes CX X E0) (hS : S [Ro] R)
    (ht : eval (.Call (.Attribute o m apos) [] [] pos) X.env = (do
      let ov ← eval o X.env
      standAt apos.atName
      let (f, first) ← holding [ov] (getMethod ov m pl)
      callWith pos f first (backTo pos (starEach [] X.env)) (backToKw pos (keywordEach [] X.env))) := by rfl) :
    JE X (.Call (.Attribute o m apos) [] [] pos) τ R := fun σ H t =>
  pe_se (pe_meth0 (pl := pl) se_pe c hm F hr hb .nil hx ht) ((ho σ H t).mono fun v H1 ⟨e1, r1⟩ => by
    obtain ⟨q, dx, fs, h1, h2, h3⟩ := rc v H1 r1
    refine ⟨q, dx, fs, h1, h2, h3, ?_⟩
    exact ⟨_, R, hS, ⟨r1, trivial⟩, fun v H3 e3 r => ⟨e1.trans e3, r⟩⟩)
theorem spI_of {vs : List V} {H1 : Hp} {E : XK} {Q : VK} (dR : DflR dvs dRs) (r1 : AllR vs Rs H1) (hS : S (Rs ++ dRs) R) (q : ∀ v H2, Ex H1 H2 → R.p v H2 → Q v H2) :
    ∀ x dx, H1 x = none → H1 dx = none → dx ≠ x → spI C S (.ref x :: (vs ++ dvs)) (upd (upd H1 dx (.own x)) x (.ins C dx [])) (fun v H2 => v = .non ∧ Q (.ref x) H2) E := fun x dx hx hdx _ =>
  ⟨x, dx, vs ++ dvs, _, R, H1, rfl, upd_same, Ex.mut (Ex.new hdx) hx, hx, r1.append (dR H1), hS, fun H' e1 r => ⟨rfl, q _ _ e1 r⟩⟩
theorem je_makeD (M : Mk X.K C f) (F : FnOk X.prog X.w X.K X.mg X.base CX k f fd ps (spI C S)) (hr : Room (k + 1) X.A) (hg : Gl X x) (hm : X.mg x = some (.ref C)) (hb : Binds X.K fd ps ds) (hd : Vals dvs ds) (hx : Passes CX X E0)
    (dR : DflR dvs dRs) (ha : JA X (e :: es) τ Rs) (hS : S (Rs ++ dRs) R)
    (hdb : (x == ("__debug__" : Str)) = false := by decide) (he : starEach (e :: es) X.env = (false, eval e X.env) :: starEach es X.env := by rfl) (hpl : (backTo pos (starEach es X.env)).any (·.1) = false := by rfl) :
    JE X (.Call (.Name x p) (e :: es) [] pos) τ R := fun σ H t =>
  pe_se (pe_make M F hr hg hm hb hd hx sa_pa hdb he hpl) ((ha σ H t).mono fun vs H1 ⟨e1, r1⟩ => spI_of dR r1 hS (Q := fun v H' => Ex H H' ∧ R.p v H') fun v H2 e2 r => ⟨e1.trans e2, r⟩)
theorem je_make (M : Mk X.K C f) (F : FnOk X.prog X.w X.K X.mg X.base CX k f fd ps (spI C S)) (hr : Room (k + 1) X.A) (hg : Gl X x) (hm : X.mg x = some (.ref C)) (hb : Binds X.K fd ps []) (hx : Passes CX X E0)
    (ha : JA X (e :: es) τ Rs) (hS : S Rs R)
    (hdb : (x == ("__debug__" : Str)) = false := by decide) (he : starEach (e :: es) X.env = (false, eval e X.env) :: starEach es X.env := by rfl) (hpl : (backTo pos (starEach es X.env)).any (·.1) = false := by rfl) :
    JE X (.Call (.Name x p) (e :: es) [] pos) τ R := je_makeD M F hr hg hm hb .nil hx dfl0 ha (by rw [List.append_nil]; exact hS) hdb he hpl
theorem je_make0 (M : Mk X.K C f) (F : FnOk X.prog X.w X.K X.mg X.base CX k f fd ps (spI C S)) (hr : Room (k + 1) X.A) (hg : Gl X x) (hm : X.mg x = some (.ref C)) (hb : Binds X.K fd ps ds) (hd : Vals dvs ds) (hx : Passes CX X E0)
    (dR : DflR dvs dRs) (hS : S dRs R) (hdb : (x == ("__debug__" : Str)) = false := by decide) : JE X (.Call (.Name x p) [] [] pos) τ R := fun σ H t =>
  pe_se (pe_make0 M F hr hg hm hb hd hx hdb) (show tMake C (spI C S) dvs E0 tNil σ H _ from spI_of (vs := []) (Rs := []) (H1 := H) dR trivial hS (Q := fun v H' => Ex H H' ∧ R.p v H') fun v H2 e2 r => ⟨e2, r⟩)
/-! built-ins by name -/
theorem je_callB {r : List V → Hp → VK → Prop} {id : String} (hc : CallR X (.builtin id) r) (hg : Gl X x) (hm : X.mg x = none) (hv : bootBuiltins x = some (.builtin id)) (ha : JA X (e :: es) τ Rs)
    (hr : ∀ vs H (Q : VK), AllR vs Rs H → (∀ z H', Ex H H' → R.p z H' → Q z H') → r vs H Q) (hn : x ≠ "__name__" := by decide) (hdb : (x == ("__debug__" : Str)) = false := by decide)
    (he : starEach (e :: es) X.env = (false, eval e X.env) :: starEach es X.env := by rfl) (hpl : (backTo pos (starEach es X.env)).any (·.1) = false := by rfl) : JE X (.Call (.Name x p) (e :: es) [] pos) τ R := fun σ H t =>
  pe_se (pe_callB hc hg hm hv sa_pa hn hdb he hpl) ((ha σ H t).mono fun vs H1 ⟨e1, r1⟩ => hr vs H1 _ r1 fun z H2 e2 q => ⟨e1.trans e2, q⟩)
theorem je_callTy {r : List V → Hp → VK → Prop} {T : String} (hc : CallR X (.type T) r) (hg : Gl X x) (hm : X.mg x = none) (hv : bootBuiltins x = some (.type T)) (ha : JA X (e :: es) τ Rs)
    (hr : ∀ vs H (Q : VK), AllR vs Rs H → (∀ z H', Ex H H' → R.p z H' → Q z H') → r vs H Q) (hn : x ≠ "__name__" := by decide) (hdb : (x == ("__debug__" : Str)) = false := by decide)
    (he : starEach (e :: es) X.env = (false, eval e X.env) :: starEach es X.env := by rfl) (hpl : (backTo pos (starEach es X.env)).any (·.1) = false := by rfl) : JE X (.Call (.Name x p) (e :: es) [] pos) τ R := fun σ H t =>
  pe_se (pe_callTy hc hg hm hv sa_pa hn hdb he hpl) ((ha σ H t).mono fun vs H1 ⟨e1, r1⟩ => hr vs H1 _ r1 fun z H2 e2 q => ⟨e1.trans e2, q⟩)
theorem je_lenT (hg : Gl X "len") (hm : X.mg "len" = none) (ha : JE X e τ (rTup X.K Rs)) (he : starEach (e :: []) X.env = (false, eval e X.env) :: starEach [] X.env := by rfl) (hpl : (backTo pos (starEach [] X.env)).any (·.1) = false := by rfl) :
    JE X (.Call (.Name "len" p) [e] [] pos) τ (rV (.int (Rs.length : Int))) :=
  je_callB call_len_seq hg hm boot_len (ja_cons ha ja_nil he) (fun vs H Q h q => by
    obtain ⟨v, rfl, a, ws, h1, h2, h3⟩ := h.one
    exact ⟨a, ws, by rw [h1], .inr h2, q _ H (Evl.Ex.refl H) (by rw [h3.len]; rfl)⟩) (by decide) (by decide) he hpl
theorem je_lenL (hg : Gl X "len") (hm : X.mg "len" = none) (ha : JE X e τ (rLst X.K Rs)) (he : starEach (e :: []) X.env = (false, eval e X.env) :: starEach [] X.env := by rfl) (hpl : (backTo pos (starEach [] X.env)).any (·.1) = false := by rfl) :
    JE X (.Call (.Name "len" p) [e] [] pos) τ (rV (.int (Rs.length : Int))) :=
  je_callB call_len_seq hg hm boot_len (ja_cons ha ja_nil he) (fun vs H Q h q => by
    obtain ⟨v, rfl, a, ws, h1, h2, h3⟩ := h.one
    exact ⟨a, ws, by rw [h1], .inl h2, q _ H (Evl.Ex.refl H) (by rw [h3.len]; rfl)⟩) (by decide) (by decide) he hpl
/-- tuple(list) -/
theorem je_tupleL (hg : Gl X "tuple") (hm : X.mg "tuple" = none) (ha : JE X e τ (rLst X.K Rs)) (he : starEach (e :: []) X.env = (false, eval e X.env) :: starEach [] X.env := by rfl) (hpl : (backTo pos (starEach [] X.env)).any (·.1) = false := by rfl) :
    JE X (.Call (.Name "tuple" p) [e] [] pos) τ (rTup X.K Rs) :=
  je_callTy call_tuple_of hg hm (by decide +kernel) (ja_cons ha ja_nil he) (fun vs H Q h q => by
    obtain ⟨v, rfl, a, ws, h1, h2, h3⟩ := h.one
    exact ⟨a, ws, by rw [h1], .inl ⟨h2, fun l hl => q _ _ (Ex.new hl) ⟨l, ws, rfl, SqT.of upd_same, h3.mo (Ex.new hl)⟩⟩⟩) (by decide) (by decide) he hpl
theorem je_tupleT (hg : Gl X "tuple") (hm : X.mg "tuple" = none) (ha : JE X e τ (rTup X.K Rs)) (he : starEach (e :: []) X.env = (false, eval e X.env) :: starEach [] X.env := by rfl) (hpl : (backTo pos (starEach [] X.env)).any (·.1) = false := by rfl) :
    JE X (.Call (.Name "tuple" p) [e] [] pos) τ (rTup X.K Rs) :=
  je_callTy call_tuple_of hg hm (by decide +kernel) (ja_cons ha ja_nil he) (fun vs H Q h q => by
    obtain ⟨v, rfl, a, ws, h1, h2, h3⟩ := h.one
    exact ⟨a, ws, by rw [h1], .inr ⟨h2, q _ _ (Evl.Ex.refl H) ⟨a, ws, rfl, h2, h3⟩⟩⟩) (by decide) (by decide) he hpl
theorem je_minmax {i j : Int} {id : String} {g : Int → Int → Int} (hc : CallR X (.builtin id) (fun xs H Q => ∃ i j, xs = [.int i, .int j] ∧ Q (.int (g i j)) H)) (hg : Gl X x) (hm : X.mg x = none) (hv : bootBuiltins x = some (.builtin id)) (ha : JE X a τ (rV (.int i))) (hb : JE X b τ (rV (.int j)))
    (hn : x ≠ "__name__" := by decide) (hdb : (x == ("__debug__" : Str)) = false := by decide)
    (h1 : starEach [a, b] X.env = (false, eval a X.env) :: starEach [b] X.env := by rfl) (h2 : starEach [b] X.env = (false, eval b X.env) :: starEach [] X.env := by rfl) (hpl : (backTo pos (starEach [b] X.env)).any (·.1) = false := by rfl) :
    JE X (.Call (.Name x p) [a, b] [] pos) τ (rV (.int (g i j))) :=
  je_callB hc hg hm hv (ja_cons ha (ja_cons hb ja_nil h2) h1) (fun vs H Q h q => by
    obtain ⟨v, w, rfl, r1, r2⟩ := h.two
    exact ⟨i, j, by rw [(show v = .int i from r1), (show w = .int j from r2)], q _ H (Evl.Ex.refl H) rfl⟩) hn hdb h1 hpl
theorem cutV_take {vs : List V} {n : Nat} : cutV vs none (some (n : Int)) = vs.take n := by
  unfold cutV
  rw [HT.sIx_none, HT.sIx_nat, List.drop_zero, Nat.sub_zero]
  by_cases h : n ≤ vs.length
  · rw [Nat.min_eq_left h]
  · rw [Nat.min_eq_right (by omega), List.take_length, List.take_of_length_le (by omega)]
/-- xs[:n] of a list -/
theorem je_takeL {n : Nat} {p2 : Pos} (ha : JE X a τ (rLst X.K Rs)) (hb : JE X b τ (rV (.int (n : Int)))) : JE X (.Subscript a (.Slice none (some b) none p2) pos) τ (rLst X.K (Rs.take n)) := fun σ H t =>
  pe_se (pe_slice sl_list se_pe po_none (po_some se_pe)) ((ha σ H t).mono fun v H1 ⟨e1, r1⟩ => (hb σ H1 (t.mo e1)).mono fun w H2 ⟨e2, r2⟩ => by
    obtain ⟨q, vs, h1, h2, h3⟩ := (rLst X.K Rs).mo _ _ _ e2 r1
    exact ⟨(n : Int), r2, q, vs, h1, h2, fun p hp => ⟨(e1.trans e2).trans (Ex.new hp), p, _, rfl, SqL.of upd_same, by rw [cutV_take]; exact (h3.take n).mo (Ex.new hp)⟩⟩)
/-- t[:n] of a tuple -/
theorem je_takeT {n : Nat} {p2 : Pos} (ha : JE X a τ (rTup X.K Rs)) (hb : JE X b τ (rV (.int (n : Int)))) : JE X (.Subscript a (.Slice none (some b) none p2) pos) τ (rTup X.K (Rs.take n)) := fun σ H t =>
  pe_se (pe_slice sl_tupA se_pe po_none (po_some se_pe)) ((ha σ H t).mono fun v H1 ⟨e1, r1⟩ => (hb σ H1 (t.mo e1)).mono fun w H2 ⟨e2, r2⟩ => by
    obtain ⟨q, vs, h1, h2, h3⟩ := (rTup X.K Rs).mo _ _ _ e2 r1
    refine ⟨(n : Int), r2, q, vs, h1, h2, fun hw => ?_, fun _ p hp => ⟨(e1.trans e2).trans (Ex.new hp), p, _, rfl, SqT.of upd_same, by rw [cutV_take]; exact (h3.take n).mo (Ex.new hp)⟩⟩
    have hn : vs.length ≤ n := by
      have z := hw.2
      rw [HT.sIx_nat] at z
      omega
    refine ⟨e1.trans e2, q, vs, rfl, h2, ?_⟩
    rw [List.take_of_length_le (by rw [← h3.len]; exact hn)]
    exact h3)
/-- t + u of tuples -/
theorem je_catT {Ss : List Rl} (ha : JE X a τ (rTup X.K Rs)) (hb : JE X b τ (rTup X.K Ss)) (hl : Rs.length + Ss.length ≤ 1000) : JE X (.BinOp a .Add b pos) τ (rTup X.K (Rs ++ Ss)) :=
  je_op op_catA ha hb fun x y H Q ⟨q, vs, h1, h2, h3⟩ ⟨q', vs', h1', h2', h3'⟩ k => by
    refine ⟨q, q', vs, vs', h1, h1', h2, h2', ?_, fun e0 => ?_, fun e0 e1 => ?_, fun _ _ p hp => k _ _ (Ex.new hp) ⟨p, _, rfl, SqT.of upd_same, (h3.append h3').mo (Ex.new hp)⟩⟩
    · rw [h3.len, h3'.len]
      exact Nat.le_of_lt (small1000 hl)
    · subst e0
      have : Rs = [] := List.length_eq_zero_iff.mp h3.len.symm
      subst this
      exact k _ _ (Evl.Ex.refl H) ⟨q', vs', rfl, h2', h3'⟩
    · subst e1
      have : Ss = [] := List.length_eq_zero_iff.mp h3'.len.symm
      subst this
      exact k _ _ (Evl.Ex.refl H) ⟨q, vs, rfl, h2, by rw [List.append_nil]; exact h3⟩
end
end Sq
end
section
set_option Elab.async false
set_option linter.all false
set_option maxRecDepth 100000
namespace Sq
open PySem PySem.Spec L2
open PyProof.Rows hiding St
open Evl (Ex)
/-! ### what stays true while lists change, too -/
def ExW (H H' : Hp) : Prop := ∀ a o, H a = some o → (∀ xs, o ≠ .lst xs) → H' a = some o
theorem Ex.w {H H' : Hp} (e : Ex H H') : ExW H H' := fun a o h _ => e a o h
theorem ExW.trans {H H1 H2 : Hp} (a : ExW H H1) (b : ExW H1 H2) : ExW H H2 := fun x o h n => b x o (a x o h n) n
theorem ExW.lst {H : Hp} {l : Addr} {xs : List V} {o : HO} (h : H l = some (.lst xs)) : ExW H (upd H l o) := fun a u e n => by
  have : a ≠ l := fun q => by
    subst q
    rw [h] at e
    cases e
    exact n _ rfl
  rw [upd_ne this]
  exact e
class Solid (R : Rl) : Prop where
  so : ∀ v H H', ExW H H' → R.p v H → R.p v H'
class SolidA (Rs : List Rl) : Prop where
  so : ∀ vs H H', ExW H H' → AllR vs Rs H → AllR vs Rs H'
class SolidF (fl : Fl) : Prop where
  so : ∀ vs H H', ExW H H' → AllF vs fl H → AllF vs fl H'
instance (w : V) : Solid (rV w) := ⟨fun _ _ _ _ h => h⟩
instance (P : Prop) (R : Rl) [Solid R] : Solid (rAnd P R) := ⟨fun v H H' e h => ⟨h.1, Solid.so v H H' e h.2⟩⟩
instance : SolidA [] := ⟨fun vs _ _ _ h => by
  cases vs with
  | nil => trivial
  | cons _ _ => exact h.elim⟩
instance (R : Rl) (Rs : List Rl) [Solid R] [SolidA Rs] : SolidA (R :: Rs) := ⟨fun vs H H' e h => by
  cases vs with
  | nil => exact h.elim
  | cons v r => exact ⟨Solid.so v H H' e h.1, SolidA.so r H H' e h.2⟩⟩
instance : SolidF [] := ⟨fun vs _ _ _ h => by
  cases vs with
  | nil => trivial
  | cons _ _ => exact h.elim⟩
instance (n : Str) (R : Rl) (fl : Fl) [Solid R] [SolidF fl] : SolidF ((n, R) :: fl) := ⟨fun vs H H' e h => by
  cases vs with
  | nil => exact h.elim
  | cons v r => exact ⟨h.1, Solid.so _ H H' e h.2.1, SolidF.so r H H' e h.2.2⟩⟩
instance (C : Addr) (fl : Fl) [SolidF fl] : Solid (rIns C fl) := ⟨fun v H H' e ⟨a, dx, fs, h1, h2, h3⟩ => ⟨a, dx, fs, h1, e _ _ h2 (fun xs q => nomatch q), SolidF.so _ H H' e h3⟩⟩
theorem sqt_w {K : PySem.W.Frag} {H H' : Hp} {a : Addr} {xs : List V} (e : ExW H H') (h : SqT K H a xs) : SqT K H' a xs := by
  rcases h with (h | ⟨o, h⟩) | h
  · exact .inl (.inl (e _ _ h fun xs q => nomatch q))
  · exact .inl (.inr ⟨o, e _ _ h fun xs q => nomatch q⟩)
  · exact .inr h
instance (K : PySem.W.Frag) (Rs : List Rl) [SolidA Rs] : Solid (rTup K Rs) := ⟨fun v H H' e ⟨a, vs, h1, h2, h3⟩ => ⟨a, vs, h1, sqt_w e h2, SolidA.so _ H H' e h3⟩⟩
theorem solidA_all : ∀ {Rs : List Rl}, (∀ R ∈ Rs, Solid R) → SolidA Rs
  | [], _ => inferInstance
  | R :: Rs, h => by
    have := h R List.mem_cons_self
    have := solidA_all fun S hS => h S (List.mem_cons_of_mem _ hS)
    infer_instance
instance solidA_map {α : Type} (f : α → Rl) (l : List α) [∀ a, Solid (f a)] : SolidA (l.map f) := solidA_all fun R h => by
  obtain ⟨a, _, rfl⟩ := List.mem_map.mp h
  infer_instance
/-- all that is known of the slots is solid -/
def SolT (τ : Ty) : Prop := ∀ (i : Nat) (R : Rl), τ[i]? = some (some R) → Solid R
theorem Typ.w {σ : L2.St} {τ : Ty} {H H' : Hp} (h : Typ σ τ H) (s : SolT τ) (e : ExW H H') : Typ σ τ H' := ⟨h.1, fun i R q => by
  obtain ⟨v, h1, h2⟩ := h.2 i R q
  exact ⟨v, h1, (s i R q).so v H H' e h2⟩⟩

/-! ### what is walked -/
def SI (X : Cx) (tg iter : Expr) : TI := fun σ H R => ∀ pins s, Inv X pins σ H s → wpAny (model X.prog X.w) X.A (eval iter X.env) (fun v s1 => wpAny (model X.prog X.w) X.A (pyIter v) (PIE X pins σ tg R) X.xe s1) X.xe s
def Wk (J : It) (Rs : List Rl) (H1 : Hp) : Prop := (∀ i H', Ex H1 H' → i < Rs.length → J.go i H') ∧ (∀ i x H' H'', Ex H1 H' → J.yld i H' x H'' → H'' = H' ∧ ∀ R, Rs[i]? = some R → R.p x H') ∧ ∀ H', Ex H1 H' → J.stop Rs.length H'
def JI (X : Cx) (tg iter : Expr) (τ : Ty) (Rs : List Rl) : Prop := ∀ σ H, Typ σ τ H → SI X tg iter σ H fun J H1 => Ex H H1 ∧ Wk J Rs H1
def rgI (lo c : Int) (n : Nat) : List Rl := (List.range n).map fun (i : Nat) => rV (.int (lo + (i : Int) * c))
theorem rgI_len {lo c : Int} {n : Nat} : (rgI lo c n).length = n := by unfold rgI; rw [List.length_map, List.length_range]
theorem rgI_get {lo c : Int} {n i : Nat} {R : Rl} (h : (rgI lo c n)[i]? = some R) : i < n ∧ R = rV (.int (lo + (i : Int) * c)) := by
  unfold rgI at h
  rw [List.getElem?_map] at h
  by_cases l : i < n
  · rw [List.getElem?_range l] at h
    cases h
    exact ⟨l, rfl⟩
  · rw [List.getElem?_eq_none (by rw [List.length_range]; omega)] at h
    cases h
section
variable {X : Cx} {τ τ' : Ty} {R R' Ra Rb Ro Rt : Rl} {Rs Rs' dRs : List Rl} {a b c e o tg iter : Expr} {es : List Expr} {pos p apos tp : Pos} {x m : Str} {Nx : Ty → Prop} {st : Stmt} {sts rest body : List Stmt}
  {CX : CXT} {k : Nat} {f C : Addr} {fd : FuncData} {ps : List Str} {S : Sg} {dvs : List V} {ds : List Value}
theorem si_pi : PI X tg iter (SI X tg iter) := ⟨fun pins s σ H R I h => h pins s I⟩
theorem ji_list (hl : JE X iter τ (rLst X.K Rs)) : JI X tg iter τ Rs := fun σ H t pins s I => (pi_list (tg := tg) (tl := SE X iter) se_pe).run pins s σ H _ I ((hl σ H t).mono fun v H1 ⟨e1, a, vs, h1, h2, h3⟩ =>
  ⟨a, h1, ⟨vs, h2⟩, e1, fun i H' e hi => by
    have hv : i < vs.length := by rw [h3.len]; exact hi
    exact ⟨vs, vs[i], Evl.ex_l e h2, List.getElem?_eq_getElem hv⟩, fun i x H' H'' e y => ⟨y.1, fun R hR => by
    have q := y.2 vs (Evl.ex_l e h2)
    obtain ⟨R', hR', r⟩ := h3.getV q
    rw [hR] at hR'
    cases hR'
    exact R.mo _ _ _ e r⟩, fun H' e => ⟨vs, Evl.ex_l e h2, Nat.le_of_eq h3.len⟩⟩)
theorem ji_tup (hl : JE X iter τ (rTup X.K Rs)) : JI X tg iter τ Rs := fun σ H t pins s I => (pi_tup (tg := tg) (tl := SE X iter) se_pe).run pins s σ H _ I ((hl σ H t).mono fun v H1 ⟨e1, a, vs, h1, h2, h3⟩ =>
  ⟨a, h1, ⟨vs, h2⟩, e1, fun i H' e hi => by
    have hv : i < vs.length := by rw [h3.len]; exact hi
    exact ⟨vs, vs[i], Evl.ex_t e h2, List.getElem?_eq_getElem hv⟩, fun i x H' H'' e y => ⟨y.1, fun R hR => by
    have q := y.2 vs (Evl.ex_t e h2)
    obtain ⟨R', hR', r⟩ := h3.getV q
    rw [hR] at hR'
    cases hR'
    exact R.mo _ _ _ e r⟩, fun H' e => ⟨vs, Evl.ex_t e h2, Nat.le_of_eq h3.len⟩⟩)
theorem wk_r {lo : Int} {n : Nat} {H1 : Hp} : Wk (Itr lo n) (rgI lo 1 n) H1 := ⟨fun i H' e hi => by rw [rgI_len] at hi; exact hi, fun i x H' H'' e y => ⟨y.1, fun R hR => by
    obtain ⟨_, rfl⟩ := rgI_get hR
    have q := y.2
    show x = V.int (lo + (i : Int) * 1)
    rw [Int.mul_one]
    exact q⟩, fun H' e => by rw [rgI_len]; exact Nat.le_refl n⟩
theorem wk_c {lo c : Int} {n : Nat} {H1 : Hp} : Wk (Itc lo c n) (rgI lo c n) H1 := ⟨fun i H' e hi => by rw [rgI_len] at hi; exact hi, fun i x H' H'' e y => ⟨y.1, fun R hR => by
    obtain ⟨_, rfl⟩ := rgI_get hR
    exact y.2⟩, fun H' e => by rw [rgI_len]; exact Nat.le_refl n⟩
theorem ji_range1 {j : Int} (hg : Gl X "range") (hm : X.mg "range" = none) (ha : JE X a τ (rV (.int j))) (hj : -1000 ≤ j ∧ j ≤ 1000) (hs : starEach [a] X.env = [(false, eval a X.env)] := by rfl) : JI X tg (.Call (.Name "range" p) [a] [] pos) τ (rgI 0 1 j.toNat) := fun σ H t pins s I =>
  (pi_range1 (tg := tg) hg hm (sa_pa (es := [a])) hs).run pins s σ H _ I ((ja_cons ha ja_nil hs σ H t).mono fun vs H1 ⟨e1, r1⟩ => by
    obtain ⟨v, rfl, r⟩ := r1.one
    obtain rfl : v = .int j := r
    exact ⟨j, rfl, by omega, by omega, e1, wk_r⟩)
theorem ji_range2 {i j : Int} (hg : Gl X "range") (hm : X.mg "range" = none) (ha : JE X a τ (rV (.int i))) (hb : JE X b τ (rV (.int j))) (hi : -1000 ≤ i ∧ i ≤ 1000) (hj : -1000 ≤ j ∧ j ≤ 1000)
    (hs : starEach [a, b] X.env = [(false, eval a X.env), (false, eval b X.env)] := by rfl) (hs2 : starEach [b] X.env = [(false, eval b X.env)] := by rfl) : JI X tg (.Call (.Name "range" p) [a, b] [] pos) τ (rgI i 1 (j - i).toNat) := fun σ H t pins s I =>
  (pi_range2 (tg := tg) hg hm (sa_pa (es := [a, b])) hs hs2).run pins s σ H _ I ((ja_cons ha (ja_cons hb ja_nil hs2) (by rw [hs, hs2]) σ H t).mono fun vs H1 ⟨e1, r1⟩ => by
    obtain ⟨v, w, rfl, r, r'⟩ := r1.two
    obtain rfl : v = .int i := r
    obtain rfl : w = .int j := r'
    exact ⟨i, j, rfl, by omega, e1, wk_r⟩)
theorem AllR.three {vs : List V} {R S T : Rl} {H : Hp} (h : AllR vs [R, S, T] H) : ∃ v w u, vs = [v, w, u] ∧ R.p v H ∧ S.p w H ∧ T.p u H := by
  cases vs with
  | nil => exact h.elim
  | cons v r =>
    obtain ⟨w, u, e, q⟩ := AllR.two h.2
    exact ⟨v, w, u, by rw [e], h.1, q⟩
theorem ji_range3 {i j d : Int} {n : Nat} (hg : Gl X "range") (hm : X.mg "range" = none) (hab : JA X [a, b, c] τ [rV (.int i), rV (.int j), rV (.int d)]) (hn : RgC i j d n)
    (hs : starEach [a, b, c] X.env = (false, eval a X.env) :: starEach [b, c] X.env := by rfl) (hpl : (backTo pos (starEach [b, c] X.env)).any (·.1) = false := by rfl) : JI X tg (.Call (.Name "range" p) [a, b, c] [] pos) τ (rgI i d n) := fun σ H t pins s I =>
  (pi_range3 (tg := tg) hg hm (sa_pa (es := [a, b, c])) hs hpl).run pins s σ H _ I ((hab σ H t).mono fun vs H1 ⟨e1, r1⟩ => by
    obtain ⟨v, w, u, rfl, r, r', r''⟩ := r1.three
    obtain rfl : v = .int i := r
    obtain rfl : w = .int j := r'
    obtain rfl : u = .int d := r''
    exact ⟨i, j, d, n, rfl, hn, e1, wk_c⟩)

/-! ### comprehensions -/
theorem je_lc {scope : Scope} {j : Nat} (hc : X.calm = true) (nd : X.N.Nodup) (hi : JI X (.Name x tp) iter τ Rs) (ok : BlkOk X.N X.env.scope scope [(x, j)])
    (hg : ∀ (s : Shared) (H : Hp) (C : Addr) (cl : List (Str × Addr)) (fp : List Addr), PG (X.blk s H scope (compEnvC scope cl C X.env) fp) (.Name x tp) (gName j))
    (he : ∀ (s : Shared) (H : Hp) (C : Addr) (cl : List (Str × Addr)) (fp : List Addr) (i : Nat) (R R' : Rl), Rs[i]? = some R → Rs'[i]? = some R' → JE (X.blk s H scope (compEnvC scope cl C X.env) fp) e ((τ.set j none).set j (some R)) R')
    (sol : ∀ R ∈ Rs', Solid R) (hlen : Rs'.length = Rs.length) (hz : Rs.length ≤ 1000) (hs : ∀ x, foldedSetIterable iter X.env x = pure x := by intro _; rfl) : JE X (.ListComp e [⟨.Name x tp, iter, [], 0⟩] scope pos) τ (rLst X.K Rs') := by
  intro σ H t
  have hE : ∀ (s : Shared) (H : Hp) (C : Addr) (cl : List (Str × Addr)) (fp : List Addr), PE (X.blk s H scope (compEnvC scope cl C X.env) fp) e (fun σ H Q => ∀ s H0 C cl fp, SE (X.blk s H0 scope (compEnvC scope cl C X.env) fp) e σ H Q) :=
    fun s0 H0 C cl fp => ⟨fun pins s σ H Q I h => h s0 H0 C cl fp pins s I⟩
  refine pe_se (pe_lc (own := [(x, j)]) (g := gName j) (tt := tYes) hc nd (si_pi (X := X) (tg := .Name x tp) (iter := iter)) ok hg (fun _ _ _ _ _ => pts_nil) hE hs) ?_
  intro pins s I
  refine thn (hi σ H t pins s I) fun v s1 h1 => thn h1 fun itv s2 h2 => ?_
  obtain ⟨it, fp, tn, J, H1, q1, q2, q3, q4, q5, e1, w1, w2, w3⟩ := h2
  refine ⟨it, fp, tn, J, H1, q1, q2, q3, q4, q5, fun D hD => ?_⟩
  let Pv : Nat → Hp → Prop := fun i H' => Ex H1 H' ∧ ∃ acc, H' D = some (.lst acc) ∧ AllR acc (Rs'.take i) H'
  refine ⟨fun i m H' => m = Rs.length - i ∧ i ≤ Rs.length ∧ Pv i H', ⟨Rs.length, by simp, Nat.zero_le _, Ex.new hD, [], upd_same, trivial⟩, ?_⟩
  rintro i m H' ⟨rfl, hi, ex, acc, hacc, hall⟩
  by_cases hlt : i < Rs.length
  · refine .inr ⟨w1 i H' ex hlt, Pv (i + 1), fun H2 p2 => ⟨Rs.length - (i + 1), by omega, rfl, hlt, p2⟩, fun v H2 y => ?_⟩
    obtain ⟨rfl, hv⟩ := w2 i v H' H2 ex y
    have r := hv _ (List.getElem?_eq_getElem hlt)
    have hR' : Rs'[i]? = some Rs'[i] := List.getElem?_eq_getElem (by omega)
    show wipe ((wipe σ [j]).set j (some v)) [j] = wipe σ [j] ∧ _
    refine ⟨by show ((σ.set j none).set j (some v)).set j none = σ.set j none; rw [List.set_set, List.set_set], ?_⟩
    refine iteT (B := Pv (i + 1) H2) ?_
    intro s0 H0 C cl fp0
    have t2 : Typ ((wipe σ [j]).set j (some v)) ((τ.set j none).set j (some Rs[i])) H2 := ((t.mo (e1.trans ex)).lose j none).set j r
    refine (he s0 H0 C cl fp0 i _ _ (List.getElem?_eq_getElem hlt) hR' _ _ t2).mono fun y H4 ⟨e4, r4⟩ => ?_
    have hl : acc.length ≤ 1000 := by
      rw [hall.len, List.length_take]
      omega
    refine ⟨acc, e4 _ _ hacc, small1000 hl, Ex.mut (ex.trans e4) hD, acc ++ [y], upd_same, ?_⟩
    have hS : SolidA Rs' := solidA_all sol
    have ht : Rs'.take (i + 1) = Rs'.take i ++ [Rs'[i]] := by rw [List.take_succ, hR']; rfl
    have hS2 : SolidA (Rs'.take i ++ [Rs'[i]]) := by
      rw [← ht]
      exact solidA_all fun R h => sol R (List.mem_of_mem_take h)
    rw [ht]
    exact hS2.so _ _ _ (ExW.lst (e4 _ _ hacc)) ((hall.mo e4).append ⟨r4, trivial⟩)
  · have hi' : i = Rs.length := by omega
    subst hi'
    refine .inl ⟨w3 H' ex, e1.trans ex, D, acc, rfl, SqL.of hacc, ?_⟩
    rw [List.take_of_length_le (by omega)] at hall
    exact hall

/-! ### statements -/
theorem JSs.up (h : JSs X sts τ Nx Rt) {σ : L2.St} {H H1 : Hp} (t : Typ σ τ H1) (e : Ex H H1) : SSs X sts (enD H Nx Rt) σ H1 :=
  (h σ H1 t).mono (fun σ' H' ⟨e1, q⟩ => ⟨e.trans e1, q⟩) (fun v H' ⟨e1, q⟩ => ⟨e.trans e1, q⟩) (fun _ _ q => q) (fun _ _ q => q)
theorem JSs.imp {Nx' : Ty → Prop} (h : JSs X sts τ Nx Rt) (k : ∀ τ', Nx τ' → Nx' τ') : JSs X sts τ Nx' Rt := fun σ H t =>
  (h σ H t).mono (fun σ' H' ⟨e1, τ', q, r⟩ => ⟨e1, τ', k τ' q, r⟩) (fun v H' q => q) (fun _ _ q => q) (fun _ _ q => q)
theorem jss_nil (h : Nx τ) : JSs X [] τ Nx Rt := fun σ H t => pss_sss pss_nil ⟨Evl.Ex.refl H, τ, h, t⟩
/-- by what holds of the slots at the start -/
theorem JSs.of (h : ∀ σ H, Typ σ τ H → JSs X sts τ Nx Rt) : JSs X sts τ Nx Rt := fun σ H t => h σ H t σ H t
theorem jss_set (i : Nat) {pos' : Pos} (nd : X.N.Nodup) (he : JE X e τ R) (hr : JSs X rest (τ.set i (some R)) Nx Rt) (hi : X.N[i]? = some x := by rfl) (hx : Loc X.env.scope x := by first | exact .inl rfl | exact .inr rfl)
    (hs : swapsWith e (some (.Name x pos')) pos.line X.env = pure false := by rfl) (hf : X.fn x = true ∨ X.env.scope.names.lookup x = some .local := by first | exact .inl rfl | exact .inr rfl) : JSs X (.Assign [.Name x pos'] e pos :: rest) τ Nx Rt := fun σ H t =>
  pss_sss (pss_cons (ps_set nd hi hx se_pe hs hf) sss_pss) ((he σ H t).mono fun v H1 ⟨e1, r⟩ => hr.up ((t.mo e1).set i r) e1)
theorem jss_ret (he : JE X e τ Rt) : JSs X (.Return (some e) pos :: rest) τ Nx Rt := fun σ H t =>
  pss_sss (pss_cons (ps_ret se_pe) pss_never) (he σ H t)
theorem jss_drop (he : JE X e τ R) (hr : JSs X rest τ Nx Rt) (hs : swapsWith e none pos.line X.env = pure false := by rfl) : JSs X (.Expr e pos :: rest) τ Nx Rt := fun σ H t =>
  pss_sss (pss_cons (ps_expr se_pe hs) sss_pss) ((he σ H t).mono fun v H1 ⟨e1, r⟩ => hr.up (t.mo e1) e1)
theorem jss_ifF {A B : List Stmt} (hc : JT X c τ false) (hb : JSs X B τ (fun τ' => τ' = τ) Rt) (hr : JSs X rest τ Nx Rt) : JSs X (.If c A B pos :: rest) τ Nx Rt := fun σ H t =>
  pss_sss (pss_cons (ps_if st_pt sss_pss sss_pss) sss_pss) ((hc σ H t).mono fun k H1 ⟨ek, e1⟩ => by
    subst ek
    rw [if_neg Bool.false_ne_true]
    exact (hb σ H1 (t.mo e1)).mono (fun σ' H' ⟨e2, τ', q, r⟩ => by
      subst q
      exact hr.up r (e1.trans e2)) (fun v H' ⟨e2, q⟩ => ⟨e1.trans e2, q⟩) (fun _ _ q => q) (fun _ _ q => q))
/-- if c: A, not taken -/
theorem jss_skip {A : List Stmt} (hc : JT X c τ false) (hr : JSs X rest τ Nx Rt) : JSs X (.If c A [] pos :: rest) τ Nx Rt := jss_ifF hc (jss_nil rfl) hr
/-- if c: A, taken, ending at the slots τ' -/
theorem jss_ifT {A B : List Stmt} {Nx' : Ty → Prop} (hc : JT X c τ true) (ha : JSs X A τ Nx' Rt) (hr : ∀ τ', Nx' τ' → JSs X rest τ' Nx Rt) : JSs X (.If c A B pos :: rest) τ Nx Rt := fun σ H t =>
  pss_sss (pss_cons (ps_if st_pt sss_pss sss_pss) sss_pss) ((hc σ H t).mono fun k H1 ⟨ek, e1⟩ => by
    subst ek
    rw [if_pos rfl]
    exact (ha σ H1 (t.mo e1)).mono (fun σ' H' ⟨e2, τ', q, r⟩ => (hr τ' q).up r (e1.trans e2)) (fun v H' ⟨e2, q⟩ => ⟨e1.trans e2, q⟩) (fun _ _ q => q) (fun _ _ q => q))
theorem jss_aug_add (i : Nat) {u w : Int} {pos' : Pos} (nd : X.N.Nodup) (he : JE X e τ (rV (.int w))) (hr : JSs X rest (τ.set i (some (rV (.int (u + w))))) Nx Rt) (hu : τ[i]? = some (some (rV (.int u))) := by rfl) (hi : X.N[i]? = some x := by rfl)
    (hx : Loc X.env.scope x := by first | exact .inl rfl | exact .inr rfl) (hf : X.fn x = true ∨ X.env.scope.names.lookup x = some .local := by first | exact .inl rfl | exact .inr rfl) : JSs X (.AugAssign (.Name x pos') .Add e pos :: rest) τ Nx Rt := fun σ H t =>
  pss_sss (pss_cons (ps_aug nd hi hx se_pe ip_add hf) sss_pss) (by
    obtain ⟨v, hv, r⟩ := t.2 i _ hu
    obtain rfl : v = .int u := r
    exact ⟨.int u, hv, (he σ H t).mono fun v H1 ⟨e1, r⟩ => ⟨u, w, rfl, r, hr.up ((t.mo e1).set i rfl) e1⟩⟩)
theorem jss_par (i j : Nat) {x y : Str} {px py pt : Pos} {kt k2 : Nat} {pt2 : Pos} (hc : X.calm = true) (nd : X.N.Nodup) (ha : JE X a τ Ra) (hb : JE X b τ Rb) (hr : JSs X rest ((τ.set i (some Ra)).set j (some Rb)) Nx Rt) (hi : X.N[i]? = some x := by rfl) (hj : X.N[j]? = some y := by rfl) (hij : i ≠ j := by decide)
    (hx : X.env.scope.names.lookup x = some .local := by rfl) (hy : X.env.scope.names.lookup y = some .local := by rfl)
    (hw : swappedStores [.Tuple [.Name x px, .Name y py] kt pt] (.Tuple [a, b] k2 pt2) X.env = pure (some [x, y]) := by rfl)
    (hs : swapsWithSole [.Tuple [.Name x px, .Name y py] kt pt] (.Tuple [a, b] k2 pt2) pos.line X.env = pure false := by rfl)
    (h1 : starEach [a, b] X.env = (false, eval a X.env) :: starEach [b] X.env := by rfl) (h2 : starEach [b] X.env = (false, eval b X.env) :: starEach [] X.env := by rfl) :
    JSs X (.Assign [.Tuple [.Name x px, .Name y py] kt pt] (.Tuple [a, b] k2 pt2) pos :: rest) τ Nx Rt := fun σ H t =>
  pss_sss (pss_cons (ps_par hc nd hi hj hij hx hy (sa_pa (es := [a, b])) hw hs) sss_pss) ((ja_cons ha (ja_cons hb ja_nil h2) h1 σ H t).mono fun vs H1 ⟨e1, r1⟩ => by
    obtain ⟨v, w, rfl, r, r'⟩ := r1.two
    exact ⟨v, w, rfl, hr.up (((t.mo e1).set i r).set j r') e1⟩)
theorem jss_while (W : Nat → Ty → Prop) (hp : PassesOwn (model X.prog X.w) X.A X.env X.xe) (h0 : ∃ m, W m τ)
    (hs : ∀ m τ', W m τ' → (JT X c τ' true ∧ JSs X body τ' (fun τ2 => ∃ m', m' < m ∧ W m' τ2) Rt) ∨ (JT X c τ' false ∧ JSs X rest τ' Nx Rt)) : JSs X (.While c body [] pos :: rest) τ Nx Rt := fun σ H t =>
  pss_sss (pss_cons (ps_while hp st_pt sss_pss) sss_pss) (by
    obtain ⟨m0, w0⟩ := h0
    refine ⟨fun m σ' H' => ∃ τ', W m τ' ∧ Typ σ' τ' H' ∧ Ex H H', ⟨m0, τ, w0, t, Evl.Ex.refl H⟩, ?_⟩
    rintro m σ' H' ⟨τ', w, t', ex⟩
    rcases hs m τ' w with ⟨h1, h2⟩ | ⟨h1, h2⟩
    · refine (h1 σ' H' t').mono fun k H1 ⟨ek, e1⟩ => ?_
      subst ek
      rw [if_pos rfl]
      refine ⟨fun σ2 H2 => ∃ m', m' < m ∧ ∃ τ2, W m' τ2 ∧ Typ σ2 τ2 H2 ∧ Ex H H2, fun σ2 H2 ⟨m', hm, q⟩ => ⟨m', hm, q⟩, ?_⟩
      exact (h2.up (t'.mo e1) (ex.trans e1)).mono (fun σ2 H2 ⟨e2, τ2, ⟨m', hm, w2⟩, t2⟩ => ⟨m', hm, τ2, w2, t2, e2⟩) (fun v H2 q => q) (fun _ _ q => q.elim) (fun _ _ q => q.elim)
    · refine (h1 σ' H' t').mono fun k H1 ⟨ek, e1⟩ => ?_
      subst ek
      rw [if_neg Bool.false_ne_true]
      exact h2.up (t'.mo e1) (ex.trans e1))
theorem jss_for (j : Nat) (Pv : Nat → Ty → Prop) (hp : PassesOwn (model X.prog X.w) X.A X.env X.xe) (hc : X.calm = true) (hi : JI X (.Name x tp) iter τ Rs) (hg : PG X (.Name x tp) (gName j)) (h0 : Pv 0 τ)
    (hs : ∀ i R τ', Rs[i]? = some R → Pv i τ' → JSs X body (τ'.set j (some R)) (Pv (i + 1)) Rt) (hd : ∀ τ', Pv Rs.length τ' → JSs X rest τ' Nx Rt) (hfs : ∀ x, foldedSetIterable iter X.env x = pure x := by intro _; rfl) :
    JSs X (.For (.Name x tp) iter body [] pos :: rest) τ Nx Rt := fun σ H t =>
  pss_sss (pss_cons (ps_for hp hc (si_pi (X := X) (tg := .Name x tp) (iter := iter)) hg sss_pss hfs) sss_pss) (by
    intro pins s I
    refine thn (hi σ H t pins s I) fun v s1 h1 => thn h1 fun itv s2 h2 => ?_
    obtain ⟨it, fp, tn, J, H1, q1, q2, q3, q4, q5, e1, w1, w2, w3⟩ := h2
    refine ⟨it, fp, tn, J, H1, q1, q2, q3, q4, q5, ?_⟩
    refine ⟨fun i m σ' H' => m = Rs.length - i ∧ i ≤ Rs.length ∧ ∃ τ', Pv i τ' ∧ Typ σ' τ' H' ∧ Ex H1 H', ⟨Rs.length, by simp, Nat.zero_le _, τ, h0, t.mo e1, Evl.Ex.refl H1⟩, ?_⟩
    rintro i m σ' H' ⟨rfl, hi, τ', p', t', ex⟩
    by_cases hlt : i < Rs.length
    · refine .inr ⟨w1 i H' ex hlt, fun σ2 H2 => ∃ τ2, Pv (i + 1) τ2 ∧ Typ σ2 τ2 H2 ∧ Ex H1 H2, fun σ2 H2 q => ⟨Rs.length - (i + 1), by omega, rfl, hlt, q⟩, fun v H2 y => ?_⟩
      obtain ⟨rfl, hv⟩ := w2 i v H' H2 ex y
      have r := hv _ (List.getElem?_eq_getElem hlt)
      exact (hs i _ τ' (List.getElem?_eq_getElem hlt) p' (σ'.set j (some v)) H2 (t'.set j r)).mono (fun σ3 H3 ⟨e3, τ3, p3, t3⟩ => ⟨τ3, p3, t3, ex.trans e3⟩) (fun v H3 ⟨e3, q⟩ => ⟨(e1.trans ex).trans e3, q⟩) (fun _ _ q => q.elim) (fun _ _ q => q.elim)
    · have hi' : i = Rs.length := by omega
      subst hi'
      exact .inl ⟨w3 H' ex, (hd τ' p').up t' (e1.trans ex)⟩)
end

/-! ### defs -/
section
variable {P : Program} {w : World} {K : PySem.W.Frag} {mg : Str → Option Value} {base : Heap} {x qual : Str} {params : Arguments} {body : List Stmt} {scope : Scope} {dvs : List V} {kws : List (Str × V)} {f : Addr} {fd : FuncData} {N ps : List Str} {k : Nat}
abbrev cx0 (P : Program) (w : World) (K : PySem.W.Frag) (mg : Str → Option Value) (base : Heap) (N : List Str) (qual : Str) (scope : Scope) (f : Addr) (cdv : Value) (A : Around) (outer : List Env) (s : Shared) (H : Hp) (E : XK) : Cx := (cxOf CX0 P w K mg base N qual scope f cdv A outer s H E).nox
abbrev ty0 (N : List Str) (Rs : List Rl) : Ty := Rs.map some ++ List.replicate (N.length - Rs.length) none
theorem okS {S : Sg} (F : FunD K x qual params body scope dvs kws f fd) (Sc : FnScope N ps scope) (len : ∀ Rs R, S Rs R → Rs.length = ps.length)
    (hb : ∀ (cdv : Value) (A : Around) (outer : List Env) (s : Shared) (H : Hp) (E : XK) (Rs : List Rl) (R : Rl), Room k (A.deeper (envOfC qual scope s.heap.objs.size f cdv)) → S Rs R →
      JSs (cx0 P w K mg base N qual scope f cdv A outer s H E) body (ty0 N Rs) (fun _ => R = rNone) R) : FnOk P w K mg base CX0 (k + 1) f fd ps (spS S) := by
  refine F.ok Sc (fun vs H Q E h => ?_) (fun cdv A outer s H vs Q E hr h => ?_)
  · obtain ⟨Rs, R, hS, ha, _⟩ := h
    rw [ha.len]
    exact len Rs R hS
  · obtain ⟨Rs, R, hS, ha, q⟩ := h
    refine ⟨_, PSs.nox sss_pss, ?_⟩
    refine (hb cdv A outer s H E Rs R hr hS (L2.start N vs) H (typ_start ha)).mono (fun σ' H' ⟨e1, τ', eq, _⟩ => ?_) (fun v H' ⟨e1, r⟩ => q v H' e1 r) (fun _ _ q => q) (fun _ _ q => q)
    subst eq
    exact q .non H' e1 rfl
end
end Sq
end
section
set_option Elab.async false
set_option linter.all false
set_option maxRecDepth 100000
namespace Sq
open PySem PySem.Spec L2
open PyProof.Rows hiding St
open Evl (Ex)
section
variable {X : Cx} {τ τ' : Ty} {R R' Ra Rb Ro Rt : Rl} {Rs Rs' dRs : List Rl} {a b c e o : Expr} {es : List Expr} {pos p : Pos} {x m : Str}
  {CX : CXT} {k n : Nat} {f C : Addr} {fd : FuncData} {ps : List Str} {S : Sg}
/-- an instance of the class at C -/
def IsI (C : Addr) (R : Rl) : Prop := ∀ v H, R.p v H → ∃ a dx fs, v = .ref a ∧ H a = some (.ins C dx fs)
theorem isI_ins {fl : Fl} : IsI C (rIns C fl) := fun v H ⟨a, dx, fs, h1, h2, _⟩ => ⟨a, dx, fs, h1, h2⟩
def IsRef (R : Rl) : Prop := ∀ v H, R.p v H → ∃ a, v = .ref a
theorem IsI.ref (h : IsI C R) : IsRef R := fun v H r => let ⟨a, _, _, e, _⟩ := h v H r; ⟨a, e⟩
/-- the callee runs upon two objects -/
theorem run_two {A : Around} {pins : List (Addr × Obj)} {s : Shared} {σ : L2.St} {H : Hp} {x y : V} {u v : Value} {Q : Value → Shared → Prop} (hr : Room k A) (hfr : A.frames = X.A.frames) (F : FnOk X.prog X.w X.K X.mg X.base CX k f fd ps (spS S)) (hb : Binds X.K fd ps []) (hx : Passes CX X E0) (I : L2.Inv X pins σ H s)
    (rx : RelV x u) (ry : RelV y v) (hS : S [Ra, Rb] R) (ra : Ra.p x H) (rb : Rb.p y H) (q : ∀ z w H' s', L2.Inv X pins σ H' s' → RelV z w → Ex H H' → R.p z H' → Q w s') : wpAny (model X.prog X.w) A (call (.ref f) [u, v]) Q X.xe s := by
  have hsp : spS S [x, y] H (fun v H' => Ex H H' ∧ R.p v H') E0 := ⟨[Ra, Rb], R, hS, ⟨ra, rb, trivial⟩, fun v H' e r => ⟨e, r⟩⟩
  have e0 : Env0 X.prog X.w X.K X.mg X.base A X.stack s H := by
    have e := I.env0
    exact ⟨by rw [hfr]; exact e.frames, e.mod, e.bs, e.bsz, e.funs, e.frf, e.hok, e.bare⟩
  have hl := F.len _ _ _ _ hsp
  have r2 : Vals [x, y] [u, v] := .cons rx (.cons ry .nil)
  refine wpAny_call (codeAny_mono (F.run A X.stack s H ⟨[u, v], []⟩ [u, v] _ _ E0 hr e0 (by
    have := hb s [u, v] I.kIn (by simpa using hl)
    simpa using this) r2 hsp) fun r s' hq => ?_)
  cases r with
  | error e => exact hx pins σ H s e s' I hq
  | ok fl =>
    cases fl with
    | ret w =>
      obtain ⟨z, H', I', rz, ez, r⟩ := I.after hq
      exact q z w H' s' I' rz ez r
    | next => exact False.elim hq
    | brk => exact False.elim hq
    | cont => exact False.elim hq
/-- a op b by the class's own operator -/
theorem je_own {op : Operator} (sf : PySem.W.selfFirst X.K C = true) (hm : Meth X.K C (PySem.dunder op.info.2) f) (F : FnOk X.prog X.w X.K X.mg X.base CX k f fd ps (spS S)) (hr : Room k X.A) (hb : Binds X.K fd ps []) (hx : Passes CX X E0)
    (ia : IsI C Ra) (ib : IsI C Rb) (ir : IsRef R) (hS : S [Ra, Rb] R) (ha : JE X a τ Ra) (hbb : JE X b τ Rb) : JE X (.BinOp a op b pos) τ R := by
  refine je_op (r := fun x y H Q => Ra.p x H ∧ Rb.p y H ∧ ∀ z H', Ex H H' → R.p z H' → Q z H') ?_ ha hbb fun x y H Q r1 r2 q => ⟨r1, r2, q⟩
  intro pins s σ H x y u v Q I rx ry ⟨r1, r2, q⟩
  obtain ⟨p, dp, fp, rfl, hp⟩ := ia x H r1
  obtain ⟨p', dp', fp', rfl, hp'⟩ := ib y H r2
  cases rx
  cases ry
  obtain ⟨mA, J, _⟩ := ins_get I.hok hp
  obtain ⟨mB, J', _⟩ := ins_get I.hok hp'
  obtain ⟨od, J, _⟩ := J.look
  obtain ⟨od', J', _⟩ := J'.look
  obtain ⟨mm, hF⟩ := I.fr
  refine PySem.W.binop_K hF I.ok.mod.kin J J'.type sf hm.at_ hm.fn ?_
  refine run_two (x := .ref p) (y := .ref p') hr rfl F hb hx I rfl rfl hS r1 r2 fun z w H' s' I' rz ex r => ?_
  obtain ⟨za, rfl⟩ := ir z H' r
  cases rz
  exact ⟨.ref za, H', I', rfl, q _ _ ex r⟩
/-! ### == by the class's own == -/
/-- what the two are, so that == says True -/
def eqRel (S : Sg) : Addr → Addr → Hp → Prop := fun a b H => ∃ Ra Rb, S [Ra, Rb] (rV (.bl true)) ∧ Ra.p (.ref a) H ∧ Rb.p (.ref b) H
theorem eqRel_mon (S : Sg) : ∀ a b H H', L2.Ext H H' → eqRel S a b H → eqRel S a b H' := fun a b H H' e ⟨Ra, Rb, h, h1, h2⟩ => ⟨Ra, Rb, h, Ra.mo _ _ _ e h1, Rb.mo _ _ _ e h2⟩
theorem eq_imp {P : Program} {w : World} {K : PySem.W.Frag} {mg : Str → Option Value} {base : Heap} (F : FnOk P w K mg base CX n f fd ps (spS S)) : FnOk P w K mg base CX n f fd ps (spEq (eqRel S)) := F.imp fun vs H Q E ⟨a, b, e, ⟨Ra, Rb, hS, h1, h2⟩, q⟩ => by
  subst e
  exact ⟨[Ra, Rb], _, hS, ⟨h1, h2, trivial⟩, fun v H' e r => by
    rw [show v = V.bl true from r]
    exact q H' e⟩
theorem eqG_own (F : FnOk X.prog X.w X.K X.mg X.base CX n f fd ps (spS S)) (hm : Meth X.K C "__eq__" f) (hb : Binds X.K fd ps []) (hx : Passes CX X E0) : EqG X n (DIns C (eqRel S)) := eqG_ins (eq_imp F) hm.at_ hm.fn hb hx
theorem rcG_own (F : FnOk X.prog X.w X.K X.mg X.base CX n f fd ps (spS S)) (hm : Meth X.K C "__eq__" f) (hb : Binds X.K fd ps []) (hx : Passes CX X E0) : RcG X n (DIns C (eqRel S)) := rcG_ins (eq_imp F) hm.at_ hm.fn hb hx
/-- a == b, True -/
theorem je_eqG {D : Eqv} (h : RcG X n D) (hr : Room n X.A) (hD : ∀ x y H, Ra.p x H → Rb.p y H → D x y H) (ha : JE X a τ Ra) (hb : JE X b τ Rb) : JE X (.Compare a [.Eq] [b] pos) τ (rV (.bl true)) :=
  je_cmpR (op_eqG h hr) ha hb (nomark _) fun x y H Q r1 r2 q => ⟨hD x y H r1 r2, fun H' e => q _ H' e rfl⟩
/-! ### != by the class's own == -/
/-- what the class object must be -/
def neB (K : PySem.W.Frag) (C f : Addr) : Bool := match K.lookup C with
  | some ⟨.type "type", _, .cls cd, sl⟩ => (match cd.mro, sl.toList with
    | [.ref C', .type "object"], [_, _, _, _, some (.builtin n), _] => C' == C && !cd.hasDel && PySem.W.nsOkIn K cd.ns && PySem.W.nsIn K cd.ns "__ne__" == some none && PySem.W.nsIn K cd.ns "__eq__" == some (some (.ref f)) && (match K.lookup f with
      | some ⟨.type "function", _, _, _⟩ => true
      | _ => false)
    | _, _ => false)
  | _ => false
theorem eqB_ok {o : Option (Option Value)} {v : Option (Option Value)} (h : (o == v) = true) : o = v := by
  exact eq_of_beq h
theorem ns_some_of {K : PySem.W.Frag} {h : Heap} {N : Addr} {mg : Str → Option Value} {n : Str} {v : Value} (X : K.In h) (G : h.Ns N mg) (e : PySem.W.nsIn K N n = some (some v)) : mg n = some v := by
  obtain ⟨o, es, ep, ho, hd, _, hf⟩ := G
  unfold PySem.W.nsIn at e
  split at e
  · rename_i c d es' n' sl q
    have := X _ _ q
    rw [ho] at this
    cases this
    cases hd
    split at e
    · rename_i en he
      rw [← hf]
      unfold PySem.nsFind PySem.findBy
      cases e
      rw [← Array.find?_toList, he]
      rfl
    · split at e <;> cases e
  · cases e
theorem obj_eq : ∃ y, typeLookup (.type "object") "__eq__" = pure y := ⟨_, PySem.F.cmp_object.eq.lookup⟩
theorem neB_ok {K : PySem.W.Frag} {h : Heap} {x : Addr} {o : Obj} (X : K.In h) (q : neB K C f = true) (hx : h.get? x = some o) (hc : o.cls = .ref C) : h.OwnEqNoNe x C f "object" [.type "object"] := by
  unfold neB at q
  split at q
  · rename_i dd cd sl ho
    split at q
    · rename_i C' k0 k1 k2 k3 n k5 hm hs
      simp only [Bool.and_eq_true, Bool.not_eq_true'] at q
      obtain ⟨⟨⟨⟨⟨q1, hdel⟩, hok⟩, hne⟩, heq⟩, hf⟩ := q
      obtain rfl := eq_of_beq q1
      split at hf
      · rename_i fdc fdt fsl hfo
        obtain ⟨nm, bs, mro, ns, qn, hd, sn, sub, ab, col, del⟩ := cd
        dsimp only at hm hdel hok hne heq
        subst hm hdel
        have hsl : sl = #[k0, k1, k2, k3, some (.builtin n), k5] := by
          obtain ⟨l⟩ := sl
          simp only at hs
          rw [hs]
        subst hsl
        obtain ⟨y, hy⟩ := obj_eq
        have hN : h.Ns ns (h.nsMap ns) := .of_isNs (PySem.W.isNs_of_in X hok)
        exact ⟨o, _, nm, qn, ns, bs, hd, sn, sub, ab, col, dd, k0, k1, k2, k3, k5, n, _, y, hx, hc, X _ _ ho, hN, ns_some_of X hN (eqB_ok heq), X _ _ hfo, rfl, PySem.F.cmp_object.mro, hy, PySem.W.ns_none_of X hN (eqB_ok hne)⟩
      · cases hf
    · cases q
  · cases q
/-- a != b, False, b of the same class -/
theorem jt_neF (nb : neB X.K C f = true) (F : FnOk X.prog X.w X.K X.mg X.base CX k f fd ps (spS S)) (hr : Room (k + 1) X.A) (hb : Binds X.K fd ps []) (hx : Passes CX X E0) (ia : IsI C Ra) (ib : IsI C Rb) (hS : S [Ra, Rb] (rV (.bl true))) (ha : JE X a τ Ra) (hbb : JE X b τ Rb) :
    JT X (.Compare a [.NotEq] [b] pos) τ false := by
  refine jt_cmpR (r := fun x y H Q => Ra.p x H ∧ Rb.p y H ∧ ∀ H', Ex H H' → Q (.bl false) H') ?_ ha hbb (nomark _) fun x y H Q r1 r2 q => ⟨r1, r2, q⟩
  intro pins s σ H x y u v Q I rx ry ⟨r1, r2, q⟩
  obtain ⟨p, dp, fp, rfl, hp⟩ := ia x H r1
  obtain ⟨p', dp', fp', rfl, hp'⟩ := ib y H r2
  cases rx
  cases ry
  obtain ⟨mA, J, _⟩ := ins_get I.hok hp
  obtain ⟨mB, J', _⟩ := ins_get I.hok hp'
  have hu : X.A.units + 1 < cLine := hu_of hr
  have key := run_two (A := X.A.in1) (Q := fun w s' => ∃ b, w = .bool b ∧ EP X pins σ Q (.bool (!b)) s') hr.in1 rfl F hb hx I (x := .ref p) (y := .ref p') rfl rfl hS r1 r2 fun z w H' s' I' rz ex r => by
    obtain rfl : z = .bl true := r
    cases rz
    exact ⟨true, rfl, .bl false, H', I', rfl, q H' ex⟩
  obtain ⟨hp, g, d, t, os⟩ := s
  exact compareOp_ne_ownEq PySem.F.cmp_object (neB_ok I.kIn nb J.obj rfl) J'.obj rfl hu key
/-! ### isinstance -/
/-- the type of all values so known -/
def HasT (K : PySem.W.Frag) (R : Rl) (t : Value) : Prop := ∀ v H, R.p v H → TyX K H v t
theorem hasT_int {K : PySem.W.Frag} {i : Int} : HasT K (rV (.int i)) (.type "int") := fun v H r => by
  obtain rfl : v = .int i := r
  exact .base (.int i)
theorem hasT_ins {K : PySem.W.Frag} (ic : C8.InsC K C) (ia : IsI C R) : HasT K R (.ref C) := fun v H r => by
  obtain ⟨a, dx, fs, rfl, h⟩ := ia v H r
  exact .base (.ins h ic.cl ic.ha ic.hn ic.htk ic.hm)
theorem je_isi {t u : Value} {vc : V} {kb : Bool} (hg : Gl X "isinstance") (hm : X.mg "isinstance" = none) (ha : JE X a τ Ra) (ht : HasT X.K Ra t) (hc : JE X c τ (rV vc)) (kc : ClsV vc u) (hk : PySem.W.kitOne X.K t u = some kb)
    (h1 : starEach [a, c] X.env = (false, eval a X.env) :: starEach [c] X.env := by rfl) (h2 : starEach [c] X.env = (false, eval c X.env) :: starEach [] X.env := by rfl) (hpl : (backTo pos (starEach [c] X.env)).any (·.1) = false := by rfl) :
    JE X (.Call (.Name "isinstance" p) [a, c] [] pos) τ (rV (.bl kb)) :=
  je_callB call_isi hg hm (by decide +kernel) (ja_cons ha (ja_cons hc ja_nil h2) h1) (fun vs H Q h q => by
    obtain ⟨v, w, rfl, r1, r2⟩ := h.two
    obtain rfl : w = vc := r2
    exact ⟨v, w, t, u, kb, rfl, kc, ht v H r1, hk, q _ H (Evl.Ex.refl H) rfl⟩) (by decide) (by decide) h1 hpl
/-- isinstance(a, (c1, c2)), two built-in types -/
theorem je_isiT {t : Value} {t1 t2 : String} {kb : Bool} {e1 e2 : Expr} {k' : Nat} {tpos : Pos} (hg : Gl X "isinstance") (hm : X.mg "isinstance" = none) (ha : JE X a τ Ra) (ht : HasT X.K Ra t) (hc1 : JE X e1 τ (rV (.ty t1))) (hc2 : JE X e2 τ (rV (.ty t2))) (hk : PySem.W.kitAny X.K t [.type t1, .type t2] = some kb)
    (s1 : starEach [e1, e2] X.env = (false, eval e1 X.env) :: starEach [e2] X.env := by rfl) (s2 : starEach [e2] X.env = (false, eval e2 X.env) :: starEach [] X.env := by rfl)
    (h1 : starEach [a, .Tuple [e1, e2] k' tpos] X.env = (false, eval a X.env) :: starEach [.Tuple [e1, e2] k' tpos] X.env := by rfl) (h2 : starEach [.Tuple [e1, e2] k' tpos] X.env = (false, eval (.Tuple [e1, e2] k' tpos) X.env) :: starEach [] X.env := by rfl) (hpl : (backTo pos (starEach [.Tuple [e1, e2] k' tpos] X.env)).any (·.1) = false := by rfl) :
    JE X (.Call (.Name "isinstance" p) [a, .Tuple [e1, e2] k' tpos] [] pos) τ (rV (.bl kb)) := by
  intro σ H t0
  refine pe_se (pe_callB call_isiT hg hm (by decide +kernel) (pa_cons se_pe (pa_cons (pe_tup (pa_cons se_pe (pa_cons se_pe pa_nil s2) s1)) pa_nil h2) h1) (by decide) (by decide) h1 hpl) ?_
  refine (ha σ H t0).mono fun v H1 ⟨x1, r1⟩ => (hc1 σ H1 (t0.mo x1)).mono fun c1 H2 ⟨x2, r2⟩ => (hc2 σ H2 (t0.mo (x1.trans x2))).mono fun c2 H3 ⟨x3, r3⟩ => ⟨(by show 2 ≤ sizeLine; decide), fun tp htp => ?_⟩
  obtain rfl : c1 = .ty t1 := r2
  obtain rfl : c2 = .ty t2 := r3
  have x4 : Ex H3 (upd H3 tp (.tup [V.ty t1, V.ty t2])) := Ex.new htp
  exact ⟨v, tp, _, t, _, kb, rfl, upd_same, .cons (.ty t1) (.cons (.ty t2) .nil), ht v _ (Ra.mo _ _ _ ((x2.trans x3).trans x4) r1), hk, ((x1.trans x2).trans x3).trans x4, rfl⟩
end
end Sq
end
section
set_option Elab.async false
set_option linter.all false
set_option maxRecDepth 100000
set_option maxHeartbeats 4000000
/-! Lists that the code changes: the rest of the heap, known without them. -/
namespace Sq
open PySem PySem.Spec L2
open PyProof.Rows hiding St
open Evl (Ex)
/-- the heap without the lists at ds -/
def off (ds : List Addr) (H : Hp) : Hp := fun a => if a ∈ ds then none else H a
theorem off_ex {ds : List Addr} {H : Hp} : Ex (off ds H) H := fun a o h => by
  unfold off at h
  split at h
  · cases h
  · exact h
theorem off_mo {ds : List Addr} {H H' : Hp} (e : Ex H H') : Ex (off ds H) (off ds H') := fun a o h => by
  unfold off at h ⊢
  split at h
  · cases h
  · rename_i q
    rw [if_neg q]
    exact e a o h
theorem off_upd {ds : List Addr} {H : Hp} {l : Addr} {o : HO} (h : l ∈ ds) : off ds (upd H l o) = off ds H := funext fun a => by
  unfold off
  split
  · rfl
  · rename_i q
    rw [upd_ne fun e => q (by rw [e]; exact h)]
theorem small100k {n : Nat} (h : n ≤ 100000) : n < sizeLine := Nat.lt_of_le_of_lt h (by rw [sizeLine_eq]; decide)
abbrev Cn := List (List Rl)
/-- the lists at ds, by what they hold -/
def Own (ds : List Addr) (C : Cn) (H : Hp) : Prop := C.length = ds.length ∧ ∀ (i : Nat) (l : Addr) (Rs : List Rl), ds[i]? = some l → C[i]? = some Rs → ∃ vs, H l = some (.lst vs) ∧ AllR vs Rs (off ds H)
theorem Own.mo {ds : List Addr} {C : Cn} {H H' : Hp} (h : Own ds C H) (e : Ex H H') : Own ds C H' := ⟨h.1, fun i l Rs h1 h2 => by
  obtain ⟨vs, q1, q2⟩ := h.2 i l Rs h1 h2
  exact ⟨vs, e _ _ q1, q2.mo (off_mo e)⟩⟩
theorem Own.at {ds : List Addr} {C : Cn} {H : Hp} (h : Own ds C H) {l : Addr} (hl : l ∈ ds) : ∃ vs, H l = some (.lst vs) := by
  obtain ⟨i, hi, e⟩ := List.getElem_of_mem hl
  have hi' : i < C.length := by rw [h.1]; exact hi
  obtain ⟨vs, q, _⟩ := h.2 i l C[i] (by rw [List.getElem?_eq_getElem hi, e]) (List.getElem?_eq_getElem hi')
  exact ⟨vs, q⟩
theorem own_w {ds : List Addr} {C : Cn} {H : Hp} (h : Own ds C H) : ExW H (off ds H) := fun a o e n => by
  unfold off
  rw [if_neg fun q => by
    obtain ⟨vs, z⟩ := h.at q
    rw [e] at z
    cases z
    exact n vs rfl]
  exact e
theorem own_set {ds : List Addr} {C : Cn} {H : Hp} (h : Own ds C H) (nd : ds.Nodup) {i : Nat} {l : Addr} {vs : List V} {Rs : List Rl} (hl : ds[i]? = some l) (r : AllR vs Rs (off ds H)) : Own ds (C.set i Rs) (upd H l (.lst vs)) := by
  have hm : l ∈ ds := List.mem_of_getElem? hl
  refine ⟨by rw [List.length_set]; exact h.1, fun j l' Rs' h1 h2 => ?_⟩
  rw [off_upd hm]
  by_cases e : i = j
  · subst e
    rw [hl] at h1
    cases h1
    rw [List.getElem?_set_self (by rw [h.1]; exact (List.getElem?_eq_some_iff.mp hl).1)] at h2
    cases h2
    exact ⟨vs, upd_same, r⟩
  · rw [List.getElem?_set_ne e] at h2
    obtain ⟨ws, q1, q2⟩ := h.2 j l' Rs' h1 h2
    have hne : l' ≠ l := fun q => by
      subst q
      obtain ⟨i1, e1⟩ := List.getElem?_eq_some_iff.mp hl
      obtain ⟨i2, e2⟩ := List.getElem?_eq_some_iff.mp h1
      have pw := List.pairwise_iff_getElem.mp nd
      rcases Nat.lt_or_gt_of_ne e with z | z
      · exact pw i j i1 i2 z (e1.trans e2.symm)
      · exact pw j i i2 i1 z (e2.trans e1.symm)
    exact ⟨ws, by rw [upd_ne hne]; exact q1, q2⟩
structure TO (ds : List Addr) (σ : L2.St) (τ : Ty) (C : Cn) (H : Hp) : Prop where
  t : Typ σ τ (off ds H)
  o : Own ds C H
theorem TO.mo {ds : List Addr} {σ : L2.St} {τ : Ty} {C : Cn} {H H' : Hp} (h : TO ds σ τ C H) (e : Ex H H') : TO ds σ τ C H' := ⟨h.t.mo (off_mo e), h.o.mo e⟩
theorem TO.st {ds : List Addr} {σ : L2.St} {τ : Ty} {C C' : Cn} {H H' : Hp} (h : TO ds σ τ C H) (e : Ex (off ds H) (off ds H')) (o : Own ds C' H') : TO ds σ τ C' H' := ⟨h.t.mo e, o⟩
theorem TO.set {ds : List Addr} {σ : L2.St} {τ : Ty} {C : Cn} {H : Hp} {v : V} {R : Rl} (h : TO ds σ τ C H) (i : Nat) (r : R.p v (off ds H)) : TO ds (σ.set i (some v)) (τ.set i (some R)) C H := ⟨h.t.set i r, h.o⟩
theorem TO.ty {ds : List Addr} {σ : L2.St} {τ : Ty} {C : Cn} {H : Hp} (h : TO ds σ τ C H) : Typ σ τ H := h.t.mo off_ex
/-! ### judgements -/
def JEO (X : Cx) (ds : List Addr) (e : Expr) (τ : Ty) (C : Cn) (R : Rl) (C' : Cn) : Prop := ∀ σ H, TO ds σ τ C H → SE X e σ H fun v H' => Ex (off ds H) (off ds H') ∧ Own ds C' H' ∧ R.p v (off ds H')
def JAO (X : Cx) (ds : List Addr) (es : List Expr) (τ : Ty) (C : Cn) (Rs : List Rl) (C' : Cn) : Prop := ∀ σ H, TO ds σ τ C H → SA X es σ H fun vs H' => Ex (off ds H) (off ds H') ∧ Own ds C' H' ∧ AllR vs Rs (off ds H')
def JTO (X : Cx) (ds : List Addr) (e : Expr) (τ : Ty) (C : Cn) (b : Bool) (C' : Cn) : Prop := ∀ σ H, TO ds σ τ C H → ST X e σ H fun c H' => c = b ∧ Ex (off ds H) (off ds H') ∧ Own ds C' H'
def enO (ds : List Addr) (H : Hp) (Nx : Ty → Cn → Prop) (Rt : Rl) : Ends := { nx := fun σ' H' => Ex (off ds H) (off ds H') ∧ ∃ τ' C', Nx τ' C' ∧ TO ds σ' τ' C' H', rt := fun v H' => Ex (off ds H) H' ∧ Rt.p v H' }
def JSO (X : Cx) (ds : List Addr) (sts : List Stmt) (τ : Ty) (C : Cn) (Nx : Ty → Cn → Prop) (Rt : Rl) : Prop := ∀ σ H, TO ds σ τ C H → SSs X sts (enO ds H Nx Rt) σ H
section
variable {X : Cx} {ds : List Addr} {τ τ' : Ty} {C C' C'' : Cn} {R R' Ra Rb Rt : Rl} {Rs : List Rl} {a b c e : Expr} {es : List Expr} {pos p apos : Pos} {x m : Str} {Nx : Ty → Cn → Prop} {sts rest body A B : List Stmt} {l : Addr}
theorem JEO.of (h : ∀ σ H, TO ds σ τ C H → JEO X ds e τ C R C') : JEO X ds e τ C R C' := fun σ H t => h σ H t σ H t
theorem JEO.sub (h : JEO X ds e τ C R C') (k : ∀ v H, R.p v H → R'.p v H) : JEO X ds e τ C R' C' := fun σ H t => (h σ H t).mono fun v H' ⟨e1, o, r⟩ => ⟨e1, o, k _ _ r⟩
theorem jeo_je [s : Solid R] (h : JE X e τ R) : JEO X ds e τ C R C := fun σ H t => (h σ H t.ty).mono fun v H' ⟨e1, r⟩ => ⟨off_mo e1, t.o.mo e1, s.so v _ _ (own_w (t.o.mo e1)) r⟩
theorem jeo_var (i : Nat) (hN : X.N[i]? = some x := by rfl) (hv : Vis X.env.scope x := by first | exact Or.inl rfl | exact Or.inr (Or.inl rfl) | exact Or.inr (Or.inr rfl)) (ht : τ[i]? = some (some R) := by rfl) (hd : (x == ("__debug__" : Str)) = false := by decide)
    (hcd : (x == ("__classdict__" : Str)) = false := by decide) : JEO X ds (.Name x pos) τ C R C := fun σ H t => pe_se (pe_var hN hv hd hcd) (by
  obtain ⟨v, e, r⟩ := t.t.2 i R ht
  exact ⟨v, e, Evl.Ex.refl _, t.o, r⟩)
theorem jto_jt {k : Bool} (h : JT X e τ k) : JTO X ds e τ C k C := fun σ H t => (h σ H t.ty).mono fun v H' ⟨e0, e1⟩ => ⟨e0, off_mo e1, t.o.mo e1⟩
/-- a test that reads one of the lists -/
theorem jto_rd (i k : Nat) {kb : Bool} (h : JT X e (τ.set i (some (rLst X.K Rs))) kb) (hs : τ[i]? = some (some (rV (.ref l)))) (hl : ds[k]? = some l) (hC : C[k]? = some Rs) : JTO X ds e τ C kb C := fun σ H t => by
  obtain ⟨v, e0, r0⟩ := t.t.2 i _ hs
  obtain rfl : v = .ref l := r0
  obtain ⟨vs, q1, q2⟩ := t.o.2 k l Rs hl hC
  have q : (rLst X.K Rs).p (.ref l) H := ⟨l, vs, rfl, SqL.of q1, q2.mo off_ex⟩
  have t2 := t.ty.set i q
  have es : σ.set i (some (.ref l)) = σ := by
    apply List.ext_getElem?
    intro j
    by_cases e : i = j
    · subst e
      rw [List.getElem?_set_self (List.getElem?_eq_some_iff.mp e0).1, e0]
    · rw [List.getElem?_set_ne e]
  rw [es] at t2
  exact (h σ H t2).mono fun c H' ⟨e0, e1⟩ => ⟨e0, off_mo e1, t.o.mo e1⟩
theorem JTO.eq {k k' : Bool} (h : JTO X ds e τ C k C') (q : k = k') : JTO X ds e τ C k' C' := q ▸ h
/-- a and b: a says False -/
theorem jto_andF (ha : JTO X ds a τ C false C') : JTO X ds (.BoolOp .And [a, b] pos) τ C false C' := fun σ H t pins s I =>
  (pw_and (tA := ST X a) st_pt (sw_pw (X := X) (e := .BoolOp .And [b] pos))).run _ pins s σ H _ I ((ha σ H t).mono fun c H1 ⟨e1, r1⟩ => by
    subst e1
    rw [if_neg Bool.false_ne_true]
    exact ⟨rfl, r1⟩)
theorem jto_andT {k : Bool} (ha : JTO X ds a τ C true C') (hb : JTO X ds b τ C' k C'') : JTO X ds (.BoolOp .And [a, b] pos) τ C k C'' := fun σ H t pins s I =>
  (pw_and (tA := ST X a) st_pt (pw_and1 (tA := ST X b) st_pt)).run _ pins s σ H _ I ((ha σ H t).mono fun c H1 ⟨e1, e2, o1⟩ => by
    subst e1
    rw [if_pos rfl]
    exact (hb σ H1 (t.st e2 o1)).mono fun d H2 ⟨q1, q2, q3⟩ => ⟨q1, e2.trans q2, q3⟩)
theorem jao_nil : JAO X ds [] τ C [] C := fun σ H t => pa_sa pa_nil ⟨Evl.Ex.refl _, t.o, trivial⟩
theorem jao_cons (ha : JEO X ds a τ C R C') (hs : JAO X ds es τ C' Rs C'') (hst : starEach (a :: es) X.env = (false, eval a X.env) :: starEach es X.env := by rfl) : JAO X ds (a :: es) τ C (R :: Rs) C'' := fun σ H t =>
  pa_sa (pa_cons se_pe sa_pa hst) ((ha σ H t).mono fun x H1 ⟨e1, o1, r1⟩ => (hs σ H1 (t.st e1 o1)).mono fun xs H2 ⟨e2, o2, r2⟩ => ⟨e1.trans e2, o2, R.mo _ _ _ e2 r1, r2⟩)
theorem ex_new_off {ds : List Addr} {C : Cn} {H : Hp} (o : Own ds C H) {q : Addr} {u : HO} (hq : H q = none) : Ex (off ds H) (off ds (upd H q u)) ∧ Own ds C (upd H q u) ∧ off ds (upd H q u) q = some u :=
  ⟨off_mo (Evl.Ex.new hq), o.mo (Evl.Ex.new hq), by
    unfold off
    rw [if_neg fun z => by
      obtain ⟨vs, w⟩ := o.at z
      rw [hq] at w
      cases w]
    exact upd_same⟩
theorem jeo_tup {x1} (h : JAO X ds es τ C Rs C') (hl : Rs.length ≤ 1000) : JEO X ds (.Tuple es x1 pos) τ C (rTup X.K Rs) C' := fun σ H t =>
  pe_se (pe_tup sa_pa) ((h σ H t).mono fun vs H1 ⟨e1, o1, r1⟩ => ⟨by rw [r1.len]; exact Nat.le_of_lt (small1000 hl), fun q hq => by
    obtain ⟨z1, z2, z3⟩ := ex_new_off (u := .tup vs) o1 hq
    exact ⟨e1.trans z1, z2, q, vs, rfl, SqT.of z3, r1.mo z1⟩⟩)
theorem jeo_lst (h : JAO X ds es τ C Rs C') (hl : Rs.length ≤ 1000) : JEO X ds (.List es pos) τ C (rLst X.K Rs) C' := fun σ H t =>
  pe_se (pe_lst sa_pa) ((h σ H t).mono fun vs H1 ⟨e1, o1, r1⟩ => ⟨by rw [r1.len]; exact Nat.le_of_lt (small1000 hl), fun q hq => by
    obtain ⟨z1, z2, z3⟩ := ex_new_off (u := .lst vs) o1 hq
    exact ⟨e1.trans z1, z2, q, vs, rfl, SqL.of z3, r1.mo z1⟩⟩)
theorem jeo_op {op : Operator} {r : R2} [s : Solid R] (ho : OpR X (binaryOp op) r) (ha : JEO X ds a τ C Ra C') (hb : JEO X ds b τ C' Rb C'') (hr : ∀ x y H (Q : VK), Ra.p x H → Rb.p y H → (∀ z H', Ex H H' → R.p z H' → Q z H') → r x y H Q) : JEO X ds (.BinOp a op b pos) τ C R C'' := fun σ H t =>
  pe_se (pe_op ho se_pe se_pe) ((ha σ H t).mono fun x H1 ⟨e1, o1, r1⟩ => (hb σ H1 (t.st e1 o1)).mono fun y H2 ⟨e2, o2, r2⟩ => hr x y H2 _ (Ra.mo _ _ _ (e2.trans off_ex) r1) (Rb.mo _ _ _ off_ex r2) fun z H3 e3 r3 => ⟨(e1.trans e2).trans (off_mo e3), o2.mo e3, s.so z _ _ (own_w (o2.mo e3)) r3⟩)
theorem jeo_add {i j : Int} (ha : JEO X ds a τ C (rV (.int i)) C') (hb : JEO X ds b τ C' (rV (.int j)) C'') : JEO X ds (.BinOp a .Add b pos) τ C (rV (.int (i + j))) C'' := jeo_op op_add ha hb fun x y H Q r1 r2 q => ⟨i, j, r1, r2, q _ H (Evl.Ex.refl H) rfl⟩
theorem jeo_neg {i : Int} (ha : JEO X ds a τ C (rV (.int i)) C') : JEO X ds (.UnaryOp .USub a pos) τ C (rV (.int (-i))) C' := fun σ H t =>
  pe_se (pe_un un_neg se_pe) ((ha σ H t).mono fun x H1 ⟨e1, o1, r1⟩ => ⟨i, r1, e1, o1, rfl⟩)
theorem jto_eqO {v w : V} (hs : scal v w = true) (ha : JEO X ds a τ C (rV v) C') (hb : JE X b τ (rV w)) : JTO X ds (.Compare a [.Eq] [b] pos) τ C (decide (v = w)) C' := fun σ H t =>
  pt_st (pt_cmpR op_eq se_pe se_pe (nomark _)) ((ha σ H t).mono fun x H1 ⟨e1, o1, r1⟩ => (hb σ H1 (t.st e1 o1).ty).mono fun y H2 ⟨e2, r2⟩ => by
    obtain rfl : x = v := r1
    obtain rfl : y = w := r2
    exact ⟨hs, _, rfl, rfl, e1.trans (off_mo e2), o1.mo e2⟩)
theorem jeo_call {CX : CXT} {k : Nat} {f : Addr} {fd : FuncData} {ps : List Str} {S : Sg} [s : Solid R] (F : FnOk X.prog X.w X.K X.mg X.base CX k f fd ps (spS S)) (hr : Room k X.A) (hg : Gl X x) (hm : X.mg x = some (.ref f)) (hk : PySem.W.keepIn X.K (.ref f) = true) (hb : Binds X.K fd ps []) (hx : Passes CX X E0)
    (ha : JAO X ds (e :: es) τ C Rs C') (hS : S Rs R)
    (hdb : (x == ("__debug__" : Str)) = false := by decide) (he : starEach (e :: es) X.env = (false, eval e X.env) :: starEach es X.env := by rfl) (hpl : (backTo pos (starEach es X.env)).any (·.1) = false := by rfl) :
    JEO X ds (.Call (.Name x p) (e :: es) [] pos) τ C R C' := fun σ H t =>
  pe_se (pe_call F hr hg hm hk hb .nil hx sa_pa hdb he hpl) ((ha σ H t).mono fun vs H1 ⟨e1, o1, r1⟩ => ⟨_, R, hS, by rw [List.append_nil]; exact r1.mo off_ex, fun v H2 e2 r => ⟨e1.trans (off_mo e2), o1.mo e2, s.so v _ _ (own_w (o1.mo e2)) r⟩⟩)
/-! ### statements -/
theorem JSO.up (h : JSO X ds sts τ C Nx Rt) {σ : L2.St} {H H1 : Hp} (t : TO ds σ τ C H1) (e : Ex (off ds H) (off ds H1)) : SSs X sts (enO ds H Nx Rt) σ H1 :=
  (h σ H1 t).mono (fun σ' H' ⟨e1, q⟩ => ⟨e.trans e1, q⟩) (fun v H' ⟨e1, q⟩ => ⟨e.trans e1, q⟩) (fun _ _ q => q) (fun _ _ q => q)
theorem JSO.of (h : ∀ σ H, TO ds σ τ C H → JSO X ds sts τ C Nx Rt) : JSO X ds sts τ C Nx Rt := fun σ H t => h σ H t σ H t
theorem JSO.imp {Nx' : Ty → Cn → Prop} (h : JSO X ds sts τ C Nx Rt) (k : ∀ τ' C', Nx τ' C' → Nx' τ' C') : JSO X ds sts τ C Nx' Rt := fun σ H t =>
  (h σ H t).mono (fun σ' H' ⟨e1, τ', C', q, r⟩ => ⟨e1, τ', C', k τ' C' q, r⟩) (fun v H' q => q) (fun _ _ q => q) (fun _ _ q => q)
theorem jso_nil (h : Nx τ C) : JSO X ds [] τ C Nx Rt := fun σ H t => pss_sss pss_nil ⟨Evl.Ex.refl _, τ, C, h, t⟩
theorem jso_set (i : Nat) {pos' : Pos} (nd : X.N.Nodup) (he : JEO X ds e τ C R C') (hr : JSO X ds rest (τ.set i (some R)) C' Nx Rt) (hi : X.N[i]? = some x := by rfl) (hx : Loc X.env.scope x := by first | exact .inl rfl | exact .inr rfl)
    (hs : swapsWith e (some (.Name x pos')) pos.line X.env = pure false := by rfl) (hf : X.fn x = true ∨ X.env.scope.names.lookup x = some .local := by first | exact .inl rfl | exact .inr rfl) : JSO X ds (.Assign [.Name x pos'] e pos :: rest) τ C Nx Rt := fun σ H t =>
  pss_sss (pss_cons (ps_set nd hi hx se_pe hs hf) sss_pss) ((he σ H t).mono fun v H1 ⟨e1, o1, r⟩ => hr.up ((t.st e1 o1).set i r) e1)
theorem jso_ret (he : JE X e τ Rt) : JSO X ds (.Return (some e) pos :: rest) τ C Nx Rt := fun σ H t =>
  pss_sss (pss_cons (ps_ret se_pe) pss_never) ((he σ H t.ty).mono fun v H1 ⟨e1, r⟩ => ⟨(off_ex).trans e1, r⟩)
/-- one of the lists is handed out -/
theorem jso_retL (i k : Nat) (hs : τ[i]? = some (some (rV (.ref l)))) (hl : ds[k]? = some l) (hC : C[k]? = some Rs) (hN : X.N[i]? = some x := by rfl) (hv : Vis X.env.scope x := by first | exact Or.inl rfl | exact Or.inr (Or.inl rfl) | exact Or.inr (Or.inr rfl)) (hd : (x == ("__debug__" : Str)) = false := by decide)
    (hcd : (x == ("__classdict__" : Str)) = false := by decide) (hRt : ∀ vs H, H l = some (.lst vs) → AllR vs Rs H → Rt.p (.ref l) H) : JSO X ds (.Return (some (.Name x p)) pos :: rest) τ C Nx Rt := fun σ H t =>
  pss_sss (pss_cons (ps_ret (pe_var hN hv hd hcd)) pss_never) (by
    obtain ⟨v, e0, r0⟩ := t.t.2 i _ hs
    obtain rfl : v = .ref l := r0
    obtain ⟨vs, q1, q2⟩ := t.o.2 k l Rs hl hC
    exact ⟨.ref l, e0, off_ex, hRt vs H q1 (q2.mo off_ex)⟩)
theorem jso_ifF (hc : JTO X ds c τ C false C') (hb : JSO X ds B τ C' (fun τ' C'' => τ' = τ ∧ C'' = C') Rt) (hr : JSO X ds rest τ C' Nx Rt) : JSO X ds (.If c A B pos :: rest) τ C Nx Rt := fun σ H t =>
  pss_sss (pss_cons (ps_if st_pt sss_pss sss_pss) sss_pss) ((hc σ H t).mono fun k H1 ⟨ek, e1, o1⟩ => by
    subst ek
    rw [if_neg Bool.false_ne_true]
    exact (hb σ H1 (t.st e1 o1)).mono (fun σ' H' ⟨e2, τ', C'', ⟨q, q'⟩, r⟩ => by
      subst q q'
      exact hr.up r (e1.trans e2)) (fun v H' ⟨e2, q⟩ => ⟨e1.trans e2, q⟩) (fun _ _ q => q) (fun _ _ q => q))
theorem jso_skip (hc : JTO X ds c τ C false C') (hr : JSO X ds rest τ C' Nx Rt) : JSO X ds (.If c A [] pos :: rest) τ C Nx Rt := jso_ifF hc (jso_nil ⟨rfl, rfl⟩) hr
/-- if c: A else: B, not taken -/
theorem jso_ifE {Nx' : Ty → Cn → Prop} (hc : JTO X ds c τ C false C') (hb : JSO X ds B τ C' Nx' Rt) (hr : ∀ τ' C'', Nx' τ' C'' → JSO X ds rest τ' C'' Nx Rt) : JSO X ds (.If c A B pos :: rest) τ C Nx Rt := fun σ H t =>
  pss_sss (pss_cons (ps_if st_pt sss_pss sss_pss) sss_pss) ((hc σ H t).mono fun k H1 ⟨ek, e1, o1⟩ => by
    subst ek
    rw [if_neg Bool.false_ne_true]
    exact (hb σ H1 (t.st e1 o1)).mono (fun σ' H' ⟨e2, τ', C'', q, r⟩ => (hr τ' C'' q).up r (e1.trans e2)) (fun v H' ⟨e2, q⟩ => ⟨e1.trans e2, q⟩) (fun _ _ q => q) (fun _ _ q => q))
theorem jso_ifT {Nx' : Ty → Cn → Prop} (hc : JTO X ds c τ C true C') (ha : JSO X ds A τ C' Nx' Rt) (hr : ∀ τ' C'', Nx' τ' C'' → JSO X ds rest τ' C'' Nx Rt) : JSO X ds (.If c A B pos :: rest) τ C Nx Rt := fun σ H t =>
  pss_sss (pss_cons (ps_if st_pt sss_pss sss_pss) sss_pss) ((hc σ H t).mono fun k H1 ⟨ek, e1, o1⟩ => by
    subst ek
    rw [if_pos rfl]
    exact (ha σ H1 (t.st e1 o1)).mono (fun σ' H' ⟨e2, τ', C'', q, r⟩ => (hr τ' C'' q).up r (e1.trans e2)) (fun v H' ⟨e2, q⟩ => ⟨e1.trans e2, q⟩) (fun _ _ q => q) (fun _ _ q => q))
/-- xs.append(e) -/
theorem jso_append (i k : Nat) {rs : List Rl} (nd : ds.Nodup) (ho : JE X a τ (rV (.ref l))) (he : JEO X ds e τ C R C') (hl : ds[k]? = some l) (hC : C'[k]? = some rs) (hz : rs.length ≤ 100000) (hr : JSO X ds rest τ (C'.set k (rs ++ [R])) Nx Rt)
    (hbase : attributeBase a "append" X.env (eval a X.env) = eval a X.env := by rfl)
    (hfew : ((backTo pos (starEach [e] X.env)).all (fun x => !x.1) && (backToKw pos (keywordEach [] X.env)).all (fun x => x.1.isSome)
      && decide ([e].length + ([] : List Keyword).length + (if ([] : List Keyword).isEmpty then 0 else 1) < 30)) = true := by rfl)
    (hline : (apos.endLine == pos.line) = true := by rfl) (hs : starEach [e] X.env = (false, eval e X.env) :: starEach [] X.env := by rfl) (hpl : (backTo pos (starEach [] X.env)).any (·.1) = false := by rfl)
    (hsw : swapsWith (.Call (.Attribute a "append" apos) [e] [] pos) none p.line X.env = pure false := by rfl) :
    JSO X ds (.Expr (.Call (.Attribute a "append" apos) [e] [] pos) p :: rest) τ C Nx Rt := fun σ H t =>
  pss_sss (pss_cons (ps_expr (pe_bm PySem.F.plainAttrs_list PySem.F.slot_list_append PySem.F.type_list_append mt_append (se_pe (X := X) (e := a)) (pa_cons (se_pe (X := X) (e := e)) pa_nil hs) hbase hfew hline hs hpl) hsw) sss_pss) ((ho σ H t.ty).mono fun v H1 ⟨e1, r1⟩ => by
    obtain rfl : v = .ref l := r1
    have t1 := t.mo e1
    have hm : l ∈ ds := List.mem_of_getElem? hl
    obtain ⟨ws, hw⟩ := t1.o.at hm
    refine ⟨.inl ⟨rfl, ws, SqL.of hw⟩, (he σ H1 t1).mono fun y H2 ⟨e2, o2, r2⟩ => ?_⟩
    obtain ⟨vs, q1, q2⟩ := o2.2 k l rs hl hC
    refine ⟨l, vs, y, rfl, rfl, q1, small100k (by rw [q2.len]; exact hz), ?_⟩
    have r3 : AllR [y] [R] (off ds H2) := ⟨r2, trivial⟩
    have o3 := own_set o2 nd hl (q2.append r3)
    have e3 : Ex (off ds H) (off ds (upd H2 l (.lst (vs ++ [y])))) := by
      rw [off_upd hm]
      exact (off_mo e1).trans e2
    exact hr.up (t.st e3 o3) e3)
/-- a fresh list, from here on ours -/
theorem jso_start (i : Nat) {pos' : Pos} {Nx : Ty → Prop} (nd : X.N.Nodup) (hr : ∀ l, JSO X [l] rest (τ.set i (some (rV (.ref l)))) [[]] (fun _ _ => False) Rt) (hi : X.N[i]? = some x := by rfl) (hx : Loc X.env.scope x := by first | exact .inl rfl | exact .inr rfl)
    (hs : swapsWith (.List [] p) (some (.Name x pos')) pos.line X.env = pure false := by rfl) (hf : X.fn x = true ∨ X.env.scope.names.lookup x = some .local := by first | exact .inl rfl | exact .inr rfl) : JSs X (.Assign [.Name x pos'] (.List [] p) pos :: rest) τ Nx Rt := fun σ H t =>
  pss_sss (pss_cons (ps_set nd hi hx (pe_lst pa_nil) hs hf) sss_pss) ⟨Nat.zero_le _, fun q hq => by
    have ex : Ex H (off [q] (upd H q (.lst []))) := fun a o h => by
      unfold off
      have : a ≠ q := fun z => by subst z; rw [hq] at h; cases h
      rw [if_neg (by simpa using this), upd_ne this]
      exact h
    refine (hr q _ _ ⟨(t.mo ex).set i rfl, rfl, fun j l Rs h1 h2 => ?_⟩).mono (fun σ' H' ⟨_, _, _, z, _⟩ => z.elim) (fun v H' ⟨e1, r⟩ => ⟨ex.trans e1, r⟩) (fun _ _ q => q) (fun _ _ q => q)
    cases j with
    | zero =>
      cases h1
      cases h2
      exact ⟨[], upd_same, trivial⟩
    | succ j => simp at h1⟩
/-! ### loops -/
/-- a walked range -/
def WkU (J : It) (lo c : Int) (n : Nat) : Prop := (∀ i H', i < n → J.go i H') ∧ (∀ i x H' H'', J.yld i H' x H'' → H'' = H' ∧ x = .int (lo + (i : Int) * c)) ∧ ∀ H', J.stop n H'
def JIO (X : Cx) (ds : List Addr) (tg iter : Expr) (τ : Ty) (C : Cn) (lo c : Int) (n : Nat) (C' : Cn) : Prop := ∀ σ H, TO ds σ τ C H → SI X tg iter σ H fun J H1 => Ex (off ds H) (off ds H1) ∧ Own ds C' H1 ∧ WkU J lo c n
theorem wku_r {lo : Int} {n : Nat} : WkU (Itr lo n) lo 1 n := ⟨fun i H' hi => hi, fun i x H' H'' y => ⟨y.1, by rw [Int.mul_one]; exact y.2⟩, fun H' => Nat.le_refl n⟩
theorem jio_range1 {j : Int} {tg : Expr} (hg : Gl X "range") (hm : X.mg "range" = none) (ha : JEO X ds a τ C (rV (.int j)) C') (hj : -1000 ≤ j ∧ j ≤ 1000) (hs : starEach [a] X.env = [(false, eval a X.env)] := by rfl) : JIO X ds tg (.Call (.Name "range" p) [a] [] pos) τ C 0 1 j.toNat C' := fun σ H t pins s I =>
  (pi_range1 (tg := tg) hg hm (sa_pa (es := [a])) hs).run pins s σ H _ I ((jao_cons ha jao_nil hs σ H t).mono fun vs H1 ⟨e1, o1, r1⟩ => by
    obtain ⟨v, rfl, r⟩ := r1.one
    obtain rfl : v = .int j := r
    exact ⟨j, rfl, by omega, by omega, e1, o1, wku_r⟩)
theorem jso_for (j : Nat) {lo st : Int} {n : Nat} {iter : Expr} {tp : Pos} (Pv : Nat → Ty → Cn → Prop) (hp : PassesOwn (model X.prog X.w) X.A X.env X.xe) (hc : X.calm = true) (hi : JIO X ds (.Name x tp) iter τ C lo st n C') (hg : PG X (.Name x tp) (gName j)) (h0 : Pv 0 τ C')
    (hs : ∀ i τ' C', i < n → Pv i τ' C' → JSO X ds body (τ'.set j (some (rV (.int (lo + (i : Int) * st))))) C' (Pv (i + 1)) Rt) (hd : ∀ τ' C', Pv n τ' C' → JSO X ds rest τ' C' Nx Rt) (hfs : ∀ x, foldedSetIterable iter X.env x = pure x := by intro _; rfl) :
    JSO X ds (.For (.Name x tp) iter body [] pos :: rest) τ C Nx Rt := fun σ H t =>
  pss_sss (pss_cons (ps_for hp hc (si_pi (X := X) (tg := .Name x tp) (iter := iter)) hg sss_pss hfs) sss_pss) (by
    intro pins s I
    refine thn (hi σ H t pins s I) fun v s1 h1 => thn h1 fun itv s2 h2 => ?_
    obtain ⟨it, fp, tn, J, H1, q1, q2, q3, q4, q5, e1, o1, w1, w2, w3⟩ := h2
    refine ⟨it, fp, tn, J, H1, q1, q2, q3, q4, q5, ?_⟩
    refine ⟨fun i m σ' H' => m = n - i ∧ i ≤ n ∧ ∃ τ' C', Pv i τ' C' ∧ TO ds σ' τ' C' H' ∧ Ex (off ds H) (off ds H'), ⟨n, by simp, Nat.zero_le _, τ, C', h0, t.st e1 o1, e1⟩, ?_⟩
    rintro i m σ' H' ⟨rfl, hi, τ', C'', p', t', ex⟩
    by_cases hlt : i < n
    · refine .inr ⟨w1 i H' hlt, fun σ2 H2 => ∃ τ2 C2, Pv (i + 1) τ2 C2 ∧ TO ds σ2 τ2 C2 H2 ∧ Ex (off ds H) (off ds H2), fun σ2 H2 q => ⟨n - (i + 1), by omega, rfl, hlt, q⟩, fun v H2 y => ?_⟩
      obtain ⟨rfl, rfl⟩ := w2 i v H' H2 y
      exact (hs i τ' C'' hlt p' _ H2 (t'.set j rfl)).mono (fun σ3 H3 ⟨e3, τ3, C3, p3, t3⟩ => ⟨τ3, C3, p3, t3, ex.trans e3⟩) (fun v H3 ⟨e3, q⟩ => ⟨ex.trans e3, q⟩) (fun _ _ q => q.elim) (fun _ _ q => q.elim)
    · have hi' : i = n := by omega
      subst hi'
      exact .inl ⟨w3 H', (hd τ' C'' p').up t' ex⟩)
/-- a loop inside that leaves our lists alone -/
theorem jso_forT (j : Nat) {iter : Expr} {tp : Pos} (Pv : Nat → Ty → Prop) (hp : PassesOwn (model X.prog X.w) X.A X.env X.xe) (hc : X.calm = true) (hi : JI X (.Name x tp) iter τ Rs) (hg : PG X (.Name x tp) (gName j)) (h0 : Pv 0 τ)
    (hs : ∀ i R τ', Rs[i]? = some R → Pv i τ' → JSs X body (τ'.set j (some R)) (Pv (i + 1)) rNo) (hd : ∀ τ', Pv Rs.length τ' → SolT τ' ∧ JSO X ds rest τ' C Nx Rt) (hfs : ∀ x, foldedSetIterable iter X.env x = pure x := by intro _; rfl) :
    JSO X ds (.For (.Name x tp) iter body [] pos :: rest) τ C Nx Rt := fun σ H t =>
  pss_sss (pss_cons (ps_for hp hc (si_pi (X := X) (tg := .Name x tp) (iter := iter)) hg sss_pss hfs) sss_pss) (by
    intro pins s I
    refine thn (hi σ H t.ty pins s I) fun v s1 h1 => thn h1 fun itv s2 h2 => ?_
    obtain ⟨it, fp, tn, J, H1, q1, q2, q3, q4, q5, e1, w1, w2, w3⟩ := h2
    refine ⟨it, fp, tn, J, H1, q1, q2, q3, q4, q5, ?_⟩
    refine ⟨fun i m σ' H' => m = Rs.length - i ∧ i ≤ Rs.length ∧ ∃ τ', Pv i τ' ∧ Typ σ' τ' H' ∧ Ex H1 H', ⟨Rs.length, by simp, Nat.zero_le _, τ, h0, t.ty.mo e1, Evl.Ex.refl H1⟩, ?_⟩
    rintro i m σ' H' ⟨rfl, hi, τ', p', t', ex⟩
    by_cases hlt : i < Rs.length
    · refine .inr ⟨w1 i H' ex hlt, fun σ2 H2 => ∃ τ2, Pv (i + 1) τ2 ∧ Typ σ2 τ2 H2 ∧ Ex H1 H2, fun σ2 H2 q => ⟨Rs.length - (i + 1), by omega, rfl, hlt, q⟩, fun v H2 y => ?_⟩
      obtain ⟨rfl, hv⟩ := w2 i v H' H2 ex y
      have r := hv _ (List.getElem?_eq_getElem hlt)
      exact (hs i _ τ' (List.getElem?_eq_getElem hlt) p' (σ'.set j (some v)) H2 (t'.set j r)).mono (fun σ3 H3 ⟨e3, τ3, p3, t3⟩ => ⟨τ3, p3, t3, ex.trans e3⟩) (fun v H3 ⟨e3, q⟩ => False.elim q) (fun _ _ q => q.elim) (fun _ _ q => q.elim)
    · have hi' : i = Rs.length := by omega
      subst hi'
      obtain ⟨so, hd⟩ := hd τ' p'
      have e2 := e1.trans ex
      exact .inl ⟨w3 H' ex, hd.up ⟨t'.w so (own_w (t.o.mo e2)), t.o.mo e2⟩ (off_mo e2)⟩)
end
end Sq
end
section
set_option Elab.async false
set_option linter.all false
set_option maxRecDepth 100000
set_option maxHeartbeats 4000000
/-! The text's defs by their places, what the head tells of them, by names (printed by gen_tx.py). -/
namespace Sq
open PySem PySem.Spec L2
open PyProof.Rows hiding St
open Evl (Ex)
def topS (i : Nat) : Stmt := PySem.Challenge.pw_similarforms_k10_whole_squarefree_parts.main.body.getD i (.Pass ⟨0, 0, 0, 0⟩)
abbrev clS (i j : Nat) : Stmt := inClass (topS i) j
def gD (i : Nat) (x : Str) : He.DefD := ⟨(x, none), x, x, defArgs (topS i), defBody (topS i), defScope (topS i), [], []⟩
def mD (i j : Nat) (c x q : Str) (d : List He.Dv) : He.DefD := ⟨(c, some x), x, q, defArgs (clS i j), defBody (clS i j), defScope (clS i j), d, []⟩
def fnA : List He.DefD := [gD 10 "is_integer", gD 14 "is_small_prime", gD 21 "taken", gD 23 "trimmed", gD 25 "product_row", gD 26 "division", gD 28 "check_grounds", gD 30 "common_divisor", gD 31 "prime_root", gD 32 "squarefree_part", gD 33 "multiplicity", gD 35 "_law_numbers", gD 36 "_law_next", gD 37 "_law_prime", gD 38 "_law_ground", gD 39 "_law_rest", gD 40 "_law_poly", gD 41 "_law_refuses", gD 42 "law", mD 11 0 "Ratio" "__init__" "Ratio.__init__" [.int 1], mD 11 1 "Ratio" "__eq__" "Ratio.__eq__" [], mD 11 2 "Ratio" "__add__" "Ratio.__add__" [], mD 11 3 "Ratio" "__sub__" "Ratio.__sub__" [], mD 11 4 "Ratio" "__mul__" "Ratio.__mul__" [], mD 11 7 "Ratio" "is_zero" "Ratio.is_zero" [], mD 11 8 "Ratio" "inverse" "Ratio.inverse" [], mD 15 0 "Residue" "__init__" "Residue.__init__" [], mD 15 1 "Residue" "__eq__" "Residue.__eq__" [], mD 15 2 "Residue" "__add__" "Residue.__add__" [], mD 15 3 "Residue" "__sub__" "Residue.__sub__" [], mD 15 4 "Residue" "__mul__" "Residue.__mul__" [], mD 15 7 "Residue" "is_zero" "Residue.is_zero" [], mD 15 8 "Residue" "inverse" "Residue.inverse" [], mD 15 9 "Residue" "over" "Residue.over" [], mD 20 0 "Ground" "__init__" "Ground.__init__" [.int 0], mD 20 1 "Ground" "__eq__" "Ground.__eq__" [], mD 20 2 "Ground" "number" "Ground.number" [.int 1], mD 20 3 "Ground" "zero" "Ground.zero" [], mD 20 5 "Ground" "is_member" "Ground.is_member" [], mD 27 0 "Poly" "__init__" "Poly.__init__" [], mD 27 1 "Poly" "__eq__" "Poly.__eq__" [], mD 27 5 "Poly" "__mul__" "Poly.__mul__" [], mD 27 6 "Poly" "__floordiv__" "Poly.__floordiv__" [], mD 27 7 "Poly" "__mod__" "Poly.__mod__" [], mD 27 10 "Poly" "degree" "Poly.degree" [], mD 27 11 "Poly" "is_zero" "Poly.is_zero" [], mD 27 12 "Poly" "coefficient" "Poly.coefficient" [], mD 27 13 "Poly" "scaled" "Poly.scaled" [], mD 27 14 "Poly" "monic" "Poly.monic" [], mD 27 15 "Poly" "derivative" "Poly.derivative" [], mD 27 16 "Poly" "power" "Poly.power" []]
def fa0 : List He.Fa := [.glo "is_integer", .glo "is_small_prime", .glo "taken", .glo "trimmed", .glo "product_row", .glo "division", .glo "check_grounds", .glo "common_divisor", .glo "prime_root", .glo "squarefree_part", .glo "multiplicity", .glo "_law_numbers", .glo "_law_next", .glo "_law_prime", .glo "_law_ground", .glo "_law_rest", .glo "_law_poly", .glo "_law_refuses", .glo "law", .glo "Ratio", .glo "Residue", .glo "Ground", .glo "Poly", .glo "ZeroDivisor", .glo "Malformed", .glo "PRIMES", .free "len", .free "isinstance", .free "tuple", .free "list"]
def fa1 : List He.Fa := [.free "range", .free "max", .free "min", .free "abs", .free "int", .free "bool", .cls "Ratio", .cls "Residue", .cls "Ground", .cls "Poly", .mkr "Ratio", .mkr "Residue", .mkr "Ground", .mkr "Poly", .noat "Ratio" "n", .noat "Ratio" "d", .noat "Residue" "p", .noat "Residue" "n", .noat "Ground" "p", .noat "Poly" "ground", .noat "Poly" "row", .meth "Ratio" "__eq__", .meth "Ratio" "__add__", .meth "Ratio" "__sub__", .meth "Ratio" "__mul__", .meth "Ratio" "is_zero", .meth "Ratio" "inverse", .meth "Residue" "__eq__", .meth "Residue" "__add__", .meth "Residue" "__sub__"]
def fa2 : List He.Fa := [.meth "Residue" "__mul__", .meth "Residue" "is_zero", .meth "Residue" "inverse", .meth "Residue" "over", .meth "Ground" "__eq__", .meth "Ground" "number", .meth "Ground" "zero", .meth "Ground" "is_member", .meth "Poly" "__eq__", .meth "Poly" "__mul__", .meth "Poly" "__floordiv__", .meth "Poly" "__mod__", .meth "Poly" "degree", .meth "Poly" "is_zero", .meth "Poly" "coefficient", .meth "Poly" "scaled", .meth "Poly" "monic", .meth "Poly" "derivative", .meth "Poly" "power", .exc "ZeroDivisor", .exc "Malformed", .exm "ZeroDivisor" "ZeroDivisor" true, .exm "Malformed" "Malformed" true]
def fa : List He.Fa := fa0 ++ (fa1 ++ (fa2))
/-- more facts: isinstance, operators, gcd, PRIMES -/
def kis (K : PySem.W.Frag) (x y : Str) (b : Bool) : Bool := decide (PySem.W.kitOne K (.ref (He.ga K x)) (.ref (He.ga K y)) = some b)
def kit (K : PySem.W.Frag) (x : Str) (t : String) (b : Bool) : Bool := decide (PySem.W.kitOne K (.ref (He.ga K x)) (.type t) = some b)
def insB (K : PySem.W.Frag) (x : Str) : Bool := He.eqO (PySem.W.findIn K (.ref (He.ga K x)) "__class__") (some (some (.builtin "object.__class__"))) && (He.eqO (PySem.W.specialIn K (.builtin "object.__class__") "__get__") (some (some (.builtin "getset_descriptor.__get__"))) &&
  (decide (PySem.W.takesIn K (.builtin "object.__class__") = some true) && (decide (PySem.W.mroIn K (He.ga K x) (.type "object") = some true) && (kis K x x true && PySem.W.selfFirst K (He.ga K x)))))
def ex (K : PySem.W.Frag) : Bool :=
  He.eqO (PySem.W.nsIn K mainGlobals "gcd") (some (some (.builtin "math.gcd"))) && (He.tupB K "PRIMES" [.int 2, .int 3, .int 5, .int 7, .int 11, .int 13, .int 17, .int 19, .int 23, .int 29, .int 31] &&
  (insB K "Ratio" && (insB K "Residue" && (insB K "Ground" && (insB K "Poly" && (kit K "Ratio" "int" false && (kit K "Residue" "int" false && (neB K (He.ga K "Ground") (He.ma K (He.ga K "Ground") "__eq__") && neB K (He.ga K "Poly") (He.ma K (He.ga K "Poly") "__eq__")))))))))
abbrev AlY : Type := He.AlD × Bool
def obsY (K : PySem.W.Frag) : AlY := (He.obsD fa fnA K, ex K)
def valY : AlY := (He.valD fnA, true)
def SaysY (K : PySem.W.Frag) : Prop := obsY K = valY
/-- what the walk knows: the head's facts, the module's names -/
structure Tx (K : PySem.W.Frag) (mg : Str → Option Value) : Prop where
  says : SaysY K
  glo : ∀ x, (He.Fa.glo x).ok K = true → mg x = some (.ref (He.ga K x))
  free : ∀ x, (He.Fa.free x).ok K = true → mg x = none
  gcd : mg "gcd" = some (.builtin "math.gcd")
abbrev aG (K : PySem.W.Frag) (x : Str) : Addr := He.fAd K (x, none)
abbrev aM (K : PySem.W.Frag) (c x : Str) : Addr := He.fAd K (c, some x)
/-- the class at its name -/
abbrev aC (K : PySem.W.Frag) (c : Str) : Addr := He.ga K c
def fdK (K : PySem.W.Frag) (p : Str × Option Str) : FuncData := match K.lookup (He.fAd K p) with
  | some ⟨_, _, .func fd, _⟩ => fd
  | _ => default
abbrev dG (K : PySem.W.Frag) (x : Str) : FuncData := fdK K (x, none)
abbrev dM (K : PySem.W.Frag) (c x : Str) : FuncData := fdK K (c, some x)
section
variable {K : PySem.W.Frag} {mg : Str → Option Value}
theorem tx_mk {h : Heap} (X : K.In h) (G : h.Ns mainGlobals mg) (s : SaysY K) : Tx K mg := ⟨s, fun x c => He.glo_ok X G c, fun x c => He.free_ok X G c, PySem.W.mg_of X G (He.eqO_ok (He.ba (show ex K = true from congrArg (fun z : AlY => z.2) s)).1)⟩
theorem Tx.d (T : Tx K mg) : He.SaysD fa fnA K := congrArg (fun z : AlY => z.1) T.says
theorem Tx.x (T : Tx K mg) : ex K = true := congrArg (fun z : AlY => z.2) T.says
theorem Tx.fact (T : Tx K mg) (i : Nat) {f : He.Fa} (h : fa[i]? = some f := by rfl) : f.ok K = true := T.d.fact i h
theorem Tx.fun_ (T : Tx K mg) (i : Nat) {d : He.DefD} (h : fnA[i]? = some d := by rfl) : FunD K d.name d.qual d.params d.body d.scope (d.dvs K) (d.kws K) (He.fAd K d.at_) (fdK K d.at_) := by
  obtain ⟨fd, F⟩ := T.d.def_ i h
  have e : fdK K d.at_ = fd := by
    obtain ⟨oc, od, dV, kV, doc, pm, an, cdv, ct, osl, _, lk, _⟩ := F.ex
    unfold fdK
    rw [lk]
  rw [e]
  exact F
theorem Tx.g_is_integer (T : Tx K mg) : mg "is_integer" = some (.ref (He.ga K "is_integer")) := T.glo _ (T.fact 0)
theorem Tx.g_is_small_prime (T : Tx K mg) : mg "is_small_prime" = some (.ref (He.ga K "is_small_prime")) := T.glo _ (T.fact 1)
theorem Tx.g_taken (T : Tx K mg) : mg "taken" = some (.ref (He.ga K "taken")) := T.glo _ (T.fact 2)
theorem Tx.g_trimmed (T : Tx K mg) : mg "trimmed" = some (.ref (He.ga K "trimmed")) := T.glo _ (T.fact 3)
theorem Tx.g_product_row (T : Tx K mg) : mg "product_row" = some (.ref (He.ga K "product_row")) := T.glo _ (T.fact 4)
theorem Tx.g_division (T : Tx K mg) : mg "division" = some (.ref (He.ga K "division")) := T.glo _ (T.fact 5)
theorem Tx.g_check_grounds (T : Tx K mg) : mg "check_grounds" = some (.ref (He.ga K "check_grounds")) := T.glo _ (T.fact 6)
theorem Tx.g_common_divisor (T : Tx K mg) : mg "common_divisor" = some (.ref (He.ga K "common_divisor")) := T.glo _ (T.fact 7)
theorem Tx.g_prime_root (T : Tx K mg) : mg "prime_root" = some (.ref (He.ga K "prime_root")) := T.glo _ (T.fact 8)
theorem Tx.g_squarefree_part (T : Tx K mg) : mg "squarefree_part" = some (.ref (He.ga K "squarefree_part")) := T.glo _ (T.fact 9)
theorem Tx.g_multiplicity (T : Tx K mg) : mg "multiplicity" = some (.ref (He.ga K "multiplicity")) := T.glo _ (T.fact 10)
theorem Tx.g_law_numbers (T : Tx K mg) : mg "_law_numbers" = some (.ref (He.ga K "_law_numbers")) := T.glo _ (T.fact 11)
theorem Tx.g_law_next (T : Tx K mg) : mg "_law_next" = some (.ref (He.ga K "_law_next")) := T.glo _ (T.fact 12)
theorem Tx.g_law_prime (T : Tx K mg) : mg "_law_prime" = some (.ref (He.ga K "_law_prime")) := T.glo _ (T.fact 13)
theorem Tx.g_law_ground (T : Tx K mg) : mg "_law_ground" = some (.ref (He.ga K "_law_ground")) := T.glo _ (T.fact 14)
theorem Tx.g_law_rest (T : Tx K mg) : mg "_law_rest" = some (.ref (He.ga K "_law_rest")) := T.glo _ (T.fact 15)
theorem Tx.g_law_poly (T : Tx K mg) : mg "_law_poly" = some (.ref (He.ga K "_law_poly")) := T.glo _ (T.fact 16)
theorem Tx.g_law_refuses (T : Tx K mg) : mg "_law_refuses" = some (.ref (He.ga K "_law_refuses")) := T.glo _ (T.fact 17)
theorem Tx.g_law (T : Tx K mg) : mg "law" = some (.ref (He.ga K "law")) := T.glo _ (T.fact 18)
theorem Tx.g_Ratio (T : Tx K mg) : mg "Ratio" = some (.ref (He.ga K "Ratio")) := T.glo _ (T.fact 19)
theorem Tx.g_Residue (T : Tx K mg) : mg "Residue" = some (.ref (He.ga K "Residue")) := T.glo _ (T.fact 20)
theorem Tx.g_Ground (T : Tx K mg) : mg "Ground" = some (.ref (He.ga K "Ground")) := T.glo _ (T.fact 21)
theorem Tx.g_Poly (T : Tx K mg) : mg "Poly" = some (.ref (He.ga K "Poly")) := T.glo _ (T.fact 22)
theorem Tx.g_ZeroDivisor (T : Tx K mg) : mg "ZeroDivisor" = some (.ref (He.ga K "ZeroDivisor")) := T.glo _ (T.fact 23)
theorem Tx.g_Malformed (T : Tx K mg) : mg "Malformed" = some (.ref (He.ga K "Malformed")) := T.glo _ (T.fact 24)
theorem Tx.g_PRIMES (T : Tx K mg) : mg "PRIMES" = some (.ref (He.ga K "PRIMES")) := T.glo _ (T.fact 25)
theorem Tx.n_len (T : Tx K mg) : mg "len" = none := T.free _ (T.fact 26)
theorem Tx.n_isinstance (T : Tx K mg) : mg "isinstance" = none := T.free _ (T.fact 27)
theorem Tx.n_tuple (T : Tx K mg) : mg "tuple" = none := T.free _ (T.fact 28)
theorem Tx.n_list (T : Tx K mg) : mg "list" = none := T.free _ (T.fact 29)
theorem Tx.n_range (T : Tx K mg) : mg "range" = none := T.free _ (T.fact 30)
theorem Tx.n_max (T : Tx K mg) : mg "max" = none := T.free _ (T.fact 31)
theorem Tx.n_min (T : Tx K mg) : mg "min" = none := T.free _ (T.fact 32)
theorem Tx.n_abs (T : Tx K mg) : mg "abs" = none := T.free _ (T.fact 33)
theorem Tx.n_int (T : Tx K mg) : mg "int" = none := T.free _ (T.fact 34)
theorem Tx.n_bool (T : Tx K mg) : mg "bool" = none := T.free _ (T.fact 35)
theorem Tx.c_Ratio (T : Tx K mg) : Cls K (aC K "Ratio") := He.cls_ok (T.fact 36)
theorem Tx.c_Residue (T : Tx K mg) : Cls K (aC K "Residue") := He.cls_ok (T.fact 37)
theorem Tx.c_Ground (T : Tx K mg) : Cls K (aC K "Ground") := He.cls_ok (T.fact 38)
theorem Tx.c_Poly (T : Tx K mg) : Cls K (aC K "Poly") := He.cls_ok (T.fact 39)
theorem Tx.k_Ratio (T : Tx K mg) : Mk K (aC K "Ratio") (aM K "Ratio" "__init__") := He.mkr_ok (T.fact 40)
theorem Tx.k_Residue (T : Tx K mg) : Mk K (aC K "Residue") (aM K "Residue" "__init__") := He.mkr_ok (T.fact 41)
theorem Tx.k_Ground (T : Tx K mg) : Mk K (aC K "Ground") (aM K "Ground" "__init__") := He.mkr_ok (T.fact 42)
theorem Tx.k_Poly (T : Tx K mg) : Mk K (aC K "Poly") (aM K "Poly" "__init__") := He.mkr_ok (T.fact 43)
theorem Tx.a_Ratio_n (T : Tx K mg) : NoAttr K (aC K "Ratio") "n" := He.noat_ok (T.fact 44)
theorem Tx.a_Ratio_d (T : Tx K mg) : NoAttr K (aC K "Ratio") "d" := He.noat_ok (T.fact 45)
theorem Tx.a_Residue_p (T : Tx K mg) : NoAttr K (aC K "Residue") "p" := He.noat_ok (T.fact 46)
theorem Tx.a_Residue_n (T : Tx K mg) : NoAttr K (aC K "Residue") "n" := He.noat_ok (T.fact 47)
theorem Tx.a_Ground_p (T : Tx K mg) : NoAttr K (aC K "Ground") "p" := He.noat_ok (T.fact 48)
theorem Tx.a_Poly_ground (T : Tx K mg) : NoAttr K (aC K "Poly") "ground" := He.noat_ok (T.fact 49)
theorem Tx.a_Poly_row (T : Tx K mg) : NoAttr K (aC K "Poly") "row" := He.noat_ok (T.fact 50)
theorem Tx.m_Ratio_eq (T : Tx K mg) : Meth K (aC K "Ratio") "__eq__" (aM K "Ratio" "__eq__") := He.meth_ok (T.fact 51)
theorem Tx.m_Ratio_add (T : Tx K mg) : Meth K (aC K "Ratio") "__add__" (aM K "Ratio" "__add__") := He.meth_ok (T.fact 52)
theorem Tx.m_Ratio_sub (T : Tx K mg) : Meth K (aC K "Ratio") "__sub__" (aM K "Ratio" "__sub__") := He.meth_ok (T.fact 53)
theorem Tx.m_Ratio_mul (T : Tx K mg) : Meth K (aC K "Ratio") "__mul__" (aM K "Ratio" "__mul__") := He.meth_ok (T.fact 54)
theorem Tx.m_Ratio_is_zero (T : Tx K mg) : Meth K (aC K "Ratio") "is_zero" (aM K "Ratio" "is_zero") := He.meth_ok (T.fact 55)
theorem Tx.m_Ratio_inverse (T : Tx K mg) : Meth K (aC K "Ratio") "inverse" (aM K "Ratio" "inverse") := He.meth_ok (T.fact 56)
theorem Tx.m_Residue_eq (T : Tx K mg) : Meth K (aC K "Residue") "__eq__" (aM K "Residue" "__eq__") := He.meth_ok (T.fact 57)
theorem Tx.m_Residue_add (T : Tx K mg) : Meth K (aC K "Residue") "__add__" (aM K "Residue" "__add__") := He.meth_ok (T.fact 58)
theorem Tx.m_Residue_sub (T : Tx K mg) : Meth K (aC K "Residue") "__sub__" (aM K "Residue" "__sub__") := He.meth_ok (T.fact 59)
theorem Tx.m_Residue_mul (T : Tx K mg) : Meth K (aC K "Residue") "__mul__" (aM K "Residue" "__mul__") := He.meth_ok (T.fact 60)
theorem Tx.m_Residue_is_zero (T : Tx K mg) : Meth K (aC K "Residue") "is_zero" (aM K "Residue" "is_zero") := He.meth_ok (T.fact 61)
theorem Tx.m_Residue_inverse (T : Tx K mg) : Meth K (aC K "Residue") "inverse" (aM K "Residue" "inverse") := He.meth_ok (T.fact 62)
theorem Tx.m_Residue_over (T : Tx K mg) : Meth K (aC K "Residue") "over" (aM K "Residue" "over") := He.meth_ok (T.fact 63)
theorem Tx.m_Ground_eq (T : Tx K mg) : Meth K (aC K "Ground") "__eq__" (aM K "Ground" "__eq__") := He.meth_ok (T.fact 64)
theorem Tx.m_Ground_number (T : Tx K mg) : Meth K (aC K "Ground") "number" (aM K "Ground" "number") := He.meth_ok (T.fact 65)
theorem Tx.m_Ground_zero (T : Tx K mg) : Meth K (aC K "Ground") "zero" (aM K "Ground" "zero") := He.meth_ok (T.fact 66)
theorem Tx.m_Ground_is_member (T : Tx K mg) : Meth K (aC K "Ground") "is_member" (aM K "Ground" "is_member") := He.meth_ok (T.fact 67)
theorem Tx.m_Poly_eq (T : Tx K mg) : Meth K (aC K "Poly") "__eq__" (aM K "Poly" "__eq__") := He.meth_ok (T.fact 68)
theorem Tx.m_Poly_mul (T : Tx K mg) : Meth K (aC K "Poly") "__mul__" (aM K "Poly" "__mul__") := He.meth_ok (T.fact 69)
theorem Tx.m_Poly_floordiv (T : Tx K mg) : Meth K (aC K "Poly") "__floordiv__" (aM K "Poly" "__floordiv__") := He.meth_ok (T.fact 70)
theorem Tx.m_Poly_mod (T : Tx K mg) : Meth K (aC K "Poly") "__mod__" (aM K "Poly" "__mod__") := He.meth_ok (T.fact 71)
theorem Tx.m_Poly_degree (T : Tx K mg) : Meth K (aC K "Poly") "degree" (aM K "Poly" "degree") := He.meth_ok (T.fact 72)
theorem Tx.m_Poly_is_zero (T : Tx K mg) : Meth K (aC K "Poly") "is_zero" (aM K "Poly" "is_zero") := He.meth_ok (T.fact 73)
theorem Tx.m_Poly_coefficient (T : Tx K mg) : Meth K (aC K "Poly") "coefficient" (aM K "Poly" "coefficient") := He.meth_ok (T.fact 74)
theorem Tx.m_Poly_scaled (T : Tx K mg) : Meth K (aC K "Poly") "scaled" (aM K "Poly" "scaled") := He.meth_ok (T.fact 75)
theorem Tx.m_Poly_monic (T : Tx K mg) : Meth K (aC K "Poly") "monic" (aM K "Poly" "monic") := He.meth_ok (T.fact 76)
theorem Tx.m_Poly_derivative (T : Tx K mg) : Meth K (aC K "Poly") "derivative" (aM K "Poly" "derivative") := He.meth_ok (T.fact 77)
theorem Tx.m_Poly_power (T : Tx K mg) : Meth K (aC K "Poly") "power" (aM K "Poly" "power") := He.meth_ok (T.fact 78)
theorem Tx.e_ZeroDivisor (T : Tx K mg) : (He.Fa.exc "ZeroDivisor").ok K = true := T.fact 79
theorem Tx.e_Malformed (T : Tx K mg) : (He.Fa.exc "Malformed").ok K = true := T.fact 80
theorem Tx.h_ZeroDivisor (T : Tx K mg) : PySem.W.exmOne K (.ref (He.ga K "ZeroDivisor")) (.ref (He.ga K "ZeroDivisor")) = some true := He.exm_ok (T.fact 81)
theorem Tx.h_Malformed (T : Tx K mg) : PySem.W.exmOne K (.ref (He.ga K "Malformed")) (.ref (He.ga K "Malformed")) = some true := He.exm_ok (T.fact 82)
theorem Tx.f_is_integer (T : Tx K mg) : FunD K "is_integer" "is_integer" (defArgs (topS 10)) (defBody (topS 10)) (defScope (topS 10)) [] [] (aG K "is_integer") (dG K "is_integer") := T.fun_ 0
theorem Tx.b_is_integer (T : Tx K mg) : Binds K (dG K "is_integer") ["value"] [] := T.f_is_integer.bindsN fun _ _ _ _ _ _ us hl => match us, hl with | [_], _ => rfl
theorem Tx.f_is_small_prime (T : Tx K mg) : FunD K "is_small_prime" "is_small_prime" (defArgs (topS 14)) (defBody (topS 14)) (defScope (topS 14)) [] [] (aG K "is_small_prime") (dG K "is_small_prime") := T.fun_ 1
theorem Tx.b_is_small_prime (T : Tx K mg) : Binds K (dG K "is_small_prime") ["value"] [] := T.f_is_small_prime.bindsN fun _ _ _ _ _ _ us hl => match us, hl with | [_], _ => rfl
theorem Tx.f_taken (T : Tx K mg) : FunD K "taken" "taken" (defArgs (topS 21)) (defBody (topS 21)) (defScope (topS 21)) [] [] (aG K "taken") (dG K "taken") := T.fun_ 2
theorem Tx.b_taken (T : Tx K mg) : Binds K (dG K "taken") ["ground", "item"] [] := T.f_taken.bindsN fun _ _ _ _ _ _ us hl => match us, hl with | [_, _], _ => rfl
theorem Tx.f_trimmed (T : Tx K mg) : FunD K "trimmed" "trimmed" (defArgs (topS 23)) (defBody (topS 23)) (defScope (topS 23)) [] [] (aG K "trimmed") (dG K "trimmed") := T.fun_ 3
theorem Tx.b_trimmed (T : Tx K mg) : Binds K (dG K "trimmed") ["row"] [] := T.f_trimmed.bindsN fun _ _ _ _ _ _ us hl => match us, hl with | [_], _ => rfl
theorem Tx.f_product_row (T : Tx K mg) : FunD K "product_row" "product_row" (defArgs (topS 25)) (defBody (topS 25)) (defScope (topS 25)) [] [] (aG K "product_row") (dG K "product_row") := T.fun_ 4
theorem Tx.b_product_row (T : Tx K mg) : Binds K (dG K "product_row") ["ground", "a", "b"] [] := T.f_product_row.bindsN fun _ _ _ _ _ _ us hl => match us, hl with | [_, _, _], _ => rfl
theorem Tx.f_division (T : Tx K mg) : FunD K "division" "division" (defArgs (topS 26)) (defBody (topS 26)) (defScope (topS 26)) [] [] (aG K "division") (dG K "division") := T.fun_ 5
theorem Tx.b_division (T : Tx K mg) : Binds K (dG K "division") ["ground", "a", "b"] [] := T.f_division.bindsN fun _ _ _ _ _ _ us hl => match us, hl with | [_, _, _], _ => rfl
theorem Tx.f_check_grounds (T : Tx K mg) : FunD K "check_grounds" "check_grounds" (defArgs (topS 28)) (defBody (topS 28)) (defScope (topS 28)) [] [] (aG K "check_grounds") (dG K "check_grounds") := T.fun_ 6
theorem Tx.b_check_grounds (T : Tx K mg) : Binds K (dG K "check_grounds") ["f", "g"] [] := T.f_check_grounds.bindsN fun _ _ _ _ _ _ us hl => match us, hl with | [_, _], _ => rfl
theorem Tx.f_common_divisor (T : Tx K mg) : FunD K "common_divisor" "common_divisor" (defArgs (topS 30)) (defBody (topS 30)) (defScope (topS 30)) [] [] (aG K "common_divisor") (dG K "common_divisor") := T.fun_ 7
theorem Tx.b_common_divisor (T : Tx K mg) : Binds K (dG K "common_divisor") ["f", "g"] [] := T.f_common_divisor.bindsN fun _ _ _ _ _ _ us hl => match us, hl with | [_, _], _ => rfl
theorem Tx.f_prime_root (T : Tx K mg) : FunD K "prime_root" "prime_root" (defArgs (topS 31)) (defBody (topS 31)) (defScope (topS 31)) [] [] (aG K "prime_root") (dG K "prime_root") := T.fun_ 8
theorem Tx.b_prime_root (T : Tx K mg) : Binds K (dG K "prime_root") ["f"] [] := T.f_prime_root.bindsN fun _ _ _ _ _ _ us hl => match us, hl with | [_], _ => rfl
theorem Tx.f_squarefree_part (T : Tx K mg) : FunD K "squarefree_part" "squarefree_part" (defArgs (topS 32)) (defBody (topS 32)) (defScope (topS 32)) [] [] (aG K "squarefree_part") (dG K "squarefree_part") := T.fun_ 9
theorem Tx.b_squarefree_part (T : Tx K mg) : Binds K (dG K "squarefree_part") ["f"] [] := T.f_squarefree_part.bindsN fun _ _ _ _ _ _ us hl => match us, hl with | [_], _ => rfl
theorem Tx.f_multiplicity (T : Tx K mg) : FunD K "multiplicity" "multiplicity" (defArgs (topS 33)) (defBody (topS 33)) (defScope (topS 33)) [] [] (aG K "multiplicity") (dG K "multiplicity") := T.fun_ 10
theorem Tx.b_multiplicity (T : Tx K mg) : Binds K (dG K "multiplicity") ["f", "g"] [] := T.f_multiplicity.bindsN fun _ _ _ _ _ _ us hl => match us, hl with | [_, _], _ => rfl
theorem Tx.f_law_numbers (T : Tx K mg) : FunD K "_law_numbers" "_law_numbers" (defArgs (topS 35)) (defBody (topS 35)) (defScope (topS 35)) [] [] (aG K "_law_numbers") (dG K "_law_numbers") := T.fun_ 11
theorem Tx.b_law_numbers (T : Tx K mg) : Binds K (dG K "_law_numbers") ["_law_script"] [] := T.f_law_numbers.bindsN fun _ _ _ _ _ _ us hl => match us, hl with | [_], _ => rfl
theorem Tx.f_law_next (T : Tx K mg) : FunD K "_law_next" "_law_next" (defArgs (topS 36)) (defBody (topS 36)) (defScope (topS 36)) [] [] (aG K "_law_next") (dG K "_law_next") := T.fun_ 12
theorem Tx.b_law_next (T : Tx K mg) : Binds K (dG K "_law_next") ["_law_numbers_here", "_law_many"] [] := T.f_law_next.bindsN fun _ _ _ _ _ _ us hl => match us, hl with | [_, _], _ => rfl
theorem Tx.f_law_prime (T : Tx K mg) : FunD K "_law_prime" "_law_prime" (defArgs (topS 37)) (defBody (topS 37)) (defScope (topS 37)) [] [] (aG K "_law_prime") (dG K "_law_prime") := T.fun_ 13
theorem Tx.b_law_prime (T : Tx K mg) : Binds K (dG K "_law_prime") ["_law_numbers_here"] [] := T.f_law_prime.bindsN fun _ _ _ _ _ _ us hl => match us, hl with | [_], _ => rfl
theorem Tx.f_law_ground (T : Tx K mg) : FunD K "_law_ground" "_law_ground" (defArgs (topS 38)) (defBody (topS 38)) (defScope (topS 38)) [] [] (aG K "_law_ground") (dG K "_law_ground") := T.fun_ 14
theorem Tx.b_law_ground (T : Tx K mg) : Binds K (dG K "_law_ground") ["_law_p"] [] := T.f_law_ground.bindsN fun _ _ _ _ _ _ us hl => match us, hl with | [_], _ => rfl
theorem Tx.f_law_rest (T : Tx K mg) : FunD K "_law_rest" "_law_rest" (defArgs (topS 39)) (defBody (topS 39)) (defScope (topS 39)) [] [] (aG K "_law_rest") (dG K "_law_rest") := T.fun_ 15
theorem Tx.b_law_rest (T : Tx K mg) : Binds K (dG K "_law_rest") ["_law_p", "_law_x"] [] := T.f_law_rest.bindsN fun _ _ _ _ _ _ us hl => match us, hl with | [_, _], _ => rfl
theorem Tx.f_law_poly (T : Tx K mg) : FunD K "_law_poly" "_law_poly" (defArgs (topS 40)) (defBody (topS 40)) (defScope (topS 40)) [] [] (aG K "_law_poly") (dG K "_law_poly") := T.fun_ 16
theorem Tx.b_law_poly (T : Tx K mg) : Binds K (dG K "_law_poly") ["_law_ground_here", "_law_row"] [] := T.f_law_poly.bindsN fun _ _ _ _ _ _ us hl => match us, hl with | [_, _], _ => rfl
theorem Tx.f_law_refuses (T : Tx K mg) : FunD K "_law_refuses" "_law_refuses" (defArgs (topS 41)) (defBody (topS 41)) (defScope (topS 41)) [] [] (aG K "_law_refuses") (dG K "_law_refuses") := T.fun_ 17
theorem Tx.b_law_refuses (T : Tx K mg) : Binds K (dG K "_law_refuses") ["_law_ground_here"] [] := T.f_law_refuses.bindsN fun _ _ _ _ _ _ us hl => match us, hl with | [_], _ => rfl
theorem Tx.f_law (T : Tx K mg) : FunD K "law" "law" (defArgs (topS 42)) (defBody (topS 42)) (defScope (topS 42)) [] [] (aG K "law") (dG K "law") := T.fun_ 18
theorem Tx.b_law (T : Tx K mg) : Binds K (dG K "law") ["_law_script"] [] := T.f_law.bindsN fun _ _ _ _ _ _ us hl => match us, hl with | [_], _ => rfl
theorem Tx.f_Ratio_init (T : Tx K mg) : FunD K "__init__" "Ratio.__init__" (defArgs (clS 11 0)) (defBody (clS 11 0)) (defScope (clS 11 0)) [.int 1] [] (aM K "Ratio" "__init__") (dM K "Ratio" "__init__") := T.fun_ 19
theorem Tx.b_Ratio_init (T : Tx K mg) : Binds K (dM K "Ratio" "__init__") ["self", "n", "d"] [] := by
  obtain ⟨ds, r, b⟩ := T.f_Ratio_init.binds1 (ps := ["self", "n", "d"]) 3 1 (List.cons_ne_nil _ _) rfl fun _ _ _ _ _ _ _ us its hl hi => match us, its, hl, hi with | [_, _, _], [_], _, _ => ⟨_, rfl, rfl⟩
  cases r
  exact b
theorem Tx.bd_Ratio_init (T : Tx K mg) : ∃ ds, Vals [.int 1] ds ∧ Binds K (dM K "Ratio" "__init__") ["self", "n", "d"] ds := T.f_Ratio_init.binds1 (ps := ["self", "n", "d"]) 2 0 (List.cons_ne_nil _ _) rfl fun _ _ _ _ _ _ _ us its hl hi => match us, its, hl, hi with | [_, _], [_], _, _ => ⟨_, rfl, rfl⟩
theorem Tx.f_Ratio_eq (T : Tx K mg) : FunD K "__eq__" "Ratio.__eq__" (defArgs (clS 11 1)) (defBody (clS 11 1)) (defScope (clS 11 1)) [] [] (aM K "Ratio" "__eq__") (dM K "Ratio" "__eq__") := T.fun_ 20
theorem Tx.b_Ratio_eq (T : Tx K mg) : Binds K (dM K "Ratio" "__eq__") ["self", "other"] [] := T.f_Ratio_eq.bindsN fun _ _ _ _ _ _ us hl => match us, hl with | [_, _], _ => rfl
theorem Tx.f_Ratio_add (T : Tx K mg) : FunD K "__add__" "Ratio.__add__" (defArgs (clS 11 2)) (defBody (clS 11 2)) (defScope (clS 11 2)) [] [] (aM K "Ratio" "__add__") (dM K "Ratio" "__add__") := T.fun_ 21
theorem Tx.b_Ratio_add (T : Tx K mg) : Binds K (dM K "Ratio" "__add__") ["self", "other"] [] := T.f_Ratio_add.bindsN fun _ _ _ _ _ _ us hl => match us, hl with | [_, _], _ => rfl
theorem Tx.f_Ratio_sub (T : Tx K mg) : FunD K "__sub__" "Ratio.__sub__" (defArgs (clS 11 3)) (defBody (clS 11 3)) (defScope (clS 11 3)) [] [] (aM K "Ratio" "__sub__") (dM K "Ratio" "__sub__") := T.fun_ 22
theorem Tx.b_Ratio_sub (T : Tx K mg) : Binds K (dM K "Ratio" "__sub__") ["self", "other"] [] := T.f_Ratio_sub.bindsN fun _ _ _ _ _ _ us hl => match us, hl with | [_, _], _ => rfl
theorem Tx.f_Ratio_mul (T : Tx K mg) : FunD K "__mul__" "Ratio.__mul__" (defArgs (clS 11 4)) (defBody (clS 11 4)) (defScope (clS 11 4)) [] [] (aM K "Ratio" "__mul__") (dM K "Ratio" "__mul__") := T.fun_ 23
theorem Tx.b_Ratio_mul (T : Tx K mg) : Binds K (dM K "Ratio" "__mul__") ["self", "other"] [] := T.f_Ratio_mul.bindsN fun _ _ _ _ _ _ us hl => match us, hl with | [_, _], _ => rfl
theorem Tx.f_Ratio_is_zero (T : Tx K mg) : FunD K "is_zero" "Ratio.is_zero" (defArgs (clS 11 7)) (defBody (clS 11 7)) (defScope (clS 11 7)) [] [] (aM K "Ratio" "is_zero") (dM K "Ratio" "is_zero") := T.fun_ 24
theorem Tx.b_Ratio_is_zero (T : Tx K mg) : Binds K (dM K "Ratio" "is_zero") ["self"] [] := T.f_Ratio_is_zero.bindsN fun _ _ _ _ _ _ us hl => match us, hl with | [_], _ => rfl
theorem Tx.f_Ratio_inverse (T : Tx K mg) : FunD K "inverse" "Ratio.inverse" (defArgs (clS 11 8)) (defBody (clS 11 8)) (defScope (clS 11 8)) [] [] (aM K "Ratio" "inverse") (dM K "Ratio" "inverse") := T.fun_ 25
theorem Tx.b_Ratio_inverse (T : Tx K mg) : Binds K (dM K "Ratio" "inverse") ["self"] [] := T.f_Ratio_inverse.bindsN fun _ _ _ _ _ _ us hl => match us, hl with | [_], _ => rfl
theorem Tx.f_Residue_init (T : Tx K mg) : FunD K "__init__" "Residue.__init__" (defArgs (clS 15 0)) (defBody (clS 15 0)) (defScope (clS 15 0)) [] [] (aM K "Residue" "__init__") (dM K "Residue" "__init__") := T.fun_ 26
theorem Tx.b_Residue_init (T : Tx K mg) : Binds K (dM K "Residue" "__init__") ["self", "p", "n"] [] := T.f_Residue_init.bindsN fun _ _ _ _ _ _ us hl => match us, hl with | [_, _, _], _ => rfl
theorem Tx.f_Residue_eq (T : Tx K mg) : FunD K "__eq__" "Residue.__eq__" (defArgs (clS 15 1)) (defBody (clS 15 1)) (defScope (clS 15 1)) [] [] (aM K "Residue" "__eq__") (dM K "Residue" "__eq__") := T.fun_ 27
theorem Tx.b_Residue_eq (T : Tx K mg) : Binds K (dM K "Residue" "__eq__") ["self", "other"] [] := T.f_Residue_eq.bindsN fun _ _ _ _ _ _ us hl => match us, hl with | [_, _], _ => rfl
theorem Tx.f_Residue_add (T : Tx K mg) : FunD K "__add__" "Residue.__add__" (defArgs (clS 15 2)) (defBody (clS 15 2)) (defScope (clS 15 2)) [] [] (aM K "Residue" "__add__") (dM K "Residue" "__add__") := T.fun_ 28
theorem Tx.b_Residue_add (T : Tx K mg) : Binds K (dM K "Residue" "__add__") ["self", "other"] [] := T.f_Residue_add.bindsN fun _ _ _ _ _ _ us hl => match us, hl with | [_, _], _ => rfl
theorem Tx.f_Residue_sub (T : Tx K mg) : FunD K "__sub__" "Residue.__sub__" (defArgs (clS 15 3)) (defBody (clS 15 3)) (defScope (clS 15 3)) [] [] (aM K "Residue" "__sub__") (dM K "Residue" "__sub__") := T.fun_ 29
theorem Tx.b_Residue_sub (T : Tx K mg) : Binds K (dM K "Residue" "__sub__") ["self", "other"] [] := T.f_Residue_sub.bindsN fun _ _ _ _ _ _ us hl => match us, hl with | [_, _], _ => rfl
theorem Tx.f_Residue_mul (T : Tx K mg) : FunD K "__mul__" "Residue.__mul__" (defArgs (clS 15 4)) (defBody (clS 15 4)) (defScope (clS 15 4)) [] [] (aM K "Residue" "__mul__") (dM K "Residue" "__mul__") := T.fun_ 30
theorem Tx.b_Residue_mul (T : Tx K mg) : Binds K (dM K "Residue" "__mul__") ["self", "other"] [] := T.f_Residue_mul.bindsN fun _ _ _ _ _ _ us hl => match us, hl with | [_, _], _ => rfl
theorem Tx.f_Residue_is_zero (T : Tx K mg) : FunD K "is_zero" "Residue.is_zero" (defArgs (clS 15 7)) (defBody (clS 15 7)) (defScope (clS 15 7)) [] [] (aM K "Residue" "is_zero") (dM K "Residue" "is_zero") := T.fun_ 31
theorem Tx.b_Residue_is_zero (T : Tx K mg) : Binds K (dM K "Residue" "is_zero") ["self"] [] := T.f_Residue_is_zero.bindsN fun _ _ _ _ _ _ us hl => match us, hl with | [_], _ => rfl
theorem Tx.f_Residue_inverse (T : Tx K mg) : FunD K "inverse" "Residue.inverse" (defArgs (clS 15 8)) (defBody (clS 15 8)) (defScope (clS 15 8)) [] [] (aM K "Residue" "inverse") (dM K "Residue" "inverse") := T.fun_ 32
theorem Tx.b_Residue_inverse (T : Tx K mg) : Binds K (dM K "Residue" "inverse") ["self"] [] := T.f_Residue_inverse.bindsN fun _ _ _ _ _ _ us hl => match us, hl with | [_], _ => rfl
theorem Tx.f_Residue_over (T : Tx K mg) : FunD K "over" "Residue.over" (defArgs (clS 15 9)) (defBody (clS 15 9)) (defScope (clS 15 9)) [] [] (aM K "Residue" "over") (dM K "Residue" "over") := T.fun_ 33
theorem Tx.b_Residue_over (T : Tx K mg) : Binds K (dM K "Residue" "over") ["self", "other"] [] := T.f_Residue_over.bindsN fun _ _ _ _ _ _ us hl => match us, hl with | [_, _], _ => rfl
theorem Tx.f_Ground_init (T : Tx K mg) : FunD K "__init__" "Ground.__init__" (defArgs (clS 20 0)) (defBody (clS 20 0)) (defScope (clS 20 0)) [.int 0] [] (aM K "Ground" "__init__") (dM K "Ground" "__init__") := T.fun_ 34
theorem Tx.b_Ground_init (T : Tx K mg) : Binds K (dM K "Ground" "__init__") ["self", "p"] [] := by
  obtain ⟨ds, r, b⟩ := T.f_Ground_init.binds1 (ps := ["self", "p"]) 2 1 (List.cons_ne_nil _ _) rfl fun _ _ _ _ _ _ _ us its hl hi => match us, its, hl, hi with | [_, _], [_], _, _ => ⟨_, rfl, rfl⟩
  cases r
  exact b
theorem Tx.bd_Ground_init (T : Tx K mg) : ∃ ds, Vals [.int 0] ds ∧ Binds K (dM K "Ground" "__init__") ["self", "p"] ds := T.f_Ground_init.binds1 (ps := ["self", "p"]) 1 0 (List.cons_ne_nil _ _) rfl fun _ _ _ _ _ _ _ us its hl hi => match us, its, hl, hi with | [_], [_], _, _ => ⟨_, rfl, rfl⟩
theorem Tx.f_Ground_eq (T : Tx K mg) : FunD K "__eq__" "Ground.__eq__" (defArgs (clS 20 1)) (defBody (clS 20 1)) (defScope (clS 20 1)) [] [] (aM K "Ground" "__eq__") (dM K "Ground" "__eq__") := T.fun_ 35
theorem Tx.b_Ground_eq (T : Tx K mg) : Binds K (dM K "Ground" "__eq__") ["self", "other"] [] := T.f_Ground_eq.bindsN fun _ _ _ _ _ _ us hl => match us, hl with | [_, _], _ => rfl
theorem Tx.f_Ground_number (T : Tx K mg) : FunD K "number" "Ground.number" (defArgs (clS 20 2)) (defBody (clS 20 2)) (defScope (clS 20 2)) [.int 1] [] (aM K "Ground" "number") (dM K "Ground" "number") := T.fun_ 36
theorem Tx.b_Ground_number (T : Tx K mg) : Binds K (dM K "Ground" "number") ["self", "n", "d"] [] := by
  obtain ⟨ds, r, b⟩ := T.f_Ground_number.binds1 (ps := ["self", "n", "d"]) 3 1 (List.cons_ne_nil _ _) rfl fun _ _ _ _ _ _ _ us its hl hi => match us, its, hl, hi with | [_, _, _], [_], _, _ => ⟨_, rfl, rfl⟩
  cases r
  exact b
theorem Tx.bd_Ground_number (T : Tx K mg) : ∃ ds, Vals [.int 1] ds ∧ Binds K (dM K "Ground" "number") ["self", "n", "d"] ds := T.f_Ground_number.binds1 (ps := ["self", "n", "d"]) 2 0 (List.cons_ne_nil _ _) rfl fun _ _ _ _ _ _ _ us its hl hi => match us, its, hl, hi with | [_, _], [_], _, _ => ⟨_, rfl, rfl⟩
theorem Tx.f_Ground_zero (T : Tx K mg) : FunD K "zero" "Ground.zero" (defArgs (clS 20 3)) (defBody (clS 20 3)) (defScope (clS 20 3)) [] [] (aM K "Ground" "zero") (dM K "Ground" "zero") := T.fun_ 37
theorem Tx.b_Ground_zero (T : Tx K mg) : Binds K (dM K "Ground" "zero") ["self"] [] := T.f_Ground_zero.bindsN fun _ _ _ _ _ _ us hl => match us, hl with | [_], _ => rfl
theorem Tx.f_Ground_is_member (T : Tx K mg) : FunD K "is_member" "Ground.is_member" (defArgs (clS 20 5)) (defBody (clS 20 5)) (defScope (clS 20 5)) [] [] (aM K "Ground" "is_member") (dM K "Ground" "is_member") := T.fun_ 38
theorem Tx.b_Ground_is_member (T : Tx K mg) : Binds K (dM K "Ground" "is_member") ["self", "value"] [] := T.f_Ground_is_member.bindsN fun _ _ _ _ _ _ us hl => match us, hl with | [_, _], _ => rfl
theorem Tx.f_Poly_init (T : Tx K mg) : FunD K "__init__" "Poly.__init__" (defArgs (clS 27 0)) (defBody (clS 27 0)) (defScope (clS 27 0)) [] [] (aM K "Poly" "__init__") (dM K "Poly" "__init__") := T.fun_ 39
theorem Tx.b_Poly_init (T : Tx K mg) : Binds K (dM K "Poly" "__init__") ["self", "ground", "row"] [] := T.f_Poly_init.bindsN fun _ _ _ _ _ _ us hl => match us, hl with | [_, _, _], _ => rfl
theorem Tx.f_Poly_eq (T : Tx K mg) : FunD K "__eq__" "Poly.__eq__" (defArgs (clS 27 1)) (defBody (clS 27 1)) (defScope (clS 27 1)) [] [] (aM K "Poly" "__eq__") (dM K "Poly" "__eq__") := T.fun_ 40
theorem Tx.b_Poly_eq (T : Tx K mg) : Binds K (dM K "Poly" "__eq__") ["self", "other"] [] := T.f_Poly_eq.bindsN fun _ _ _ _ _ _ us hl => match us, hl with | [_, _], _ => rfl
theorem Tx.f_Poly_mul (T : Tx K mg) : FunD K "__mul__" "Poly.__mul__" (defArgs (clS 27 5)) (defBody (clS 27 5)) (defScope (clS 27 5)) [] [] (aM K "Poly" "__mul__") (dM K "Poly" "__mul__") := T.fun_ 41
theorem Tx.b_Poly_mul (T : Tx K mg) : Binds K (dM K "Poly" "__mul__") ["self", "other"] [] := T.f_Poly_mul.bindsN fun _ _ _ _ _ _ us hl => match us, hl with | [_, _], _ => rfl
theorem Tx.f_Poly_floordiv (T : Tx K mg) : FunD K "__floordiv__" "Poly.__floordiv__" (defArgs (clS 27 6)) (defBody (clS 27 6)) (defScope (clS 27 6)) [] [] (aM K "Poly" "__floordiv__") (dM K "Poly" "__floordiv__") := T.fun_ 42
theorem Tx.b_Poly_floordiv (T : Tx K mg) : Binds K (dM K "Poly" "__floordiv__") ["self", "other"] [] := T.f_Poly_floordiv.bindsN fun _ _ _ _ _ _ us hl => match us, hl with | [_, _], _ => rfl
theorem Tx.f_Poly_mod (T : Tx K mg) : FunD K "__mod__" "Poly.__mod__" (defArgs (clS 27 7)) (defBody (clS 27 7)) (defScope (clS 27 7)) [] [] (aM K "Poly" "__mod__") (dM K "Poly" "__mod__") := T.fun_ 43
theorem Tx.b_Poly_mod (T : Tx K mg) : Binds K (dM K "Poly" "__mod__") ["self", "other"] [] := T.f_Poly_mod.bindsN fun _ _ _ _ _ _ us hl => match us, hl with | [_, _], _ => rfl
theorem Tx.f_Poly_degree (T : Tx K mg) : FunD K "degree" "Poly.degree" (defArgs (clS 27 10)) (defBody (clS 27 10)) (defScope (clS 27 10)) [] [] (aM K "Poly" "degree") (dM K "Poly" "degree") := T.fun_ 44
theorem Tx.b_Poly_degree (T : Tx K mg) : Binds K (dM K "Poly" "degree") ["self"] [] := T.f_Poly_degree.bindsN fun _ _ _ _ _ _ us hl => match us, hl with | [_], _ => rfl
theorem Tx.f_Poly_is_zero (T : Tx K mg) : FunD K "is_zero" "Poly.is_zero" (defArgs (clS 27 11)) (defBody (clS 27 11)) (defScope (clS 27 11)) [] [] (aM K "Poly" "is_zero") (dM K "Poly" "is_zero") := T.fun_ 45
theorem Tx.b_Poly_is_zero (T : Tx K mg) : Binds K (dM K "Poly" "is_zero") ["self"] [] := T.f_Poly_is_zero.bindsN fun _ _ _ _ _ _ us hl => match us, hl with | [_], _ => rfl
theorem Tx.f_Poly_coefficient (T : Tx K mg) : FunD K "coefficient" "Poly.coefficient" (defArgs (clS 27 12)) (defBody (clS 27 12)) (defScope (clS 27 12)) [] [] (aM K "Poly" "coefficient") (dM K "Poly" "coefficient") := T.fun_ 46
theorem Tx.b_Poly_coefficient (T : Tx K mg) : Binds K (dM K "Poly" "coefficient") ["self", "k"] [] := T.f_Poly_coefficient.bindsN fun _ _ _ _ _ _ us hl => match us, hl with | [_, _], _ => rfl
theorem Tx.f_Poly_scaled (T : Tx K mg) : FunD K "scaled" "Poly.scaled" (defArgs (clS 27 13)) (defBody (clS 27 13)) (defScope (clS 27 13)) [] [] (aM K "Poly" "scaled") (dM K "Poly" "scaled") := T.fun_ 47
theorem Tx.b_Poly_scaled (T : Tx K mg) : Binds K (dM K "Poly" "scaled") ["self", "c"] [] := T.f_Poly_scaled.bindsN fun _ _ _ _ _ _ us hl => match us, hl with | [_, _], _ => rfl
theorem Tx.f_Poly_monic (T : Tx K mg) : FunD K "monic" "Poly.monic" (defArgs (clS 27 14)) (defBody (clS 27 14)) (defScope (clS 27 14)) [] [] (aM K "Poly" "monic") (dM K "Poly" "monic") := T.fun_ 48
theorem Tx.b_Poly_monic (T : Tx K mg) : Binds K (dM K "Poly" "monic") ["self"] [] := T.f_Poly_monic.bindsN fun _ _ _ _ _ _ us hl => match us, hl with | [_], _ => rfl
theorem Tx.f_Poly_derivative (T : Tx K mg) : FunD K "derivative" "Poly.derivative" (defArgs (clS 27 15)) (defBody (clS 27 15)) (defScope (clS 27 15)) [] [] (aM K "Poly" "derivative") (dM K "Poly" "derivative") := T.fun_ 49
theorem Tx.b_Poly_derivative (T : Tx K mg) : Binds K (dM K "Poly" "derivative") ["self"] [] := T.f_Poly_derivative.bindsN fun _ _ _ _ _ _ us hl => match us, hl with | [_], _ => rfl
theorem Tx.f_Poly_power (T : Tx K mg) : FunD K "power" "Poly.power" (defArgs (clS 27 16)) (defBody (clS 27 16)) (defScope (clS 27 16)) [] [] (aM K "Poly" "power") (dM K "Poly" "power") := T.fun_ 50
theorem Tx.b_Poly_power (T : Tx K mg) : Binds K (dM K "Poly" "power") ["self", "k"] [] := T.f_Poly_power.bindsN fun _ _ _ _ _ _ us hl => match us, hl with | [_, _], _ => rfl
theorem Tx.primes (T : Tx K mg) (H : Hp) : SqT K H (He.ga K "PRIMES") ([2, 3, 5, 7, 11, 13, 17, 19, 23, 29, 31].map V.int) := He.tupB_ok (He.ba (He.ba T.x).2).1 H
theorem insC_of {x : Str} (c : Cls K (aC K x)) (h : insB K x = true) : C8.InsC K (aC K x) ∧ PySem.W.selfFirst K (aC K x) = true := by
  obtain ⟨h1, h⟩ := He.ba h
  obtain ⟨h2, h⟩ := He.ba h
  obtain ⟨h3, h⟩ := He.ba h
  obtain ⟨h4, h⟩ := He.ba h
  obtain ⟨h5, h6⟩ := He.ba h
  exact ⟨⟨c, He.eqO_ok h1, He.eqO_ok h2, of_decide_eq_true h3, of_decide_eq_true h4, of_decide_eq_true h5⟩, h6⟩
theorem Tx.i_Ratio (T : Tx K mg) : C8.InsC K (aC K "Ratio") ∧ PySem.W.selfFirst K (aC K "Ratio") = true := insC_of T.c_Ratio (He.ba (He.ba (He.ba T.x).2).2).1
theorem Tx.i_Residue (T : Tx K mg) : C8.InsC K (aC K "Residue") ∧ PySem.W.selfFirst K (aC K "Residue") = true := insC_of T.c_Residue (He.ba (He.ba (He.ba (He.ba T.x).2).2).2).1
theorem Tx.i_Ground (T : Tx K mg) : C8.InsC K (aC K "Ground") ∧ PySem.W.selfFirst K (aC K "Ground") = true := insC_of T.c_Ground (He.ba (He.ba (He.ba (He.ba (He.ba T.x).2).2).2).2).1
theorem Tx.i_Poly (T : Tx K mg) : C8.InsC K (aC K "Poly") ∧ PySem.W.selfFirst K (aC K "Poly") = true := insC_of T.c_Poly (He.ba (He.ba (He.ba (He.ba (He.ba (He.ba T.x).2).2).2).2).2).1
theorem Tx.t_Ratio (T : Tx K mg) : PySem.W.kitOne K (.ref (aC K "Ratio")) (.type "int") = some false := of_decide_eq_true (He.ba (He.ba (He.ba (He.ba (He.ba (He.ba (He.ba T.x).2).2).2).2).2).2).1
theorem Tx.t_Residue (T : Tx K mg) : PySem.W.kitOne K (.ref (aC K "Residue")) (.type "int") = some false := of_decide_eq_true (He.ba (He.ba (He.ba (He.ba (He.ba (He.ba (He.ba (He.ba T.x).2).2).2).2).2).2).2).1
theorem Tx.ne_Ground (T : Tx K mg) : neB K (aC K "Ground") (aM K "Ground" "__eq__") = true := (He.ba (He.ba (He.ba (He.ba (He.ba (He.ba (He.ba (He.ba (He.ba T.x).2).2).2).2).2).2).2).2).1
theorem Tx.ne_Poly (T : Tx K mg) : neB K (aC K "Poly") (aM K "Poly" "__eq__") = true := (He.ba (He.ba (He.ba (He.ba (He.ba (He.ba (He.ba (He.ba (He.ba T.x).2).2).2).2).2).2).2).2).2
end
end Sq
end
section
set_option Elab.async false
set_option linter.all false
set_option maxRecDepth 100000
set_option maxHeartbeats 0
namespace Sq
open PySem PySem.Spec L2
open PyProof.Rows hiding St
def obsYG (g : Addr → Option Obj) : AlY := obsY (He.frG g (He.asD g 5))
def hookY : PySem.W.Hook where
  α := AlY
  obs := fun s => obsYG s.heap.get?
  val := fun _ => valY
  says := fun _ h => ∃ K : PySem.W.Frag, K.In h ∧ SaysY K
  of := fun _ _ e => ⟨_, He.frG_in, e⟩
  keeps := fun _ _ _ ⟨K, hK, c⟩ k => ⟨K, PySem.W.Frag.In.keeps hK k, c⟩
theorem obsYG_eq {g : Addr → Option Obj} {s : Shared} (h : ∀ a, g a = s.heap.get? a) : obsYG g = hookY.obs s := by
  have e : g = s.heap.get? := funext h
  rw [e] <;> rfl
abbrev RR : PySem.W.OpenRow := PySem.W.OpenLaw.row PySem.Challenge.rw_similarforms_k10_whole_squarefree_parts
def ob (s : PySem.W.SharedT) : AlY := obsYG (HandSHeadRun.getT s)
theorem ob_eq (s : PySem.W.SharedT) : ob s = hookY.obs s.abs := obsYG_eq (HandSHeadRun.getT_eq s)
def loose1 : List Str := ["gcd", "_wall", "Fault", "ZeroDivisor", "Malformed", "NoText", "PIECE", "written_integer", "is_integer", "Ratio", "PRIMES", "is_small_prime", "Residue", "DIGITS", "whole_number", "read_ratio", "Ground", "taken", "trimmed", "sum_row"]
def loose2 : List Str := ["product_row", "division", "Poly", "check_grounds", "common_divisor", "prime_root", "squarefree_part", "multiplicity", "_law_numbers", "_law_next", "_law_prime", "_law_ground", "_law_rest", "_law_poly", "_law_refuses"]
def loose : List Str := loose1 ++ loose2
theorem run (w : World) : HandSHeadRun.RunEqI RR (PySem.W.view RR.prog [0, 42]) hookY ob 6000 loose w := by
  unfold HandSHeadRun.RunEqI
  kernel_rfl
/-- law's: a list of at most 63 ints is handed in, True comes out -/
def spLaw (K : PySem.W.Frag) : Sp := fun vs H Q _ => ∃ (a : Addr) (ns : List Int), vs = [.ref a] ∧ SqL K H a (ns.map V.int) ∧ ns.length ≤ 63 ∧ ∀ H', Q (.bl true) H'
/-- the row, from the law's def -/
theorem holds_of (k : Nat) (hr : Room k callerA) (F : ∀ (w : World) (K : PySem.W.Frag) (mg : Str → Option Value) (base : Heap), Tx K mg → FnOk PySem.Challenge.rw_similarforms_k10_whole_squarefree_parts.prog w K mg base CX0 k (aG K "law") (dG K "law") ["_law_script"] (spLaw K)) :
    PySem.Challenge.rw_similarforms_k10_whole_squarefree_parts.Holds := by
  open PySem.W PySem.Calls in
  w_on; o_law
  refine HandSHeadRun.head_imp (r := RR) (q := PySem.W.view RR.prog [0, 42]) (H := hookY) (ob := ob) (M := 6000) (loose := loose) (d := HandSHeadRun.topDef RR.prog 42) (kwd := []) ob_eq
    run (by kernel_rfl) (by kernel_rfl) (by kernel_rfl) (by rfl) (by first | assumption | decide +kernel) (by decide +kernel) ⟨rfl, rfl, rfl, rfl, rfl, by decide +kernel⟩ ?hw ?hc
  case hw => w_witness2
  case hc =>
    refine L2.walk_ofE (l := PySem.Challenge.rw_similarforms_k10_whole_squarefree_parts) (n := 63) (k := k) (x := "_law_script") (CX := L2.CX0) rfl (by decide) (by kernel_rfl) hr ?F (fun _ _ _ _ z => z)
    intro w mg fa h Y G hmg0
    obtain ⟨K, KX, c⟩ := Y
    have hmg : mg ("law" : PySem.Str) = some (.ref fa) := by
      have e : (HandSHeadRun.topDef RR.prog 42).name = ("law" : PySem.Str) := by kernel_rfl
      rw [← e]
      exact hmg0
    have T : Tx K mg := tx_mk KX G c
    have e := hmg.symm.trans T.g_law
    cases e
    have b := FunD.bindsA (ps := ["_law_script"]) T.f_law fun _ _ _ _ _ _ us hl => match us, hl with | [_], _ => rfl
    exact ⟨K, dG K "law", spLaw K, KX, fun s v => b s [v] rfl, fun H a ns hl _ hS => ⟨a, ns, rfl, hS, hl, fun _ => rfl⟩, fun base _ _ => F w K mg base T⟩
end Sq
end
section
set_option autoImplicit false
/-! The mirror: what the program computes, upon plain data, written for the kernel's evaluation (Nat and Bool alone, recursors). None: a bound is passed or the program raises. -/
noncomputable section
namespace Sq
structure Ops (α : Type) where
  add : α → α → Option α
  sub : α → α → Option α
  mul : α → α → Option α
  inv : α → Option α
  num : Int → Option α
  isZ : α → Bool
/-- a rational: its sign (true: not above 0), its size, its divisor -/
structure Fq where
  s : Bool
  n : Nat
  d : Nat
def big : Nat := 1000000000000000000000000000000000000000000000000000000000000
/-- n / d (d from 1 on) in lowest terms, if it keeps the bounds -/
def mk (s : Bool) (n d : Nat) : Option Fq :=
  match Nat.beq d 1 with
  | true => (match Nat.ble n big with
     | true => some ⟨s, n, 1⟩
     | false => none)
  | false => (match Nat.ble (Nat.div n (Nat.gcd n d)) big with
    | true => (match Nat.ble (Nat.div d (Nat.gcd n d)) big with
      | true => some ⟨s, Nat.div n (Nat.gcd n d), Nat.div d (Nat.gcd n d)⟩
      | false => none)
    | false => none)
def notB (s : Bool) : Bool := match s with
  | true => false
  | false => true
def xorB (s t : Bool) : Bool := match s with
  | true => notB t
  | false => t
def addS (s : Bool) (x : Nat) (t : Bool) (y d : Nat) : Option Fq :=
  match s with
  | true => (match t with
    | true => mk true (Nat.add x y) d
    | false => (match Nat.ble x y with
      | true => mk false (Nat.sub y x) d
      | false => mk true (Nat.sub x y) d))
  | false => (match t with
    | false => mk false (Nat.add x y) d
    | true => (match Nat.ble y x with
      | true => mk false (Nat.sub x y) d
      | false => mk true (Nat.sub y x) d))
def qAdd (x y : Fq) : Option Fq := match x, y with
  | ⟨s, n, d⟩, ⟨t, m, e⟩ => addS s (Nat.mul n e) t (Nat.mul m d) (Nat.mul d e)
def qSub (x y : Fq) : Option Fq := match x, y with
  | ⟨s, n, d⟩, ⟨t, m, e⟩ => addS s (Nat.mul n e) (notB t) (Nat.mul m d) (Nat.mul d e)
def qMul (x y : Fq) : Option Fq := match x, y with
  | ⟨s, n, d⟩, ⟨t, m, e⟩ => mk (xorB s t) (Nat.mul n m) (Nat.mul d e)
def qIsZ (x : Fq) : Bool := match x with
  | ⟨_, n, _⟩ => Nat.beq n 0
def qInv (x : Fq) : Option Fq := match x with
  | ⟨s, n, d⟩ => (match Nat.beq n 0 with
    | true => none
    | false => mk s d n)
def qNum (i : Int) : Option Fq := match i with
  | .ofNat n => mk false n 1
  | .negSucc n => mk true (Nat.succ n) 1
def Q : Ops Fq := ⟨qAdd, qSub, qMul, qInv, qNum, qIsZ⟩
def powM (p n : Nat) : Nat → Nat := Nat.rec 1 (fun _ r => Nat.mod (Nat.mul r n) p)
def pNum (p : Nat) (i : Int) : Option Nat := match i with
  | .ofNat n => some (Nat.mod n p)
  | .negSucc n => some (Nat.sub (Nat.sub p 1) (Nat.mod n p))
def pOps (p : Nat) : Ops Nat := ⟨fun x y => some (Nat.mod (Nat.add x y) p), fun x y => some (Nat.mod (Nat.sub (Nat.add x p) y) p), fun x y => some (Nat.mod (Nat.mul x y) p),
  fun x => match Nat.beq x 0 with
    | true => none
    | false => some (powM p x (Nat.sub p 2)), pNum p, fun x => Nat.beq x 0⟩

section
variable {α : Type} (o : Ops α)
def bnd {β γ : Type} (x : Option β) (f : β → Option γ) : Option γ := match x with
  | none => none
  | some y => f y
def len {β : Type} : List β → Nat := List.rec 0 fun _ _ n => Nat.succ n
def trim : List α → List α := List.rec [] fun x _ r => match r with
  | [] => (match o.isZ x with
    | true => []
    | false => [x])
  | y :: ys => x :: y :: ys
def polyO (row : List α) : Option (List α) := match Nat.ble (len row) 40 with
  | true => some (trim o row)
  | false => none
def nth {β : Type} : List β → Nat → Option β := List.rec (fun _ => none) fun x _ r => Nat.rec (some x) fun n _ => r n
/-- f i .. f (i + n - 1), from the left -/
def tab {β : Type} (f : Nat → Option β) : Nat → Nat → Option (List β) := fun n => Nat.rec (fun _ => some []) (fun _ r i => bnd (f i) fun x => bnd (r (Nat.succ i)) fun l => some (x :: l)) n
def sumO (a b : List α) (k : Nat) : Nat → Nat → α → Option α := fun n => Nat.rec (fun _ t => some t) (fun _ r i t => bnd (nth a i) fun x => bnd (nth b (Nat.sub k i)) fun y => bnd (o.mul x y) fun m => bnd (o.add t m) fun t => r (Nat.succ i) t) n
def minN (a b : Nat) : Nat := match Nat.ble a b with
  | true => a
  | false => b
def convO (a b : List α) (k : Nat) : Option α := bnd (o.num 0) fun z => sumO o a b k (Nat.sub (minN (Nat.succ k) (len a)) (Nat.sub (Nat.succ k) (len b))) (Nat.sub (Nat.succ k) (len b)) z
def prodO (a b : List α) : Option (List α) := tab (convO o a b) (Nat.sub (Nat.add (len a) (len b)) 1) 0
def mulP (a b : List α) : Option (List α) := bnd (prodO o a b) (polyO o)
def lastO {β : Type} : List β → Option β := List.rec none fun x _ r => match r with
  | none => some x
  | some y => some y
def restO (b r : List α) (f : α) (k : Nat) : Option (List α) := tab (fun i => bnd (nth r (Nat.add k i)) fun x => bnd (nth b i) fun y => bnd (o.mul f y) fun m => o.sub x m) (Nat.sub (len b) 1) 0
def takeL {β : Type} : List β → Nat → List β := List.rec (fun _ => []) fun x _ r => Nat.rec [] fun n _ => x :: r n
def app {β : Type} (a b : List β) : List β := List.rec b (fun x _ r => x :: r) a
def divL (h : α) (b : List α) : Nat → List α → List α → Option (List α × List α) := Nat.rec (fun q r => some (q, r)) fun k rec q r =>
  bnd (lastO r) fun l => bnd (o.mul l h) fun f => bnd (restO o b r f k) fun t => rec (f :: q) (app (takeL r k) t)
def divO (a b : List α) : Option (List α × List α) := bnd (lastO b) fun l => bnd (o.inv l) fun h => divL o h b (Nat.sub (Nat.succ (len a)) (len b)) [] a
def fdivP (a b : List α) : Option (List α) := bnd (divO o a b) fun q => polyO o q.1
def modP (a b : List α) : Option (List α) := bnd (divO o a b) fun q => polyO o q.2
def scaleP (c : α) (f : List α) : Option (List α) := bnd (tab (fun i => bnd (nth f i) fun x => o.mul c x) (len f) 0) (polyO o)
def monicP (f : List α) : Option (List α) := match f with
  | [] => some []
  | x :: xs => bnd (lastO (x :: xs)) fun l => bnd (o.inv l) fun h => scaleP o h (x :: xs)
def derivP (f : List α) : Option (List α) := bnd (tab (fun i => bnd (o.num (Int.ofNat (Nat.succ i))) fun c => bnd (nth f (Nat.succ i)) fun x => o.mul c x) (Nat.sub (len f) 1) 0) (polyO o)
/-- Poly(ground, ints) -/
def intsP (l : List Int) : Option (List α) := bnd (tab (fun i => bnd (nth l i) o.num) (len l) 0) (polyO o)
def powL (f : List α) : Nat → List α → Option (List α) := Nat.rec (fun t => some t) fun _ r t => bnd (mulP o t f) r
def powP (f : List α) (k : Nat) : Option (List α) := bnd (intsP o [1]) (powL o f k)
def gcdP : Nat → List α → List α → Option (List α) := Nat.rec (fun _ _ => none) fun _ r f g => match g with
  | [] => monicP o f
  | y :: ys => bnd (modP o f (y :: ys)) fun m => r (y :: ys) m
def rootP (p : Nat) (f : List α) : Option (List α) := match Nat.beq p 0 with
  | true => none
  | false => bnd (tab (fun i => nth f (Nat.mul i p)) (Nat.div (Nat.sub (Nat.add (len f) p) 1) p) 0) (polyO o)
def stripP (own : List α) : Nat → List α → List α → Option (List α) := Nat.rec (fun _ _ => none) fun _ r rest shared => match Nat.ble (len shared) 1 with
  | true => some rest
  | false => bnd (fdivP o rest shared) fun rest => bnd (gcdP o 40 rest own) fun shared => r rest shared
def sqfP (p : Nat) : Nat → List α → Option (List α) := Nat.rec (fun _ => none) fun _ r f => match f with
  | [] => none
  | x :: xs => bnd (monicP o (x :: xs)) fun f => match Nat.beq (len f) 1 with
    | true => some f
    | false => bnd (derivP o f) fun s => match s with
      | [] => bnd (rootP o p f) fun t => r t
      | y :: ys => bnd (gcdP o 40 f (y :: ys)) fun rest => bnd (fdivP o f rest) fun own => bnd (gcdP o 40 rest own) fun shared => bnd (stripP o own 40 rest shared) fun rest =>
        match Nat.beq (len rest) 1 with
        | true => some own
        | false => bnd (rootP o p rest) fun t => bnd (r t) fun t => mulP o own t
def multL (g : List α) : Nat → List α → Nat → Option Nat := Nat.rec (fun _ _ => none) fun _ r f k => bnd (modP o f g) fun m => match m with
  | [] => bnd (fdivP o f g) fun f => r f (Nat.succ k)
  | _ :: _ => some k
def multP (f g : List α) : Option Nat := match f with
  | [] => none
  | x :: xs => match Nat.ble (len g) 1 with
    | true => none
    | false => multL o g 40 (x :: xs) 0
end
/-! plain words for the recursors -/
section
variable {α β γ : Type} {o : Ops α}
theorem bnd_some {x : Option β} {f : β → Option γ} {z : γ} (h : bnd x f = some z) : ∃ y, x = some y ∧ f y = some z := by
  cases x with
  | none => cases h
  | some y => exact ⟨y, rfl, h⟩
theorem len_eq : ∀ l : List β, len l = l.length
  | [] => rfl
  | _ :: r => congrArg Nat.succ (len_eq r)
theorem nth_eq : ∀ (l : List β) (i : Nat), nth l i = l[i]?
  | [], _ => rfl
  | x :: r, 0 => rfl
  | x :: r, i + 1 => nth_eq r i
theorem takeL_eq : ∀ (l : List β) (n : Nat), takeL l n = l.take n
  | [], n => by cases n <;> rfl
  | x :: r, 0 => rfl
  | x :: r, n + 1 => congrArg (x :: ·) (takeL_eq r n)
theorem app_eq : ∀ (a b : List β), app a b = a ++ b
  | [], b => rfl
  | x :: r, b => congrArg (x :: ·) (app_eq r b)
theorem lastO_eq : ∀ l : List β, lastO l = l[l.length - 1]?
  | [] => rfl
  | [x] => rfl
  | x :: y :: r => by
    have ih := lastO_eq (y :: r)
    have h1 : lastO (x :: y :: r) = match lastO (y :: r) with
      | none => some x
      | some z => some z := rfl
    rw [h1, ih]
    have : (y :: r).length - 1 < (y :: r).length := by simp
    rw [List.getElem?_eq_getElem this]
    simp
theorem tab_some {f : Nat → Option β} : ∀ {n i : Nat} {l : List β}, tab f n i = some l → l.length = n ∧ ∀ j x, l[j]? = some x → f (i + j) = some x
  | 0, i, l, h => by
    obtain rfl : [] = l := Option.some.inj h
    exact ⟨rfl, fun j x e => by simp at e⟩
  | n + 1, i, l, h => by
    obtain ⟨x, h1, h2⟩ := bnd_some (show bnd (f i) (fun x => bnd (tab f n (Nat.succ i)) fun l => some (x :: l)) = some l from h)
    obtain ⟨r, h3, h4⟩ := bnd_some h2
    obtain rfl : x :: r = l := Option.some.inj h4
    obtain ⟨e1, e2⟩ := tab_some h3
    refine ⟨by rw [List.length_cons, e1], fun j y e => ?_⟩
    cases j with
    | zero =>
      simp at e
      subst e
      exact h1
    | succ j =>
      have := e2 j y (by simpa using e)
      rw [show i + (j + 1) = Nat.succ i + j by omega]
      exact this
theorem tab_step {f : Nat → Option β} {n i : Nat} {l : List β} (h : tab f (n + 1) i = some l) : ∃ x r, l = x :: r ∧ f i = some x ∧ tab f n (i + 1) = some r := by
  obtain ⟨x, h1, h2⟩ := bnd_some (show bnd (f i) (fun x => bnd (tab f n (Nat.succ i)) fun l => some (x :: l)) = some l from h)
  obtain ⟨r, h3, h4⟩ := bnd_some h2
  exact ⟨x, r, (Option.some.inj h4).symm, h1, h3⟩
theorem trim_cons (x : α) (r : List α) : trim o (x :: r) = match trim o r with
  | [] => (match o.isZ x with
    | true => []
    | false => [x])
  | y :: ys => x :: y :: ys := rfl
theorem trim_snoc_z : ∀ (l : List α) {x : α}, o.isZ x = true → trim o (l ++ [x]) = trim o l
  | [], x, h => by
    show trim o [x] = []
    rw [trim_cons]
    show (match o.isZ x with
      | true => []
      | false => [x]) = []
    rw [h]
  | y :: r, x, h => by
    rw [List.cons_append, trim_cons, trim_cons, trim_snoc_z r h]
theorem trim_snoc_n : ∀ (l : List α) {x : α}, o.isZ x = false → trim o (l ++ [x]) = l ++ [x]
  | [], x, h => by
    show trim o [x] = [x]
    rw [trim_cons]
    show (match o.isZ x with
      | true => []
      | false => [x]) = [x]
    rw [h]
  | y :: r, x, h => by
    rw [List.cons_append, trim_cons, trim_snoc_n r h]
    cases r <;> rfl
theorem trim_len : ∀ l : List α, (trim o l).length ≤ l.length
  | [] => Nat.le_refl _
  | x :: r => by
    have ih := trim_len r
    rw [trim_cons]
    split
    · split
      · exact Nat.zero_le _
      · simp
    · rename_i y ys e
      rw [e] at ih
      simp at ih ⊢
      omega
theorem polyO_some {l z : List α} (h : polyO o l = some z) : z = trim o l ∧ l.length ≤ 40 := by
  unfold polyO at h
  split at h
  · rename_i e
    rw [len_eq] at e
    exact ⟨(Option.some.inj h).symm, Nat.le_of_ble_eq_true e⟩
  · cases h
theorem minN_eq (a b : Nat) : minN a b = min a b := by
  unfold minN
  split
  · rename_i e
    rw [Nat.min_eq_left (Nat.le_of_ble_eq_true e)]
  · rename_i e
    have : ¬ a ≤ b := fun h => by rw [Nat.ble_eq_true_of_le h] at e; cases e
    rw [Nat.min_eq_right (by omega)]
end
end Sq
end
end
section
set_option autoImplicit false
set_option maxRecDepth 100000
set_option maxHeartbeats 4000000
/-! The plain law: what is built and asked, checked by the kernel. -/
noncomputable section
namespace Sq
section
variable {α : Type} (o : Ops α)
/-- the list of numbers of a row -/
def numsO (row : List Int) : Option (List α) := tab (fun i => bnd (nth row i) o.num) (len row) 0
def rowP (row : List Int) : Option (List α) := bnd (numsO o row) (polyO o)
/-- the i-th row that may be drawn -/
def quadN (p i : Nat) : Bool := match p with
  | 0 => Nat.beq i 5
  | _ => match Nat.beq p 3 with
    | true => Nat.beq i 3
    | false => false
def rowN (p i : Nat) : List Int := match quadN p i with
  | true => [1, 0, 1]
  | false => match p with
    | 0 => [Int.neg (Int.ofNat i), 1]
    | _ => [Int.ofNat i, 1]
def degN (p i : Nat) : Nat := match quadN p i with
  | true => 2
  | false => 1
def manyN (p : Nat) : Nat := match p with
  | 0 => 6
  | 2 => 2
  | 3 => 4
  | _ => 5
def facP (p i : Nat) : Option (List α) := rowP o (rowN p i)
def stepW (p : Nat) (w : Option (List α)) (i k : Nat) : Option (List α) := bnd w fun w => bnd (facP o p i) fun f => bnd (powP o f k) fun g => mulP o w g
def stepO (p : Nat) (w : Option (List α)) (i : Nat) : Option (List α) := bnd w fun w => bnd (facP o p i) fun f => mulP o w f
def startW (c : Nat) : Option (List α) := intsP o [Int.ofNat c]
def allN (f : Nat → Bool) : Nat → Bool := Nat.rec true fun i r => match f i with
  | true => r
  | false => false
def and2 (a b : Bool) : Bool := match a with
  | true => b
  | false => false
variable (eqs eqb : α → α → Bool)
def eqL (e : α → α → Bool) : List α → List α → Bool := List.rec (fun l => match l with
  | [] => true
  | _ :: _ => false) fun x _ r l => match l with
  | [] => false
  | y :: ys => and2 (e x y) (r ys)
def eqOp (e : α → α → Bool) (a b : Option (List α)) : Bool := match a with
  | none => false
  | some x => match b with
    | none => false
    | some y => eqL e x y
/-- the exponent of the i-th row -/
def expN (i1 k1 i2 k2 i3 k3 i : Nat) : Nat := match Nat.beq i i1 with
  | true => k1
  | false => match Nat.beq i i2 with
    | true => k2
    | false => match Nat.beq i i3 with
      | true => k3
      | false => 0
def mulOk (p : Nat) (f : List α) (ex : Nat → Nat) (i : Nat) : Bool := match facP o p i with
  | none => false
  | some g => match multP o f g with
    | none => false
    | some k => Nat.beq k (ex i)
def heavy (p : Nat) (w own : Option (List α)) (ex : Nat → Nat) : Bool := match w with
  | none => false
  | some f => and2 (eqOp eqb (sqfP o p 8 f) own) (allN (mulOk o p f ex) (manyN p))
def chk0 (p c : Nat) : Bool := heavy o eqb p (startW o c) (startW o 1) (fun _ => 0)
def chk1 (p c i a : Nat) : Bool := heavy o eqb p (stepW o p (startW o c) i a) (stepO o p (startW o 1) i) (expN i a 9 0 9 0)
def chk2 (p c i a j b : Nat) : Bool :=
  and2 (eqOp eqs (stepW o p (stepW o p (startW o c) i a) j b) (stepW o p (stepW o p (startW o c) j b) i a))
    (heavy o eqb p (stepW o p (stepW o p (startW o c) i a) j b) (stepO o p (stepO o p (startW o 1) i) j) (expN i a j b 9 0))
def chk3 (p c i a j b k d : Nat) : Bool :=
  and2 (eqOp eqs (stepW o p (stepW o p (stepW o p (startW o c) i a) j b) k d) (stepW o p (stepW o p (stepW o p (startW o c) i a) k d) j b))
    (and2 (eqOp eqs (stepW o p (stepW o p (stepW o p (startW o c) i a) j b) k d) (stepW o p (stepW o p (stepW o p (startW o c) j b) k d) i a))
      (heavy o eqb p (stepW o p (stepW o p (stepW o p (startW o c) i a) j b) k d) (stepO o p (stepO o p (stepO o p (startW o 1) i) j) k) (expN i a j b k d)))
/-- the products of the rows themselves -/
def own2 (p i j : Nat) : Bool := eqOp eqs (stepO o p (stepO o p (startW o 1) i) j) (stepO o p (stepO o p (startW o 1) j) i)
def own3 (p i j k : Nat) : Bool := and2 (eqOp eqs (stepO o p (stepO o p (stepO o p (startW o 1) i) j) k) (stepO o p (stepO o p (stepO o p (startW o 1) i) k) j)) (eqOp eqs (stepO o p (stepO o p (stepO o p (startW o 1) i) j) k) (stepO o p (stepO o p (stepO o p (startW o 1) j) k) i))
/-- only where d keeps to 9 -/
def upTo (d : Nat) (b : Bool) : Bool := match Nat.ble d 9 with
  | true => b
  | false => true
def all1 (p c : Nat) : Bool := allN (fun i => allN (fun a => upTo (Nat.mul (Nat.succ a) (degN p i)) (chk1 o eqb p c i (Nat.succ a))) 4) (manyN p)
def all2 (p c : Nat) : Bool := allN (fun j => allN (fun i => allN (fun a => allN (fun b => upTo (Nat.add (Nat.mul (Nat.succ a) (degN p i)) (Nat.mul (Nat.succ b) (degN p j))) (chk2 o eqs eqb p c i (Nat.succ a) j (Nat.succ b))) 4) 4) j) (manyN p)
def all3k (p c k : Nat) : Bool := allN (fun j => allN (fun i => allN (fun a => allN (fun b => allN (fun d => upTo (Nat.add (Nat.add (Nat.mul (Nat.succ a) (degN p i)) (Nat.mul (Nat.succ b) (degN p j))) (Nat.mul (Nat.succ d) (degN p k))) (chk3 o eqs eqb p c i (Nat.succ a) j (Nat.succ b) k (Nat.succ d))) 4) 4) 4) j) k
def allOwn (p : Nat) : Bool := allN (fun k => allN (fun j => and2 (own2 o eqs p j k) (allN (fun i => own3 o eqs p i j k) j)) k) (manyN p)
end
def qEqs (x y : Fq) : Bool := match x, y with
  | ⟨s, n, d⟩, ⟨t, m, e⟩ => and2 (Nat.beq n m) (and2 (Nat.beq d e) (match s with
    | true => t
    | false => notB t))
def qEqb (x y : Fq) : Bool := match x, y with
  | ⟨s, n, d⟩, ⟨t, m, e⟩ => and2 (Nat.beq n m) (and2 (Nat.beq d e) (match Nat.beq n 0 with
    | true => true
    | false => match s with
      | true => t
      | false => notB t))
end Sq
end
end
section
set_option Elab.async false
set_option linter.all false
set_option maxRecDepth 100000
set_option maxHeartbeats 4000000
namespace Sq
open PySem PySem.Spec L2
open PyProof.Rows hiding St
open Evl (Ex)
/-! ### __init__: an unfinished instance -/
/-- the instance at p, with the fields fs so far; H0: the heap ahead of it -/
def rNew (p C dx : Addr) (H0 : Hp) (fs : List (Str × V)) : Rl := ⟨fun v H => v = .ref p ∧ Ex H0 H ∧ H p = some (.ins C dx fs), fun v H H' e h => ⟨h.1, h.2.1.trans e, e _ _ h.2.2⟩⟩
def JD (X : Cx) (sts : List Stmt) (τ : Ty) (D : Ends) : Prop := ∀ σ H, Typ σ τ H → SSs X sts D σ H
/-- the values themselves, or nothing is known: what no store changes -/
def Lit (τ : Ty) : Prop := ∀ (i : Nat) (R : Rl), τ[i]? = some (some R) → ∃ w, R = rV w
section
variable {X : Cx} {τ τ1 : Ty} {R : Rl} {c e : Expr} {pos pos' : Pos} {x : Str} {rest A : List Stmt} {D : Ends} {p C dx : Addr} {H0 : Hp} {fs : List (Str × V)} {w : V} {f : Str}
theorem jd_nil (h : ∀ σ H, Typ σ τ H → D.nx σ H) : JD X [] τ D := fun σ H t => pss_sss pss_nil (h σ H t)
theorem jd_skip (hc : JT X c τ false) (hr : JD X rest τ D) : JD X (.If c A [] pos :: rest) τ D := fun σ H t =>
  pss_sss (pss_cons (ps_if st_pt sss_pss pss_nil) sss_pss) ((hc σ H t).mono fun k H1 ⟨ek, e1⟩ => by
    subst ek
    rw [if_neg Bool.false_ne_true]
    exact hr σ H1 (t.mo e1))
theorem jd_ifT {B : List Stmt} (hc : JT X c τ true) (ha : JSs X A τ (fun τ' => τ' = τ1) rNo) (hr : JD X rest τ1 D) : JD X (.If c A B pos :: rest) τ D := fun σ H t =>
  pss_sss (pss_cons (ps_if st_pt sss_pss sss_pss) sss_pss) ((hc σ H t).mono fun k H1 ⟨ek, e1⟩ => by
    subst ek
    rw [if_pos rfl]
    exact (ha σ H1 (t.mo e1)).mono (fun σ' H' ⟨e2, τ', q, r⟩ => by
      subst q
      exact hr σ' H' r) (fun v H' ⟨e2, q⟩ => False.elim q) (fun _ _ q => False.elim q) (fun _ _ q => False.elim q))
theorem jd_set (i : Nat) {pos' : Pos} (nd : X.N.Nodup) (he : JE X e τ R) (hr : JD X rest (τ.set i (some R)) D) (hi : X.N[i]? = some x := by rfl) (hx : Loc X.env.scope x := by first | exact .inl rfl | exact .inr rfl)
    (hs : swapsWith e (some (.Name x pos')) pos.line X.env = pure false := by rfl) (hf : X.fn x = true ∨ X.env.scope.names.lookup x = some .local := by first | exact .inl rfl | exact .inr rfl) : JD X (.Assign [.Name x pos'] e pos :: rest) τ D := fun σ H t =>
  pss_sss (pss_cons (ps_set nd hi hx se_pe hs hf) sss_pss) ((he σ H t).mono fun v H1 ⟨e1, r⟩ => hr _ _ ((t.mo e1).set i r))
/-- self.f = a plain value -/
theorem jd_fld {o : Expr} (c : Cls X.K C) (n : NoAttr X.K C f) (he : JE X e (some (rNew p C dx H0 fs) :: τ) (rV w)) (ho : JE X o (some (rNew p C dx H0 fs) :: τ) (rNew p C dx H0 fs)) (hp : H0 p = none) (hl : Lit τ) (hn : fs.length < 1000)
    (hr : JD X rest (some (rNew p C dx H0 (putF f w fs)) :: τ) D) (hs : swapsWith e (some (.Attribute o f pos')) pos.line X.env = pure false := by rfl) : JD X (.Assign [.Attribute o f pos'] e pos :: rest) (some (rNew p C dx H0 fs) :: τ) D := fun σ H t =>
  pss_sss (pss_cons (ps_fld se_pe se_pe hs) sss_pss) ((he σ H t).mono fun v H1 ⟨e1, r⟩ => (ho σ H1 (t.mo e1)).mono fun u H2 ⟨e2, r1, r2, r3⟩ => by
    obtain rfl : v = w := r
    refine ⟨p, C, dx, fs, r1, r3, c, n, hn, hr σ _ ⟨(t.1 : σ.length = _), fun i S q => ?_⟩⟩
    cases i with
    | zero =>
      cases q
      obtain ⟨v0, h1, h2, _⟩ := t.2 0 _ rfl
      exact ⟨v0, h1, h2, Ex.mut r2 hp, upd_same⟩
    | succ i =>
      have q' : τ[i]? = some (some S) := q
      obtain ⟨w', rfl⟩ := hl i S q'
      obtain ⟨v0, h1, h2⟩ := t.2 (i + 1) (rV w') q
      exact ⟨v0, h1, h2⟩)
end
section
variable {P : Program} {w : World} {K : PySem.W.Frag} {mg : Str → Option Value} {base : Heap} {x qual : Str} {params : Arguments} {body : List Stmt} {scope : Scope} {dvs : List V} {kws : List (Str × V)} {f C : Addr} {fd : FuncData} {N ps : List Str} {k : Nat}
theorem okI {S : Sg} (F : FunD K x qual params body scope dvs kws f fd) (Sc : FnScope N ps scope) (len : ∀ Rs R, S Rs R → Rs.length + 1 = ps.length)
    (hb : ∀ (cdv : Value) (A : Around) (outer : List Env) (s : Shared) (H : Hp) (E : XK) (Rs : List Rl) (Ro : Rl) (p dx : Addr) (H0 : Hp), Room k (A.deeper (envOfC qual scope s.heap.objs.size f cdv)) → S Rs Ro → H0 p = none →
      JD (cx0 P w K mg base N qual scope f cdv A outer s H E) body (ty0 N (rNew p C dx H0 [] :: Rs)) { nx := fun _ H' => Ex H0 H' ∧ Ro.p (.ref p) H', rt := fun _ _ => False }) : FnOk P w K mg base CX0 (k + 1) f fd ps (spI C S) := by
  refine F.ok Sc (fun vs H Q E h => ?_) (fun cdv A outer s H vs Q E hr h => ?_)
  · obtain ⟨p, dx, args, Rs, Ro, H0, rfl, _, _, _, ha, hS, _⟩ := h
    rw [List.length_cons, ha.len]
    exact len Rs Ro hS
  · obtain ⟨p, dx, args, Rs, Ro, H0, rfl, h1, h2, h3, ha, hS, q⟩ := h
    refine ⟨_, PSs.nox sss_pss, ?_⟩
    exact (hb cdv A outer s H E Rs Ro p dx H0 hr hS h3 (L2.start N (.ref p :: args)) H (typ_start (Rs := rNew p C dx H0 [] :: Rs) ⟨⟨rfl, h2, h1⟩, ha.mo h2⟩)).mono (fun σ' H' ⟨e1, r⟩ => q H' e1 r) (fun v H' z => z.elim) (fun _ _ q => q) (fun _ _ q => q)
abbrev OkG (P : Program) (w : World) (K : PySem.W.Frag) (mg : Str → Option Value) (base : Heap) (k : Nat) (x : Str) (ps : List Str) (S : Sg) : Prop := FnOk P w K mg base CX0 k (aG K x) (dG K x) ps (spS S)
abbrev OkM (P : Program) (w : World) (K : PySem.W.Frag) (mg : Str → Option Value) (base : Heap) (k : Nat) (c x : Str) (ps : List Str) (S : Sg) : Prop := FnOk P w K mg base CX0 k (aM K c x) (dM K c x) ps (spS S)
abbrev OkI (P : Program) (w : World) (K : PySem.W.Frag) (mg : Str → Option Value) (base : Heap) (k : Nat) (c : Str) (ps : List Str) (S : Sg) : Prop := FnOk P w K mg base CX0 k (aM K c "__init__") (dM K c "__init__") ps (spI (aC K c) S)
/-! ### is_integer, is_small_prime -/
def sIsInt (K : PySem.W.Frag) : Sg := fun Rs R => ∃ Ra t b, Rs = [Ra] ∧ R = rV (.bl b) ∧ HasT K Ra t ∧ PySem.W.kitOne K t (.type "int") = some b ∧ (b = true → PySem.W.kitOne K t (.type "bool") = some false)
theorem sc_is_integer : FnScope ["value"] ["value"] (defScope (topS 10)) := ⟨rfl, rfl, rfl, by decide +kernel, rfl, by decide +kernel, by decide +kernel⟩
theorem ok_is_integer (T : Tx K mg) : OkG P w K mg base 1 "is_integer" ["value"] (sIsInt K) := by
  refine okS T.f_is_integer sc_is_integer (fun Rs R h => by obtain ⟨_, _, _, rfl, _⟩ := h; rfl) fun cdv A outer s H E Rs R hr h => ?_
  obtain ⟨Ra, t, b, rfl, rfl, ht, hk, hb⟩ := h
  refine jss_ret (JE.sub (je_and (l := true) (je_isi (by rfl) T.n_isinstance (je_var 0) ht (je_bltn (by rfl) T.n_int (by decide +kernel) (v := .ty "int") rfl) (.ty "int") hk)
    fun e => je_one (je_not (je_isi (kb := false) (by rfl) T.n_isinstance (je_var 0) ht (je_bltn (by rfl) T.n_bool (by decide +kernel) (v := .ty "bool") rfl) (.ty "bool") (hb e)))) fun v H q => ?_)
  rw [Bool.and_true] at q
  exact q
theorem isInt_int {i : Int} : sIsInt K [rV (.int i)] (rV (.bl true)) := ⟨_, .type "int", true, rfl, rfl, hasT_int, kit_ty (by decide +kernel), fun _ => kit_ty (by decide +kernel)⟩
def primeL : List V := [2, 3, 5, 7, 11, 13, 17, 19, 23, 29, 31].map V.int
def sPrime : Sg := fun Rs R => ∃ i : Int, Rs = [rV (.int i)] ∧ R = rV (.bl (inV (.int i) primeL))
theorem sc_is_small_prime : FnScope ["value"] ["value"] (defScope (topS 14)) := ⟨rfl, rfl, rfl, by decide +kernel, rfl, by decide +kernel, by decide +kernel⟩
theorem ok_is_small_prime (T : Tx K mg) : OkG P w K mg base 2 "is_small_prime" ["value"] sPrime := by
  refine okS T.f_is_small_prime sc_is_small_prime (fun Rs R h => by obtain ⟨_, rfl, _⟩ := h; rfl) fun cdv A outer s H E Rs R hr h => ?_
  obtain ⟨i, rfl, rfl⟩ := h
  refine jss_ret (JE.sub (je_and (l := inV (.int i) primeL) (je_call (ok_is_integer T) hr (by rfl) T.g_is_integer T.f_is_integer.kp T.b_is_integer pass0 (ja_cons (je_var 0) ja_nil) isInt_int)
    fun e => je_one (je_cmpR op_in_seq (je_var 0) (je_glob (by rfl) T.g_PRIMES (v := .ref _) rfl) (by rfl) fun x y H Q r1 r2 q => ?_)) fun v H q => q)
  obtain rfl : x = .int i := r1
  obtain rfl : y = .ref _ := r2
  exact ⟨_, primeL, rfl, .inr (T.primes H), rfl, by decide, q _ H (Evl.Ex.refl H) rfl⟩
end
end Sq
end
section
set_option Elab.async false
set_option linter.all false
set_option maxRecDepth 100000
set_option maxHeartbeats 4000000
namespace Sq
open PySem PySem.Spec L2
open PyProof.Rows hiding St
open Evl (Ex)
/-! ### the plain law of the rationals' numbers -/
def toI (s : Bool) (n : Nat) : Int := match s with
  | true => -(n : Int)
  | false => n
def qOk (z : Fq) : Prop := z.n ≤ big ∧ 1 ≤ z.d ∧ z.d ≤ big
theorem toI_abs (s : Bool) (n : Nat) : (toI s n).natAbs = n := by cases s <;> simp [toI]
theorem toI_not (s : Bool) (n : Nat) : toI (notB s) n = -toI s n := by cases s <;> simp [toI, notB]
theorem toI_mul (s t : Bool) (n m : Nat) : toI s n * toI t m = toI (xorB s t) (n * m) := by
  cases s <;> cases t <;> simp [toI, xorB, notB, Int.neg_mul, Int.mul_neg]
theorem toI_mulN (s : Bool) (n d : Nat) : toI s n * (d : Int) = toI s (n * d) := by cases s <;> simp [toI, Int.neg_mul]
theorem toI_div (s : Bool) {n g : Nat} (h : g ∣ n) : toI s n / (g : Int) = toI s (n / g) := by
  cases s with
  | false => simp [toI]
  | true =>
    show -(n : Int) / (g : Int) = -((n / g : Nat) : Int)
    rw [Int.neg_ediv_of_dvd (by exact_mod_cast h)]
    simp
theorem mk_ok {s : Bool} {n d : Nat} {z : Fq} (h : mk s n d = some z) (hd : 1 ≤ d) : z.s = s ∧ z.n = n / Nat.gcd n d ∧ z.d = d / Nat.gcd n d ∧ qOk z := by
  have hg : 0 < Nat.gcd n d := Nat.gcd_pos_of_pos_right n (by omega)
  have h1 : 1 ≤ d / Nat.gcd n d := (Nat.le_div_iff_mul_le hg).mpr (by rw [Nat.one_mul]; exact Nat.le_of_dvd (by omega) (Nat.gcd_dvd_right n d))
  unfold mk at h
  split at h
  · rename_i e
    have ed : d = 1 := Nat.eq_of_beq_eq_true e
    subst ed
    split at h
    · rename_i e2
      obtain rfl := Option.some.inj h
      refine ⟨rfl, by simp, by simp, Nat.le_of_ble_eq_true e2, Nat.le_refl 1, by show 1 ≤ big; decide⟩
    · cases h
  · split at h
    · rename_i e1
      split at h
      · rename_i e2
        obtain rfl := Option.some.inj h
        exact ⟨rfl, rfl, rfl, Nat.le_of_ble_eq_true e1, h1, Nat.le_of_ble_eq_true e2⟩
      · cases h
    · cases h
/-- what Ratio(i, j) must be given -/
def RatIn (i j : Int) (z : Fq) : Prop := ∃ s N D, mk s N D = some z ∧ 1 ≤ D ∧ N < 2 ^ 1000 ∧ D < 2 ^ 1000 ∧ ((i = toI s N ∧ j = (D : Int)) ∨ (i = -toI s N ∧ j = -(D : Int)))
theorem big_lt : big < 2 ^ 200 := by decide
theorem addS_ok {s t : Bool} {x y d : Nat} {z : Fq} (h : addS s x t y d = some z) : ∃ u N, mk u N d = some z ∧ toI s x + toI t y = toI u N ∧ N ≤ x + y := by
  unfold addS at h
  cases s <;> cases t <;> simp only at h
  · exact ⟨_, _, h, by simp [toI], Nat.le_refl _⟩
  · split at h
    · rename_i e
      have := Nat.le_of_ble_eq_true e
      refine ⟨_, _, h, ?_, by simp only [Nat.sub_eq]; omega⟩
      simp only [toI, Nat.sub_eq]
      omega
    · rename_i e
      have : ¬ y ≤ x := fun q => by rw [Nat.ble_eq_true_of_le q] at e; cases e
      refine ⟨_, _, h, ?_, by simp only [Nat.sub_eq]; omega⟩
      simp only [toI, Nat.sub_eq]
      omega
  · split at h
    · rename_i e
      have := Nat.le_of_ble_eq_true e
      refine ⟨_, _, h, ?_, by simp only [Nat.sub_eq]; omega⟩
      simp only [toI, Nat.sub_eq]
      omega
    · rename_i e
      have : ¬ x ≤ y := fun q => by rw [Nat.ble_eq_true_of_le q] at e; cases e
      refine ⟨_, _, h, ?_, by simp only [Nat.sub_eq]; omega⟩
      simp only [toI, Nat.sub_eq]
      omega
  · refine ⟨_, _, h, ?_, Nat.le_refl _⟩
    simp only [toI, Nat.add_eq]
    omega
theorem mul_lt_pow {a b : Nat} (ha : a ≤ big) (hb : b ≤ big) : a * b < 2 ^ 400 := by
  have h1 := big_lt
  have : a * b ≤ big * big := Nat.mul_le_mul ha hb
  have h2 : big * big < 2 ^ 200 * 2 ^ 200 := Nat.mul_lt_mul'' h1 h1
  rw [show (2 : Nat) ^ 400 = 2 ^ 200 * 2 ^ 200 by rw [← Nat.pow_add]]
  omega
theorem pow_le_1000 {a k : Nat} (h : a < 2 ^ k) (hk : k ≤ 1000) : a < 2 ^ 1000 := Nat.lt_of_lt_of_le h (Nat.pow_le_pow_right (by decide) hk)
theorem ratIn_mul {x y z : Fq} (hx : qOk x) (hy : qOk y) (h : qMul x y = some z) : RatIn (toI x.s x.n * toI y.s y.n) ((x.d : Int) * (y.d : Int)) z :=
  ⟨xorB x.s y.s, x.n * y.n, x.d * y.d, h, Nat.mul_pos hx.2.1 hy.2.1, pow_le_1000 (mul_lt_pow hx.1 hy.1) (by decide), pow_le_1000 (mul_lt_pow hx.2.2 hy.2.2) (by decide), .inl ⟨toI_mul _ _ _ _, by simp⟩⟩
theorem add_bound {x y : Fq} {N : Nat} (hx : qOk x) (hy : qOk y) (h : N ≤ x.n * y.d + y.n * x.d) : N < 2 ^ 1000 := by
  have h1 := mul_lt_pow hx.1 hy.2.2
  have h2 := mul_lt_pow hy.1 hx.2.2
  refine pow_le_1000 (k := 401) ?_ (by decide)
  rw [show (2 : Nat) ^ 401 = 2 ^ 400 * 2 by rw [Nat.pow_succ]]
  omega
theorem ratIn_add {x y z : Fq} (hx : qOk x) (hy : qOk y) (h : qAdd x y = some z) : RatIn (toI x.s x.n * (y.d : Int) + toI y.s y.n * (x.d : Int)) ((x.d : Int) * (y.d : Int)) z := by
  obtain ⟨u, N, h1, h2, h3⟩ := addS_ok (show addS x.s (x.n * y.d) y.s (y.n * x.d) (x.d * y.d) = some z from h)
  exact ⟨u, N, x.d * y.d, h1, Nat.mul_pos hx.2.1 hy.2.1, add_bound hx hy h3, pow_le_1000 (mul_lt_pow hx.2.2 hy.2.2) (by decide), .inl ⟨by rw [toI_mulN, toI_mulN]; exact h2, by simp⟩⟩
theorem ratIn_sub {x y z : Fq} (hx : qOk x) (hy : qOk y) (h : qSub x y = some z) : RatIn (toI x.s x.n * (y.d : Int) - toI y.s y.n * (x.d : Int)) ((x.d : Int) * (y.d : Int)) z := by
  obtain ⟨u, N, h1, h2, h3⟩ := addS_ok (show addS x.s (x.n * y.d) (notB y.s) (y.n * x.d) (x.d * y.d) = some z from h)
  exact ⟨u, N, x.d * y.d, h1, Nat.mul_pos hx.2.1 hy.2.1, add_bound hx hy h3, pow_le_1000 (mul_lt_pow hx.2.2 hy.2.2) (by decide), .inl ⟨by rw [toI_mulN, toI_mulN, Int.sub_eq_add_neg, ← toI_not]; exact h2, by simp⟩⟩
theorem ratIn_inv {x z : Fq} (hx : qOk x) (h : qInv x = some z) : RatIn (x.d : Int) (toI x.s x.n) z := by
  unfold qInv at h
  obtain ⟨s, n, d⟩ := x
  simp only at h
  split at h
  · cases h
  · rename_i e
    have hn : n ≠ 0 := fun q => by subst q; cases e
    have hb := big_lt
    refine ⟨s, d, n, h, by omega, pow_le_1000 (k := 200) (by have := hx.2.2; simp only at this; omega) (by decide), pow_le_1000 (k := 200) (by have := hx.1; simp only at this; omega) (by decide), ?_⟩
    cases s
    · exact .inl ⟨rfl, rfl⟩
    · exact .inr ⟨by simp [toI], by simp [toI]⟩
/-- a small integer as a number -/
theorem ratIn_num {i : Int} {z : Fq} (hi : i.natAbs < 2 ^ 1000) (h : qNum i = some z) : RatIn i 1 z := by
  unfold qNum at h
  cases i with
  | ofNat n => exact ⟨false, n, 1, h, Nat.le_refl 1, hi, Nat.one_lt_two_pow (by decide), .inl ⟨rfl, rfl⟩⟩
  | negSucc n => exact ⟨true, n + 1, 1, h, Nat.le_refl 1, hi, Nat.one_lt_two_pow (by decide), .inl ⟨Int.negSucc_eq n, rfl⟩⟩
theorem qnum_abs {i : Int} {z : Fq} (h : qNum i = some z) : i.natAbs ≤ big := by
  unfold qNum at h
  have key : ∀ {s : Bool} {n : Nat}, mk s n 1 = some z → n ≤ big := fun {s n} h => by
    obtain ⟨_, h2, _, h4⟩ := mk_ok h (Nat.le_refl 1)
    have := h4.1
    rw [h2] at this
    simpa using this
  cases i with
  | ofNat n => exact key h
  | negSucc n => exact key h
end Sq
end
section
set_option Elab.async false
set_option linter.all false
set_option maxRecDepth 100000
set_option maxHeartbeats 4000000
namespace Sq
open PySem PySem.Spec L2
open PyProof.Rows hiding St
open Evl (Ex)
/-! ### Ratio -/
def qFl (z : Fq) : Fl := [("n", rV (.int (toI z.s z.n))), ("d", rV (.int (z.d : Int)))]
def rQ (K : PySem.W.Frag) (z : Fq) : Rl := rAnd (qOk z) (rIns (aC K "Ratio") (qFl z))
theorem lit_nil : Lit [] := fun i R e => by simp at e
theorem lit_v {τ : Ty} {w : V} (h : Lit τ) : Lit (some (rV w) :: τ) := fun i R e => by
  cases i with
  | zero =>
    cases e
    exact ⟨w, rfl⟩
  | succ i => exact h i R e
theorem lit_n {τ : Ty} (h : Lit τ) : Lit (none :: τ) := fun i R e => by
  cases i with
  | zero => cases e
  | succ i => exact h i R e
theorem putF2 {f g : Str} (h : ¬ f = g) (v w : V) : putF g w (putF f v []) = [(f, v), (g, w)] := by
  show (if f = g then _ else (f, v) :: putF g w []) = _
  rw [if_neg h]
  rfl
theorem nd_ne : ¬ (("n" : Str) = "d") := by decide +kernel
theorem pn_ne : ¬ (("p" : Str) = "n") := by decide +kernel
section
variable {X : Cx} {τ : Ty} {a b : Expr} {pos p : Pos}
theorem je_gcd {i j : Int} (hg : Gl X "gcd") (hm : X.mg "gcd" = some (.builtin "math.gcd")) (ha : JE X a τ (rV (.int i))) (hb : JE X b τ (rV (.int j)))
    (h1 : starEach [a, b] X.env = (false, eval a X.env) :: starEach [b] X.env := by rfl) (h2 : starEach [b] X.env = (false, eval b X.env) :: starEach [] X.env := by rfl) (hpl : (backTo pos (starEach [b] X.env)).any (·.1) = false := by rfl) :
    JE X (.Call (.Name "gcd" p) [a, b] [] pos) τ (rV (.int ((Nat.gcd i.natAbs j.natAbs : Nat) : Int))) := fun σ H t =>
  pe_se (pe_callBfun cr_gcd hg hm sa_pa (by decide) h1 hpl) ((ja_cons ha (ja_cons hb ja_nil h2) h1 σ H t).mono fun vs H1 ⟨e1, r1⟩ => by
    obtain ⟨v, w, rfl, r, r'⟩ := r1.two
    obtain rfl : v = .int i := r
    obtain rfl : w = .int j := r'
    exact ⟨i, j, rfl, e1, rfl⟩)
end
section
variable {P : Program} {w : World} {K : PySem.W.Frag} {mg : Str → Option Value} {base : Heap}
def sRI (K : PySem.W.Frag) : Sg := fun Rs R => ∃ i j z, Rs = [rV (.int i), rV (.int j)] ∧ R = rQ K z ∧ RatIn i j z
theorem sc_RI : FnScope ["self", "n", "d", "shared"] ["self", "n", "d"] (defScope (clS 11 0)) := ⟨rfl, rfl, rfl, by decide +kernel, rfl, by decide +kernel, by decide +kernel⟩
theorem dec0 {i : Int} (h : i ≠ 0) : decide (V.int i = V.int 0) = false := decide_eq_false fun q => h (V.int.inj q)
theorem gcd_lt {N D : Nat} (hD : 1 ≤ D) (h : D < 2 ^ 1000) : (∀ i : Int, CDivW i ((Nat.gcd N D : Nat) : Int)) ∧ 0 < Nat.gcd N D := by
  have h1 : 0 < Nat.gcd N D := Nat.gcd_pos_of_pos_right N (by omega)
  have h2 : Nat.gcd N D ≤ D := Nat.le_of_dvd (by omega) (Nat.gcd_dvd_right N D)
  exact ⟨fun i => wide_div (b := 1000) (by omega) (by show (Nat.gcd N D) < _; omega) (by decide) (by decide), h1⟩
theorem ok_Ratio_init (T : Tx K mg) : OkI P w K mg base 1 "Ratio" ["self", "n", "d"] (sRI K) := by
  refine okI T.f_Ratio_init sc_RI (fun Rs R h => by obtain ⟨_, _, _, rfl, _⟩ := h; rfl) fun cdv A outer s H E Rs Ro p dx H0 hr h hp => ?_
  obtain ⟨i, j, z, rfl, rfl, sg, N, D, hm, hD, hN, hD2, hij⟩ := h
  obtain ⟨e1, e2, e3, hok⟩ := mk_ok hm hD
  -- from the place where n, d are of the right sign
  have key : JD (cx0 P w K mg base ["self", "n", "d", "shared"] "Ratio.__init__" (defScope (clS 11 0)) (aM K "Ratio" "__init__") cdv A outer s H E) ((defBody (clS 11 0)).drop 2) [some (rNew p (aC K "Ratio") dx H0 []), some (rV (.int (toI sg N))), some (rV (.int (D : Int))), none]
      { nx := fun _ H' => Ex H0 H' ∧ (rQ K z).p (.ref p) H', rt := fun _ _ => False } := by
    refine jd_set 3 sc_RI.nd (je_gcd (by rfl) T.gcd (je_var 1) (je_var 2)) ?_
    rw [toI_abs, Int.natAbs_natCast]
    obtain ⟨hc, hg⟩ := gcd_lt (N := N) hD hD2
    refine jd_fld T.c_Ratio T.a_Ratio_n (je_divW (hc _) (je_var 1) (je_var 3)) (je_var 0) hp (lit_v (lit_v (lit_v lit_nil))) (by decide) ?_
    refine jd_fld T.c_Ratio T.a_Ratio_d (je_divW (hc _) (je_var 2) (je_var 3)) (je_var 0) hp (lit_v (lit_v (lit_v lit_nil))) (by show 1 < 1000; decide) ?_
    refine jd_nil fun σ H1 t => ?_
    obtain ⟨v, _, rfl, h1, h2⟩ := t.2 0 _ rfl
    refine ⟨h1, hok, p, dx, _, rfl, h2, ?_⟩
    rw [putF2 nd_ne]
    refine ⟨rfl, ?_, rfl, ?_, trivial⟩
    · show V.int _ = V.int _
      rw [toI_div sg (Nat.gcd_dvd_left N D), e1, e2]
    · show V.int _ = V.int _
      rw [e3, Int.natCast_ediv]
  have hj : j ≠ 0 := by rcases hij with ⟨_, rfl⟩ | ⟨_, rfl⟩ <;> omega
  refine jd_skip (JT.eq (jt_eq rfl (je_var 2) je_int) (dec0 hj)) ?_
  rcases hij with ⟨rfl, rfl⟩ | ⟨rfl, rfl⟩
  · exact jd_skip (JT.eq (jt_lt (je_var 2) je_int) (decide_eq_false (by omega))) key
  · refine jd_ifT (τ1 := [some (rNew p (aC K "Ratio") dx H0 []), some (rV (.int (toI sg N))), some (rV (.int (D : Int))), none]) (JT.eq (jt_lt (je_var 2) je_int) (decide_eq_true (by omega))) ?_ key
    refine jss_set 1 sc_RI.nd (je_neg (je_var 1)) ?_
    refine jss_set 2 sc_RI.nd (je_neg (je_var 2)) (jss_nil ?_)
    rw [Int.neg_neg, Int.neg_neg]
    rfl
end
end Sq
end
section
set_option Elab.async false
set_option linter.all false
set_option maxRecDepth 100000
set_option maxHeartbeats 4000000
namespace Sq
open PySem PySem.Spec L2
open PyProof.Rows hiding St
open Evl (Ex)
/-! ### contracts of a number's class -/
section
variable {α : Type} (rel : α → Rl)
def sBin (f : α → α → Option α) : Sg := fun Rs R => ∃ x y z, Rs = [rel x, rel y] ∧ R = rel z ∧ f x y = some z
def sUn (f : α → Option α) : Sg := fun Rs R => ∃ x z, Rs = [rel x] ∧ R = rel z ∧ f x = some z
def sTest (f : α → Bool) : Sg := fun Rs R => ∃ x, Rs = [rel x] ∧ R = rV (.bl (f x))
/-- == where it says True -/
def sEq (e : α → α → Prop) : Sg := fun Rs R => ∃ x y, Rs = [rel x, rel y] ∧ R = rV (.bl true) ∧ e x y
end
section
variable {X : Cx} {τ : Ty} {R : Rl} {e : Expr} {pos p : Pos} {A : List Stmt}
theorem jt_notTrue {c : Expr} (h : JE X c τ (rV (.bl true))) (he : ∀ whole, isTrue c X.env whole = (do let v ← whole; standAt c.pos; holding [v] (truthy v)) := by intro _; rfl) : JT X (.UnaryOp .Not c pos) τ false := jt_not (k := true) (jt_val h he)
end
section
variable {P : Program} {w : World} {K : PySem.W.Frag} {mg : Str → Option Value} {base : Heap}
theorem qFl_n {z : Fq} : (qFl z).lookup ("n" : Str) = some (rV (.int (toI z.s z.n))) := by rfl
theorem qFl_d {z : Fq} : (qFl z).lookup ("d" : Str) = some (rV (.int (z.d : Int))) := by rfl
theorem rQ_ins {z : Fq} : ∀ v H, (rQ K z).p v H → (rIns (aC K "Ratio") (qFl z)).p v H := fun _ _ h => h.2
theorem rQ_isI {z : Fq} : IsI (aC K "Ratio") (rQ K z) := fun v H h => isI_ins v H h.2
theorem rQ_recv {z : Fq} {m : Str} (h : (qFl z).lookup m = none) : Recv (aC K "Ratio") m (rQ K z) := fun v H r => recv_ins h v H r.2
section
variable {X : Cx} {τ : Ty} {e : Expr} {pos : Pos} {z : Fq}
theorem je_qn (c : Cls X.K (aC K "Ratio")) (n : NoAttr X.K (aC K "Ratio") "n") (h : JE X e τ (rQ K z)) (hb : attributeBase e "n" X.env (eval e X.env) = eval e X.env := by rfl) : JE X (.Attribute e "n" pos) τ (rV (.int (toI z.s z.n))) := je_fld (h.sub rQ_ins) c n qFl_n hb
theorem je_qd (c : Cls X.K (aC K "Ratio")) (n : NoAttr X.K (aC K "Ratio") "d") (h : JE X e τ (rQ K z)) (hb : attributeBase e "d" X.env (eval e X.env) = eval e X.env := by rfl) : JE X (.Attribute e "d" pos) τ (rV (.int (z.d : Int))) := je_fld (h.sub rQ_ins) c n qFl_d hb
end
theorem big200 {n : Nat} (h : n ≤ big) : n < 2 ^ 200 := Nat.lt_of_le_of_lt h big_lt
theorem cmulW {i j : Int} (hi : i.natAbs ≤ big) (hj : j.natAbs ≤ big) : CMulW i j := wide_mul (big200 hi) (big200 hj) (by decide) (by decide) (by decide)
theorem nn {x : Fq} (h : qOk x) : (toI x.s x.n).natAbs ≤ big := by rw [toI_abs]; exact h.1
theorem dd {x : Fq} (h : qOk x) : ((x.d : Int)).natAbs ≤ big := by rw [Int.natAbs_natCast]; exact h.2.2
theorem sc_R2a : FnScope ["self", "other"] ["self", "other"] (defScope (clS 11 2)) := ⟨rfl, rfl, rfl, by decide +kernel, rfl, by decide +kernel, by decide +kernel⟩
theorem sc_R2s : FnScope ["self", "other"] ["self", "other"] (defScope (clS 11 3)) := ⟨rfl, rfl, rfl, by decide +kernel, rfl, by decide +kernel, by decide +kernel⟩
theorem sc_R2m : FnScope ["self", "other"] ["self", "other"] (defScope (clS 11 4)) := ⟨rfl, rfl, rfl, by decide +kernel, rfl, by decide +kernel, by decide +kernel⟩
theorem ok_Ratio_add (T : Tx K mg) : OkM P w K mg base 3 "Ratio" "__add__" ["self", "other"] (sBin (rQ K) qAdd) := by
  refine okS T.f_Ratio_add sc_R2a (fun Rs R h => by obtain ⟨_, _, _, rfl, _⟩ := h; rfl) fun cdv A outer s H E Rs R hr h => ?_
  obtain ⟨x, y, z, rfl, rfl, h⟩ := h
  refine JSs.of fun σ H0 t => ?_
  have hx : qOk x := by obtain ⟨v, _, q, _⟩ := t.2 0 _ rfl; exact q
  have hy : qOk y := by obtain ⟨v, _, q, _⟩ := t.2 1 _ rfl; exact q
  refine jss_skip (jt_notTrue (je_isi (by rfl) T.n_isinstance (je_var 1) (hasT_ins T.i_Ratio.1 rQ_isI) (je_glob (by rfl) T.g_Ratio (v := .ref _) rfl) (.own _) T.i_Ratio.1.me)) ?_
  exact jss_ret (je_make T.k_Ratio (ok_Ratio_init T) hr (by rfl) T.g_Ratio T.b_Ratio_init pass0
    (ja_cons (je_add (je_mulW (cmulW (nn hx) (dd hy)) (je_qn T.c_Ratio T.a_Ratio_n (je_var 0)) (je_qd T.c_Ratio T.a_Ratio_d (je_var 1))) (je_mulW (cmulW (nn hy) (dd hx)) (je_qn T.c_Ratio T.a_Ratio_n (je_var 1)) (je_qd T.c_Ratio T.a_Ratio_d (je_var 0))))
      (ja_cons (je_mulW (cmulW (dd hx) (dd hy)) (je_qd T.c_Ratio T.a_Ratio_d (je_var 0)) (je_qd T.c_Ratio T.a_Ratio_d (je_var 1))) ja_nil)) ⟨_, _, z, rfl, rfl, ratIn_add hx hy h⟩)
theorem ok_Ratio_sub (T : Tx K mg) : OkM P w K mg base 3 "Ratio" "__sub__" ["self", "other"] (sBin (rQ K) qSub) := by
  refine okS T.f_Ratio_sub sc_R2s (fun Rs R h => by obtain ⟨_, _, _, rfl, _⟩ := h; rfl) fun cdv A outer s H E Rs R hr h => ?_
  obtain ⟨x, y, z, rfl, rfl, h⟩ := h
  refine JSs.of fun σ H0 t => ?_
  have hx : qOk x := by obtain ⟨v, _, q, _⟩ := t.2 0 _ rfl; exact q
  have hy : qOk y := by obtain ⟨v, _, q, _⟩ := t.2 1 _ rfl; exact q
  refine jss_skip (jt_notTrue (je_isi (by rfl) T.n_isinstance (je_var 1) (hasT_ins T.i_Ratio.1 rQ_isI) (je_glob (by rfl) T.g_Ratio (v := .ref _) rfl) (.own _) T.i_Ratio.1.me)) ?_
  exact jss_ret (je_make T.k_Ratio (ok_Ratio_init T) hr (by rfl) T.g_Ratio T.b_Ratio_init pass0
    (ja_cons (je_sub (je_mulW (cmulW (nn hx) (dd hy)) (je_qn T.c_Ratio T.a_Ratio_n (je_var 0)) (je_qd T.c_Ratio T.a_Ratio_d (je_var 1))) (je_mulW (cmulW (nn hy) (dd hx)) (je_qn T.c_Ratio T.a_Ratio_n (je_var 1)) (je_qd T.c_Ratio T.a_Ratio_d (je_var 0))))
      (ja_cons (je_mulW (cmulW (dd hx) (dd hy)) (je_qd T.c_Ratio T.a_Ratio_d (je_var 0)) (je_qd T.c_Ratio T.a_Ratio_d (je_var 1))) ja_nil)) ⟨_, _, z, rfl, rfl, ratIn_sub hx hy h⟩)
theorem ok_Ratio_mul (T : Tx K mg) : OkM P w K mg base 3 "Ratio" "__mul__" ["self", "other"] (sBin (rQ K) qMul) := by
  refine okS T.f_Ratio_mul sc_R2m (fun Rs R h => by obtain ⟨_, _, _, rfl, _⟩ := h; rfl) fun cdv A outer s H E Rs R hr h => ?_
  obtain ⟨x, y, z, rfl, rfl, h⟩ := h
  refine JSs.of fun σ H0 t => ?_
  have hx : qOk x := by obtain ⟨v, _, q, _⟩ := t.2 0 _ rfl; exact q
  have hy : qOk y := by obtain ⟨v, _, q, _⟩ := t.2 1 _ rfl; exact q
  refine jss_skip (jt_notTrue (je_isi (by rfl) T.n_isinstance (je_var 1) (hasT_ins T.i_Ratio.1 rQ_isI) (je_glob (by rfl) T.g_Ratio (v := .ref _) rfl) (.own _) T.i_Ratio.1.me)) ?_
  exact jss_ret (je_make T.k_Ratio (ok_Ratio_init T) hr (by rfl) T.g_Ratio T.b_Ratio_init pass0
    (ja_cons (je_mulW (cmulW (nn hx) (nn hy)) (je_qn T.c_Ratio T.a_Ratio_n (je_var 0)) (je_qn T.c_Ratio T.a_Ratio_n (je_var 1)))
      (ja_cons (je_mulW (cmulW (dd hx) (dd hy)) (je_qd T.c_Ratio T.a_Ratio_d (je_var 0)) (je_qd T.c_Ratio T.a_Ratio_d (je_var 1))) ja_nil)) ⟨_, _, z, rfl, rfl, ratIn_mul hx hy h⟩)
theorem sc_R1z : FnScope ["self"] ["self"] (defScope (clS 11 7)) := ⟨rfl, rfl, rfl, by decide +kernel, rfl, by decide +kernel, by decide +kernel⟩
theorem sc_R1i : FnScope ["self"] ["self"] (defScope (clS 11 8)) := ⟨rfl, rfl, rfl, by decide +kernel, rfl, by decide +kernel, by decide +kernel⟩
theorem qIsZ_eq (x : Fq) : decide (V.int (toI x.s x.n) = V.int 0) = qIsZ x := by
  have e : qIsZ x = Nat.beq x.n 0 := rfl
  rw [e]
  by_cases h : x.n = 0
  · rw [h]
    cases x.s <;> rfl
  · rw [decide_eq_false]
    · symm
      exact Bool.eq_false_iff.mpr fun q => h (Nat.eq_of_beq_eq_true q)
    · intro q
      have q := V.int.inj q
      have := toI_abs x.s x.n
      rw [q] at this
      exact h (by simpa using this.symm)
theorem ok_Ratio_is_zero (T : Tx K mg) : OkM P w K mg base 1 "Ratio" "is_zero" ["self"] (sTest (rQ K) qIsZ) := by
  refine okS T.f_Ratio_is_zero sc_R1z (fun Rs R h => by obtain ⟨_, rfl, _⟩ := h; rfl) fun cdv A outer s H E Rs R hr h => ?_
  obtain ⟨x, rfl, rfl⟩ := h
  rw [← qIsZ_eq]
  exact jss_ret (je_eq rfl (je_qn T.c_Ratio T.a_Ratio_n (je_var 0)) je_int)
theorem ok_Ratio_inverse (T : Tx K mg) : OkM P w K mg base 3 "Ratio" "inverse" ["self"] (sUn (rQ K) qInv) := by
  refine okS T.f_Ratio_inverse sc_R1i (fun Rs R h => by obtain ⟨_, _, rfl, _⟩ := h; rfl) fun cdv A outer s H E Rs R hr h => ?_
  obtain ⟨x, z, rfl, rfl, h⟩ := h
  refine JSs.of fun σ H0 t => ?_
  have hx : qOk x := by obtain ⟨v, _, q, _⟩ := t.2 0 _ rfl; exact q
  exact jss_ret (je_make T.k_Ratio (ok_Ratio_init T) hr (by rfl) T.g_Ratio T.b_Ratio_init pass0
    (ja_cons (je_qd T.c_Ratio T.a_Ratio_d (je_var 0)) (ja_cons (je_qn T.c_Ratio T.a_Ratio_n (je_var 0)) ja_nil)) ⟨_, _, z, rfl, rfl, ratIn_inv hx h⟩)
theorem sc_R2e : FnScope ["self", "other"] ["self", "other"] (defScope (clS 11 1)) := ⟨rfl, rfl, rfl, by decide +kernel, rfl, by decide +kernel, by decide +kernel⟩
/-- equal as numbers -/
def qEqP (x y : Fq) : Prop := toI x.s x.n = toI y.s y.n ∧ x.d = y.d
theorem ok_Ratio_eq (T : Tx K mg) : OkM P w K mg base 1 "Ratio" "__eq__" ["self", "other"] (sEq (rQ K) qEqP) := by
  refine okS T.f_Ratio_eq sc_R2e (fun Rs R h => by obtain ⟨_, _, rfl, _⟩ := h; rfl) fun cdv A outer s H E Rs R hr h => ?_
  obtain ⟨x, y, rfl, rfl, e1, e2⟩ := h
  refine jss_ret (JE.sub (je_and (k := true) (je_isi (by rfl) T.n_isinstance (je_var 1) (hasT_ins T.i_Ratio.1 rQ_isI) (je_glob (by rfl) T.g_Ratio (v := .ref _) rfl) (.own _) T.i_Ratio.1.me) fun _ => je_and (je_eq rfl (je_qn T.c_Ratio T.a_Ratio_n (je_var 0)) (je_qn T.c_Ratio T.a_Ratio_n (je_var 1))) fun _ => je_one (je_eq rfl (je_qd T.c_Ratio T.a_Ratio_d (je_var 0)) (je_qd T.c_Ratio T.a_Ratio_d (je_var 1)))) fun v H q => ?_)
  rw [e1, e2] at q
  simpa using q
end
end Sq
end
section
set_option Elab.async false
set_option linter.all false
set_option maxRecDepth 100000
set_option maxHeartbeats 4000000
namespace Sq
open PySem PySem.Spec L2
open PyProof.Rows hiding St
open Evl (Ex)
/-! ### Residue -/
section
variable {X : Cx} {τ : Ty} {a b : Expr} {pos : Pos}
theorem je_modL {i j : Int} (ha : JE X a τ (rV (.int i))) (hb : JE X b τ (rV (.int j))) (hc : 0 < j) : JE X (.BinOp a .Mod b pos) τ (rV (.int (i % j))) := je_mod hc ha hb
theorem je_mulL {i j : Int} (ha : JE X a τ (rV (.int i))) (hb : JE X b τ (rV (.int j))) (hc : CMul i j) : JE X (.BinOp a .Mult b pos) τ (rV (.int (i * j))) := je_mul hc ha hb
theorem je_divL {i j : Int} (ha : JE X a τ (rV (.int i))) (hb : JE X b τ (rV (.int j))) (hc : CDiv i j) : JE X (.BinOp a .FloorDiv b pos) τ (rV (.int (i / j))) := je_div hc ha hb
end
/-- a prime that the program takes -/
structure Pr (p : Nat) : Prop where
  lo : 2 ≤ p
  hi : p ≤ 31
  isp : inV (.int (p : Int)) primeL = true
def pFl (p z : Nat) : Fl := [("p", rV (.int (p : Int))), ("n", rV (.int (z : Int)))]
def rP (K : PySem.W.Frag) (p z : Nat) : Rl := rAnd (z < p) (rIns (aC K "Residue") (pFl p z))
theorem pFl_p {p z : Nat} : (pFl p z).lookup ("p" : Str) = some (rV (.int (p : Int))) := by rfl
theorem pFl_n {p z : Nat} : (pFl p z).lookup ("n" : Str) = some (rV (.int (z : Int))) := by rfl
section
variable {P : Program} {w : World} {K : PySem.W.Frag} {mg : Str → Option Value} {base : Heap} {p : Nat}
theorem rP_ins {z : Nat} : ∀ v H, (rP K p z).p v H → (rIns (aC K "Residue") (pFl p z)).p v H := fun _ _ h => h.2
theorem rP_isI {z : Nat} : IsI (aC K "Residue") (rP K p z) := fun v H h => isI_ins v H h.2
theorem rP_recv {z : Nat} {m : Str} (h : (pFl p z).lookup m = none) : Recv (aC K "Residue") m (rP K p z) := fun v H r => recv_ins h v H r.2
section
variable {X : Cx} {τ : Ty} {e : Expr} {pos : Pos} {z : Nat}
theorem je_pp (c : Cls X.K (aC K "Residue")) (n : NoAttr X.K (aC K "Residue") "p") (h : JE X e τ (rP K p z)) (hb : attributeBase e "p" X.env (eval e X.env) = eval e X.env := by rfl) : JE X (.Attribute e "p" pos) τ (rV (.int (p : Int))) := je_fld (h.sub rP_ins) c n pFl_p hb
theorem je_pn (c : Cls X.K (aC K "Residue")) (n : NoAttr X.K (aC K "Residue") "n") (h : JE X e τ (rP K p z)) (hb : attributeBase e "n" X.env (eval e X.env) = eval e X.env := by rfl) : JE X (.Attribute e "n" pos) τ (rV (.int (z : Int))) := je_fld (h.sub rP_ins) c n pFl_n hb
end
def sPI (K : PySem.W.Frag) (p : Nat) : Sg := fun Rs R => ∃ (i : Int) (z : Nat), Rs = [rV (.int (p : Int)), rV (.int i)] ∧ R = rP K p z ∧ (z : Int) = i % (p : Int)
theorem emod_lt {p z : Nat} {i : Int} (hp : 2 ≤ p) (h : (z : Int) = i % (p : Int)) : z < p := by
  have := Int.emod_lt_of_pos i (show (0 : Int) < p by omega)
  omega
theorem sc_PI : FnScope ["self", "p", "n"] ["self", "p", "n"] (defScope (clS 15 0)) := ⟨rfl, rfl, rfl, by decide +kernel, rfl, by decide +kernel, by decide +kernel⟩
theorem ok_Residue_init (T : Tx K mg) (hp : Pr p) : OkI P w K mg base 3 "Residue" ["self", "p", "n"] (sPI K p) := by
  refine okI T.f_Residue_init sc_PI (fun Rs R h => by obtain ⟨_, _, rfl, _⟩ := h; rfl) fun cdv A outer s H E Rs Ro q dx H0 hr h hq => ?_
  obtain ⟨i, z, rfl, rfl, hz⟩ := h
  refine jd_skip (JT.eq (k := (!inV (.int (p : Int)) primeL) || !true) (JW.jt (jw_or (jt_not (jt_val (je_call (ok_is_small_prime T) hr (by rfl) T.g_is_small_prime T.f_is_small_prime.kp T.b_is_small_prime pass0 (ja_cons (je_var 1) ja_nil) ⟨_, rfl, rfl⟩)))
    fun _ => jw_or1 (jt_not (jt_val (je_call (ok_is_integer T) (hr.mono (by decide)) (by rfl) T.g_is_integer T.f_is_integer.kp T.b_is_integer pass0 (ja_cons (je_var 2) ja_nil) isInt_int))))) (by rw [hp.isp]; rfl)) ?_
  refine jd_fld T.c_Residue T.a_Residue_p (je_var 1) (je_var 0) hq (lit_v (lit_v lit_nil)) (by decide) ?_
  refine jd_fld T.c_Residue T.a_Residue_n (je_modL (je_var 2) (je_var 1) (by have := hp.lo; omega)) (je_var 0) hq (lit_v (lit_v lit_nil)) (by show 1 < 1000; decide) ?_
  refine jd_nil fun σ H1 t => ?_
  obtain ⟨v, _, rfl, h1, h2⟩ := t.2 0 _ rfl
  refine ⟨h1, emod_lt hp.lo hz, q, dx, _, rfl, h2, ?_⟩
  rw [putF2 pn_ne]
  exact ⟨rfl, rfl, rfl, congrArg V.int hz.symm, trivial⟩
theorem sc_P2a : FnScope ["self", "other"] ["self", "other"] (defScope (clS 15 2)) := ⟨rfl, rfl, rfl, by decide +kernel, rfl, by decide +kernel, by decide +kernel⟩
theorem sc_P2s : FnScope ["self", "other"] ["self", "other"] (defScope (clS 15 3)) := ⟨rfl, rfl, rfl, by decide +kernel, rfl, by decide +kernel, by decide +kernel⟩
theorem sc_P2m : FnScope ["self", "other"] ["self", "other"] (defScope (clS 15 4)) := ⟨rfl, rfl, rfl, by decide +kernel, rfl, by decide +kernel, by decide +kernel⟩
def pAdd (p x y : Nat) : Option Nat := some (Nat.mod (Nat.add x y) p)
def pSub (p x y : Nat) : Option Nat := some (Nat.mod (Nat.sub (Nat.add x p) y) p)
def pMul (p x y : Nat) : Option Nat := some (Nat.mod (Nat.mul x y) p)
def pInv (p x : Nat) : Option Nat := match Nat.beq x 0 with
  | true => none
  | false => some (powM p x (Nat.sub p 2))
def pIsZ (x : Nat) : Bool := Nat.beq x 0
theorem lt_slot {τ : Ty} {σ : L2.St} {H : Hp} {i z : Nat} (t : Typ σ τ H) (h : τ[i]? = some (some (rP K p z)) := by rfl) : z < p := by
  obtain ⟨v, _, q, _⟩ := t.2 i _ h
  exact q
theorem decp : (!decide (V.int (p : Int) = V.int (p : Int))) = false := by rw [decide_eq_true rfl]; rfl
theorem ok_Residue_add (T : Tx K mg) (hp : Pr p) : OkM P w K mg base 5 "Residue" "__add__" ["self", "other"] (sBin (rP K p) (pAdd p)) := by
  refine okS T.f_Residue_add sc_P2a (fun Rs R h => by obtain ⟨_, _, _, rfl, _⟩ := h; rfl) fun cdv A outer s H E Rs R hr h => ?_
  obtain ⟨x, y, z, rfl, rfl, h⟩ := h
  obtain rfl : (x + y) % p = z := Option.some.inj h
  refine jss_skip (JT.eq (k := false || !decide (V.int (p : Int) = V.int (p : Int))) (JW.jt (jw_or (jt_notTrue (je_isi (by rfl) T.n_isinstance (je_var 1) (hasT_ins T.i_Residue.1 rP_isI) (je_glob (by rfl) T.g_Residue (v := .ref _) rfl) (.own _) T.i_Residue.1.me))
    fun _ => jw_or1 (jt_ne rfl (je_pp T.c_Residue T.a_Residue_p (je_var 0)) (je_pp T.c_Residue T.a_Residue_p (je_var 1))))) (by rw [decp]; rfl)) ?_
  exact jss_ret (je_make T.k_Residue (ok_Residue_init T hp) hr (by rfl) T.g_Residue T.b_Residue_init pass0 (ja_cons (je_pp T.c_Residue T.a_Residue_p (je_var 0)) (ja_cons (je_add (je_pn T.c_Residue T.a_Residue_n (je_var 0)) (je_pn T.c_Residue T.a_Residue_n (je_var 1))) ja_nil))
    ⟨_, _, rfl, rfl, by simp⟩)
theorem ok_Residue_sub (T : Tx K mg) (hp : Pr p) : OkM P w K mg base 5 "Residue" "__sub__" ["self", "other"] (sBin (rP K p) (pSub p)) := by
  refine okS T.f_Residue_sub sc_P2s (fun Rs R h => by obtain ⟨_, _, _, rfl, _⟩ := h; rfl) fun cdv A outer s H E Rs R hr h => ?_
  obtain ⟨x, y, z, rfl, rfl, h⟩ := h
  obtain rfl : (x + p - y) % p = z := Option.some.inj h
  refine JSs.of fun σ H0 t => ?_
  have hy : y < p := lt_slot (i := 1) (z := y) t
  refine jss_skip (JT.eq (k := false || !decide (V.int (p : Int) = V.int (p : Int))) (JW.jt (jw_or (jt_notTrue (je_isi (by rfl) T.n_isinstance (je_var 1) (hasT_ins T.i_Residue.1 rP_isI) (je_glob (by rfl) T.g_Residue (v := .ref _) rfl) (.own _) T.i_Residue.1.me))
    fun _ => jw_or1 (jt_ne rfl (je_pp T.c_Residue T.a_Residue_p (je_var 0)) (je_pp T.c_Residue T.a_Residue_p (je_var 1))))) (by rw [decp]; rfl)) ?_
  refine jss_ret (je_make T.k_Residue (ok_Residue_init T hp) hr (by rfl) T.g_Residue T.b_Residue_init pass0 (ja_cons (je_pp T.c_Residue T.a_Residue_p (je_var 0)) (ja_cons (je_sub (je_pn T.c_Residue T.a_Residue_n (je_var 0)) (je_pn T.c_Residue T.a_Residue_n (je_var 1))) ja_nil))
    ⟨_, _, rfl, rfl, ?_⟩)
  have : (((x + p - y) % p : Nat) : Int) = ((x : Int) - y + p) % p := by
    rw [Int.natCast_emod, Int.natCast_sub (by omega), Int.natCast_add]
    congr 1
    omega
  rw [this, Int.add_emod_right]
theorem small_mul {x y : Nat} (hx : x ≤ 31) : CMul (x : Int) (y : Int) := .inl ⟨by omega, by omega⟩
theorem ok_Residue_mul (T : Tx K mg) (hp : Pr p) : OkM P w K mg base 5 "Residue" "__mul__" ["self", "other"] (sBin (rP K p) (pMul p)) := by
  refine okS T.f_Residue_mul sc_P2m (fun Rs R h => by obtain ⟨_, _, _, rfl, _⟩ := h; rfl) fun cdv A outer s H E Rs R hr h => ?_
  obtain ⟨x, y, z, rfl, rfl, h⟩ := h
  obtain rfl : (x * y) % p = z := Option.some.inj h
  refine JSs.of fun σ H0 t => ?_
  have hx : x < p := lt_slot (i := 0) (z := x) t
  refine jss_skip (JT.eq (k := false || !decide (V.int (p : Int) = V.int (p : Int))) (JW.jt (jw_or (jt_notTrue (je_isi (by rfl) T.n_isinstance (je_var 1) (hasT_ins T.i_Residue.1 rP_isI) (je_glob (by rfl) T.g_Residue (v := .ref _) rfl) (.own _) T.i_Residue.1.me))
    fun _ => jw_or1 (jt_ne rfl (je_pp T.c_Residue T.a_Residue_p (je_var 0)) (je_pp T.c_Residue T.a_Residue_p (je_var 1))))) (by rw [decp]; rfl)) ?_
  exact jss_ret (je_make T.k_Residue (ok_Residue_init T hp) hr (by rfl) T.g_Residue T.b_Residue_init pass0 (ja_cons (je_pp T.c_Residue T.a_Residue_p (je_var 0)) (ja_cons (je_mulL (je_pn T.c_Residue T.a_Residue_n (je_var 0)) (je_pn T.c_Residue T.a_Residue_n (je_var 1)) (small_mul (by have := hp.hi; omega))) ja_nil))
    ⟨_, _, rfl, rfl, by simp⟩)
theorem sc_P1z : FnScope ["self"] ["self"] (defScope (clS 15 7)) := ⟨rfl, rfl, rfl, by decide +kernel, rfl, by decide +kernel, by decide +kernel⟩
theorem pIsZ_eq (x : Nat) : decide (V.int (x : Int) = V.int 0) = pIsZ x := by
  unfold pIsZ
  by_cases h : x = 0
  · subst h; rfl
  · rw [decide_eq_false fun q => h (by have := V.int.inj q; omega)]
    exact (Bool.eq_false_iff.mpr fun q => h (Nat.eq_of_beq_eq_true q)).symm
theorem ok_Residue_is_zero (T : Tx K mg) : OkM P w K mg base 1 "Residue" "is_zero" ["self"] (sTest (rP K p) pIsZ) := by
  refine okS T.f_Residue_is_zero sc_P1z (fun Rs R h => by obtain ⟨_, rfl, _⟩ := h; rfl) fun cdv A outer s H E Rs R hr h => ?_
  obtain ⟨x, rfl, rfl⟩ := h
  rw [← pIsZ_eq]
  exact jss_ret (je_eq rfl (je_pn T.c_Residue T.a_Residue_n (je_var 0)) je_int)
theorem sc_P2e : FnScope ["self", "other"] ["self", "other"] (defScope (clS 15 1)) := ⟨rfl, rfl, rfl, by decide +kernel, rfl, by decide +kernel, by decide +kernel⟩
theorem ok_Residue_eq (T : Tx K mg) : OkM P w K mg base 1 "Residue" "__eq__" ["self", "other"] (sEq (rP K p) fun x y => x = y) := by
  refine okS T.f_Residue_eq sc_P2e (fun Rs R h => by obtain ⟨_, _, rfl, _⟩ := h; rfl) fun cdv A outer s H E Rs R hr h => ?_
  obtain ⟨x, y, rfl, rfl, e1⟩ := h
  refine jss_ret (JE.sub (je_and (k := true) (je_isi (by rfl) T.n_isinstance (je_var 1) (hasT_ins T.i_Residue.1 rP_isI) (je_glob (by rfl) T.g_Residue (v := .ref _) rfl) (.own _) T.i_Residue.1.me) fun _ => je_and (je_eq rfl (je_pp T.c_Residue T.a_Residue_p (je_var 0)) (je_pp T.c_Residue T.a_Residue_p (je_var 1))) fun _ => je_one (je_eq rfl (je_pn T.c_Residue T.a_Residue_n (je_var 0)) (je_pn T.c_Residue T.a_Residue_n (je_var 1)))) fun v H q => ?_)
  rw [e1] at q
  simpa using q
theorem powM_lt {p n : Nat} (hp : 2 ≤ p) : ∀ k, powM p n k < p
  | 0 => hp
  | k + 1 => Nat.mod_lt _ (by omega)
theorem sc_P1i : FnScope ["self", "total", "_"] ["self"] (defScope (clS 15 8)) := ⟨rfl, rfl, rfl, by decide +kernel, rfl, by decide +kernel, by decide +kernel⟩
theorem ok_Residue_inverse (T : Tx K mg) (hp : Pr p) : OkM P w K mg base 5 "Residue" "inverse" ["self"] (sUn (rP K p) (pInv p)) := by
  refine okS T.f_Residue_inverse sc_P1i (fun Rs R h => by obtain ⟨_, _, rfl, _⟩ := h; rfl) fun cdv A outer s H E Rs R hr h => ?_
  obtain ⟨x, z, rfl, rfl, h⟩ := h
  have hlo := hp.lo
  have hhi := hp.hi
  have hx : Nat.beq x 0 = false ∧ powM p x (p - 2) = z := by
    unfold pInv at h
    split at h
    · cases h
    · rename_i e
      exact ⟨e, Option.some.inj h⟩
  obtain ⟨hx, rfl⟩ := hx
  refine jss_skip (JT.eq (jt_eq rfl (je_pn T.c_Residue T.a_Residue_n (je_var 0)) je_int) (by rw [pIsZ_eq]; exact hx)) ?_
  refine jss_set 1 sc_P1i.nd je_int ?_
  refine jss_for 2 (fun i τ' => ∃ o, τ' = [some (rP K p x), some (rV (.int (powM p x i : Nat))), o]) PassesOwn.never rfl (ji_range1 (by rfl) T.n_range (je_sub (je_pp T.c_Residue T.a_Residue_p (je_var 0)) je_int) (by omega)) (pg_name (i := 2) sc_P1i.nd rfl (.inl rfl)) ⟨none, rfl⟩ ?_ ?_
  · rintro i R τ' _ ⟨o, rfl⟩
    refine jss_set 1 sc_P1i.nd (je_modL (je_mulL (je_var 1) (je_pn T.c_Residue T.a_Residue_n (je_var 0)) (small_mul (by have := powM_lt (n := x) hlo i; omega))) (je_pp T.c_Residue T.a_Residue_p (je_var 0)) (by omega)) (jss_nil ⟨some R, ?_⟩)
    have : (((powM p x i : Nat) : Int) * (x : Int)) % (p : Int) = ((powM p x (i + 1) : Nat) : Int) := by
      show _ = (((powM p x i * x) % p : Nat) : Int)
      simp
    rw [this]
    rfl
  · rintro τ' ⟨o, rfl⟩
    rw [rgI_len, show ((p : Int) - 2).toNat = p - 2 by omega]
    refine jss_ret (je_make T.k_Residue (ok_Residue_init T hp) hr (by rfl) T.g_Residue T.b_Residue_init pass0 (ja_cons (je_pp T.c_Residue T.a_Residue_p (je_var 0)) (ja_cons (je_var 1) ja_nil)) ⟨_, _, rfl, rfl, ?_⟩)
    rw [Int.emod_eq_of_lt (by omega) (by have := powM_lt (n := x) hlo (p - 2); omega)]
theorem sc_P2o : FnScope ["self", "other"] ["self", "other"] (defScope (clS 15 9)) := ⟨rfl, rfl, rfl, by decide +kernel, rfl, by decide +kernel, by decide +kernel⟩
/-- a divided by b -/
def pOver (p x y : Nat) : Option Nat := bnd (pInv p y) (pMul p x)
theorem rP_ref {z : Nat} : IsRef (rP K p z) := (rP_isI (K := K)).ref
theorem ok_Residue_over (T : Tx K mg) (hp : Pr p) : OkM P w K mg base 6 "Residue" "over" ["self", "other"] (sBin (rP K p) (pOver p)) := by
  refine okS T.f_Residue_over sc_P2o (fun Rs R h => by obtain ⟨_, _, _, rfl, _⟩ := h; rfl) fun cdv A outer s H E Rs R hr h => ?_
  obtain ⟨x, y, z, rfl, rfl, h⟩ := h
  obtain ⟨u, h1, h2⟩ := bnd_some h
  exact jss_ret (je_own T.i_Residue.2 T.m_Residue_mul (ok_Residue_mul T hp) hr T.b_Residue_mul pass0 rP_isI rP_isI rP_ref ⟨x, u, z, rfl, rfl, h2⟩ (je_var 0)
    (je_meth0 (je_var 1) T.c_Residue (rP_recv rfl) T.m_Residue_inverse (ok_Residue_inverse T hp) hr T.b_Residue_inverse pass0 ⟨y, u, rfl, rfl, h1⟩))
end
end Sq
end
section
set_option Elab.async false
set_option linter.all false
set_option maxRecDepth 100000
set_option maxHeartbeats 4000000
namespace Sq
open PySem PySem.Spec L2
open PyProof.Rows hiding St
open Evl (Ex)
/-! ### Ground -/
def rGr (K : PySem.W.Frag) (p : Nat) : Rl := rIns (aC K "Ground") [("p", rV (.int (p : Int)))]
instance (K : PySem.W.Frag) (p : Nat) : Solid (rGr K p) := by unfold rGr; infer_instance
instance (K : PySem.W.Frag) (z : Fq) : Solid (rQ K z) := by unfold rQ qFl; infer_instance
instance (K : PySem.W.Frag) (p z : Nat) : Solid (rP K p z) := by unfold rP pFl; infer_instance
section
variable {P : Program} {w : World} {K : PySem.W.Frag} {mg : Str → Option Value} {base : Heap} {p : Nat}
theorem rGr_isI : IsI (aC K "Ground") (rGr K p) := isI_ins
theorem rGr_recv {m : Str} (h : ¬ m = "p") : Recv (aC K "Ground") m (rGr K p) := recv_ins (by
  show (match m == ("p" : Str) with | true => _ | false => none) = none
  rw [show (m == ("p" : Str)) = false from beq_eq_false_iff_ne.mpr h])
section
variable {X : Cx} {τ : Ty} {e : Expr} {pos : Pos}
theorem je_gp (c : Cls X.K (aC K "Ground")) (n : NoAttr X.K (aC K "Ground") "p") (h : JE X e τ (rGr K p)) (hb : attributeBase e "p" X.env (eval e X.env) = eval e X.env := by rfl) : JE X (.Attribute e "p" pos) τ (rV (.int (p : Int))) := je_fld h c n (by rfl) hb
end
def sGI (K : PySem.W.Frag) : Sg := fun Rs R => ∃ p : Nat, Rs = [rV (.int (p : Int))] ∧ R = rGr K p ∧ (p = 0 ∨ Pr p)
theorem sc_GI : FnScope ["self", "p"] ["self", "p"] (defScope (clS 20 0)) := ⟨rfl, rfl, rfl, by decide +kernel, rfl, by decide +kernel, by decide +kernel⟩
theorem ok_Ground_init (T : Tx K mg) : OkI P w K mg base 3 "Ground" ["self", "p"] (sGI K) := by
  refine okI T.f_Ground_init sc_GI (fun Rs R h => by obtain ⟨_, rfl, _⟩ := h; rfl) fun cdv A outer s H E Rs Ro q dx H0 hr h hq => ?_
  obtain ⟨p, rfl, rfl, hp⟩ := h
  refine jd_skip (JT.eq (k := (!true) || ((!decide (V.int (p : Int) = V.int 0)) && !inV (.int (p : Int)) primeL)) (JW.jt (jw_or (jt_not (jt_val (je_call (ok_is_integer T) (hr.mono (by decide)) (by rfl) T.g_is_integer T.f_is_integer.kp T.b_is_integer pass0 (ja_cons (je_var 1) ja_nil) isInt_int)))
    fun _ => jw_or1 (JW.jt (jw_and (jt_ne rfl (je_var 1) je_int) fun _ => jw_and1 (jt_not (jt_val (je_call (ok_is_small_prime T) hr (by rfl) T.g_is_small_prime T.f_is_small_prime.kp T.b_is_small_prime pass0 (ja_cons (je_var 1) ja_nil) ⟨_, rfl, rfl⟩))))))) (by
      rcases hp with rfl | hp
      · rfl
      · rw [hp.isp]
        simp)) ?_
  refine jd_fld T.c_Ground T.a_Ground_p (je_var 1) (je_var 0) hq (lit_v lit_nil) (by decide) ?_
  refine jd_nil fun σ H1 t => ?_
  obtain ⟨v, _, rfl, h1, h2⟩ := t.2 0 _ rfl
  exact ⟨h1, q, dx, _, rfl, h2, rfl, rfl, trivial⟩
theorem sc_GE : FnScope ["self", "other"] ["self", "other"] (defScope (clS 20 1)) := ⟨rfl, rfl, rfl, by decide +kernel, rfl, by decide +kernel, by decide +kernel⟩
def sGE (K : PySem.W.Frag) : Sg := fun Rs R => ∃ p : Nat, Rs = [rGr K p, rGr K p] ∧ R = rV (.bl true)
theorem ok_Ground_eq (T : Tx K mg) : OkM P w K mg base 1 "Ground" "__eq__" ["self", "other"] (sGE K) := by
  refine okS T.f_Ground_eq sc_GE (fun Rs R h => by obtain ⟨_, rfl, _⟩ := h; rfl) fun cdv A outer s H E Rs R hr h => ?_
  obtain ⟨p, rfl, rfl⟩ := h
  refine jss_ret (JE.sub (je_and (k := true) (je_isi (by rfl) T.n_isinstance (je_var 1) (hasT_ins T.i_Ground.1 rGr_isI) (je_glob (by rfl) T.g_Ground (v := .ref _) rfl) (.own _) T.i_Ground.1.me) fun _ => je_one (je_eq rfl (je_gp T.c_Ground T.a_Ground_p (je_var 0)) (je_gp T.c_Ground T.a_Ground_p (je_var 1)))) fun v H q => ?_)
  simpa using q
/-! ### a ground with its numbers -/
section
variable {α : Type}
def sNum (K : PySem.W.Frag) (p : Nat) (rel : α → Rl) (num : Int → Option α) : Sg := fun Rs R => ∃ (i : Int) (z : α), Rs = [rGr K p, rV (.int i), rV (.int 1)] ∧ R = rel z ∧ num i = some z
def sMem (K : PySem.W.Frag) (p : Nat) (rel : α → Rl) : Sg := fun Rs R => ∃ z : α, Rs = [rGr K p, rel z] ∧ R = rV (.bl true)
end
structure NumK (P : Program) (w : World) (K : PySem.W.Frag) (mg : Str → Option Value) (base : Heap) (α : Type) where
  p : Nat
  hp : p = 0 ∨ Pr p
  o : Ops α
  rel : α → Rl
  C : Str
  isI : ∀ z, IsI (aC K C) (rel z)
  two : ∀ z v H, (rel z).p v H → ∃ a dx fs, v = .ref a ∧ H a = some (.ins (aC K C) dx fs) ∧ fs.length = 2
  sol : ∀ z, Solid (rel z)
  loc : ∀ z v H H', (rel z).p v H → (∀ a, v = .ref a → H' a = H a) → (rel z).p v H'
  cl : Cls K (aC K C)
  sf : PySem.W.selfFirst K (aC K C) = true
  ic : C8.InsC K (aC K C)
  nint : PySem.W.kitOne K (.ref (aC K C)) (.type "int") = some false
  rz : ∀ z, Recv (aC K C) "is_zero" (rel z)
  ri : ∀ z, Recv (aC K C) "inverse" (rel z)
  eqP : α → α → Prop
  m_add : Meth K (aC K C) "__add__" (aM K C "__add__")
  m_sub : Meth K (aC K C) "__sub__" (aM K C "__sub__")
  m_mul : Meth K (aC K C) "__mul__" (aM K C "__mul__")
  m_isz : Meth K (aC K C) "is_zero" (aM K C "is_zero")
  m_inv : Meth K (aC K C) "inverse" (aM K C "inverse")
  m_eq : Meth K (aC K C) "__eq__" (aM K C "__eq__")
  b_add : Binds K (dM K C "__add__") ["self", "other"] []
  b_sub : Binds K (dM K C "__sub__") ["self", "other"] []
  b_mul : Binds K (dM K C "__mul__") ["self", "other"] []
  b_isz : Binds K (dM K C "is_zero") ["self"] []
  b_inv : Binds K (dM K C "inverse") ["self"] []
  b_eq : Binds K (dM K C "__eq__") ["self", "other"] []
  ok_add : OkM P w K mg base 6 C "__add__" ["self", "other"] (sBin rel o.add)
  ok_sub : OkM P w K mg base 6 C "__sub__" ["self", "other"] (sBin rel o.sub)
  ok_mul : OkM P w K mg base 6 C "__mul__" ["self", "other"] (sBin rel o.mul)
  ok_isz : OkM P w K mg base 6 C "is_zero" ["self"] (sTest rel o.isZ)
  ok_inv : OkM P w K mg base 6 C "inverse" ["self"] (sUn rel o.inv)
  ok_eq : OkM P w K mg base 6 C "__eq__" ["self", "other"] (sEq rel eqP)
  ok_num : OkM P w K mg base 8 "Ground" "number" ["self", "n", "d"] (sNum K p rel o.num)
  ok_mem : OkM P w K mg base 8 "Ground" "is_member" ["self", "value"] (sMem K p rel)
theorem sc_GN : FnScope ["self", "n", "d"] ["self", "n", "d"] (defScope (clS 20 2)) := ⟨rfl, rfl, rfl, by decide +kernel, rfl, by decide +kernel, by decide +kernel⟩
theorem ok_number_Q (T : Tx K mg) : OkM P w K mg base 3 "Ground" "number" ["self", "n", "d"] (sNum K 0 (rQ K) qNum) := by
  refine okS T.f_Ground_number sc_GN (fun Rs R h => by obtain ⟨_, _, rfl, _⟩ := h; rfl) fun cdv A outer s H E Rs R hr h => ?_
  obtain ⟨i, z, rfl, rfl, h⟩ := h
  have hb : i.natAbs < 2 ^ 1000 := pow_le_1000 (big200 (qnum_abs h)) (by decide)
  exact jss_ifT (Nx' := fun _ => False) (JT.eq (jt_eq rfl (je_gp T.c_Ground T.a_Ground_p (je_var 0)) je_int) (by rfl)) (jss_ret (je_make T.k_Ratio (ok_Ratio_init T) hr (by rfl) T.g_Ratio T.b_Ratio_init pass0 (ja_cons (je_var 1) (ja_cons (je_var 2) ja_nil)) ⟨_, _, z, rfl, rfl, ratIn_num hb h⟩)) fun _ z => z.elim
theorem powM_one {p : Nat} (hp : 2 ≤ p) : ∀ k, powM p 1 k = 1
  | 0 => rfl
  | k + 1 => by
    show (powM p 1 k * 1) % p = 1
    rw [powM_one hp k]
    exact Nat.mod_eq_of_lt (by omega)
theorem pNum_mod {p : Nat} {i : Int} {z : Nat} (hp : 2 ≤ p) (h : pNum p i = some z) : (z : Int) = i % (p : Int) := by
  unfold pNum at h
  cases i with
  | ofNat n =>
    obtain rfl : n % p = z := Option.some.inj h
    simp
  | negSucc n =>
    obtain rfl : p - 1 - n % p = z := Option.some.inj h
    have h2 : n % p < p := Nat.mod_lt _ (by omega)
    rw [Int.negSucc_emod n (show (0 : Int) < p by omega)]
    omega
theorem ok_number_P (T : Tx K mg) (hp : Pr p) : OkM P w K mg base 7 "Ground" "number" ["self", "n", "d"] (sNum K p (rP K p) (pNum p)) := by
  refine okS T.f_Ground_number sc_GN (fun Rs R h => by obtain ⟨_, _, rfl, _⟩ := h; rfl) fun cdv A outer s H E Rs R hr h => ?_
  obtain ⟨i, z, rfl, rfl, h⟩ := h
  have hlo := hp.lo
  have hz := pNum_mod hlo h
  have zlt := emod_lt hlo hz
  have e1 : (1 : Int) % (p : Int) = 1 := Int.emod_eq_of_lt (by omega) (by omega)
  refine jss_skip (JT.eq (jt_eq rfl (je_gp T.c_Ground T.a_Ground_p (je_var 0)) je_int) (dec0 (by omega))) ?_
  refine jss_skip (JT.eq (jt_eq rfl (je_modL (je_var 2) (je_gp T.c_Ground T.a_Ground_p (je_var 0)) (by omega)) je_int) (dec0 (by rw [e1]; decide))) ?_
  have hov : pOver p z 1 = some z := by
    show bnd (some (powM p 1 (p - 2))) (pMul p z) = some z
    rw [powM_one hlo]
    show some ((z * 1) % p) = some z
    rw [Nat.mul_one, Nat.mod_eq_of_lt zlt]
  exact jss_ret (je_meth (je_make T.k_Residue (ok_Residue_init T hp) (hr.mono (by decide)) (by rfl) T.g_Residue T.b_Residue_init pass0 (ja_cons (je_gp T.c_Ground T.a_Ground_p (je_var 0)) (ja_cons (je_var 1) ja_nil)) ⟨_, _, rfl, rfl, hz⟩) T.c_Residue (rP_recv rfl) T.m_Residue_over (ok_Residue_over T hp) hr T.b_Residue_over pass0
    (ja_cons (je_make T.k_Residue (ok_Residue_init T hp) (hr.mono (by decide)) (by rfl) T.g_Residue T.b_Residue_init pass0 (ja_cons (je_gp T.c_Ground T.a_Ground_p (je_var 0)) (ja_cons (je_var 2) ja_nil)) ⟨_, 1, rfl, rfl, by rw [e1]; rfl⟩) ja_nil) ⟨z, 1, z, rfl, rfl, hov⟩)
theorem sc_GM : FnScope ["self", "value"] ["self", "value"] (defScope (clS 20 5)) := ⟨rfl, rfl, rfl, by decide +kernel, rfl, by decide +kernel, by decide +kernel⟩
theorem ok_mem_Q (T : Tx K mg) : OkM P w K mg base 1 "Ground" "is_member" ["self", "value"] (sMem K 0 (rQ K)) := by
  refine okS T.f_Ground_is_member sc_GM (fun Rs R h => by obtain ⟨_, rfl, _⟩ := h; rfl) fun cdv A outer s H E Rs R hr h => ?_
  obtain ⟨z, rfl, rfl⟩ := h
  exact jss_ifT (Nx' := fun _ => False) (JT.eq (jt_eq rfl (je_gp T.c_Ground T.a_Ground_p (je_var 0)) je_int) (by rfl)) (jss_ret (je_isi (by rfl) T.n_isinstance (je_var 1) (hasT_ins T.i_Ratio.1 rQ_isI) (je_glob (by rfl) T.g_Ratio (v := .ref _) rfl) (.own _) T.i_Ratio.1.me)) fun _ z => z.elim
theorem ok_mem_P (T : Tx K mg) (hp : Pr p) : OkM P w K mg base 1 "Ground" "is_member" ["self", "value"] (sMem K p (rP K p)) := by
  refine okS T.f_Ground_is_member sc_GM (fun Rs R h => by obtain ⟨_, rfl, _⟩ := h; rfl) fun cdv A outer s H E Rs R hr h => ?_
  obtain ⟨z, rfl, rfl⟩ := h
  have hlo := hp.lo
  refine jss_skip (JT.eq (jt_eq rfl (je_gp T.c_Ground T.a_Ground_p (je_var 0)) je_int) (dec0 (by omega))) ?_
  refine jss_ret (JE.sub (je_and (k := true) (je_isi (by rfl) T.n_isinstance (je_var 1) (hasT_ins T.i_Residue.1 rP_isI) (je_glob (by rfl) T.g_Residue (v := .ref _) rfl) (.own _) T.i_Residue.1.me) fun _ => je_one (je_eq rfl (je_pp T.c_Residue T.a_Residue_p (je_var 1)) (je_gp T.c_Ground T.a_Ground_p (je_var 0)))) fun v H q => ?_)
  simpa using q
theorem allF_len {H : Hp} : ∀ {vs : List (Str × V)} {fl : Fl}, AllF vs fl H → vs.length = fl.length
  | [], [], _ => rfl
  | v :: vs, R :: Rs, h => congrArg Nat.succ (allF_len h.2.2)
  | [], _ :: _, h => h.elim
  | _ :: _, [], h => h.elim
theorem allF_lit {H H' : Hp} : ∀ {vs : List (Str × V)} {fl : Fl}, (∀ q ∈ fl, ∃ w, q.2 = rV w) → AllF vs fl H → AllF vs fl H'
  | [], [], _, _ => trivial
  | v :: vs, R :: Rs, l, h => by
    obtain ⟨w, e⟩ := l R List.mem_cons_self
    have h2 := h.2.1
    rw [e] at h2
    refine ⟨h.1, ?_, allF_lit (fun q m => l q (List.mem_cons_of_mem _ m)) h.2.2⟩
    rw [e]
    exact h2
  | [], _ :: _, _, h => h.elim
  | _ :: _, [], _, h => h.elim
theorem lit_two {a b : Str} {v w : V} : ∀ q ∈ ([(a, rV v), (b, rV w)] : Fl), ∃ u, q.2 = rV u := fun q h => by
  simp only [List.mem_cons, List.mem_nil_iff, or_false] at h
  rcases h with rfl | rfl
  · exact ⟨v, rfl⟩
  · exact ⟨w, rfl⟩
/-- the rationals -/
def numQ (T : Tx K mg) : NumK P w K mg base Fq where
  p := 0
  hp := .inl rfl
  o := Q
  rel := rQ K
  C := "Ratio"
  isI := fun z => rQ_isI
  two := fun z v H ⟨_, a, dx, fs, h1, h2, h3⟩ => ⟨a, dx, fs, h1, h2, allF_len h3⟩
  sol := fun z => inferInstance
  loc := fun z v H H' ⟨h0, a, dx, fs, h1, h2, h3⟩ e => ⟨h0, a, dx, fs, h1, (e a h1).trans h2, allF_lit lit_two h3⟩
  cl := T.c_Ratio
  sf := T.i_Ratio.2
  ic := T.i_Ratio.1
  nint := T.t_Ratio
  rz := fun z => rQ_recv rfl
  ri := fun z => rQ_recv rfl
  eqP := qEqP
  m_add := T.m_Ratio_add
  m_sub := T.m_Ratio_sub
  m_mul := T.m_Ratio_mul
  m_isz := T.m_Ratio_is_zero
  m_inv := T.m_Ratio_inverse
  m_eq := T.m_Ratio_eq
  b_add := T.b_Ratio_add
  b_sub := T.b_Ratio_sub
  b_mul := T.b_Ratio_mul
  b_isz := T.b_Ratio_is_zero
  b_inv := T.b_Ratio_inverse
  b_eq := T.b_Ratio_eq
  ok_add := (ok_Ratio_add T).mono (by decide)
  ok_sub := (ok_Ratio_sub T).mono (by decide)
  ok_mul := (ok_Ratio_mul T).mono (by decide)
  ok_isz := (ok_Ratio_is_zero T).mono (by decide)
  ok_inv := (ok_Ratio_inverse T).mono (by decide)
  ok_eq := (ok_Ratio_eq T).mono (by decide)
  ok_num := (ok_number_Q T).mono (by decide)
  ok_mem := (ok_mem_Q T).mono (by decide)
/-- the numbers modulo p -/
def numP (T : Tx K mg) (p : Nat) (hp : Pr p) : NumK P w K mg base Nat where
  p := p
  hp := .inr hp
  o := pOps p
  rel := rP K p
  C := "Residue"
  isI := fun z => rP_isI
  two := fun z v H ⟨_, a, dx, fs, h1, h2, h3⟩ => ⟨a, dx, fs, h1, h2, allF_len h3⟩
  sol := fun z => inferInstance
  loc := fun z v H H' ⟨h0, a, dx, fs, h1, h2, h3⟩ e => ⟨h0, a, dx, fs, h1, (e a h1).trans h2, allF_lit lit_two h3⟩
  cl := T.c_Residue
  sf := T.i_Residue.2
  ic := T.i_Residue.1
  nint := T.t_Residue
  rz := fun z => rP_recv rfl
  ri := fun z => rP_recv rfl
  eqP := fun x y => x = y
  m_add := T.m_Residue_add
  m_sub := T.m_Residue_sub
  m_mul := T.m_Residue_mul
  m_isz := T.m_Residue_is_zero
  m_inv := T.m_Residue_inverse
  m_eq := T.m_Residue_eq
  b_add := T.b_Residue_add
  b_sub := T.b_Residue_sub
  b_mul := T.b_Residue_mul
  b_isz := T.b_Residue_is_zero
  b_inv := T.b_Residue_inverse
  b_eq := T.b_Residue_eq
  ok_add := (ok_Residue_add T hp).mono (by decide)
  ok_sub := (ok_Residue_sub T hp).mono (by decide)
  ok_mul := (ok_Residue_mul T hp).mono (by decide)
  ok_isz := (ok_Residue_is_zero T).mono (by decide)
  ok_inv := (ok_Residue_inverse T hp).mono (by decide)
  ok_eq := (ok_Residue_eq T).mono (by decide)
  ok_num := (ok_number_P T hp).mono (by decide)
  ok_mem := (ok_mem_P T hp).mono (by decide)
end
end Sq
end
section
set_option Elab.async false
set_option linter.all false
set_option maxRecDepth 100000
set_option maxHeartbeats 4000000
namespace Sq
open PySem PySem.Spec L2
open PyProof.Rows hiding St
open Evl (Ex)
def OfX (X : Cx) (P : Program) (w : World) (K : PySem.W.Frag) (mg : Str → Option Value) (base : Heap) : Prop := X.prog = P ∧ X.w = w ∧ X.K = K ∧ X.mg = mg ∧ X.base = base
section
variable {X : Cx} {τ : Ty} {a b e : Expr} {pos apos : Pos} {α : Type}
theorem je_ixLn {Rs : List Rl} {R : Rl} {i : Int} (n : Nat) (ha : JE X a τ (rLst X.K Rs)) (hb : JE X b τ (rV (.int i))) (hi : i = (n : Int)) (hR : Rs[n]? = some R) (hs : PlainIx b := by exact fun _ _ => rfl) : JE X (.Subscript a b pos) τ R :=
  je_ixL ha hb hs (by rw [hi]; exact Evl.ixN_nat (List.getElem?_eq_some_iff.mp hR).1) hR
theorem je_ixTn {Rs : List Rl} {R : Rl} {i : Int} (n : Nat) (ha : JE X a τ (rTup X.K Rs)) (hb : JE X b τ (rV (.int i))) (hi : i = (n : Int)) (hR : Rs[n]? = some R) (hs : PlainIx b := by exact fun _ _ => rfl) : JE X (.Subscript a b pos) τ R :=
  je_ixT ha hb hs (by rw [hi]; exact Evl.ixN_nat (List.getElem?_eq_some_iff.mp hR).1) hR
theorem je_ixTlast {Rs : List Rl} {R : Rl} (ha : JE X a τ (rTup X.K Rs)) (hb : JE X b τ (rV (.int (-1)))) (hR : Rs[Rs.length - 1]? = some R) (hs : PlainIx b := by exact fun _ _ => rfl) : JE X (.Subscript a b pos) τ R :=
  je_ixT ha hb hs (k := Rs.length - 1) (by
    have := (List.getElem?_eq_some_iff.mp hR).1
    unfold ixN
    rw [if_neg (by decide), if_pos (by omega)]
    congr 1
    omega) hR
theorem je_nadd {P : Program} {w : World} {K : PySem.W.Frag} {mg : Str → Option Value} {base : Heap} {x y z : α} (N : NumK P w K mg base α) (hr : Room 6 X.A) (hx : Passes CX0 X E0) (ha : JE X a τ (N.rel x)) (hb : JE X b τ (N.rel y)) (hz : N.o.add x y = some z) (hX : OfX X P w K mg base := by exact ⟨rfl, rfl, rfl, rfl, rfl⟩) : JE X (.BinOp a .Add b pos) τ (N.rel z) := by
  obtain ⟨rfl, rfl, rfl, rfl, rfl⟩ := hX
  exact je_own N.sf N.m_add N.ok_add hr N.b_add hx (N.isI x) (N.isI y) (N.isI z).ref ⟨x, y, z, rfl, rfl, hz⟩ ha hb
theorem je_nsub {P : Program} {w : World} {K : PySem.W.Frag} {mg : Str → Option Value} {base : Heap} {x y z : α} (N : NumK P w K mg base α) (hr : Room 6 X.A) (hx : Passes CX0 X E0) (ha : JE X a τ (N.rel x)) (hb : JE X b τ (N.rel y)) (hz : N.o.sub x y = some z) (hX : OfX X P w K mg base := by exact ⟨rfl, rfl, rfl, rfl, rfl⟩) : JE X (.BinOp a .Sub b pos) τ (N.rel z) := by
  obtain ⟨rfl, rfl, rfl, rfl, rfl⟩ := hX
  exact je_own N.sf N.m_sub N.ok_sub hr N.b_sub hx (N.isI x) (N.isI y) (N.isI z).ref ⟨x, y, z, rfl, rfl, hz⟩ ha hb
theorem je_nmul {P : Program} {w : World} {K : PySem.W.Frag} {mg : Str → Option Value} {base : Heap} {x y z : α} (N : NumK P w K mg base α) (hr : Room 6 X.A) (hx : Passes CX0 X E0) (ha : JE X a τ (N.rel x)) (hb : JE X b τ (N.rel y)) (hz : N.o.mul x y = some z) (hX : OfX X P w K mg base := by exact ⟨rfl, rfl, rfl, rfl, rfl⟩) : JE X (.BinOp a .Mult b pos) τ (N.rel z) := by
  obtain ⟨rfl, rfl, rfl, rfl, rfl⟩ := hX
  exact je_own N.sf N.m_mul N.ok_mul hr N.b_mul hx (N.isI x) (N.isI y) (N.isI z).ref ⟨x, y, z, rfl, rfl, hz⟩ ha hb
end
section
variable {P : Program} {w : World} {K : PySem.W.Frag} {mg : Str → Option Value} {base : Heap} {α : Type}
theorem rel_ref (N : NumK P w K mg base α) {z : α} : IsRef (N.rel z) := (N.isI z).ref
/-! ### Ground.zero -/
def sZero (K : PySem.W.Frag) (N : NumK P w K mg base α) : Sg := fun Rs R => ∃ z, Rs = [rGr K N.p] ∧ R = N.rel z ∧ N.o.num 0 = some z
theorem sc_GZ : FnScope ["self"] ["self"] (defScope (clS 20 3)) := ⟨rfl, rfl, rfl, by decide +kernel, rfl, by decide +kernel, by decide +kernel⟩
theorem dfl_v {v : V} : DflR [v] [rV v] := fun _ => ⟨rfl, trivial⟩
theorem ok_Ground_zero (T : Tx K mg) (N : NumK P w K mg base α) : OkM P w K mg base 9 "Ground" "zero" ["self"] (sZero K N) := by
  refine okS T.f_Ground_zero sc_GZ (fun Rs R h => by obtain ⟨_, rfl, _⟩ := h; rfl) fun cdv A outer s H E Rs R hr h => ?_
  obtain ⟨z, rfl, rfl, hz⟩ := h
  obtain ⟨ds, hd, hb⟩ := T.bd_Ground_number
  exact jss_ret (je_methD (je_var 0) T.c_Ground (rGr_recv (by decide)) T.m_Ground_number N.ok_num hr hb hd pass0 dfl_v (ja_cons je_int ja_nil) ⟨0, z, rfl, rfl, hz⟩)
/-! ### taken -/
/-- an item of a row: a number of the ground, or an integer -/
inductive Item (α : Type) where
  | int (i : Int)
  | num (z : α)
def Item.rl (N : NumK P w K mg base α) : Item α → Rl
  | .int i => rV (.int i)
  | .num z => N.rel z
def Item.val (o : Ops α) : Item α → Option α
  | .int i => o.num i
  | .num z => some z
def sTaken (K : PySem.W.Frag) (N : NumK P w K mg base α) : Sg := fun Rs R => ∃ it z, Rs = [rGr K N.p, Item.rl N it] ∧ R = N.rel z ∧ it.val N.o = some z
theorem sc_taken : FnScope ["ground", "item"] ["ground", "item"] (defScope (topS 21)) := ⟨rfl, rfl, rfl, by decide +kernel, rfl, by decide +kernel, by decide +kernel⟩
theorem ok_taken (T : Tx K mg) (N : NumK P w K mg base α) : OkG P w K mg base 9 "taken" ["ground", "item"] (sTaken K N) := by
  refine okS T.f_taken sc_taken (fun Rs R h => by obtain ⟨_, _, rfl, _⟩ := h; rfl) fun cdv A outer s H E Rs R hr h => ?_
  obtain ⟨it, z, rfl, rfl, hz⟩ := h
  obtain ⟨ds, hd, hb⟩ := T.bd_Ground_number
  cases it with
  | int i =>
    refine jss_ifT (Nx' := fun _ => False) (jt_val (je_call (ok_is_integer T) (hr.mono (by decide)) (by rfl) T.g_is_integer T.f_is_integer.kp T.b_is_integer pass0 (ja_cons (je_var 1 (R := rV (.int i))) ja_nil) isInt_int)) ?_ fun _ z => z.elim
    exact jss_ret (je_methD (je_var 0) T.c_Ground (rGr_recv (by decide)) T.m_Ground_number N.ok_num hr hb hd pass0 dfl_v (ja_cons (je_var 1 (R := rV (.int i))) ja_nil) ⟨i, z, rfl, rfl, hz⟩)
  | num y =>
    obtain rfl : y = z := Option.some.inj hz
    refine jss_skip (jt_val (je_call (ok_is_integer T) (hr.mono (by decide)) (by rfl) T.g_is_integer T.f_is_integer.kp T.b_is_integer pass0 (ja_cons (je_var 1 (R := N.rel y)) ja_nil) ⟨_, _, false, rfl, rfl, hasT_ins N.ic (N.isI y), N.nint, fun e => nomatch e⟩)) ?_
    refine jss_ifT (Nx' := fun _ => False) (jt_val (je_meth (je_var 0) T.c_Ground (rGr_recv (by decide)) T.m_Ground_is_member N.ok_mem hr T.b_Ground_is_member pass0 (ja_cons (je_var 1 (R := N.rel y)) ja_nil) ⟨y, rfl, rfl⟩)) ?_ fun _ z => z.elim
    exact jss_ret (je_var 1 (R := N.rel y))
/-! ### trimmed -/
def sTrim (K : PySem.W.Frag) (N : NumK P w K mg base α) : Sg := fun Rs R => ∃ l : List α, Rs = [rLst K (l.map N.rel)] ∧ R = rTup K ((trim N.o l).map N.rel) ∧ l.length ≤ 1000
theorem sc_trimmed : FnScope ["row", "size"] ["row"] (defScope (topS 23)) := ⟨rfl, rfl, rfl, by decide +kernel, rfl, by decide +kernel, by decide +kernel⟩
theorem trim_take {o : Ops α} {l : List α} {n : Nat} {x : α} (h : l[n]? = some x) : trim o (l.take (n + 1)) = if o.isZ x then trim o (l.take n) else l.take (n + 1) := by
  have e : l.take (n + 1) = l.take n ++ [x] := by rw [List.take_succ, h]; rfl
  rw [e]
  by_cases q : o.isZ x = true
  · rw [if_pos q, trim_snoc_z _ q]
  · rw [if_neg q, trim_snoc_n _ (Bool.eq_false_iff.mpr q)]
theorem ok_trimmed (T : Tx K mg) (N : NumK P w K mg base α) : OkG P w K mg base 7 "trimmed" ["row"] (sTrim K N) := by
  refine okS T.f_trimmed sc_trimmed (fun Rs R h => by obtain ⟨_, rfl, _⟩ := h; rfl) fun cdv A outer s H E Rs R hr h => ?_
  obtain ⟨l, rfl, rfl, hl⟩ := h
  refine jss_set 1 sc_trimmed.nd (je_lenL (by rfl) T.n_len (je_var 0)) ?_
  rw [List.length_map]
  refine jss_while (fun n τ' => n ≤ l.length ∧ trim N.o (l.take n) = trim N.o l ∧ τ' = [some (rLst K (l.map N.rel)), some (rV (.int (n : Int)))]) PassesOwn.never ⟨l.length, Nat.le_refl _, by rw [List.take_length], rfl⟩ ?_
  rintro n τ' ⟨hn, ht, rfl⟩
  have fin : trim N.o l = l.take n → JSs (cx0 P w K mg base ["row", "size"] "trimmed" (defScope (topS 23)) (aG K "trimmed") cdv A outer s H E) ((defBody (topS 23)).drop 2) [some (rLst K (l.map N.rel)), some (rV (.int (n : Int)))] (fun _ => rTup K ((trim N.o l).map N.rel) = rNone) (rTup K ((trim N.o l).map N.rel)) := fun e => by
    rw [e, List.map_take]
    exact jss_ret (je_tupleL (by rfl) T.n_tuple (je_takeL (je_var 0) (je_var 1)))
  cases n with
  | zero =>
    refine .inr ⟨JT.eq (JW.jt (jw_and (k := false) (l := true) (JT.eq (jt_gt (je_var 1) je_int) (decide_eq_false (by omega))) fun e => nomatch e)) rfl, fin ?_⟩
    rw [← ht]
    rfl
  | succ n =>
    have hx : l[n]? = some l[n] := List.getElem?_eq_getElem (by omega)
    have hm : (l.map N.rel)[n]? = some (N.rel l[n]) := by rw [List.getElem?_map, hx]; rfl
    have tt := trim_take (o := N.o) hx
    rw [ht] at tt
    cases hz : N.o.isZ l[n] with
    | true =>
      rw [hz, if_pos rfl] at tt
      refine .inl ⟨JT.eq (JW.jt (jw_and (k := true) (l := N.o.isZ l[n]) (JT.eq (jt_gt (je_var 1) je_int) (decide_eq_true (by omega))) fun _ => jw_and1 (jt_val (je_meth0 (je_ixLn n (je_var 0) (je_sub (je_var 1) je_int) (by omega) hm) N.cl (N.rz _) N.m_isz N.ok_isz hr N.b_isz pass0 ⟨_, rfl, rfl⟩)))) (by rw [hz]; rfl), ?_⟩
      refine jss_set 1 sc_trimmed.nd (je_sub (je_var 1) je_int) (jss_nil ⟨n, by omega, by omega, tt.symm, ?_⟩)
      show [some (rLst K (l.map N.rel)), some (rV (.int (((n + 1 : Nat) : Int) - 1)))] = _
      rw [show (((n + 1 : Nat) : Int) - 1) = n by omega]
    | false =>
      rw [hz, if_neg Bool.false_ne_true] at tt
      exact .inr ⟨JT.eq (JW.jt (jw_and (k := true) (l := N.o.isZ l[n]) (JT.eq (jt_gt (je_var 1) je_int) (decide_eq_true (by omega))) fun _ => jw_and1 (jt_val (je_meth0 (je_ixLn n (je_var 0) (je_sub (je_var 1) je_int) (by omega) hm) N.cl (N.rz _) N.m_isz N.ok_isz hr N.b_isz pass0 ⟨_, rfl, rfl⟩)))) (by rw [hz]; rfl), fin tt⟩
end
end Sq
end
section
set_option Elab.async false
set_option linter.all false
set_option maxRecDepth 100000
set_option maxHeartbeats 4000000
namespace Sq
open PySem PySem.Spec L2
open PyProof.Rows hiding St
open Evl (Ex)
section
variable {P : Program} {w : World} {K : PySem.W.Frag} {mg : Str → Option Value} {base : Heap} {α : Type}
section
variable {X : Cx} {τ : Ty} {a b : Expr} {pos p : Pos}
theorem JI.eq {tg iter : Expr} {Rs Rs' : List Rl} (h : JI X tg iter τ Rs) (e : Rs = Rs') : JI X tg iter τ Rs' := e ▸ h
theorem je_max {i j m : Int} (hc : X.calm = true) (hg : Gl X "max") (hm : X.mg "max" = none) (ha : JE X a τ (rV (.int i))) (hb : JE X b τ (rV (.int j))) (e : (if j > i then j else i) = m)
    (h1 : starEach [a, b] X.env = (false, eval a X.env) :: starEach [b] X.env := by rfl) (h2 : starEach [b] X.env = (false, eval b X.env) :: starEach [] X.env := by rfl) (hpl : (backTo pos (starEach [b] X.env)).any (·.1) = false := by rfl) :
    JE X (.Call (.Name "max" p) [a, b] [] pos) τ (rV (.int m)) := by
  subst e
  exact je_minmax (g := fun i j => if j > i then j else i) (call_max2 hc) hg hm (by decide +kernel) ha hb (by decide) (by decide) h1 h2 hpl
theorem je_min {i j m : Int} (hc : X.calm = true) (hg : Gl X "min") (hm : X.mg "min" = none) (ha : JE X a τ (rV (.int i))) (hb : JE X b τ (rV (.int j))) (e : (if j < i then j else i) = m)
    (h1 : starEach [a, b] X.env = (false, eval a X.env) :: starEach [b] X.env := by rfl) (h2 : starEach [b] X.env = (false, eval b X.env) :: starEach [] X.env := by rfl) (hpl : (backTo pos (starEach [b] X.env)).any (·.1) = false := by rfl) :
    JE X (.Call (.Name "min" p) [a, b] [] pos) τ (rV (.int m)) := by
  subst e
  exact je_minmax (g := fun i j => if j < i then j else i) (call_min2 hc) hg hm (by decide +kernel) ha hb (by decide) (by decide) h1 h2 hpl
end
/-! ### product_row -/
def sProd (K : PySem.W.Frag) (N : NumK P w K mg base α) : Sg := fun Rs R => ∃ f g l : List α, Rs = [rGr K N.p, rTup K (f.map N.rel), rTup K (g.map N.rel)] ∧ R = rLst K (l.map N.rel) ∧ prodO N.o f g = some l ∧ f.length ≤ 40 ∧ g.length ≤ 40
theorem sc_prod : FnScope ["ground", "a", "b", "found", "k", "total", "i"] ["ground", "a", "b"] (defScope (topS 25)) := ⟨rfl, rfl, rfl, by decide +kernel, rfl, by decide +kernel, by decide +kernel⟩
theorem solT_nil : SolT [] := fun i R e => by simp at e
theorem solT_v {τ : Ty} {R : Rl} [s : Solid R] (h : SolT τ) : SolT (some R :: τ) := fun i R' e => by
  cases i with
  | zero =>
    cases e
    exact s
  | succ i => exact h i R' e
theorem solT_n {τ : Ty} (h : SolT τ) : SolT (none :: τ) := fun i R' e => by
  cases i with
  | zero => cases e
  | succ i => exact h i R' e
theorem solT_o {τ : Ty} {o : Option Rl} (ho : ∀ R, o = some R → Solid R) (h : SolT τ) : SolT (o :: τ) := fun i R' e => by
  cases i with
  | zero => exact ho R' (Option.some.inj e)
  | succ i => exact h i R' e
theorem map_at {f : List α} {g : α → Rl} {i : Nat} {x : α} (h : nth f i = some x) : (f.map g)[i]? = some (g x) := by
  rw [nth_eq] at h
  rw [List.getElem?_map, h]
  rfl
theorem ok_product_row (T : Tx K mg) (N : NumK P w K mg base α) : OkG P w K mg base 10 "product_row" ["ground", "a", "b"] (sProd K N) := by
  have solN : ∀ z, Solid (N.rel z) := N.sol
  refine okS T.f_product_row sc_prod (fun Rs R h => by obtain ⟨_, _, _, rfl, _⟩ := h; rfl) fun cdv A outer s H E Rs R hr h => ?_
  obtain ⟨f, g, l, rfl, rfl, hl, hf, hg⟩ := h
  have hl : tab (convO N.o f g) (f.length + g.length - 1) 0 = some l := by
    have := hl
    unfold prodO at this
    rw [len_eq, len_eq] at this
    exact this
  obtain ⟨ll, lk⟩ := tab_some hl
  refine jso_start 3 sc_prod.nd fun D => ?_
  refine jso_for 4 (n := ((f.length : Int) + g.length - 1).toNat) (lo := 0) (st := 1) (C' := [[]]) (fun k τ' C' => k ≤ l.length ∧ (∃ o1 o2 o3, (∀ R, o3 = some R → Solid R) ∧ τ' = [some (rGr K N.p), some (rTup K (f.map N.rel)), some (rTup K (g.map N.rel)), some (rV (.ref D)), o1, o2, o3]) ∧ C' = [(l.take k).map N.rel]) PassesOwn.never rfl
    (jio_range1 (by rfl) T.n_range (jeo_je (je_sub (je_add (JE.sub (je_lenT (by rfl) T.n_len (je_var 1)) fun v H q => by rw [List.length_map] at q; exact q) (JE.sub (je_lenT (by rfl) T.n_len (je_var 2)) fun v H q => by rw [List.length_map] at q; exact q)) je_int)) (by omega)) (pg_name (i := 4) sc_prod.nd rfl (.inl rfl)) ⟨Nat.zero_le _, ⟨none, none, none, fun _ e => (nomatch e), rfl⟩, rfl⟩ ?_ ?_
  · rintro k τ' C' hk ⟨_, ⟨o1, o2, o3, ho3, rfl⟩, rfl⟩
    have hkl : k < l.length := by rw [ll]; omega
    have hy : l[k]? = some l[k] := List.getElem?_eq_getElem hkl
    generalize l[k] = y at hy
    have hc := lk k y hy
    rw [Nat.zero_add] at hc
    unfold convO at hc
    obtain ⟨z, hz, hs⟩ := bnd_some hc
    rw [len_eq, len_eq, minN_eq] at hs
    -- from, count
    generalize es : Nat.sub (Nat.succ k) g.length = st at hs
    generalize en : Nat.sub (min (Nat.succ k) f.length) st = n at hs
    have es' : st = k + 1 - g.length := es.symm
    have en' : n = min (k + 1) f.length - st := en.symm
    show JSO _ _ _ [some (rGr K N.p), some (rTup K (f.map N.rel)), some (rTup K (g.map N.rel)), some (rV (.ref D)), some (rV (.int (0 + (k : Int) * 1))), o2, o3] _ _ _
    rw [show (0 + (k : Int) * 1) = (k : Int) by omega]
    refine jso_set 5 sc_prod.nd (jeo_je (R := N.rel z) (je_meth0 (je_var 0) T.c_Ground (rGr_recv (by decide)) T.m_Ground_zero (ok_Ground_zero T N) hr T.b_Ground_zero pass0 ⟨z, rfl, rfl, hz⟩)) ?_
    refine jso_forT (Rs := rgI (st : Int) 1 n) 6 (fun j τ' => ∃ t o, (∀ R, o = some R → Solid R) ∧ j ≤ n ∧ sumO N.o f g k (n - j) (st + j) t = some y ∧ τ' = [some (rGr K N.p), some (rTup K (f.map N.rel)), some (rTup K (g.map N.rel)), some (rV (.ref D)), some (rV (.int (k : Int))), some (N.rel t), o]) PassesOwn.never rfl
      ?_ (pg_name (i := 6) sc_prod.nd rfl (.inl rfl)) ⟨z, o3, ho3, Nat.zero_le _, hs, rfl⟩ ?_ ?_
    · refine JI.eq (ji_range2 (i := (st : Int)) (j := (min (k + 1) f.length : Nat)) (by rfl) T.n_range
        (je_max (i := 0) (j := (k : Int) - g.length + 1) rfl (by rfl) T.n_max je_int (je_add (je_sub (je_var 4) (JE.sub (je_lenT (by rfl) T.n_len (je_var 2)) fun v H q => by rw [List.length_map] at q; exact q)) je_int) (by split <;> omega))
        (je_min (i := (k : Int) + 1) (j := (f.length : Int)) rfl (by rfl) T.n_min (je_add (je_var 4) je_int) (JE.sub (je_lenT (by rfl) T.n_len (je_var 1)) fun v H q => by rw [List.length_map] at q; exact q) (by split <;> omega))
        (by omega) (by omega)) ?_
      congr 1
      omega
    · rintro j R τ' hR ⟨t, o, ho, hj, hs, rfl⟩
      obtain ⟨hjn, rfl⟩ := rgI_get hR
      obtain ⟨m, hm⟩ : ∃ m, n - j = m + 1 := ⟨n - j - 1, by omega⟩
      rw [hm] at hs
      obtain ⟨x1, hx1, hs⟩ := bnd_some (show bnd (nth f (st + j)) _ = some y from hs)
      obtain ⟨x2, hx2, hs⟩ := bnd_some hs
      obtain ⟨mm, hmm, hs⟩ := bnd_some hs
      obtain ⟨t', ht', hs⟩ := bnd_some hs
      show JSs _ _ [some (rGr K N.p), some (rTup K (f.map N.rel)), some (rTup K (g.map N.rel)), some (rV (.ref D)), some (rV (.int (k : Int))), some (N.rel t), some (rV (.int ((st : Int) + (j : Int) * 1)))] _ _
      refine jss_set 5 sc_prod.nd (R := N.rel t') (je_nadd N (hr.mono (by decide)) pass0 (je_var 5) (je_nmul N (hr.mono (by decide)) pass0 (je_ixTn (st + j) (je_var 1) (je_var 6) (by omega) (map_at hx1)) (je_ixTn (k - (st + j)) (je_var 2) (je_sub (je_var 4) (je_var 6)) (by omega) (map_at hx2)) hmm) ht') (jss_nil ⟨t', _, fun R e => by cases e; infer_instance, by omega, ?_, rfl⟩)
      rw [show n - (j + 1) = m by omega]
      exact hs
    · rintro τ' ⟨t, o, ho, hj, hs, rfl⟩
      rw [rgI_len] at hs
      rw [Nat.sub_self] at hs
      obtain rfl : t = y := Option.some.inj hs
      refine ⟨solT_v (solT_v (solT_v (solT_v (solT_v (solT_v (solT_o ho solT_nil)))))), ?_⟩
      refine jso_append 3 0 (l := D) (by simp) (je_var 3) (jeo_je (je_var 5)) rfl rfl (by rw [List.length_map, List.length_take]; omega) (jso_nil ⟨by omega, ⟨_, _, _, ho, rfl⟩, ?_⟩)
      show [(l.take k).map N.rel ++ [N.rel t]] = [(l.take (k + 1)).map N.rel]
      rw [List.take_succ, hy, List.map_append]
      rfl
  · rintro τ' C' ⟨hk, ⟨o1, o2, o3, ho3, rfl⟩, rfl⟩
    refine jso_retL (l := D) 3 0 rfl rfl rfl (hRt := fun vs H q1 q2 => ⟨D, vs, rfl, SqL.of q1, ?_⟩)
    rw [List.take_of_length_le (by omega)] at q2
    exact q2
end
end Sq
end
section
set_option Elab.async false
set_option linter.all false
set_option maxRecDepth 100000
set_option maxHeartbeats 4000000
namespace Sq
open PySem PySem.Spec L2
open PyProof.Rows hiding St
open Evl (Ex)
section
variable {P : Program} {w : World} {K : PySem.W.Frag} {mg : Str → Option Value} {base : Heap} {α : Type}
/-! ### division -/
def sDiv (K : PySem.W.Frag) (N : NumK P w K mg base α) : Sg := fun Rs R => ∃ f g q r : List α, Rs = [rGr K N.p, rTup K (f.map N.rel), rTup K (g.map N.rel)] ∧ R = rTup K [rTup K (q.map N.rel), rTup K (r.map N.rel)] ∧ divO N.o f g = some (q, r) ∧ f.length ≤ 40 ∧ g.length ≤ 40
theorem sc_div : FnScope ["ground", "a", "b", "rest", "head", "quotient", "k", "factor", "i"] ["ground", "a", "b"] (defScope (topS 26)) := ⟨rfl, rfl, rfl, by decide +kernel, rfl, by decide +kernel, by decide +kernel⟩
theorem last_at {f : List α} {g : α → Rl} {x : α} (h : lastO f = some x) : (f.map g)[(f.map g).length - 1]? = some (g x) := by
  rw [lastO_eq] at h
  rw [List.getElem?_map, List.length_map, h]
  rfl
theorem je_lenM {X : Cx} {τ : Ty} {e : Expr} {pos p : Pos} {f : List α} {g : α → Rl} (hg : Gl X "len") (hm : X.mg "len" = none) (ha : JE X e τ (rTup X.K (f.map g))) (he : starEach (e :: []) X.env = (false, eval e X.env) :: starEach [] X.env := by rfl) (hpl : (backTo pos (starEach [] X.env)).any (·.1) = false := by rfl) :
    JE X (.Call (.Name "len" p) [e] [] pos) τ (rV (.int (f.length : Int))) := (je_lenT hg hm ha he hpl).sub fun v H q => by rw [List.length_map] at q; exact q
theorem ok_division (T : Tx K mg) (N : NumK P w K mg base α) : OkG P w K mg base 10 "division" ["ground", "a", "b"] (sDiv K N) := by
  have solN : ∀ z, Solid (N.rel z) := N.sol
  refine okS T.f_division sc_div (fun Rs R h => by obtain ⟨_, _, _, _, rfl, _⟩ := h; rfl) fun cdv A outer s H E Rs R hr h => ?_
  obtain ⟨f, g, q, r, rfl, rfl, hd, hf, hg⟩ := h
  obtain ⟨l, hl, hd⟩ := bnd_some (show bnd (lastO g) _ = some (q, r) from hd)
  obtain ⟨h, hh, hd⟩ := bnd_some hd
  rw [len_eq, len_eq] at hd
  have hg0 : g.length ≠ 0 := fun e => by
    rw [List.length_eq_zero_iff.mp e] at hl
    cases hl
  refine jss_skip (JT.eq (jt_eq rfl (je_lenM (by rfl) T.n_len (je_var 2)) je_int) (dec0 (by omega))) ?_
  refine jss_set 3 sc_div.nd (je_tupleT (by rfl) T.n_tuple (je_var 1)) ?_
  refine jss_set 4 sc_div.nd (R := N.rel h) (je_meth0 (je_ixTlast (je_var 2) (je_neg je_int) (last_at hl)) N.cl (N.ri _) N.m_inv N.ok_inv (hr.mono (by decide)) N.b_inv pass0 ⟨l, h, rfl, rfl, hh⟩) ?_
  refine jss_set 5 sc_div.nd (R := rTup K []) (je_tup ja_nil (by decide)) ?_
  generalize en : Nat.sub (Nat.succ f.length) g.length = n at hd
  have en' : n = f.length + 1 - g.length := en.symm
  refine jss_for (Rs := rgI ((f.length : Int) - g.length) (-1) n) 6 (fun j τ' => ∃ qq rr o7, j ≤ n ∧ qq.length = j ∧ divL N.o h g (n - j) qq rr = some (q, r) ∧ τ' = [some (rGr K N.p), some (rTup K (f.map N.rel)), some (rTup K (g.map N.rel)), some (rTup K (rr.map N.rel)), some (N.rel h), some (rTup K (qq.map N.rel)), (if j = 0 then none else some (rV (.int ((f.length : Int) - g.length + 1 - j)))), o7, none]) PassesOwn.never rfl
    ?_ (pg_name (i := 6) sc_div.nd rfl (.inr rfl)) ⟨[], f, none, Nat.zero_le _, rfl, hd, rfl⟩ ?_ ?_
  · refine JI.eq (ji_range3 (by rfl) T.n_range (ja_cons (je_sub (je_lenM (by rfl) T.n_len (je_var 1)) (je_lenM (by rfl) T.n_len (je_var 2))) (ja_cons (je_neg je_int) (ja_cons (je_neg je_int) ja_nil))) (RgC.neg (by omega) (by omega) (by decide) (by decide))) ?_
    congr 1
    omega
  · rintro j R τ' hR ⟨qq, rr, o7, hj, hq, hs, rfl⟩
    obtain ⟨hjn, rfl⟩ := rgI_get hR
    obtain ⟨k, hk⟩ : ∃ k, n - j = k + 1 := ⟨n - j - 1, by omega⟩
    rw [hk] at hs
    obtain ⟨x, hx, hs⟩ := bnd_some (show bnd (lastO rr) _ = some (q, r) from hs)
    obtain ⟨y, hy, hs⟩ := bnd_some hs
    obtain ⟨t, ht, hs⟩ := bnd_some hs
    have ht' : tab (fun i => bnd (nth rr (Nat.add k i)) fun x => bnd (nth g i) fun z => bnd (N.o.mul y z) fun m => N.o.sub x m) (g.length - 1) 0 = some t := by
      have := ht
      unfold restO at this
      rw [len_eq] at this
      exact this
    obtain ⟨tl, tk⟩ := tab_some ht'
    have ek : (f.length : Int) - g.length + (j : Int) * (-1) = (k : Int) := by omega
    rw [ek]
    show JSs _ _ [some (rGr K N.p), some (rTup K (f.map N.rel)), some (rTup K (g.map N.rel)), some (rTup K (rr.map N.rel)), some (N.rel h), some (rTup K (qq.map N.rel)), some (rV (.int (k : Int))), o7, none] _ _
    refine jss_set 7 sc_div.nd (R := N.rel y) (je_nmul N (hr.mono (by decide)) pass0 (je_ixTlast (je_var 3) (je_neg je_int) (last_at hx)) (je_var 4) hy) ?_
    refine jss_set 5 sc_div.nd (R := rTup K (N.rel y :: qq.map N.rel)) (je_catT (Rs := [N.rel y]) (je_tup (ja_cons (je_var 7) ja_nil) (by show 1 ≤ 1000; decide)) (je_var 5) (by rw [List.length_map]; show 1 + _ ≤ _; omega)) ?_
    refine jss_set 3 sc_div.nd (R := rTup K ((rr.map N.rel).take k ++ t.map N.rel)) (je_catT (je_takeT (je_var 3) (je_var 6)) (je_tupleL (by rfl) T.n_tuple (je_lc (Rs := rgI 0 1 (g.length - 1)) (j := 8) rfl sc_div.nd
      (JI.eq (ji_range1 (by rfl) T.n_range (je_sub (je_lenM (by rfl) T.n_len (je_var 2)) je_int) (by omega)) (by congr 1; omega)) (blkOk_by (show blkC ["ground", "a", "b", "rest", "head", "quotient", "k", "factor", "i"] (defScope (topS 26)) _ _ = true by decide +kernel)) (fun _ _ _ _ _ => pg_name (i := 8) sc_div.nd rfl (.inl rfl)) (fun s0 H0 C cl fp i R R' hR hR' => ?el) (fun R hR => ?so) ?hl (by rw [rgI_len]; omega))) ?sz) (jss_nil ⟨y :: qq, app (takeL rr k) t, some (N.rel y), by omega, by rw [List.length_cons, hq], ?_, ?_⟩)
    case el =>
      obtain ⟨hi, rfl⟩ := rgI_get hR
      rw [List.getElem?_map] at hR'
      cases e : t[i]? with
      | none => rw [e] at hR'; cases hR'
      | some z =>
        rw [e] at hR'
        cases hR'
        obtain ⟨x1, h1, h2⟩ := bnd_some (tk i z e)
        obtain ⟨x2, h3, h2⟩ := bnd_some h2
        obtain ⟨x3, h4, h2⟩ := bnd_some h2
        rw [Nat.zero_add] at h1 h3
        exact je_nsub N (hr.mono (by decide)) pass0 (je_ixTn (k + i) (je_var 3) (je_add (je_var 6) (je_var 8)) (by omega) (map_at h1)) (je_nmul N (hr.mono (by decide)) pass0 (je_var 7) (je_ixTn i (je_var 2) (je_var 8) (by omega) (map_at h3)) h4) h2
    case so =>
      obtain ⟨a, _, rfl⟩ := List.mem_map.mp hR
      infer_instance
    case hl => rw [List.length_map, rgI_len, tl]
    case sz => rw [List.length_take, List.length_map, List.length_map]; omega
    · rw [show n - (j + 1) = k by omega]
      exact hs
    · rw [app_eq, takeL_eq, List.map_append, List.map_take, if_neg (by omega)]
      rw [show (f.length : Int) - g.length + 1 - ((j + 1 : Nat) : Int) = (k : Int) by omega]
      rfl
  · rintro τ' ⟨qq, rr, o7, hj, hq, hs, rfl⟩
    rw [rgI_len] at hs
    rw [Nat.sub_self] at hs
    cases hs
    exact jss_ret (je_tup (ja_cons (je_var 5) (ja_cons (je_var 3) ja_nil)) (by show 2 ≤ 1000; decide))
end
end Sq
end
section
set_option Elab.async false
set_option linter.all false
set_option maxRecDepth 100000
set_option maxHeartbeats 4000000
namespace Sq
open PySem PySem.Spec L2
open PyProof.Rows hiding St
open Evl (Ex)
section
variable {P : Program} {w : World} {K : PySem.W.Frag} {mg : Str → Option Value} {base : Heap} {α : Type}
theorem sss_fld {X : Cx} {τ : Ty} {R : Rl} {e o : Expr} {pos pos' : Pos} {f : Str} {rest : List Stmt} {D : Ends} {σ : L2.St} {H : Hp} {p C dx : Addr} {H0 : Hp} {fs : List (Str × V)} (c : Cls X.K C) (n : NoAttr X.K C f) (t : Typ σ τ H) (he : JE X e τ R) (ho : JE X o τ (rNew p C dx H0 fs)) (hn : fs.length < 1000)
    (hr : ∀ v H2, R.p v H2 → Ex H0 H2 → H2 p = some (.ins C dx fs) → SSs X rest D σ (upd H2 p (.ins C dx (putF f v fs)))) (hs : swapsWith e (some (.Attribute o f pos')) pos.line X.env = pure false := by rfl) : SSs X (.Assign [.Attribute o f pos'] e pos :: rest) D σ H :=
  pss_sss (pss_cons (ps_fld se_pe se_pe hs) sss_pss) ((he σ H t).mono fun v H1 ⟨e1, r⟩ => (ho σ H1 (t.mo e1)).mono fun u H2 ⟨e2, r1, r2, r3⟩ => ⟨p, C, dx, fs, r1, r3, c, n, hn, hr v H2 (R.mo _ _ _ e2 r) r2 r3⟩)
/-- a polynomial -/
def pFlo (N : NumK P w K mg base α) (f : List α) : Fl := [("ground", rGr K N.p), ("row", rTup K (f.map N.rel))]
def rPo (N : NumK P w K mg base α) (f : List α) : Rl := rAnd (f.length ≤ 40) (rIns (aC K "Poly") (pFlo N f))
/-- __init__, the arguments as the values they are -/
theorem okI2 {x qual : Str} {params : Arguments} {body : List Stmt} {scope : Scope} {dvs : List V} {kws : List (Str × V)} {f C : Addr} {fd : FuncData} {Nm ps : List Str} {k : Nat} {S : Sg} (F : FunD K x qual params body scope dvs kws f fd) (Sc : FnScope Nm ps scope) (len : ∀ Rs R, S Rs R → Rs.length + 1 = ps.length)
    (hb : ∀ (cdv : Value) (A : Around) (outer : List Env) (s : Shared) (H : Hp) (E : XK) (Rs : List Rl) (Ro : Rl) (p dx : Addr) (H0 : Hp) (args : List V), Room k (A.deeper (envOfC qual scope s.heap.objs.size f cdv)) → S Rs Ro → H0 p = none → AllR args Rs H0 →
      JD (cx0 P w K mg base Nm qual scope f cdv A outer s H E) body (ty0 Nm (rNew p C dx H0 [] :: args.map rV)) { nx := fun _ H' => Ex H0 H' ∧ Ro.p (.ref p) H', rt := fun _ _ => False }) : FnOk P w K mg base CX0 (k + 1) f fd ps (spI C S) := by
  refine F.ok Sc (fun vs H Q E h => ?_) (fun cdv A outer s H vs Q E hr h => ?_)
  · obtain ⟨p, dx, args, Rs, Ro, H0, rfl, _, _, _, ha, hS, _⟩ := h
    rw [List.length_cons, ha.len]
    exact len Rs Ro hS
  · obtain ⟨p, dx, args, Rs, Ro, H0, rfl, h1, h2, h3, ha, hS, q⟩ := h
    refine ⟨_, PSs.nox sss_pss, ?_⟩
    have hv : ∀ {l : List V} {H : Hp}, AllR l (l.map rV) H := fun {l H} => by
      induction l with
      | nil => trivial
      | cons v l ih => exact ⟨rfl, ih⟩
    exact (hb cdv A outer s H E Rs Ro p dx H0 args hr hS h3 ha (L2.start Nm (.ref p :: args)) H (typ_start (Rs := rNew p C dx H0 [] :: args.map rV) ⟨⟨rfl, h2, h1⟩, hv⟩)).mono (fun σ' H' ⟨e1, r⟩ => q H' e1 r) (fun v H' z => z.elim) (fun _ _ q => q) (fun _ _ q => q)
/-- what is handed to Poly, what it is worth -/
def vals (o : Ops α) : List (Item α) → List α → Prop
  | [], [] => True
  | it :: its, x :: l => it.val o = some x ∧ vals o its l
  | _, _ => False
theorem vals_len {o : Ops α} : ∀ {its : List (Item α)} {l : List α}, vals o its l → its.length = l.length
  | [], [], _ => rfl
  | _ :: _, _ :: _, h => congrArg Nat.succ (vals_len h.2)
  | [], _ :: _, h => h.elim
  | _ :: _, [], h => h.elim
theorem vals_get {o : Ops α} : ∀ {its : List (Item α)} {l : List α} {i : Nat} {it : Item α} {x : α}, vals o its l → its[i]? = some it → l[i]? = some x → it.val o = some x
  | it :: its, x :: l, 0, _, _, h, e1, e2 => by
    cases e1
    cases e2
    exact h.1
  | it :: its, x :: l, i + 1, _, _, h, e1, e2 => vals_get h.2 (by simpa using e1) (by simpa using e2)
  | [], [], _, _, _, _, e, _ => by simp at e
  | [], _ :: _, _, _, _, h, _, _ => h.elim
  | _ :: _, [], _, _, _, h, _, _ => h.elim
theorem vals_num {o : Ops α} : ∀ (l : List α), vals o (l.map .num) l
  | [] => trivial
  | x :: l => ⟨rfl, vals_num l⟩
def sPoI (K : PySem.W.Frag) (N : NumK P w K mg base α) : Sg := fun Rs R => ∃ (its : List (Item α)) (l f : List α) (Rr : Rl), Rs = [rGr K N.p, Rr] ∧ (Rr = rLst K (its.map (Item.rl N)) ∨ Rr = rTup K (its.map (Item.rl N))) ∧ R = rPo N f ∧ vals N.o its l ∧ polyO N.o l = some f
theorem sc_PoI : FnScope ["self", "ground", "row", "item"] ["self", "ground", "row"] (defScope (clS 27 0)) := ⟨rfl, rfl, rfl, by decide +kernel, rfl, by decide +kernel, by decide +kernel⟩
theorem hasT_lst {Rs : List Rl} : HasT K (rLst K Rs) (.type "list") := fun v H ⟨a, vs, e, h, _⟩ => by
  subst e
  rcases h with (h | ⟨o, h⟩) | ⟨o, its, n, h, c, _⟩
  · exact .base (.lst h)
  · exact .base (.frz h)
  · exact .kList h c
theorem hasT_tup {Rs : List Rl} : HasT K (rTup K Rs) (.type "tuple") := fun v H ⟨a, vs, e, h, _⟩ => by
  subst e
  rcases h with (h | ⟨o, h⟩) | ⟨o, its, n, h, c, _⟩
  · exact .base (.tup h)
  · exact .fTuple h
  · exact .kTuple h c
theorem loc_tup (N : NumK P w K mg base α) {f : List α} {v : V} {H : Hp} {p C dx : Addr} {fs : List (Str × V)} {u : HO} (hp : H p = some (.ins C dx fs)) (hl : fs.length ≠ 2) (h : (rTup K (f.map N.rel)).p v H) : (rTup K (f.map N.rel)).p v (upd H p u) := by
  obtain ⟨a, vs, rfl, h1, h2⟩ := h
  refine ⟨a, vs, rfl, ?_, ?_⟩
  · rcases h1 with (h1 | ⟨o, h1⟩) | h1
    · exact .inl (.inl (by rw [upd_ne fun e => by subst e; rw [hp] at h1; cases h1]; exact h1))
    · exact .inl (.inr ⟨o, by rw [upd_ne fun e => by subst e; rw [hp] at h1; cases h1]; exact h1⟩)
    · exact .inr h1
  · clear h1
    induction f generalizing vs with
    | nil =>
      cases vs with
      | nil => trivial
      | cons v r => exact h2.elim
    | cons x f ih =>
      cases vs with
      | nil => exact h2.elim
      | cons v r =>
        refine ⟨N.loc x v H _ h2.1 fun b hb => ?_, ih r h2.2⟩
        obtain ⟨b', dx', fs', e1, e2, e3⟩ := N.two x v H h2.1
        refine upd_ne fun e => ?_
        rw [e1] at hb
        cases hb
        subst e
        rw [hp] at e2
        cases e2
        exact hl e3
theorem ok_Poly_init (T : Tx K mg) (N : NumK P w K mg base α) : OkI P w K mg base 10 "Poly" ["self", "ground", "row"] (sPoI K N) := by
  have solN : ∀ z, Solid (N.rel z) := N.sol
  refine okI2 T.f_Poly_init sc_PoI (fun Rs R h => by obtain ⟨_, _, _, _, rfl, _⟩ := h; rfl) fun cdv A outer s H E Rs Ro p dx H0 args hr h hp ha => ?_
  obtain ⟨its, l, f, Rr, rfl, hrow, rfl, hv, hpo⟩ := h
  obtain ⟨rfl, hl40⟩ := polyO_some hpo
  obtain ⟨g, rv, rfl, hg, hrv⟩ := ha.two
  have hil := vals_len hv
  have hT : ∃ t, HasT K Rr t ∧ PySem.W.kitAny K t [.type "list", .type "tuple"] = some true := by
    rcases hrow with rfl | rfl
    · exact ⟨_, hasT_lst, kitAny_cons (b := true) (kit_ty (by decide +kernel)) (fun e => nomatch e) fun _ => rfl⟩
    · exact ⟨_, hasT_tup, kitAny_cons (b := false) (kit_ty (by decide +kernel)) (fun _ => kitAny_cons (b := true) (kit_ty (by decide +kernel)) (fun e => nomatch e) fun _ => rfl) fun e => nomatch e⟩
  obtain ⟨t, ht, hk⟩ := hT
  -- the row, known again at a later heap
  have up : ∀ {fs : List (Str × V)} {σ : L2.St} {H1 : Hp}, Typ σ [some (rNew p (aC K "Poly") dx H0 fs), some (rV g), some (rV rv), none] H1 → Typ σ [some (rNew p (aC K "Poly") dx H0 fs), some (rGr K N.p), some Rr, none] H1 := fun {fs σ H1} t1 => by
    obtain ⟨_, _, _, hx, _⟩ := t1.2 0 _ rfl
    refine ⟨t1.1, fun i R q => ?_⟩
    match i, q with
    | 0, q => exact t1.2 0 R q
    | 1, q =>
      cases q
      obtain ⟨v, e, r⟩ := t1.2 1 _ rfl
      obtain rfl : v = g := r
      exact ⟨v, e, (rGr K N.p).mo _ _ _ hx hg⟩
    | 2, q =>
      cases q
      obtain ⟨v, e, r⟩ := t1.2 2 _ rfl
      obtain rfl : v = rv := r
      exact ⟨v, e, Rr.mo _ _ _ hx hrv⟩
    | 3, q => cases q
    | i + 4, q => simp at q
  refine jd_skip (fun σ H1 t1 => jt_not (k := true) (jt_val (je_isiT (by rfl) T.n_isinstance (je_var 2 (R := Rr)) ht (je_bltn (by rfl) T.n_list (by decide +kernel) (v := .ty "list") rfl) (je_bltn (by rfl) T.n_tuple (by decide +kernel) (v := .ty "tuple") rfl) hk)) σ H1 (up t1)) ?_
  refine jd_fld T.c_Poly T.a_Poly_ground (je_var 1) (je_var 0) hp (lit_v (lit_v (lit_n lit_nil))) (by decide) ?_
  intro σ H1 t1
  have tu := up t1
  have key : JE (cx0 P w K mg base ["self", "ground", "row", "item"] "Poly.__init__" (defScope (clS 27 0)) (aM K "Poly" "__init__") cdv A outer s H E) (match defBody (clS 27 0) with
    | [_, _, .Assign _ e _] => e
    | _ => default) [some (rNew p (aC K "Poly") dx H0 (putF "ground" g [])), some (rGr K N.p), some Rr, none] (rTup K ((trim N.o l).map N.rel)) := by
    refine je_call (ok_trimmed T N) (hr.mono (by decide)) (by rfl) T.g_trimmed T.f_trimmed.kp T.b_trimmed pass0 (ja_cons (je_lc (Rs := its.map (Item.rl N)) (Rs' := l.map N.rel) (j := 3) rfl sc_PoI.nd ?it (blkOk_by (show blkC ["self", "ground", "row", "item"] (defScope (clS 27 0)) _ _ = true by decide +kernel)) (fun _ _ _ _ _ => pg_name (i := 3) sc_PoI.nd rfl (.inl rfl)) (fun s0 H0 C cl fp i R R' hR hR' => ?el) (fun R hR => ?so) ?hl ?sz) ja_nil) ⟨l, rfl, rfl, by omega⟩
    case it =>
      rcases hrow with rfl | rfl
      · exact ji_list (je_var 2)
      · exact ji_tup (je_var 2)
    case el =>
      rw [List.getElem?_map] at hR hR'
      cases e : its[i]? with
      | none => rw [e] at hR; cases hR
      | some it =>
        cases e' : l[i]? with
        | none => rw [e'] at hR'; cases hR'
        | some z =>
          rw [e] at hR
          rw [e'] at hR'
          cases hR
          cases hR'
          exact je_call (ok_taken T N) hr (by rfl) T.g_taken T.f_taken.kp T.b_taken pass0 (ja_cons (je_var 1) (ja_cons (je_var 3) ja_nil)) ⟨it, z, rfl, rfl, vals_get hv e e'⟩
    case so =>
      obtain ⟨a, _, rfl⟩ := List.mem_map.mp hR
      infer_instance
    case hl => rw [List.length_map, List.length_map, hil]
    case sz => rw [List.length_map]; omega
  refine sss_fld T.c_Poly T.a_Poly_row tu key (je_var 0) (by show 1 < 1000; decide) fun v H2 r e0 hp2 => pss_sss pss_nil ?_
  refine ⟨Ex.mut e0 hp, Nat.le_trans (trim_len l) hl40, p, dx, _, rfl, upd_same, ?_⟩
  rw [putF2 (f := "ground") (g := "row") (by decide +kernel)]
  exact ⟨rfl, (rGr K N.p).mo _ _ _ (Ex.mut e0 hp) hg, rfl, loc_tup N hp2 (by show ¬ 1 = 2; decide) r, trivial⟩
end
end Sq
end
section
set_option Elab.async false
set_option linter.all false
set_option maxRecDepth 100000
set_option maxHeartbeats 4000000
namespace Sq
open PySem PySem.Spec L2
open PyProof.Rows hiding St
open Evl (Ex)
section
variable {P : Program} {w : World} {K : PySem.W.Frag} {mg : Str → Option Value} {base : Heap} {α : Type}
instance po_solid (N : NumK P w K mg base α) (f : List α) : Solid (rPo N f) := by
  have solN : ∀ z, Solid (N.rel z) := N.sol
  unfold rPo pFlo rGr
  infer_instance
theorem po_ins {N : NumK P w K mg base α} {f : List α} : ∀ v H, (rPo N f).p v H → (rIns (aC K "Poly") (pFlo N f)).p v H := fun _ _ h => h.2
theorem po_isI {N : NumK P w K mg base α} {f : List α} : IsI (aC K "Poly") (rPo N f) := fun v H h => isI_ins v H h.2
theorem po_recv {N : NumK P w K mg base α} {f : List α} {m : Str} (h : (pFlo N f).lookup m = none) : Recv (aC K "Poly") m (rPo N f) := fun v H r => recv_ins h v H r.2
theorem po_len {N : NumK P w K mg base α} {f : List α} {τ : Ty} {σ : L2.St} {H : Hp} (i : Nat) (t : Typ σ τ H) (h : τ[i]? = some (some (rPo N f)) := by rfl) : f.length ≤ 40 := by
  obtain ⟨v, _, q, _⟩ := t.2 i _ h
  exact q
section
variable {X : Cx} {τ : Ty} {e : Expr} {pos : Pos} {N : NumK P w X.K mg base α} {f : List α}
theorem je_pg (c : Cls X.K (aC X.K "Poly")) (n : NoAttr X.K (aC X.K "Poly") "ground") (h : JE X e τ (rPo N f)) (hb : attributeBase e "ground" X.env (eval e X.env) = eval e X.env := by rfl) : JE X (.Attribute e "ground" pos) τ (rGr X.K N.p) := je_fld (h.sub po_ins) c n (by rfl) hb
theorem je_pr (c : Cls X.K (aC X.K "Poly")) (n : NoAttr X.K (aC X.K "Poly") "row") (h : JE X e τ (rPo N f)) (hb : attributeBase e "row" X.env (eval e X.env) = eval e X.env := by rfl) : JE X (.Attribute e "row" pos) τ (rTup X.K (f.map N.rel)) := je_fld (h.sub po_ins) c n (by rfl) hb
end
theorem sPo_num {N : NumK P w K mg base α} {l f : List α} (h : polyO N.o l = some f) : sPoI K N [rGr K N.p, rLst K (l.map N.rel)] (rPo N f) := ⟨l.map .num, l, f, _, rfl, .inl (by rw [List.map_map]; rfl), rfl, vals_num l, h⟩
theorem sPo_numT {N : NumK P w K mg base α} {l f : List α} (h : polyO N.o l = some f) : sPoI K N [rGr K N.p, rTup K (l.map N.rel)] (rPo N f) := ⟨l.map .num, l, f, _, rfl, .inr (by rw [List.map_map]; rfl), rfl, vals_num l, h⟩
theorem vals_int {o : Ops α} : ∀ (is : List Int) (l : List α), is.length = l.length → (∀ i x, l[i]? = some x → bnd (nth is i) o.num = some x) → vals o (is.map .int) l
  | [], [], _, _ => trivial
  | i :: is, x :: l, e, h => ⟨h 0 x rfl, vals_int is l (by simpa using e) fun j y hy => h (j + 1) y (by simpa using hy)⟩
  | [], _ :: _, e, _ => by cases e
  | _ :: _, [], e, _ => by cases e
theorem sPo_int {N : NumK P w K mg base α} {is : List Int} {f : List α} (h : intsP N.o is = some f) : sPoI K N [rGr K N.p, rLst K (is.map fun i => rV (.int i))] (rPo N f) := by
  obtain ⟨l, h1, h2⟩ := bnd_some h
  rw [len_eq] at h1
  obtain ⟨hl, hk⟩ := tab_some h1
  exact ⟨is.map .int, l, f, _, rfl, .inl (by rw [List.map_map]; rfl), rfl, vals_int is l hl.symm fun i x e => by
    have := hk i x e
    rw [Nat.zero_add] at this
    exact this, h2⟩
/-! ### check_grounds -/
def sChk (K : PySem.W.Frag) (N : NumK P w K mg base α) : Sg := fun Rs R => ∃ f g, Rs = [rPo N f, rPo N g] ∧ R = rNone
theorem sc_chk : FnScope ["f", "g"] ["f", "g"] (defScope (topS 28)) := ⟨rfl, rfl, rfl, by decide +kernel, rfl, by decide +kernel, by decide +kernel⟩
theorem ok_check_grounds (T : Tx K mg) (N : NumK P w K mg base α) : OkG P w K mg base 3 "check_grounds" ["f", "g"] (sChk K N) := by
  refine okS T.f_check_grounds sc_chk (fun Rs R h => by obtain ⟨_, _, rfl, _⟩ := h; rfl) fun cdv A outer s H E Rs R hr h => ?_
  obtain ⟨f, g, rfl, rfl⟩ := h
  exact jss_skip (jt_neF T.ne_Ground (ok_Ground_eq T) hr T.b_Ground_eq pass0 rGr_isI rGr_isI ⟨N.p, rfl, rfl⟩ (je_pg T.c_Poly T.a_Poly_ground (je_var 0)) (je_pg T.c_Poly T.a_Poly_ground (je_var 1))) (jss_nil rfl)
/-! ### degree, is_zero, coefficient -/
def sDeg (N : NumK P w K mg base α) : Sg := fun Rs R => ∃ f, Rs = [rPo N f] ∧ R = rV (.int ((f.length : Int) - 1))
theorem sc_deg : FnScope ["self"] ["self"] (defScope (clS 27 10)) := ⟨rfl, rfl, rfl, by decide +kernel, rfl, by decide +kernel, by decide +kernel⟩
theorem ok_Poly_degree (T : Tx K mg) (N : NumK P w K mg base α) : OkM P w K mg base 1 "Poly" "degree" ["self"] (sDeg N) := by
  refine okS T.f_Poly_degree sc_deg (fun Rs R h => by obtain ⟨_, rfl, _⟩ := h; rfl) fun cdv A outer s H E Rs R hr h => ?_
  obtain ⟨f, rfl, rfl⟩ := h
  exact jss_ret (je_sub (je_lenM (by rfl) T.n_len (je_pr T.c_Poly T.a_Poly_row (je_var 0))) je_int)
def sIsZ (N : NumK P w K mg base α) : Sg := fun Rs R => ∃ f, Rs = [rPo N f] ∧ R = rV (.bl (decide (V.int (f.length : Int) = V.int 0)))
theorem sc_isz : FnScope ["self"] ["self"] (defScope (clS 27 11)) := ⟨rfl, rfl, rfl, by decide +kernel, rfl, by decide +kernel, by decide +kernel⟩
theorem ok_Poly_is_zero (T : Tx K mg) (N : NumK P w K mg base α) : OkM P w K mg base 1 "Poly" "is_zero" ["self"] (sIsZ N) := by
  refine okS T.f_Poly_is_zero sc_isz (fun Rs R h => by obtain ⟨_, rfl, _⟩ := h; rfl) fun cdv A outer s H E Rs R hr h => ?_
  obtain ⟨f, rfl, rfl⟩ := h
  exact jss_ret (je_eq rfl (je_lenM (by rfl) T.n_len (je_pr T.c_Poly T.a_Poly_row (je_var 0))) je_int)
def sCoef (N : NumK P w K mg base α) : Sg := fun Rs R => ∃ f k x, Rs = [rPo N f, rV (.int (k : Nat))] ∧ R = N.rel x ∧ nth f k = some x
theorem sc_coef : FnScope ["self", "k"] ["self", "k"] (defScope (clS 27 12)) := ⟨rfl, rfl, rfl, by decide +kernel, rfl, by decide +kernel, by decide +kernel⟩
theorem jt_between {X : Cx} {τ : Ty} {a b c : Expr} {pos : Pos} {i j k : Int} (ha : JE X a τ (rV (.int i))) (hb : JE X b τ (rV (.int j))) (hc : JE X c τ (rV (.int k))) (h1 : i ≤ j) (h2 : j < k) (hm : lastMarks [.LtE, .Lt] [b, c] = false := by with_unfolding_all rfl) : JT X (.Compare a [.LtE, .Lt] [b, c] pos) τ true := fun σ H t =>
  pt_st (pt_chain op_le op_lt se_pe se_pe se_pe hm) ((ha σ H t).mono fun x H1 ⟨e1, r1⟩ => (hb σ H1 (t.mo e1)).mono fun y H2 ⟨e2, r2⟩ => by
    obtain rfl : x = .int i := r1
    obtain rfl : y = .int j := r2
    refine ⟨i, j, rfl, rfl, true, congrArg V.bl (decide_eq_true h1), ?_⟩
    rw [if_pos rfl]
    exact (hc σ H2 (t.mo (e1.trans e2))).mono fun z H3 ⟨e3, r3⟩ => ⟨j, k, rfl, r3, true, congrArg V.bl (decide_eq_true h2), rfl, (e1.trans e2).trans e3⟩)
theorem ok_Poly_coefficient (T : Tx K mg) (N : NumK P w K mg base α) : OkM P w K mg base 1 "Poly" "coefficient" ["self", "k"] (sCoef N) := by
  refine okS T.f_Poly_coefficient sc_coef (fun Rs R h => by obtain ⟨_, _, _, rfl, _⟩ := h; rfl) fun cdv A outer s H E Rs R hr h => ?_
  obtain ⟨f, k, x, rfl, rfl, hx⟩ := h
  have hk : k < f.length := by
    rw [nth_eq] at hx
    exact (List.getElem?_eq_some_iff.mp hx).1
  refine jss_ifT (Nx' := fun _ => False) (jt_between je_int (je_var 1) (je_lenM (by rfl) T.n_len (je_pr T.c_Poly T.a_Poly_row (je_var 0))) (by omega) (by omega)) ?_ fun _ z => z.elim
  exact jss_ret (je_ixTn k (je_pr T.c_Poly T.a_Poly_row (je_var 0)) (je_var 1) rfl (map_at hx))
/-! ### *, //, % -/
theorem sc_pmul : FnScope ["self", "other"] ["self", "other"] (defScope (clS 27 5)) := ⟨rfl, rfl, rfl, by decide +kernel, rfl, by decide +kernel, by decide +kernel⟩
theorem sc_pdiv : FnScope ["self", "other"] ["self", "other"] (defScope (clS 27 6)) := ⟨rfl, rfl, rfl, by decide +kernel, rfl, by decide +kernel, by decide +kernel⟩
theorem sc_pmod : FnScope ["self", "other"] ["self", "other"] (defScope (clS 27 7)) := ⟨rfl, rfl, rfl, by decide +kernel, rfl, by decide +kernel, by decide +kernel⟩
theorem ok_Poly_mul (T : Tx K mg) (N : NumK P w K mg base α) : OkM P w K mg base 12 "Poly" "__mul__" ["self", "other"] (sBin (rPo N) (mulP N.o)) := by
  refine okS T.f_Poly_mul sc_pmul (fun Rs R h => by obtain ⟨_, _, _, rfl, _⟩ := h; rfl) fun cdv A outer s H E Rs R hr h => ?_
  obtain ⟨f, g, r, rfl, rfl, h⟩ := h
  obtain ⟨l, h1, h2⟩ := bnd_some h
  refine JSs.of fun σ H0 t => ?_
  have hf : f.length ≤ 40 := po_len 0 t
  have hg : g.length ≤ 40 := po_len 1 t
  refine jss_drop (je_call (ok_check_grounds T N) (hr.mono (by decide)) (by rfl) T.g_check_grounds T.f_check_grounds.kp T.b_check_grounds pass0 (ja_cons (je_var 0) (ja_cons (je_var 1) ja_nil)) ⟨f, g, rfl, rfl⟩) ?_
  exact jss_ret (je_make T.k_Poly (ok_Poly_init T N) hr (by rfl) T.g_Poly T.b_Poly_init pass0 (ja_cons (je_pg T.c_Poly T.a_Poly_ground (je_var 0)) (ja_cons (je_call (ok_product_row T N) (hr.mono (by decide)) (by rfl) T.g_product_row T.f_product_row.kp T.b_product_row pass0
    (ja_cons (je_pg T.c_Poly T.a_Poly_ground (je_var 0)) (ja_cons (je_pr T.c_Poly T.a_Poly_row (je_var 0)) (ja_cons (je_pr T.c_Poly T.a_Poly_row (je_var 1)) ja_nil))) ⟨f, g, l, rfl, rfl, h1, hf, hg⟩) ja_nil)) (sPo_num h2))
theorem ok_Poly_floordiv (T : Tx K mg) (N : NumK P w K mg base α) : OkM P w K mg base 12 "Poly" "__floordiv__" ["self", "other"] (sBin (rPo N) (fdivP N.o)) := by
  refine okS T.f_Poly_floordiv sc_pdiv (fun Rs R h => by obtain ⟨_, _, _, rfl, _⟩ := h; rfl) fun cdv A outer s H E Rs R hr h => ?_
  obtain ⟨f, g, r, rfl, rfl, h⟩ := h
  obtain ⟨⟨q, m⟩, h1, h2⟩ := bnd_some h
  refine JSs.of fun σ H0 t => ?_
  have hf : f.length ≤ 40 := po_len 0 t
  have hg : g.length ≤ 40 := po_len 1 t
  refine jss_drop (je_call (ok_check_grounds T N) (hr.mono (by decide)) (by rfl) T.g_check_grounds T.f_check_grounds.kp T.b_check_grounds pass0 (ja_cons (je_var 0) (ja_cons (je_var 1) ja_nil)) ⟨f, g, rfl, rfl⟩) ?_
  exact jss_ret (je_make T.k_Poly (ok_Poly_init T N) hr (by rfl) T.g_Poly T.b_Poly_init pass0 (ja_cons (je_pg T.c_Poly T.a_Poly_ground (je_var 0)) (ja_cons (je_ixTn 0 (je_call (ok_division T N) (hr.mono (by decide)) (by rfl) T.g_division T.f_division.kp T.b_division pass0
    (ja_cons (je_pg T.c_Poly T.a_Poly_ground (je_var 0)) (ja_cons (je_pr T.c_Poly T.a_Poly_row (je_var 0)) (ja_cons (je_pr T.c_Poly T.a_Poly_row (je_var 1)) ja_nil))) ⟨f, g, q, m, rfl, rfl, h1, hf, hg⟩) je_int rfl rfl) ja_nil)) (sPo_numT h2))
theorem ok_Poly_mod (T : Tx K mg) (N : NumK P w K mg base α) : OkM P w K mg base 12 "Poly" "__mod__" ["self", "other"] (sBin (rPo N) (modP N.o)) := by
  refine okS T.f_Poly_mod sc_pmod (fun Rs R h => by obtain ⟨_, _, _, rfl, _⟩ := h; rfl) fun cdv A outer s H E Rs R hr h => ?_
  obtain ⟨f, g, r, rfl, rfl, h⟩ := h
  obtain ⟨⟨q, m⟩, h1, h2⟩ := bnd_some h
  refine JSs.of fun σ H0 t => ?_
  have hf : f.length ≤ 40 := po_len 0 t
  have hg : g.length ≤ 40 := po_len 1 t
  refine jss_drop (je_call (ok_check_grounds T N) (hr.mono (by decide)) (by rfl) T.g_check_grounds T.f_check_grounds.kp T.b_check_grounds pass0 (ja_cons (je_var 0) (ja_cons (je_var 1) ja_nil)) ⟨f, g, rfl, rfl⟩) ?_
  exact jss_ret (je_make T.k_Poly (ok_Poly_init T N) hr (by rfl) T.g_Poly T.b_Poly_init pass0 (ja_cons (je_pg T.c_Poly T.a_Poly_ground (je_var 0)) (ja_cons (je_ixTn 1 (je_call (ok_division T N) (hr.mono (by decide)) (by rfl) T.g_division T.f_division.kp T.b_division pass0
    (ja_cons (je_pg T.c_Poly T.a_Poly_ground (je_var 0)) (ja_cons (je_pr T.c_Poly T.a_Poly_row (je_var 0)) (ja_cons (je_pr T.c_Poly T.a_Poly_row (je_var 1)) ja_nil))) ⟨f, g, q, m, rfl, rfl, h1, hf, hg⟩) je_int rfl rfl) ja_nil)) (sPo_numT h2))
end
end Sq
end
section
set_option Elab.async false
set_option linter.all false
set_option maxRecDepth 100000
set_option maxHeartbeats 4000000
namespace Sq
open PySem PySem.Spec L2
open PyProof.Rows hiding St
open Evl (Ex)
section
variable {P : Program} {w : World} {K : PySem.W.Frag} {mg : Str → Option Value} {base : Heap} {α : Type}
/-! ### scaled, monic, derivative, power -/
theorem sc_psc : FnScope ["self", "c", "x"] ["self", "c"] (defScope (clS 27 13)) := ⟨rfl, rfl, rfl, by decide +kernel, rfl, by decide +kernel, by decide +kernel⟩
def sScal (N : NumK P w K mg base α) : Sg := fun Rs R => ∃ f c g, Rs = [rPo N f, N.rel c] ∧ R = rPo N g ∧ scaleP N.o c f = some g
theorem ok_Poly_scaled (T : Tx K mg) (N : NumK P w K mg base α) : OkM P w K mg base 12 "Poly" "scaled" ["self", "c"] (sScal N) := by
  have solN : ∀ z, Solid (N.rel z) := N.sol
  refine okS T.f_Poly_scaled sc_psc (fun Rs R h => by obtain ⟨_, _, _, rfl, _⟩ := h; rfl) fun cdv A outer s H E Rs R hr h => ?_
  obtain ⟨f, c, g, rfl, rfl, h⟩ := h
  obtain ⟨l, h1, h2⟩ := bnd_some h
  rw [len_eq] at h1
  obtain ⟨hl, hk⟩ := tab_some h1
  refine JSs.of fun σ H0 t => ?_
  have hf : f.length ≤ 40 := po_len 0 t
  refine jss_ret (je_make T.k_Poly (ok_Poly_init T N) hr (by rfl) T.g_Poly T.b_Poly_init pass0 (ja_cons (je_pg T.c_Poly T.a_Poly_ground (je_var 0)) (ja_cons (je_lc (Rs := f.map N.rel) (Rs' := l.map N.rel) (j := 2) rfl sc_psc.nd (ji_tup (je_pr T.c_Poly T.a_Poly_row (je_var 0))) (blkOk_by (show blkC ["self", "c", "x"] (defScope (clS 27 13)) _ _ = true by decide +kernel)) (fun _ _ _ _ _ => pg_name (i := 2) sc_psc.nd rfl (.inl rfl)) (fun s0 H0 C cl fp i R R' hR hR' => ?el) (fun R hR => ?so) ?hl ?sz) ja_nil)) (sPo_num h2))
  case el =>
    rw [List.getElem?_map] at hR hR'
    cases e : f[i]? with
    | none => rw [e] at hR; cases hR
    | some x =>
      cases e' : l[i]? with
      | none => rw [e'] at hR'; cases hR'
      | some z =>
        rw [e] at hR
        rw [e'] at hR'
        cases hR
        cases hR'
        obtain ⟨x', h3, h4⟩ := bnd_some (hk i z e')
        rw [Nat.zero_add, nth_eq, e] at h3
        cases h3
        exact je_nmul N (hr.mono (by decide)) pass0 (je_var 1) (je_var 2) h4
  case so =>
    obtain ⟨a, _, rfl⟩ := List.mem_map.mp hR
    infer_instance
  case hl => rw [List.length_map, List.length_map, hl]
  case sz => rw [List.length_map]; omega
theorem sc_pmon : FnScope ["self"] ["self"] (defScope (clS 27 14)) := ⟨rfl, rfl, rfl, by decide +kernel, rfl, by decide +kernel, by decide +kernel⟩
theorem ok_Poly_monic (T : Tx K mg) (N : NumK P w K mg base α) : OkM P w K mg base 13 "Poly" "monic" ["self"] (sUn (rPo N) (monicP N.o)) := by
  refine okS T.f_Poly_monic sc_pmon (fun Rs R h => by obtain ⟨_, _, rfl, _⟩ := h; rfl) fun cdv A outer s H E Rs R hr h => ?_
  obtain ⟨f, g, rfl, rfl, h⟩ := h
  cases f with
  | nil =>
    obtain rfl : [] = g := Option.some.inj h
    refine jss_ifT (Nx' := fun _ => False) (jt_val (je_meth0 (je_var 0) T.c_Poly (po_recv rfl) T.m_Poly_is_zero (ok_Poly_is_zero T N) (hr.mono (by decide)) T.b_Poly_is_zero pass0 ⟨[], rfl, rfl⟩)) (jss_ret (je_var 0)) fun _ z => z.elim
  | cons x f =>
    obtain ⟨l, h1, h⟩ := bnd_some (show bnd (lastO (x :: f)) _ = some g from h)
    obtain ⟨i, h2, h⟩ := bnd_some h
    refine jss_skip (JT.eq (jt_val (je_meth0 (je_var 0) T.c_Poly (po_recv rfl) T.m_Poly_is_zero (ok_Poly_is_zero T N) (hr.mono (by decide)) T.b_Poly_is_zero pass0 ⟨x :: f, rfl, rfl⟩)) (dec0 (by rw [List.length_cons]; omega))) ?_
    exact jss_ret (je_meth (je_var 0) T.c_Poly (po_recv rfl) T.m_Poly_scaled (ok_Poly_scaled T N) hr T.b_Poly_scaled pass0 (ja_cons (je_meth0 (je_ixTlast (je_pr T.c_Poly T.a_Poly_row (je_var 0)) (je_neg je_int) (last_at h1)) N.cl (N.ri _) N.m_inv N.ok_inv (hr.mono (by decide)) N.b_inv pass0 ⟨l, i, rfl, rfl, h2⟩) ja_nil) ⟨_, i, g, rfl, rfl, h⟩)
theorem sc_pder : FnScope ["self", "k"] ["self"] (defScope (clS 27 15)) := ⟨rfl, rfl, rfl, by decide +kernel, rfl, by decide +kernel, by decide +kernel⟩
theorem ok_Poly_derivative (T : Tx K mg) (N : NumK P w K mg base α) : OkM P w K mg base 12 "Poly" "derivative" ["self"] (sUn (rPo N) (derivP N.o)) := by
  have solN : ∀ z, Solid (N.rel z) := N.sol
  refine okS T.f_Poly_derivative sc_pder (fun Rs R h => by obtain ⟨_, _, rfl, _⟩ := h; rfl) fun cdv A outer s H E Rs R hr h => ?_
  obtain ⟨f, g, rfl, rfl, h⟩ := h
  obtain ⟨l, h1, h2⟩ := bnd_some h
  rw [len_eq] at h1
  obtain ⟨hl, hk⟩ := tab_some h1
  obtain ⟨ds, hd, hb⟩ := T.bd_Ground_number
  refine JSs.of fun σ H0 t => ?_
  have hf : f.length ≤ 40 := po_len 0 t
  refine jss_ret (je_make T.k_Poly (ok_Poly_init T N) hr (by rfl) T.g_Poly T.b_Poly_init pass0 (ja_cons (je_pg T.c_Poly T.a_Poly_ground (je_var 0)) (ja_cons (je_lc (Rs := rgI 1 1 ((f.length : Int) - 1).toNat) (Rs' := l.map N.rel) (j := 1) rfl sc_pder.nd (ji_range2 (by rfl) T.n_range je_int (je_lenM (by rfl) T.n_len (je_pr T.c_Poly T.a_Poly_row (je_var 0))) (by omega) (by omega)) (blkOk_by (show blkC ["self", "k"] (defScope (clS 27 15)) _ _ = true by decide +kernel)) (fun _ _ _ _ _ => pg_name (i := 1) sc_pder.nd rfl (.inl rfl)) (fun s0 H0 C cl fp i R R' hR hR' => ?el) (fun R hR => ?so) ?hl ?sz) ja_nil)) (sPo_num h2))
  case el =>
    obtain ⟨hi, rfl⟩ := rgI_get hR
    rw [List.getElem?_map] at hR'
    cases e' : l[i]? with
    | none => rw [e'] at hR'; cases hR'
    | some z =>
      rw [e'] at hR'
      cases hR'
      obtain ⟨x', h3, h4⟩ := bnd_some (hk i z e')
      obtain ⟨y', h5, h4⟩ := bnd_some h4
      rw [Nat.zero_add] at h3 h5
      have h3' : N.o.num (1 + (i : Int) * 1) = some x' := by
        rw [show (1 + (i : Int) * 1) = Int.ofNat (Nat.succ i) by simp; omega]
        exact h3
      exact je_nmul N (hr.mono (by decide)) pass0 (je_methD (je_pg T.c_Poly T.a_Poly_ground (je_var 0)) T.c_Ground (rGr_recv (by decide)) T.m_Ground_number N.ok_num (hr.mono (by decide)) hb hd pass0 dfl_v (ja_cons (je_var 1) ja_nil) ⟨_, x', rfl, rfl, h3'⟩) (je_ixTn (i + 1) (je_pr T.c_Poly T.a_Poly_row (je_var 0)) (je_var 1) (by omega) (map_at h5)) h4
  case so =>
    obtain ⟨a, _, rfl⟩ := List.mem_map.mp hR
    infer_instance
  case hl => rw [List.length_map, rgI_len, hl]; show Nat.sub _ _ = _; show f.length - 1 = _; omega
  case sz => rw [rgI_len]; omega
theorem sc_ppow : FnScope ["self", "k", "total", "_"] ["self", "k"] (defScope (clS 27 16)) := ⟨rfl, rfl, rfl, by decide +kernel, rfl, by decide +kernel, by decide +kernel⟩
def sPow (N : NumK P w K mg base α) : Sg := fun Rs R => ∃ f k g, Rs = [rPo N f, rV (.int (k : Nat))] ∧ R = rPo N g ∧ powP N.o f k = some g ∧ k ≤ 40
theorem po_ref {N : NumK P w K mg base α} {f : List α} : IsRef (rPo N f) := po_isI.ref
theorem ok_Poly_power (T : Tx K mg) (N : NumK P w K mg base α) : OkM P w K mg base 13 "Poly" "power" ["self", "k"] (sPow N) := by
  refine okS T.f_Poly_power sc_ppow (fun Rs R h => by obtain ⟨_, _, _, rfl, _⟩ := h; rfl) fun cdv A outer s H E Rs R hr h => ?_
  obtain ⟨f, k, g, rfl, rfl, h, hk⟩ := h
  obtain ⟨t0, h0, h⟩ := bnd_some h
  refine jss_set 2 sc_ppow.nd (R := rPo N t0) (je_make T.k_Poly (ok_Poly_init T N) (hr.mono (by decide)) (by rfl) T.g_Poly T.b_Poly_init pass0 (ja_cons (je_pg T.c_Poly T.a_Poly_ground (je_var 0)) (ja_cons (je_lst (ja_cons je_int ja_nil) (by show 1 ≤ 1000; decide)) ja_nil)) (sPo_int (is := [1]) h0)) ?_
  refine jss_for (Rs := rgI 0 1 k) 3 (fun j τ' => ∃ t o, j ≤ k ∧ powL N.o f (k - j) t = some g ∧ τ' = [some (rPo N f), some (rV (.int (k : Nat))), some (rPo N t), o]) PassesOwn.never rfl
    (JI.eq (ji_range1 (by rfl) T.n_range (je_var 1) (by omega)) (by congr 1)) (pg_name (i := 3) sc_ppow.nd rfl (.inl rfl)) ⟨t0, none, Nat.zero_le _, h, rfl⟩ ?_ ?_
  · rintro j R τ' hR ⟨t, o, hj, hs, rfl⟩
    obtain ⟨hjk, rfl⟩ := rgI_get hR
    obtain ⟨m, hm⟩ : ∃ m, k - j = m + 1 := ⟨k - j - 1, by omega⟩
    rw [hm] at hs
    obtain ⟨t', h1, h2⟩ := bnd_some (show bnd (mulP N.o t f) _ = some g from hs)
    refine jss_set 2 sc_ppow.nd (R := rPo N t') (je_own T.i_Poly.2 T.m_Poly_mul (ok_Poly_mul T N) hr T.b_Poly_mul pass0 po_isI po_isI po_ref ⟨t, f, t', rfl, rfl, h1⟩ (je_var 2) (je_var 0)) (jss_nil ⟨t', _, by omega, ?_, rfl⟩)
    rw [show k - (j + 1) = m by omega]
    exact h2
  · rintro τ' ⟨t, o, hj, hs, rfl⟩
    rw [rgI_len, Nat.sub_self] at hs
    obtain rfl : t = g := Option.some.inj hs
    exact jss_ret (je_var 2)
/-! ### == -/
def eqPL (e : α → α → Prop) : List α → List α → Prop
  | [], [] => True
  | x :: l, y :: r => e x y ∧ eqPL e l r
  | _, _ => False
theorem sc_peq : FnScope ["self", "other"] ["self", "other"] (defScope (clS 27 1)) := ⟨rfl, rfl, rfl, by decide +kernel, rfl, by decide +kernel, by decide +kernel⟩
theorem prs_of {N : NumK P w K mg base α} {H : Hp} : ∀ {f g : List α} {xs ys : List V}, eqPL N.eqP f g → AllR xs (f.map N.rel) H → AllR ys (g.map N.rel) H → Prs (DIns (aC K N.C) (eqRel (sEq N.rel N.eqP))) xs ys H
  | [], [], [], [], _, _, _ => Prs.nil
  | x :: f, y :: g, v :: vs, u :: us, ⟨h, hs⟩, ⟨h1, h2⟩, ⟨h3, h4⟩ => by
    obtain ⟨a, dx, fs, rfl, e1⟩ := N.isI x v H h1
    obtain ⟨b, dy, gs, rfl, e2⟩ := N.isI y u H h3
    exact Prs.cons ⟨a, b, dx, dy, fs, gs, rfl, rfl, e1, e2, _, _, ⟨x, y, rfl, rfl, h⟩, h1, h3⟩ (prs_of (N := N) hs h2 h4)
  | [], _ :: _, _, _, h, _, _ => h.elim
  | _ :: _, [], _, _, h, _, _ => h.elim
  | [], [], _ :: _, _, _, h, _ => h.elim
  | [], [], [], _ :: _, _, _, h => h.elim
  | _ :: _, _ :: _, [], _, _, h, _ => h.elim
  | _ :: _, _ :: _, _ :: _, [], _, _, h => h.elim
theorem ok_Poly_eq (T : Tx K mg) (N : NumK P w K mg base α) : OkM P w K mg base 10 "Poly" "__eq__" ["self", "other"] (sEq (rPo N) (eqPL N.eqP)) := by
  refine okS T.f_Poly_eq sc_peq (fun Rs R h => by obtain ⟨_, _, rfl, _⟩ := h; rfl) fun cdv A outer s H E Rs R hr h => ?_
  obtain ⟨f, g, rfl, rfl, h⟩ := h
  refine jss_ret (JE.sub (je_and (k := true) (je_isi (by rfl) T.n_isinstance (je_var 1) (hasT_ins T.i_Poly.1 po_isI) (je_glob (by rfl) T.g_Poly (v := .ref _) rfl) (.own _) T.i_Poly.1.me) fun _ => je_and (k := true) (je_eqG (rcG_own (ok_Ground_eq T) T.m_Ground_eq T.b_Ground_eq pass0) (hr.mono (by decide)) ?gr (je_pg T.c_Poly T.a_Poly_ground (je_var 0)) (je_pg T.c_Poly T.a_Poly_ground (je_var 1)))
    fun _ => je_one (je_eqG (rcG_tup (mon_ins (eqRel_mon _)) (eqG_own N.ok_eq N.m_eq N.b_eq pass0)) (hr.mono (by decide)) ?rw (je_pr T.c_Poly T.a_Poly_row (je_var 0)) (je_pr T.c_Poly T.a_Poly_row (je_var 1)))) fun v H q => q)
  case gr =>
    intro x y H r1 r2
    obtain ⟨a, dx, fs, rfl, e1⟩ := rGr_isI x H r1
    obtain ⟨b, dy, gs, rfl, e2⟩ := rGr_isI y H r2
    exact ⟨a, b, dx, dy, fs, gs, rfl, rfl, e1, e2, _, _, ⟨N.p, rfl, rfl⟩, r1, r2⟩
  case rw =>
    rintro x y H ⟨a, xs, rfl, h1, h2⟩ ⟨b, ys, rfl, h3, h4⟩
    exact ⟨a, b, xs, ys, rfl, rfl, h1, h3, prs_of h h2 h4⟩
end
end Sq
end
section
set_option Elab.async false
set_option linter.all false
set_option maxRecDepth 100000
set_option maxHeartbeats 4000000
namespace Sq
open PySem PySem.Spec L2
open PyProof.Rows hiding St
open Evl (Ex)
section
variable {P : Program} {w : World} {K : PySem.W.Frag} {mg : Str → Option Value} {base : Heap} {α : Type}
/-! ### common_divisor -/
theorem sc_gcd : FnScope ["f", "g"] ["f", "g"] (defScope (topS 30)) := ⟨rfl, rfl, rfl, by decide +kernel, rfl, by decide +kernel, by decide +kernel⟩
def sGcd (N : NumK P w K mg base α) : Sg := fun Rs R => ∃ f g h n, Rs = [rPo N f, rPo N g] ∧ R = rPo N h ∧ gcdP N.o n f g = some h
theorem jt_isz {X : Cx} {τ : Ty} {e : Expr} {apos pos : Pos} {f : List α} (T : Tx K mg) (N : NumK P w K mg base α) (hr : Room 1 X.A) (hx : Passes CX0 X E0) (he : JE X e τ (rPo N f)) (hX : OfX X P w K mg base := by exact ⟨rfl, rfl, rfl, rfl, rfl⟩)
    (h1 : ∀ whole, isTrue (.Call (.Attribute e "is_zero" apos) [] [] pos) X.env whole = (do let v ← whole; standAt (Expr.Call (.Attribute e "is_zero" apos) [] [] pos).pos; holding [v] (truthy v)) := by intro _; rfl)
    {pl : Sem Bool} (ht : eval (.Call (.Attribute e "is_zero" apos) [] [] pos) X.env = (do
      let ov ← eval e X.env
      standAt apos.atName
      let (f, first) ← holding [ov] (getMethod ov "is_zero" pl)
      callWith pos f first (backTo pos (starEach [] X.env)) (backToKw pos (keywordEach [] X.env))) := by rfl) : JT X (.Call (.Attribute e "is_zero" apos) [] [] pos) τ (match f with
      | [] => true
      | _ :: _ => false) := by
  obtain ⟨rfl, rfl, rfl, rfl, rfl⟩ := hX
  refine JT.eq (jt_val (je_meth0 (pl := pl) he T.c_Poly (po_recv rfl) T.m_Poly_is_zero (ok_Poly_is_zero T N) hr T.b_Poly_is_zero hx ⟨f, rfl, rfl⟩ ht) h1) ?_
  cases f with
  | nil => rfl
  | cons x f => exact dec0 (by rw [List.length_cons]; omega)
theorem je_deg {X : Cx} {τ : Ty} {e : Expr} {apos pos : Pos} {f : List α} (T : Tx K mg) (N : NumK P w K mg base α) (hr : Room 1 X.A) (hx : Passes CX0 X E0) (he : JE X e τ (rPo N f)) (hX : OfX X P w K mg base := by exact ⟨rfl, rfl, rfl, rfl, rfl⟩)
    {pl : Sem Bool} (ht : eval (.Call (.Attribute e "degree" apos) [] [] pos) X.env = (do
      let ov ← eval e X.env
      standAt apos.atName
      let (f, first) ← holding [ov] (getMethod ov "degree" pl)
      callWith pos f first (backTo pos (starEach [] X.env)) (backToKw pos (keywordEach [] X.env))) := by rfl) : JE X (.Call (.Attribute e "degree" apos) [] [] pos) τ (rV (.int ((f.length : Int) - 1))) := by
  obtain ⟨rfl, rfl, rfl, rfl, rfl⟩ := hX
  exact je_meth0 (pl := pl) he T.c_Poly (po_recv rfl) T.m_Poly_degree (ok_Poly_degree T N) hr T.b_Poly_degree hx ⟨f, rfl, rfl⟩ ht
theorem ok_common_divisor (T : Tx K mg) (N : NumK P w K mg base α) : OkG P w K mg base 14 "common_divisor" ["f", "g"] (sGcd N) := by
  refine okS T.f_common_divisor sc_gcd (fun Rs R h => by obtain ⟨_, _, _, _, rfl, _⟩ := h; rfl) fun cdv A outer s H E Rs R hr h => ?_
  obtain ⟨f, g, h, n, rfl, rfl, hh⟩ := h
  refine jss_drop (je_call (ok_check_grounds T N) (hr.mono (by decide)) (by rfl) T.g_check_grounds T.f_check_grounds.kp T.b_check_grounds pass0 (ja_cons (je_var 0) (ja_cons (je_var 1) ja_nil)) ⟨f, g, rfl, rfl⟩) ?_
  refine jss_while (fun m τ' => ∃ f g, gcdP N.o m f g = some h ∧ τ' = [some (rPo N f), some (rPo N g)]) PassesOwn.never ⟨n, f, g, hh, rfl⟩ ?_
  rintro m τ' ⟨f, g, hh, rfl⟩
  cases m with
  | zero => cases hh
  | succ m =>
    cases g with
    | nil =>
      refine .inr ⟨jt_not (k := true) (jt_isz (f := []) T N (hr.mono (by decide)) pass0 (je_var 1)), ?_⟩
      exact jss_ret (je_meth0 (je_var 0) T.c_Poly (po_recv rfl) T.m_Poly_monic (ok_Poly_monic T N) hr T.b_Poly_monic pass0 ⟨f, h, rfl, rfl, hh⟩)
    | cons y ys =>
      obtain ⟨r, h1, h2⟩ := bnd_some (show bnd (modP N.o f (y :: ys)) _ = some h from hh)
      refine .inl ⟨jt_not (k := false) (jt_isz (f := y :: ys) T N (hr.mono (by decide)) pass0 (je_var 1)), ?_⟩
      exact jss_par 0 1 (Ra := rPo N (y :: ys)) (Rb := rPo N r) rfl sc_gcd.nd (je_var 1) (je_own T.i_Poly.2 T.m_Poly_mod (ok_Poly_mod T N) (hr.mono (by decide)) T.b_Poly_mod pass0 po_isI po_isI po_ref ⟨f, y :: ys, r, rfl, rfl, h1⟩ (je_var 0) (je_var 1)) (jss_nil ⟨m, Nat.lt_succ_self m, _, _, h2, rfl⟩)
/-! ### prime_root -/
theorem sc_root : FnScope ["f", "k"] ["f"] (defScope (topS 31)) := ⟨rfl, rfl, rfl, by decide +kernel, rfl, by decide +kernel, by decide +kernel⟩
theorem rg_small : ∀ j < 41, ∀ p < 32, 2 ≤ p → Builtin.Range.small 0 (j : Nat) (p : Nat) = true ∧ Builtin.Range.rangeSize 0 (j : Nat) (p : Nat) = (((j + p - 1) / p : Nat) : Int) := by decide +kernel
theorem rgC_pos {j p : Nat} (hj : j ≤ 40) (h2 : 2 ≤ p) (hp : p ≤ 31) : RgC 0 (j : Nat) (p : Nat) ((j + p - 1) / p) := by
  obtain ⟨a, b⟩ := rg_small j (by omega) p (by omega) h2
  exact ⟨by omega, by omega, a, b⟩
theorem ok_prime_root (T : Tx K mg) (N : NumK P w K mg base α) : OkG P w K mg base 12 "prime_root" ["f"] (sUn (rPo N) (rootP N.o N.p)) := by
  have solN : ∀ z, Solid (N.rel z) := N.sol
  refine okS T.f_prime_root sc_root (fun Rs R h => by obtain ⟨_, _, rfl, _⟩ := h; rfl) fun cdv A outer s H E Rs R hr h => ?_
  obtain ⟨f, g, rfl, rfl, h⟩ := h
  have hp0 : Nat.beq N.p 0 = false ∧ bnd (tab (fun i => nth f (Nat.mul i N.p)) (Nat.div (Nat.sub (Nat.add (len f) N.p) 1) N.p) 0) (polyO N.o) = some g := by
    unfold rootP at h
    split at h
    · cases h
    · rename_i e
      exact ⟨e, h⟩
  obtain ⟨hp0, h⟩ := hp0
  have hpp : Pr N.p := by
    rcases N.hp with e | e
    · rw [e] at hp0
      cases hp0
    · exact e
  obtain ⟨l, h1, h2⟩ := bnd_some h
  rw [len_eq] at h1
  obtain ⟨hl, hk⟩ := tab_some h1
  refine JSs.of fun σ H0 t => ?_
  have hf : f.length ≤ 40 := po_len 0 t
  have hlo := hpp.lo
  have hhi := hpp.hi
  refine jss_ret (je_make T.k_Poly (ok_Poly_init T N) hr (by rfl) T.g_Poly T.b_Poly_init pass0 (ja_cons (je_pg T.c_Poly T.a_Poly_ground (je_var 0)) (ja_cons (je_lc (Rs := rgI 0 (N.p : Nat) ((f.length + N.p - 1) / N.p)) (Rs' := l.map N.rel) (j := 1) rfl sc_root.nd
    (ji_range3 (by rfl) T.n_range (ja_cons je_int (ja_cons (R := rV (.int (f.length : Int))) (JE.sub (je_add (je_deg T N (hr.mono (by decide)) pass0 (je_var 0)) je_int) fun v H q => by rw [show v = _ from q]; show V.int _ = V.int _; congr 1; omega) (ja_cons (je_gp T.c_Ground T.a_Ground_p (je_pg T.c_Poly T.a_Poly_ground (je_var 0))) ja_nil))) (rgC_pos hf hlo hhi))
    (blkOk_by (show blkC ["f", "k"] (defScope (topS 31)) _ _ = true by decide +kernel)) (fun _ _ _ _ _ => pg_name (i := 1) sc_root.nd rfl (.inl rfl)) (fun s0 H0 C cl fp i R R' hR hR' => ?el) (fun R hR => ?so) ?hl ?sz) ja_nil)) (sPo_num h2))
  case el =>
    obtain ⟨hi, rfl⟩ := rgI_get hR
    rw [List.getElem?_map] at hR'
    cases e' : l[i]? with
    | none => rw [e'] at hR'; cases hR'
    | some z =>
      rw [e'] at hR'
      cases hR'
      have hz := hk i z e'
      rw [Nat.zero_add] at hz
      exact je_meth (je_var 0) T.c_Poly (po_recv rfl) T.m_Poly_coefficient (ok_Poly_coefficient T N) (hr.mono (by decide)) T.b_Poly_coefficient pass0 (ja_cons (JE.sub (R' := rV (.int ((i * N.p : Nat) : Int))) (je_var 1) fun v H q => by rw [show v = _ from q]; show V.int _ = V.int _; congr 1; push_cast; omega) ja_nil) ⟨f, _, z, rfl, rfl, hz⟩
  case so =>
    obtain ⟨a, _, rfl⟩ := List.mem_map.mp hR
    infer_instance
  case hl => rw [List.length_map, rgI_len, hl]; rfl
  case sz =>
    rw [rgI_len]
    exact Nat.le_trans (Nat.div_le_self _ _) (by omega)
end
end Sq
end
section
set_option Elab.async false
set_option linter.all false
set_option maxRecDepth 100000
set_option maxHeartbeats 4000000
namespace Sq
open PySem PySem.Spec L2
open PyProof.Rows hiding St
open Evl (Ex)
section
variable {P : Program} {w : World} {K : PySem.W.Frag} {mg : Str → Option Value} {base : Heap} {α : Type}
/-! ### squarefree_part -/
theorem sc_sqf : FnScope ["f", "slope", "rest", "own", "shared"] ["f"] (defScope (topS 32)) := ⟨rfl, rfl, rfl, by decide +kernel, rfl, by decide +kernel, by decide +kernel⟩
theorem beq1 {n : Nat} : decide (V.int ((n : Int) - 1) = V.int 0) = Nat.beq n 1 := by
  by_cases h : n = 1
  · subst h
    rfl
  · rw [show Nat.beq n 1 = false from Bool.eq_false_iff.mpr fun q => h (Nat.eq_of_beq_eq_true q)]
    exact decide_eq_false fun q => h (by have := V.int.inj q; omega)
theorem ok_squarefree_part (T : Tx K mg) (N : NumK P w K mg base α) : ∀ n, OkG P w K mg base (15 + n) "squarefree_part" ["f"] (sUn (rPo N) (sqfP N.o N.p n))
  | 0 => okS T.f_squarefree_part sc_sqf (fun Rs R h => by obtain ⟨_, _, rfl, _⟩ := h; rfl) fun cdv A outer s H E Rs R hr h => by
    obtain ⟨f, g, rfl, rfl, h⟩ := h
    cases h
  | n + 1 => by
    refine okS T.f_squarefree_part sc_sqf (fun Rs R h => by obtain ⟨_, _, rfl, _⟩ := h; rfl) fun cdv A outer s H E Rs R hr h => ?_
    obtain ⟨f, g, rfl, rfl, h⟩ := h
    have hr1 : Room 14 _ := hr.mono (show 14 ≤ 15 + n by omega)
    cases f with
    | nil => cases h
    | cons x xs =>
      refine jss_skip (jt_isz (f := x :: xs) T N (hr1.mono (by decide)) pass0 (je_var 0)) ?_
      obtain ⟨f, h1, h⟩ := bnd_some (show bnd (monicP N.o (x :: xs)) _ = some g from h)
      refine jss_set 0 sc_sqf.nd (R := rPo N f) (je_meth0 (je_var 0) T.c_Poly (po_recv rfl) T.m_Poly_monic (ok_Poly_monic T N) (hr1.mono (by decide)) T.b_Poly_monic pass0 ⟨_, f, rfl, rfl, h1⟩) ?_
      cases hb : Nat.beq (len f) 1 with
      | true =>
        rw [hb] at h
        obtain rfl : f = g := Option.some.inj h
        rw [len_eq] at hb
        exact jss_ifT (Nx' := fun _ => False) (JT.eq (jt_eq rfl (je_deg T N (hr1.mono (by decide)) pass0 (je_var 0)) je_int) (beq1.trans hb)) (jss_ret (je_var 0)) fun _ z => z.elim
      | false =>
        rw [hb] at h
        rw [len_eq] at hb
        refine jss_skip (JT.eq (jt_eq rfl (je_deg T N (hr1.mono (by decide)) pass0 (je_var 0)) je_int) (beq1.trans hb)) ?_
        obtain ⟨sl, h2, h⟩ := bnd_some (show bnd (derivP N.o f) _ = some g from h)
        refine jss_set 1 sc_sqf.nd (R := rPo N sl) (je_meth0 (je_var 0) T.c_Poly (po_recv rfl) T.m_Poly_derivative (ok_Poly_derivative T N) (hr1.mono (by decide)) T.b_Poly_derivative pass0 ⟨_, sl, rfl, rfl, h2⟩) ?_
        cases sl with
        | nil =>
          obtain ⟨t, h3, h⟩ := bnd_some (show bnd (rootP N.o N.p f) _ = some g from h)
          refine jss_ifT (Nx' := fun _ => False) (jt_isz (f := []) T N (hr1.mono (by decide)) pass0 (je_var 1)) (jss_ret ?_) fun _ z => z.elim
          refine je_call (ok_squarefree_part T N n) hr (by rfl) T.g_squarefree_part T.f_squarefree_part.kp T.b_squarefree_part pass0 (ja_cons (R := rPo N t) ?_ ja_nil) ⟨t, g, rfl, rfl, h⟩
          exact je_call (ok_prime_root T N) (hr1.mono (by decide)) (by rfl) T.g_prime_root T.f_prime_root.kp T.b_prime_root pass0 (ja_cons (je_var 0) ja_nil) ⟨f, t, rfl, rfl, h3⟩
        | cons y ys =>
          refine jss_skip (jt_isz (f := y :: ys) T N (hr1.mono (by decide)) pass0 (je_var 1)) ?_
          obtain ⟨rest, h3, h⟩ := bnd_some (show bnd (gcdP N.o 40 f (y :: ys)) _ = some g from h)
          refine jss_set 2 sc_sqf.nd (R := rPo N rest) (je_call (ok_common_divisor T N) hr1 (by rfl) T.g_common_divisor T.f_common_divisor.kp T.b_common_divisor pass0 (ja_cons (je_var 0) (ja_cons (je_var 1) ja_nil)) ⟨f, _, rest, 40, rfl, rfl, h3⟩) ?_
          obtain ⟨own, h4, h⟩ := bnd_some h
          refine jss_set 3 sc_sqf.nd (R := rPo N own) (je_own T.i_Poly.2 T.m_Poly_floordiv (ok_Poly_floordiv T N) (hr1.mono (by decide)) T.b_Poly_floordiv pass0 po_isI po_isI po_ref ⟨f, rest, own, rfl, rfl, h4⟩ (je_var 0) (je_var 2)) ?_
          obtain ⟨shared, h5, h⟩ := bnd_some h
          refine jss_set 4 sc_sqf.nd (R := rPo N shared) (je_call (ok_common_divisor T N) hr1 (by rfl) T.g_common_divisor T.f_common_divisor.kp T.b_common_divisor pass0 (ja_cons (je_var 2) (ja_cons (je_var 3) ja_nil)) ⟨rest, own, shared, 40, rfl, rfl, h5⟩) ?_
          obtain ⟨rest2, h6, h⟩ := bnd_some h
          refine jss_while (fun m τ' => ∃ rest shared, stripP N.o own m rest shared = some rest2 ∧ τ' = [some (rPo N f), some (rPo N (y :: ys)), some (rPo N rest), some (rPo N own), some (rPo N shared)]) PassesOwn.never ⟨40, rest, shared, h6, rfl⟩ ?_
          rintro m τ' ⟨rest, shared, h6, rfl⟩
          cases m with
          | zero => cases h6
          | succ m =>
            cases hs : Nat.ble (len shared) 1 with
            | false =>
              have h6 : (match Nat.ble (len shared) 1 with
                | true => some rest
                | false => bnd (fdivP N.o rest shared) fun rest => bnd (gcdP N.o 40 rest own) fun shared => stripP N.o own m rest shared) = some rest2 := h6
              rw [hs] at h6
              obtain ⟨r1, h7, h6⟩ := bnd_some (show bnd (fdivP N.o rest shared) _ = some rest2 from h6)
              obtain ⟨s1, h8, h6⟩ := bnd_some h6
              have hgt : ¬ shared.length ≤ 1 := fun q => by
                rw [len_eq, Nat.ble_eq_true_of_le q] at hs
                cases hs
              refine .inl ⟨JT.eq (jt_gt (je_deg T N (hr1.mono (by decide)) pass0 (je_var 4)) je_int) (decide_eq_true (by omega)), ?_⟩
              refine jss_set 2 sc_sqf.nd (R := rPo N r1) (je_own T.i_Poly.2 T.m_Poly_floordiv (ok_Poly_floordiv T N) (hr1.mono (by decide)) T.b_Poly_floordiv pass0 po_isI po_isI po_ref ⟨rest, shared, r1, rfl, rfl, h7⟩ (je_var 2) (je_var 4)) ?_
              exact jss_set 4 sc_sqf.nd (R := rPo N s1) (je_call (ok_common_divisor T N) hr1 (by rfl) T.g_common_divisor T.f_common_divisor.kp T.b_common_divisor pass0 (ja_cons (je_var 2) (ja_cons (je_var 3) ja_nil)) ⟨r1, own, s1, 40, rfl, rfl, h8⟩) (jss_nil ⟨m, Nat.lt_succ_self m, r1, s1, h6, rfl⟩)
            | true =>
              have h6 : (match Nat.ble (len shared) 1 with
                | true => some rest
                | false => bnd (fdivP N.o rest shared) fun rest => bnd (gcdP N.o 40 rest own) fun shared => stripP N.o own m rest shared) = some rest2 := h6
              rw [hs] at h6
              obtain rfl : rest = rest2 := Option.some.inj h6
              have hle : shared.length ≤ 1 := by
                rw [len_eq] at hs
                exact Nat.le_of_ble_eq_true hs
              refine .inr ⟨JT.eq (jt_gt (je_deg T N (hr1.mono (by decide)) pass0 (je_var 4)) je_int) (decide_eq_false (by omega)), ?_⟩
              cases hq : Nat.beq (len rest) 1 with
              | true =>
                rw [hq] at h
                obtain rfl : own = g := Option.some.inj h
                rw [len_eq] at hq
                exact jss_ifT (Nx' := fun _ => False) (JT.eq (jt_eq rfl (je_deg T N (hr1.mono (by decide)) pass0 (je_var 2)) je_int) (beq1.trans hq)) (jss_ret (je_var 3)) fun _ z => z.elim
              | false =>
                rw [hq] at h
                rw [len_eq] at hq
                refine jss_skip (JT.eq (jt_eq rfl (je_deg T N (hr1.mono (by decide)) pass0 (je_var 2)) je_int) (beq1.trans hq)) ?_
                obtain ⟨t, h9, h⟩ := bnd_some (show bnd (rootP N.o N.p rest) _ = some g from h)
                obtain ⟨u, h10, h⟩ := bnd_some h
                refine jss_ret (je_own (Rb := rPo N u) T.i_Poly.2 T.m_Poly_mul (ok_Poly_mul T N) (hr1.mono (by decide)) T.b_Poly_mul pass0 po_isI po_isI po_ref ⟨own, u, g, rfl, rfl, h⟩ (je_var 3) ?_)
                refine je_call (ok_squarefree_part T N n) hr (by rfl) T.g_squarefree_part T.f_squarefree_part.kp T.b_squarefree_part pass0 (ja_cons (R := rPo N t) ?_ ja_nil) ⟨t, u, rfl, rfl, h10⟩
                exact je_call (ok_prime_root T N) (hr1.mono (by decide)) (by rfl) T.g_prime_root T.f_prime_root.kp T.b_prime_root pass0 (ja_cons (je_var 2) ja_nil) ⟨rest, t, rfl, rfl, h9⟩
/-! ### multiplicity -/
theorem sc_mult : FnScope ["f", "g", "k"] ["f", "g"] (defScope (topS 33)) := ⟨rfl, rfl, rfl, by decide +kernel, rfl, by decide +kernel, by decide +kernel⟩
def sMult (N : NumK P w K mg base α) : Sg := fun Rs R => ∃ f g k, Rs = [rPo N f, rPo N g] ∧ R = rV (.int (k : Nat)) ∧ multP N.o f g = some k
theorem ok_multiplicity (T : Tx K mg) (N : NumK P w K mg base α) : OkG P w K mg base 14 "multiplicity" ["f", "g"] (sMult N) := by
  refine okS T.f_multiplicity sc_mult (fun Rs R h => by obtain ⟨_, _, _, rfl, _⟩ := h; rfl) fun cdv A outer s H E Rs R hr h => ?_
  obtain ⟨f, g, k, rfl, rfl, h⟩ := h
  refine jss_drop (je_call (ok_check_grounds T N) (hr.mono (by decide)) (by rfl) T.g_check_grounds T.f_check_grounds.kp T.b_check_grounds pass0 (ja_cons (je_var 0) (ja_cons (je_var 1) ja_nil)) ⟨f, g, rfl, rfl⟩) ?_
  cases f with
  | nil => cases h
  | cons x xs =>
    refine jss_skip (jt_isz (f := x :: xs) T N (hr.mono (by decide)) pass0 (je_var 0)) ?_
    cases hg : Nat.ble (len g) 1 with
    | true =>
      have h : (match Nat.ble (len g) 1 with
        | true => none
        | false => multL N.o g 40 (x :: xs) 0) = some k := h
      rw [hg] at h
      cases h
    | false =>
      have h : (match Nat.ble (len g) 1 with
        | true => none
        | false => multL N.o g 40 (x :: xs) 0) = some k := h
      rw [hg] at h
      have hgt : ¬ g.length ≤ 1 := fun q => by
        rw [len_eq, Nat.ble_eq_true_of_le q] at hg
        cases hg
      refine jss_skip (JT.eq (jt_lt (je_deg T N (hr.mono (by decide)) pass0 (je_var 1)) je_int) (decide_eq_false (by omega))) ?_
      refine jss_set 2 sc_mult.nd je_int ?_
      refine jss_while (fun m τ' => ∃ f j, multL N.o g m f j = some k ∧ τ' = [some (rPo N f), some (rPo N g), some (rV (.int (j : Nat)))]) PassesOwn.never ⟨40, x :: xs, 0, h, rfl⟩ ?_
      rintro m τ' ⟨f, j, h, rfl⟩
      cases m with
      | zero => cases h
      | succ m =>
        obtain ⟨r, h1, h⟩ := bnd_some (show bnd (modP N.o f g) _ = some k from h)
        cases r with
        | cons y ys =>
          obtain rfl : j = k := Option.some.inj h
          refine .inr ⟨jt_isz (f := y :: ys) T N (hr.mono (by decide)) pass0 ?_, jss_ret (je_var 2)⟩
          exact je_own T.i_Poly.2 T.m_Poly_mod (ok_Poly_mod T N) (hr.mono (by decide)) T.b_Poly_mod pass0 po_isI po_isI po_ref ⟨f, g, _, rfl, rfl, h1⟩ (je_var 0) (je_var 1)
        | nil =>
          obtain ⟨q, h2, h⟩ := bnd_some (show bnd (fdivP N.o f g) _ = some k from h)
          refine .inl ⟨jt_isz (f := []) T N (hr.mono (by decide)) pass0 ?_, ?_⟩
          · exact je_own T.i_Poly.2 T.m_Poly_mod (ok_Poly_mod T N) (hr.mono (by decide)) T.b_Poly_mod pass0 po_isI po_isI po_ref ⟨f, g, _, rfl, rfl, h1⟩ (je_var 0) (je_var 1)
          · refine jss_set 0 sc_mult.nd (R := rPo N q) (je_own T.i_Poly.2 T.m_Poly_floordiv (ok_Poly_floordiv T N) (hr.mono (by decide)) T.b_Poly_floordiv pass0 po_isI po_isI po_ref ⟨f, g, q, rfl, rfl, h2⟩ (je_var 0) (je_var 1)) ?_
            exact jss_aug_add 2 sc_mult.nd je_int (jss_nil ⟨m, Nat.lt_succ_self m, q, j + 1, h, rfl⟩)
end
end Sq
end
section
set_option Elab.async false
set_option linter.all false
set_option maxRecDepth 100000
set_option maxHeartbeats 4000000
namespace Sq
open PySem PySem.Spec L2
open PyProof.Rows hiding St
open Evl (Ex)
/-! ### defs that raise -/
/-- on such arguments an own error of the class at C is raised -/
def spR (S : List Rl → Prop) (C : Addr) : Sp := fun vs H _ E => ∃ Rs, S Rs ∧ AllR vs Rs H ∧ ∀ d H', Ex H H' → E (.ref C) d H'
def noD : Ends := { nx := fun _ _ => False, rt := fun _ _ => False }
/-- the body raises, the heap grown from H0 -/
def JR (X : Cx) (sts : List Stmt) (τ : Ty) (H0 : Hp) : Prop := ∀ σ H, Ex H0 H → Typ σ τ H → SSs X sts noD σ H
section
variable {X : Cx} {τ : Ty} {R : Rl} {c e : Expr} {pos p p2 pos' : Pos} {x m : Str} {rest A B : List Stmt} {H0 : Hp} {C : Addr} {j : Nat} {es : List Expr} {Rs : List Rl}
theorem jr_skip (hc : JT X c τ false) (hr : JR X rest τ H0) : JR X (.If c A [] pos :: rest) τ H0 := fun σ H ex t =>
  pss_sss (pss_cons (ps_if st_pt sss_pss pss_nil) sss_pss) ((hc σ H t).mono fun k H1 ⟨ek, e1⟩ => by
    subst ek
    rw [if_neg Bool.false_ne_true]
    exact hr σ H1 (ex.trans e1) (t.mo e1))
theorem jr_if (hc : JT X c τ true) (ha : JR X A τ H0) : JR X (.If c A B pos :: rest) τ H0 := fun σ H ex t =>
  pss_sss (pss_cons (ps_if st_pt sss_pss (sss_pss (sts := B))) (sss_pss (sts := rest))) ((hc σ H t).mono fun k H1 ⟨ek, e1⟩ => by
    subst ek
    rw [if_pos rfl]
    exact (ha σ H1 (ex.trans e1) (t.mo e1)).mono (fun _ _ q => False.elim q) (fun _ _ q => False.elim q) (fun _ _ q => False.elim q) (fun _ _ q => False.elim q))
theorem jr_drop (he : JE X e τ R) (hr : JR X rest τ H0) (hs : swapsWith e none pos.line X.env = pure false := by rfl) : JR X (.Expr e pos :: rest) τ H0 := fun σ H ex t =>
  pss_sss (pss_cons (ps_expr se_pe hs) sss_pss) ((he σ H t).mono fun v H1 ⟨e1, r⟩ => hr σ H1 (ex.trans e1) (t.mo e1))
theorem jr_raise {W : WX} {B' newId initId : String} {bmB : List Value} (hc : X.calm = true) (tk : Takes X W) (F : ExcBaseFacts B' newId initId bmB) (q : PySem.W.excIn X.K C bmB newId = true) (gC : X.mg x = some (.ref C)) (kC : PySem.W.keepIn X.K (.ref C) = true) (r : Raises X (.ref C)) (hg : Gl X x)
    (hW : ∀ d σ H, Ex H0 H → W (.ref C) d σ H) (hdb : (x == ("__debug__" : Str)) = false := by decide) : JR X (.Raise (some (.Call (.Name x p) [.Constant (.str m) j p2] [] pos)) none pos' :: rest) τ H0 := fun σ H ex t =>
  pss_sss (pss_cons (ps_raise hc tk (pmk_own F q gC kC r hg hdb)) pss_never) (hW none σ H ex)
/-- a call that raises -/
theorem sss_callR {W : WX} {k : Nat} {f : Addr} {fd : FuncData} {ps : List Str} {S : List Rl → Prop} {D : Ends} {σ : L2.St} {H : Hp} (F : FnOk X.prog X.w X.K X.mg X.base (L2.CX X.prog X.w) k f fd ps (spR S C)) (hr : Room k X.A) (hg : Gl X x) (hm : X.mg x = some (.ref f)) (hk : PySem.W.keepIn X.K (.ref f) = true) (hb : Binds X.K fd ps []) (tk : Takes X W)
    (ha : JA X (e :: es) τ Rs) (hS : S Rs) (t : Typ σ τ H) (hW : ∀ d H', Ex H H' → W (.ref C) d σ H')
    (hdb : (x == ("__debug__" : Str)) = false := by decide) (he : starEach (e :: es) X.env = (false, eval e X.env) :: starEach es X.env := by rfl) (hpl : (backTo pos (starEach es X.env)).any (·.1) = false := by rfl) (hs : swapsWith (.Call (.Name x p) (e :: es) [] pos) none pos'.line X.env = pure false := by rfl) :
    SSs X (.Expr (.Call (.Name x p) (e :: es) [] pos) pos' :: rest) D σ H :=
  pss_sss (pss_cons (ps_expr (pe_callS F hr hg hm hk hb (fun σ => passAt tk σ) sa_pa hdb he hpl) hs) (sss_pss (sts := rest))) ((ha σ H t).mono fun vs H1 ⟨e1, r1⟩ => ⟨Rs, hS, r1, fun d H' e2 => hW d H' (e1.trans e2)⟩)
/-- try: body, which raises; except x: suite -/
theorem jss_try {τ' : Ty} {cls : Value} {c : Value} {b₀ : Stmt} {suite body : List Stmt} {np : Pos} {Nx : Ty → Prop} {Rt : Rl} (hs : X.stack = X.env :: X.outer) (hf : X.env.frame = some X.env.locals) (hc : Names X x c) (hm : PySem.W.exmOne X.K cls c = some true)
    (hb : ∀ (W : WX) (pn : List (Addr × Obj)) (xe : Value → Shared → Prop), Takes (X.tr pn xe) W → ∀ D σ H, Typ σ τ H → (∀ d H', Ex H H' → W cls d σ H') → SSs (X.tr pn xe) body D σ H)
    (hsu : ∀ (a : Addr) (oe : Obj) (pn : List (Addr × Obj)), JSs (X.suite a ((a, oe) :: pn)) (b₀ :: suite) τ (fun τ2 => τ2 = τ') rNo) (hr : JSs X rest τ' Nx Rt) :
    JSs X (.Try body [.ExceptHandler (some (.Name x np)) none (b₀ :: suite) pos'] [] [] pos :: rest) τ Nx Rt := fun σ H t =>
  pss_sss (pss_cons (ps_try_only (tb := fun W D σ H => ∀ pn xe, Takes (X.tr pn xe) W → SSs (X.tr pn xe) body D σ H) (ts := fun a cls d D σ H => ∀ oe pn, SSs (X.suite a ((a, oe) :: pn)) (b₀ :: suite) D σ H) (Wout := fun _ _ _ _ => False) hs hf hc takes0
    (fun W pn xe tk _ => ⟨fun pins s σ H D I h => h pn xe tk pins s I⟩) (fun a oe cls d pn _ _ => ⟨fun pins s σ H D I h => h oe pn pins s I⟩)) sss_pss)
    fun pn xe tk => hb _ pn xe tk _ σ H t fun d H' e1 => ⟨true, hm, fun _ a _ oe pn => (hsu a oe pn σ H' (t.mo e1)).mono (fun σ2 H2 ⟨e2, τ2, q, t2⟩ => by
      subst q
      exact hr.up t2 (e1.trans e2)) (fun _ _ q => False.elim q.2) (fun _ _ q => False.elim q) (fun _ _ q => False.elim q), fun z => nomatch z⟩
end
section
variable {P : Program} {w : World} {K : PySem.W.Frag} {mg : Str → Option Value} {base : Heap} {α : Type}
theorem okR {x qual : Str} {params : Arguments} {body : List Stmt} {scope : Scope} {dvs : List V} {kws : List (Str × V)} {f C : Addr} {fd : FuncData} {Nm ps : List Str} {k : Nat} {S : List Rl → Prop} (F : FunD K x qual params body scope dvs kws f fd) (Sc : FnScope Nm ps scope) (len : ∀ Rs, S Rs → Rs.length = ps.length)
    (hb : ∀ (cdv : Value) (A : Around) (outer : List Env) (s : Shared) (H : Hp) (E : XK) (Rs : List Rl), Room k (A.deeper (envOfC qual scope s.heap.objs.size f cdv)) → S Rs → (∀ d H', Ex H H' → E (.ref C) d H') →
      JR (cxOf (L2.CX P w) P w K mg base Nm qual scope f cdv A outer s H E) body (ty0 Nm Rs) H) : FnOk P w K mg base (L2.CX P w) (k + 1) f fd ps (spR S C) := by
  refine F.ok Sc (fun vs H Q E h => ?_) (fun cdv A outer s H vs Q E hr h => ?_)
  · obtain ⟨Rs, hS, ha, _⟩ := h
    rw [ha.len]
    exact len Rs hS
  · obtain ⟨Rs, hS, ha, q⟩ := h
    refine ⟨_, sss_pss, ?_⟩
    exact (hb cdv A outer s H E Rs hr hS q (L2.start Nm vs) H (Evl.Ex.refl H) (typ_start ha)).mono (fun _ _ z => False.elim z) (fun _ _ z => False.elim z) (fun _ _ z => False.elim z) (fun _ _ z => False.elim z)
theorem ok_sqf_zero (T : Tx K mg) (N : NumK P w K mg base α) : FnOk P w K mg base (L2.CX P w) 3 (aG K "squarefree_part") (dG K "squarefree_part") ["f"] (spR (fun Rs => Rs = [rPo N []]) (aC K "ZeroDivisor")) := by
  refine okR T.f_squarefree_part sc_sqf (fun Rs h => by cases h; rfl) fun cdv A outer s H E Rs hr h q => ?_
  cases h
  refine jr_if (jt_isz (f := []) T N (hr.mono (by decide)) pass0 (je_var 0)) ?_
  obtain ⟨x1, x2, x3, x4⟩ := He.exc_ok T.e_ZeroDivisor
  exact jr_raise rfl (takes_of rfl rfl rfl rfl) PySem.F.excBase_ValueError x1 T.g_ZeroDivisor x2 (raises_own x3 x4) (by rfl) fun d σ H e => q d H e
theorem ok_mult_zero (T : Tx K mg) (N : NumK P w K mg base α) : FnOk P w K mg base (L2.CX P w) 4 (aG K "multiplicity") (dG K "multiplicity") ["f", "g"] (spR (fun Rs => ∃ g, Rs = [rPo N [], rPo N g]) (aC K "ZeroDivisor")) := by
  refine okR T.f_multiplicity sc_mult (fun Rs h => by obtain ⟨_, rfl⟩ := h; rfl) fun cdv A outer s H E Rs hr h q => ?_
  obtain ⟨g, rfl⟩ := h
  refine jr_drop (je_call (ok_check_grounds T N) (hr.mono (by decide)) (by rfl) T.g_check_grounds T.f_check_grounds.kp T.b_check_grounds pass0 (ja_cons (je_var 0) (ja_cons (je_var 1) ja_nil)) ⟨_, g, rfl, rfl⟩) ?_
  refine jr_if (jt_isz (f := []) T N (hr.mono (by decide)) pass0 (je_var 0)) ?_
  obtain ⟨x1, x2, x3, x4⟩ := He.exc_ok T.e_ZeroDivisor
  exact jr_raise rfl (takes_of rfl rfl rfl rfl) PySem.F.excBase_ValueError x1 T.g_ZeroDivisor x2 (raises_own x3 x4) (by rfl) fun d σ H e => q d H e
theorem ok_mult_low (T : Tx K mg) (N : NumK P w K mg base α) : FnOk P w K mg base (L2.CX P w) 4 (aG K "multiplicity") (dG K "multiplicity") ["f", "g"] (spR (fun Rs => ∃ x f g, Rs = [rPo N (x :: f), rPo N g] ∧ g.length ≤ 1) (aC K "Malformed")) := by
  refine okR T.f_multiplicity sc_mult (fun Rs h => by obtain ⟨_, _, _, rfl, _⟩ := h; rfl) fun cdv A outer s H E Rs hr h q => ?_
  obtain ⟨x, f, g, rfl, hg⟩ := h
  refine jr_drop (je_call (ok_check_grounds T N) (hr.mono (by decide)) (by rfl) T.g_check_grounds T.f_check_grounds.kp T.b_check_grounds pass0 (ja_cons (je_var 0) (ja_cons (je_var 1) ja_nil)) ⟨_, g, rfl, rfl⟩) ?_
  refine jr_skip (jt_isz (f := x :: f) T N (hr.mono (by decide)) pass0 (je_var 0)) ?_
  refine jr_if (JT.eq (jt_lt (je_deg T N (hr.mono (by decide)) pass0 (je_var 1)) je_int) (decide_eq_true (by omega))) ?_
  obtain ⟨x1, x2, x3, x4⟩ := He.exc_ok T.e_Malformed
  exact jr_raise rfl (takes_of rfl rfl rfl rfl) PySem.F.excBase_ValueError x1 T.g_Malformed x2 (raises_own x3 x4) (by rfl) fun d σ H e => q d H e
end
end Sq
end
section
set_option Elab.async false
set_option linter.all false
set_option maxRecDepth 100000
set_option maxHeartbeats 4000000
namespace Sq
open PySem PySem.Spec L2
open PyProof.Rows hiding St
open Evl (Ex)
section
variable {P : Program} {w : World} {K : PySem.W.Frag} {mg : Str → Option Value} {base : Heap} {α : Type}
/-! ### _law_refuses -/
def sRef (N : NumK P w K mg base α) : Sg := fun Rs R => ∃ x f one, Rs = [rGr K N.p] ∧ R = rV (.bl true) ∧ intsP N.o [0, 1] = some (x :: f) ∧ intsP N.o [1] = some one ∧ one.length ≤ 1
theorem sc_ref : FnScope ["_law_ground_here", "_law_zero", "_law_line", "_law_told"] ["_law_ground_here"] (defScope (topS 41)) := ⟨rfl, rfl, rfl, by decide +kernel, rfl, by decide +kernel, by decide +kernel⟩
theorem ok_law_refuses (T : Tx K mg) (N : NumK P w K mg base α) : OkG P w K mg base 12 "_law_refuses" ["_law_ground_here"] (sRef N) := by
  refine okS T.f_law_refuses sc_ref (fun Rs R h => by obtain ⟨_, _, _, rfl, _⟩ := h; rfl) fun cdv A outer s H E Rs R hr h => ?_
  obtain ⟨x, f, one, rfl, rfl, h1, h2, h3⟩ := h
  refine jss_set 1 sc_ref.nd (R := rPo N []) (je_make T.k_Poly (ok_Poly_init T N) hr (by rfl) T.g_Poly T.b_Poly_init pass0 (ja_cons (je_var 0) (ja_cons (je_lst ja_nil (by decide)) ja_nil)) (sPo_int (is := []) rfl)) ?_
  refine jss_set 2 sc_ref.nd (R := rPo N (x :: f)) (je_make T.k_Poly (ok_Poly_init T N) hr (by rfl) T.g_Poly T.b_Poly_init pass0 (ja_cons (je_var 0) (ja_cons (je_lst (ja_cons je_int (ja_cons je_int ja_nil)) (by show 2 ≤ 1000; decide)) ja_nil)) (sPo_int (is := [0, 1]) h1)) ?_
  refine jss_set 3 sc_ref.nd je_int ?_
  let τ (n : Int) : Ty := [some (rGr K N.p), some (rPo N []), some (rPo N (x :: f)), some (rV (.int n))]
  refine jss_try (τ' := τ 1) (cls := .ref (aC K "ZeroDivisor")) (c := .ref (aC K "ZeroDivisor")) rfl rfl ⟨rfl, by decide, Or.inl T.g_ZeroDivisor⟩ T.h_ZeroDivisor ?_ (fun a oe pn => jss_set 3 sc_ref.nd (je_add (je_var 3) je_int) (jss_nil rfl)) ?_
  · intro W pn xe tk D σ H1 t hW
    exact sss_callR (ok_sqf_zero T N) (hr.mono (by decide)) (by rfl) T.g_squarefree_part T.f_squarefree_part.kp T.b_squarefree_part tk (ja_cons (je_var 1) ja_nil) rfl t hW
  refine jss_try (τ' := τ 2) (cls := .ref (aC K "ZeroDivisor")) (c := .ref (aC K "ZeroDivisor")) rfl rfl ⟨rfl, by decide, Or.inl T.g_ZeroDivisor⟩ T.h_ZeroDivisor ?_ (fun a oe pn => jss_set 3 sc_ref.nd (je_add (je_var 3) je_int) (jss_nil rfl)) ?_
  · intro W pn xe tk D σ H1 t hW
    exact sss_callR (ok_mult_zero T N) (hr.mono (by decide)) (by rfl) T.g_multiplicity T.f_multiplicity.kp T.b_multiplicity tk (ja_cons (je_var 1) (ja_cons (je_var 2) ja_nil)) ⟨_, rfl⟩ t hW
  refine jss_try (τ' := τ 3) (cls := .ref (aC K "Malformed")) (c := .ref (aC K "Malformed")) rfl rfl ⟨rfl, by decide, Or.inl T.g_Malformed⟩ T.h_Malformed ?_ (fun a oe pn => jss_set 3 sc_ref.nd (je_add (je_var 3) je_int) (jss_nil rfl)) ?_
  · intro W pn xe tk D σ H1 t hW
    exact sss_callR (ok_mult_low T N) (hr.mono (by decide)) (by rfl) T.g_multiplicity T.f_multiplicity.kp T.b_multiplicity tk (ja_cons (je_var 2) (ja_cons (R := rPo N one) (je_make T.k_Poly (ok_Poly_init T N) hr (by rfl) T.g_Poly T.b_Poly_init pass0 (ja_cons (je_var 0) (ja_cons (je_lst (ja_cons je_int ja_nil) (by show 1 ≤ 1000; decide)) ja_nil)) (sPo_int (is := [1]) h2)) ja_nil)) ⟨x, f, one, rfl, h3⟩ t hW
  refine jss_try (τ' := τ 4) (cls := .ref (aC K "Malformed")) (c := .ref (aC K "Malformed")) rfl rfl ⟨rfl, by decide, Or.inl T.g_Malformed⟩ T.h_Malformed ?_ (fun a oe pn => jss_set 3 sc_ref.nd (je_add (je_var 3) je_int) (jss_nil rfl)) ?_
  · intro W pn xe tk D σ H1 t hW
    exact sss_callR (ok_mult_low T N) (hr.mono (by decide)) (by rfl) T.g_multiplicity T.f_multiplicity.kp T.b_multiplicity tk (ja_cons (je_var 2) (ja_cons (je_var 1) ja_nil)) ⟨x, f, [], rfl, Nat.zero_le 1⟩ t hW
  exact jss_ret (JE.sub (je_eq rfl (je_var 3 (R := rV (.int 4))) je_int) fun v H q => q)
/-! ### _law_rest, _law_ground, _law_poly -/
def restI (p : Nat) (i : Int) : Int := if p = 0 then i else i % (p : Int)
def sRest : Sg := fun Rs R => ∃ (p : Nat) (i : Int), Rs = [rV (.int (p : Int)), rV (.int i)] ∧ R = rV (.int (restI p i))
theorem sc_rest : FnScope ["_law_p", "_law_x"] ["_law_p", "_law_x"] (defScope (topS 39)) := ⟨rfl, rfl, rfl, by decide +kernel, rfl, by decide +kernel, by decide +kernel⟩
theorem ok_law_rest (T : Tx K mg) : OkG P w K mg base 1 "_law_rest" ["_law_p", "_law_x"] sRest := by
  refine okS T.f_law_rest sc_rest (fun Rs R h => by obtain ⟨_, _, rfl, _⟩ := h; rfl) fun cdv A outer s H E Rs R hr h => ?_
  obtain ⟨p, i, rfl, rfl⟩ := h
  unfold restI
  by_cases hp : p = 0
  · rw [if_pos hp]
    subst hp
    exact jss_ifT (Nx' := fun _ => False) (JT.eq (jt_eq rfl (je_var 0) je_int) (by rfl)) (jss_ret (je_var 1)) fun _ z => z.elim
  · rw [if_neg hp]
    exact jss_skip (JT.eq (jt_eq rfl (je_var 0) je_int) (dec0 (by omega))) (jss_ret (je_modL (je_var 1) (je_var 0) (by omega)))
def sGround (K : PySem.W.Frag) : Sg := fun Rs R => ∃ p : Nat, Rs = [rV (.int (p : Int))] ∧ R = rGr K p ∧ (p = 0 ∨ Pr p)
theorem sc_ground : FnScope ["_law_p"] ["_law_p"] (defScope (topS 38)) := ⟨rfl, rfl, rfl, by decide +kernel, rfl, by decide +kernel, by decide +kernel⟩
theorem ok_law_ground (T : Tx K mg) : OkG P w K mg base 5 "_law_ground" ["_law_p"] (sGround K) := by
  refine okS T.f_law_ground sc_ground (fun Rs R h => by obtain ⟨_, rfl, _⟩ := h; rfl) fun cdv A outer s H E Rs R hr h => ?_
  obtain ⟨p, rfl, rfl, hp⟩ := h
  obtain ⟨ds, hd, hb⟩ := T.bd_Ground_init
  by_cases h0 : p = 0
  · subst h0
    exact jss_ifT (Nx' := fun _ => False) (JT.eq (jt_eq rfl (je_var 0) je_int) (by rfl)) (jss_ret (je_make0 T.k_Ground (ok_Ground_init T) hr (by rfl) T.g_Ground hb hd pass0 dfl_v ⟨0, rfl, rfl, .inl rfl⟩)) fun _ z => z.elim
  · refine jss_skip (JT.eq (jt_eq rfl (je_var 0) je_int) (dec0 (by omega))) (jss_ret ?_)
    exact je_make T.k_Ground (ok_Ground_init T) hr (by rfl) T.g_Ground T.b_Ground_init pass0 (ja_cons (je_var 0) ja_nil) ⟨p, rfl, rfl, hp⟩
def rRow (K : PySem.W.Frag) (row : List Int) : Rl := rLst K (row.map fun i => rV (.int i))
def sPoly (N : NumK P w K mg base α) : Sg := fun Rs R => ∃ row f, Rs = [rGr K N.p, rRow K row] ∧ R = rPo N f ∧ rowP N.o row = some f ∧ row.length ≤ 40
theorem sc_lpoly : FnScope ["_law_ground_here", "_law_row", "_law_c"] ["_law_ground_here", "_law_row"] (defScope (topS 40)) := ⟨rfl, rfl, rfl, by decide +kernel, rfl, by decide +kernel, by decide +kernel⟩
theorem ok_law_poly (T : Tx K mg) (N : NumK P w K mg base α) : OkG P w K mg base 12 "_law_poly" ["_law_ground_here", "_law_row"] (sPoly N) := by
  have solN : ∀ z, Solid (N.rel z) := N.sol
  refine okS T.f_law_poly sc_lpoly (fun Rs R h => by obtain ⟨_, _, rfl, _⟩ := h; rfl) fun cdv A outer s H E Rs R hr h => ?_
  obtain ⟨row, f, rfl, rfl, h, hrow⟩ := h
  obtain ⟨l, h1, h2⟩ := bnd_some h
  have h1' : tab (fun i => bnd (nth row i) N.o.num) row.length 0 = some l := by
    have := h1
    unfold numsO at this
    rw [len_eq] at this
    exact this
  obtain ⟨hl, hk⟩ := tab_some h1'
  obtain ⟨ds, hd, hb⟩ := T.bd_Ground_number
  refine jss_ret (je_make T.k_Poly (ok_Poly_init T N) hr (by rfl) T.g_Poly T.b_Poly_init pass0 (ja_cons (je_var 0) (ja_cons (je_lc (Rs := row.map fun i => rV (.int i)) (Rs' := l.map N.rel) (j := 2) rfl sc_lpoly.nd (ji_list (je_var 1)) (blkOk_by (show blkC ["_law_ground_here", "_law_row", "_law_c"] (defScope (topS 40)) _ _ = true by decide +kernel)) (fun _ _ _ _ _ => pg_name (i := 2) sc_lpoly.nd rfl (.inl rfl)) (fun s0 H0 C cl fp i R R' hR hR' => ?el) (fun R hR => ?so) ?hl ?sz) ja_nil)) (sPo_num h2))
  case el =>
    rw [List.getElem?_map] at hR hR'
    cases e : row[i]? with
    | none => rw [e] at hR; cases hR
    | some x =>
      cases e' : l[i]? with
      | none => rw [e'] at hR'; cases hR'
      | some z =>
        rw [e] at hR
        rw [e'] at hR'
        cases hR
        cases hR'
        obtain ⟨x', h3, h4⟩ := bnd_some (hk i z e')
        rw [Nat.zero_add, nth_eq, e] at h3
        cases h3
        exact je_methD (je_var 0) T.c_Ground (rGr_recv (by decide)) T.m_Ground_number N.ok_num (hr.mono (by decide)) hb hd pass0 dfl_v (ja_cons (je_var 2) ja_nil) ⟨_, z, rfl, rfl, h4⟩
  case so =>
    obtain ⟨a, _, rfl⟩ := List.mem_map.mp hR
    infer_instance
  case hl => rw [List.length_map, List.length_map, hl]
  case sz => rw [List.length_map]; omega
end
end Sq
end
section
set_option Elab.async false
set_option linter.all false
set_option maxRecDepth 100000
set_option maxHeartbeats 4000000
namespace Sq
open PySem PySem.Spec L2
open PyProof.Rows hiding St
open Evl (Ex)
/-! ### the numbers of the script -/
def rInts (ns : List Int) : List Rl := ns.map fun n => rV (.int n)
def nxI : List Int → Nat → Int
  | [], _ => 0
  | n :: _, m => n % (m : Int)
/-- _law_next: the first number is taken out of the list -/
def spNext : Sp := fun vs H Q _ => ∃ (l : Addr) (ns : List Int) (m : Nat), vs = [.ref l, .int (m : Int)] ∧ H l = some (.lst (ns.map V.int)) ∧ 0 < m ∧
  ∀ H', Ex (off [l] H) (off [l] H') → H' l = some (.lst (ns.tail.map V.int)) → Q (.int (nxI ns m)) H'
theorem ints_of {H : Hp} : ∀ {vs : List V} {ns : List Int}, AllR vs (rInts ns) H → vs = ns.map V.int
  | [], [], _ => rfl
  | v :: vs, n :: ns, h => by
    obtain rfl : v = .int n := h.1
    rw [ints_of h.2]
    rfl
  | [], _ :: _, h => h.elim
  | _ :: _, [], h => h.elim
theorem of_ints {H : Hp} : ∀ (ns : List Int), AllR (ns.map V.int) (rInts ns) H
  | [] => trivial
  | n :: ns => ⟨rfl, of_ints ns⟩
section
variable {P : Program} {w : World} {K : PySem.W.Frag} {mg : Str → Option Value} {base : Heap} {α : Type}
theorem sc_next : FnScope ["_law_numbers_here", "_law_many"] ["_law_numbers_here", "_law_many"] (defScope (topS 36)) := ⟨rfl, rfl, rfl, by decide +kernel, rfl, by decide +kernel, by decide +kernel⟩
theorem ok_law_next (T : Tx K mg) : FnOk P w K mg base CX0 1 (aG K "_law_next") (dG K "_law_next") ["_law_numbers_here", "_law_many"] spNext := by
  refine T.f_law_next.ok sc_next (fun vs H Q E h => by obtain ⟨_, _, _, rfl, _⟩ := h; rfl) (fun cdv A outer s H vs Q E hr h => ?_)
  obtain ⟨l, ns, m, rfl, hl, hm, q⟩ := h
  refine ⟨_, PSs.nox sss_pss, ?_⟩
  have t0 : Typ (L2.start ["_law_numbers_here", "_law_many"] [.ref l, .int (m : Int)]) [some (rLst K (rInts ns)), some (rV (.int (m : Int)))] H := typ_start (Rs := [rLst K (rInts ns), rV (.int (m : Int))]) ⟨⟨l, _, rfl, SqL.of hl, of_ints ns⟩, rfl, trivial⟩
  let X := cx0 P w K mg base ["_law_numbers_here", "_law_many"] "_law_next" (defScope (topS 36)) (aG K "_law_next") cdv A outer s H E
  cases ns with
  | nil =>
    refine pss_sss (X := X) (pss_cons (ps_if st_pt (sss_pss) (pss_nil)) (sss_pss)) ((JT.eq (jt_eq rfl (je_lenL (by rfl) T.n_len (je_var 0)) je_int) (by rfl) _ H t0 : ST X _ _ H fun c H' => c = true ∧ Ex H H').mono fun k H1 ⟨ek, e1⟩ => ?_)
    subst ek
    rw [if_pos rfl]
    refine pss_sss (pss_cons (ps_ret pe_int) pss_never) ?_
    exact q H1 (off_mo e1) (e1 _ _ hl)
  | cons n ns =>
    refine pss_sss (X := X) (pss_cons (ps_if st_pt (sss_pss) (pss_nil)) (sss_pss)) ((JT.eq (jt_eq rfl (je_lenL (by rfl) T.n_len (je_var 0)) je_int) (dec0 (by show ¬ ((List.length (rInts (n :: ns)) : Nat) : Int) = 0; unfold rInts; rw [List.length_map, List.length_cons]; omega)) _ H t0 : ST X _ _ H fun c H' => c = false ∧ Ex H H').mono fun k H1 ⟨ek, e1⟩ => ?_)
    subst ek
    rw [if_neg Bool.false_ne_true]
    refine pss_sss (pss_cons (ps_ret (pe_op op_mod (pe_bm PySem.F.plainAttrs_list PySem.F.slot_list_pop PySem.F.type_list_pop mt_popAt (se_pe (X := X)) (pa_cons pe_int pa_nil)) (se_pe (X := X)))) pss_never) ?_
    have t2 : ∀ {H1 : Hp}, Typ (L2.start ["_law_numbers_here", "_law_many"] [.ref l, .int (m : Int)]) [some (rV (.ref l)), some (rV (.int (m : Int)))] H1 := fun {H1} => typ_start (Rs := [rV (.ref l), rV (.int (m : Int))]) ⟨rfl, rfl, trivial⟩
    refine ((je_var 0 : JE X _ [some (rV (.ref l)), some (rV (.int (m : Int)))] (rV (.ref l))) _ H1 t2).mono fun v H2 ⟨e2, r2⟩ => ?_
    obtain rfl : v = .ref l := r2
    have h2 := e2 _ _ (e1 _ _ hl)
    refine ⟨.inl ⟨rfl, _, SqL.of h2⟩, l, _, 0, 0, .int n, rfl, rfl, h2, by decide, by decide, ?_, rfl, ?_⟩
    · unfold seqIndex?
      simp
    · refine ((je_var 1 : JE X _ [some (rV (.ref l)), some (rV (.int (m : Int)))] (rV (.int (m : Int)))) _ _ t2).mono fun u H3 ⟨e3, r3⟩ => ?_
      refine ⟨n, (m : Int), rfl, r3, by omega, ?_⟩
      refine q H3 ?_ (e3 _ _ upd_same)
      refine Evl.Ex.trans (off_mo (e1.trans e2)) ?_
      rw [← off_upd (o := .lst (List.eraseIdx ((n :: ns).map V.int) 0)) (List.mem_singleton.mpr rfl)]
      exact off_mo e3
/-- the next number, of an owned list -/
theorem jeo_next {X : Cx} {ds : List Addr} {τ : Ty} {C : Cn} {a b : Expr} {pos p : Pos} {l : Addr} {ns : List Int} {m : Nat} (i : Nat) (T : Tx K mg) (hr : Room 1 X.A) (nd : ds.Nodup) (hg : Gl X "_law_next") (hl : ds[i]? = some l) (hC : C[i]? = some (rInts ns)) (hm : 0 < m)
    (ha : JA X [a, b] τ [rV (.ref l), rV (.int (m : Int))]) (hX : OfX X P w K mg base := by exact ⟨rfl, rfl, rfl, rfl, rfl⟩) (he : starEach [a, b] X.env = (false, eval a X.env) :: starEach [b] X.env := by rfl) (hpl : (backTo pos (starEach [b] X.env)).any (·.1) = false := by rfl) :
    JEO X ds (.Call (.Name "_law_next" p) [a, b] [] pos) τ C (rV (.int (nxI ns m))) (C.set i (rInts ns.tail)) := by
  obtain ⟨rfl, rfl, rfl, rfl, rfl⟩ := hX
  intro σ H t
  refine pe_se (pe_call (ok_law_next T) hr hg T.g_law_next T.f_law_next.kp T.b_law_next .nil pass0 sa_pa (by decide) he hpl) ((ha σ H t.ty).mono fun vs H1 ⟨e1, r1⟩ => ?_)
  obtain ⟨v, w, rfl, r, r'⟩ := r1.two
  obtain rfl : v = .ref l := r
  obtain rfl : w = .int (m : Int) := r'
  have o1 := t.o.mo e1
  obtain ⟨vs, h1, h2⟩ := o1.2 i l _ hl hC
  obtain rfl := ints_of h2
  refine ⟨l, ns, m, rfl, h1, hm, fun H' ex hl' => ?_⟩
  have hm : l ∈ ds := List.mem_of_getElem? hl
  have e2 : Ex (off ds H1) (off ds H') := fun a o h => by
    unfold off at h ⊢
    by_cases q : a ∈ ds
    · rw [if_pos q] at h
      cases h
    · rw [if_neg q] at h ⊢
      have ne : a ∉ [l] := fun z => q (by rw [List.mem_singleton.mp z]; exact hm)
      have := ex a o (by unfold off; rw [if_neg ne]; exact h)
      unfold off at this
      rw [if_neg ne] at this
      exact this
  refine ⟨(off_mo e1).trans e2, ⟨by rw [List.length_set]; exact o1.1, fun j l' Rs' q1 q2 => ?_⟩, rfl⟩
  by_cases e : i = j
  · subst e
    rw [hl] at q1
    cases q1
    rw [List.getElem?_set_self (by rw [o1.1]; exact (List.getElem?_eq_some_iff.mp hl).1)] at q2
    cases q2
    exact ⟨_, hl', of_ints _⟩
  · rw [List.getElem?_set_ne e] at q2
    obtain ⟨ws, w1, w2⟩ := o1.2 j l' Rs' q1 q2
    have hne : l' ≠ l := fun q => by
      subst q
      obtain ⟨i1, z1⟩ := List.getElem?_eq_some_iff.mp hl
      obtain ⟨i2, z2⟩ := List.getElem?_eq_some_iff.mp q1
      have pw := List.pairwise_iff_getElem.mp nd
      rcases Nat.lt_or_gt_of_ne e with z | z
      · exact pw i j i1 i2 z (z1.trans z2.symm)
      · exact pw j i i2 i1 z (z2.trans z1.symm)
    have ne : l' ∉ [l] := fun z => hne (List.mem_singleton.mp z)
    have := ex l' _ (by unfold off; rw [if_neg ne]; exact w1)
    unfold off at this
    rw [if_neg ne] at this
    exact ⟨ws, this, w2.mo e2⟩
/-! ### _law_prime -/
def primeN (ns : List Int) : Nat := ([0, 2, 3, 5] : List Nat).getD (nxI ns 4).toNat 0
def spPrime : Sp := fun vs H Q _ => ∃ (l : Addr) (ns : List Int), vs = [.ref l] ∧ H l = some (.lst (ns.map V.int)) ∧
  ∀ H', Ex (off [l] H) (off [l] H') → H' l = some (.lst (ns.tail.map V.int)) → Q (.int (primeN ns : Int)) H'
theorem sc_prime : FnScope ["_law_numbers_here"] ["_law_numbers_here"] (defScope (topS 37)) := ⟨rfl, rfl, rfl, by decide +kernel, rfl, by decide +kernel, by decide +kernel⟩
theorem nx_bnd {ns : List Int} {m : Nat} (hm : 0 < m) : 0 ≤ nxI ns m ∧ nxI ns m < m := by
  cases ns with
  | nil => exact ⟨Int.le_refl 0, by show (0 : Int) < m; omega⟩
  | cons n ns => exact ⟨Int.emod_nonneg _ (by omega), Int.emod_lt_of_pos _ (by omega)⟩
theorem ok_law_prime (T : Tx K mg) : FnOk P w K mg base CX0 3 (aG K "_law_prime") (dG K "_law_prime") ["_law_numbers_here"] spPrime := by
  refine T.f_law_prime.ok sc_prime (fun vs H Q E h => by obtain ⟨_, _, rfl, _⟩ := h; rfl) (fun cdv A outer s H vs Q E hr h => ?_)
  obtain ⟨l, ns, rfl, hl, q⟩ := h
  refine ⟨_, PSs.nox sss_pss, ?_⟩
  let X := cx0 P w K mg base ["_law_numbers_here"] "_law_prime" (defScope (topS 37)) (aG K "_law_prime") cdv A outer s H E
  have hT : TO [l] (L2.start ["_law_numbers_here"] [.ref l]) [some (rV (.ref l))] [rInts ns] H := ⟨typ_start (Rs := [rV (.ref l)]) ⟨rfl, trivial⟩, rfl, fun i l' Rs q1 q2 => by
    cases i with
    | zero =>
      cases q1
      cases q2
      exact ⟨_, hl, of_ints ns⟩
    | succ i => simp at q1⟩
  refine pss_sss (X := X) (pss_cons (ps_ret (pe_ix ix_list (se_pe (X := X)) (se_pe (X := X)) (fun _ _ => rfl))) pss_never) ?_
  refine ((jeo_lst (jao_cons (jeo_je je_int) (jao_cons (jeo_je je_int) (jao_cons (jeo_je je_int) (jao_cons (jeo_je je_int) jao_nil)))) (by show 4 ≤ 1000; decide) : JEO X [l] _ [some (rV (.ref l))] [rInts ns] (rLst K [rV (.int 0), rV (.int 2), rV (.int 3), rV (.int 5)]) [rInts ns]) _ H hT).mono fun v H1 ⟨e1, o1, r1⟩ => ?_
  refine ((jeo_next 0 T (hr.mono (by decide)) (by simp) (by rfl) rfl rfl (by decide) (ja_cons (je_var 0) (ja_cons (R := rV (.int ((4 : Nat) : Int))) je_int ja_nil)) : JEO X [l] _ [some (rV (.ref l))] [rInts ns] (rV (.int (nxI ns 4))) _) _ H1 (hT.st e1 o1)).mono fun u H2 ⟨e2, o2, r2⟩ => ?_
  obtain rfl : u = .int (nxI ns 4) := r2
  have r1 := (rLst K _).mo _ _ _ (e2.trans off_ex) r1
  obtain ⟨a, xs, rfl, h1, h2⟩ := r1
  obtain ⟨vs, h3, h4⟩ := o2.2 0 l _ rfl rfl
  obtain rfl := ints_of h4
  have hx : xs = [.int 0, .int 2, .int 3, .int 5] := by
    match xs, h2 with
    | [a, b, c, d], ⟨q1, q2, q3, q4, _⟩ =>
      rw [show a = .int 0 from q1, show b = .int 2 from q2, show c = .int 3 from q3, show d = .int 5 from q4]
  subst hx
  obtain ⟨b1, b2⟩ := nx_bnd (ns := ns) (m := 4) (by decide)
  have key : ∃ k : Nat, nxI ns 4 = (k : Int) ∧ k < 4 := ⟨(nxI ns 4).toNat, by omega, by omega⟩
  obtain ⟨k, hk, hk4⟩ := key
  have hp : primeN ns = ([0, 2, 3, 5] : List Nat).getD k 0 := by
    unfold primeN
    rw [hk]
    rfl
  refine ⟨a, _, nxI ns 4, .int (primeN ns : Int), rfl, rfl, h1, ?_, q H2 (e1.trans e2) h3⟩
  rw [hk, hp]
  match k, hk4 with
  | 0, _ => rfl
  | 1, _ => rfl
  | 2, _ => rfl
  | 3, _ => rfl
/-! ### _law_numbers -/
def rLstM (Rs : List Rl) : Rl := ⟨fun v H => ∃ a vs, v = .ref a ∧ H a = some (.lst vs) ∧ AllR vs Rs H, fun v H H' e ⟨a, vs, h1, h2, h3⟩ => ⟨a, vs, h1, e _ _ h2, h3.mo e⟩⟩
def rSomeInts : Rl := ⟨fun v H => ∃ (a : Addr) (ns : List Int), v = .ref a ∧ H a = some (.lst (ns.map V.int)), fun v H H' e ⟨a, ns, h1, h2⟩ => ⟨a, ns, h1, e _ _ h2⟩⟩
def sNums (K : PySem.W.Frag) : Sg := fun Rs R => ∃ ns : List Int, Rs = [rLst K (rInts ns)] ∧ R = rSomeInts ∧ ns.length ≤ 63
theorem sc_nums : FnScope ["_law_script", "_law_found", "_law_k", "_law_cell", "_law_turn", "_law_i", "_law_mixed"] ["_law_script"] (defScope (topS 35)) := ⟨rfl, rfl, rfl, by decide +kernel, rfl, by decide +kernel, by decide +kernel⟩
theorem je_abs {X : Cx} {τ : Ty} {a : Expr} {pos p : Pos} {i : Int} (hg : Gl X "abs") (hm : X.mg "abs" = none) (ha : JE X a τ (rV (.int i))) (he : starEach [a] X.env = (false, eval a X.env) :: starEach [] X.env := by rfl) (hpl : (backTo pos (starEach [] X.env)).any (·.1) = false := by rfl) :
    JE X (.Call (.Name "abs" p) [a] [] pos) τ (rV (.int (if i < 0 then -i else i))) := je_callB call_abs hg hm (by decide +kernel) (ja_cons ha ja_nil he) (fun vs H Q h q => by
      obtain ⟨v, rfl, r⟩ := h.one
      obtain rfl : v = .int i := r
      exact ⟨i, rfl, q _ H (Evl.Ex.refl H) rfl⟩) (by decide) (by decide) he hpl
theorem je_powC {X : Cx} {τ : Ty} {a b : Expr} {pos : Pos} {i j : Int} (hc : CPow i j) (ha : JE X a τ (rV (.int i))) (hb : JE X b τ (rV (.int j))) : JE X (.BinOp a .Pow b pos) τ (rV (.int (i ^ j.toNat))) := je_IC op_pow ha hb hc
theorem rInts_snoc (ns : List Int) (x : Int) : rInts ns ++ [rV (.int x)] = rInts (ns ++ [x]) := by
  unfold rInts
  rw [List.map_append]
  rfl
theorem ok_law_numbers (T : Tx K mg) : OkG P w K mg base 1 "_law_numbers" ["_law_script"] (sNums K) := by
  refine okS T.f_law_numbers sc_nums (fun Rs R h => by obtain ⟨_, rfl, _⟩ := h; rfl) fun cdv A outer s H E Rs R hr h => ?_
  obtain ⟨ns, rfl, rfl, hn⟩ := h
  have hlen : (rInts ns).length = ns.length := by unfold rInts; rw [List.length_map]
  refine jso_start 1 sc_nums.nd fun D => ?_
  refine jso_for 2 (n := ns.length) (lo := 0) (st := 1) (C' := [[]]) (fun k τ' C' => ∃ o2 o3 o4 o5 o6 ms, τ' = [some (rLst K (rInts ns)), some (rV (.ref D)), o2, o3, o4, o5, o6] ∧ C' = [rInts ms] ∧ ms.length ≤ 60 * k) PassesOwn.never rfl
    ?_ (pg_name (i := 2) sc_nums.nd rfl (.inl rfl)) ⟨none, none, none, none, none, [], rfl, rfl, Nat.zero_le _⟩ ?_ ?_
  · exact jio_range1 (j := (ns.length : Int)) (by rfl) T.n_range (jeo_je (je_min (i := (ns.length : Int)) (j := 63) rfl (by rfl) T.n_min (JE.sub (je_lenL (by rfl) T.n_len (je_var 0)) fun v H q => by rw [hlen] at q; exact q) je_int (by split <;> omega))) (by omega)
  · rintro k τ' C' hk ⟨o2, o3, o4, o5, o6, ms, rfl, rfl, hms⟩
    have hx : (rInts ns)[k]? = some (rV (.int ns[k])) := by
      unfold rInts
      rw [List.getElem?_map, List.getElem?_eq_getElem hk]
      rfl
    show JSO _ _ _ [some (rLst K (rInts ns)), some (rV (.ref D)), some (rV (.int (0 + (k : Int) * 1))), o3, o4, o5, o6] _ _ _
    refine jso_set 3 sc_nums.nd (jeo_je (je_abs (by rfl) T.n_abs (je_ixLn k (je_var 0) (je_var 2) (by omega) hx))) ?_
    generalize (if ns[k] < 0 then -ns[k] else ns[k]) = c
    show JSO _ _ _ [some (rLst K (rInts ns)), some (rV (.ref D)), some (rV (.int (0 + (k : Int) * 1))), some (rV (.int c)), o4, o5, o6] _ _ _
    by_cases hc : (10 : Int) ^ 18 ≤ c
    · refine jso_ifT (Nx' := fun τ' C' => ∃ o2 o3 o4 o5 o6 ms, τ' = [some (rLst K (rInts ns)), some (rV (.ref D)), o2, o3, o4, o5, o6] ∧ C' = [rInts ms] ∧ ms.length ≤ 60 * (k + 1)) (jto_jt (JT.eq (jt_ge (je_var 3) (je_powC (i := 10) (j := 18) ⟨by decide, by decide, by decide⟩ je_int je_int)) (decide_eq_true hc))) ?_ fun τ' C' q => jso_nil q
      refine jso_for 4 (n := 60) (lo := 0) (st := 1) (C' := [rInts ms]) (fun j τ' C' => ∃ o4 ms c, τ' = [some (rLst K (rInts ns)), some (rV (.ref D)), some (rV (.int (0 + (k : Int) * 1))), some (rV (.int c)), o4, o5, o6] ∧ C' = [rInts ms] ∧ ms.length ≤ 60 * k + j) PassesOwn.never rfl
        (jio_range1 (by rfl) T.n_range (jeo_je je_int) (by decide)) (pg_name (i := 4) sc_nums.nd rfl (.inl rfl)) ⟨o4, ms, c, rfl, rfl, hms⟩ ?_ ?_
      · rintro j τ' C' hj ⟨o4, ms, c, rfl, rfl, hms⟩
        show JSO _ _ _ [some (rLst K (rInts ns)), some (rV (.ref D)), some (rV (.int (0 + (k : Int) * 1))), some (rV (.int c)), some (rV (.int (0 + (j : Int) * 1))), o5, o6] _ _ _
        by_cases h0 : 0 < c
        · refine jso_ifT (Nx' := fun τ' C' => ∃ o4 ms c, τ' = [some (rLst K (rInts ns)), some (rV (.ref D)), some (rV (.int (0 + (k : Int) * 1))), some (rV (.int c)), o4, o5, o6] ∧ C' = [rInts ms] ∧ ms.length ≤ 60 * k + (j + 1)) (jto_jt (JT.eq (jt_gt (je_var 3) je_int) (decide_eq_true h0))) ?_ fun τ' C' q => jso_nil q
          refine jso_append 1 0 (l := D) (by simp) (je_var 1) (jeo_je (je_modL (je_var 3) je_int (by decide))) rfl rfl (by show (rInts ms).length ≤ _; unfold rInts; rw [List.length_map]; omega) ?_
          refine jso_set 3 sc_nums.nd (jeo_je (je_divL (je_var 3) je_int ⟨by decide, by decide⟩)) (jso_nil ⟨_, ms ++ [c % 1009], _, rfl, congrArg (fun l => [l]) (rInts_snoc ms _), by rw [List.length_append, List.length_singleton]; omega⟩)
        · exact jso_skip (jto_jt (JT.eq (jt_gt (je_var 3) je_int) (decide_eq_false h0))) (jso_nil ⟨_, ms, c, rfl, rfl, by omega⟩)
      · rintro τ' C' ⟨o4, ms, c, rfl, rfl, hms⟩
        exact jso_nil ⟨_, _, _, _, _, ms, rfl, rfl, by omega⟩
    · refine jso_ifE (Nx' := fun τ' C' => ∃ o2 o3 o4 o5 o6 ms, τ' = [some (rLst K (rInts ns)), some (rV (.ref D)), o2, o3, o4, o5, o6] ∧ C' = [rInts ms] ∧ ms.length ≤ 60 * (k + 1)) (jto_jt (JT.eq (jt_ge (je_var 3) (je_powC (i := 10) (j := 18) ⟨by decide, by decide, by decide⟩ je_int je_int)) (decide_eq_false hc))) ?_ fun τ' C' q => jso_nil q
      refine jso_for 5 (n := 5) (lo := 0) (st := 1) (C' := [rInts ms]) (fun j τ' C' => ∃ o5 o6 ms c, τ' = [some (rLst K (rInts ns)), some (rV (.ref D)), some (rV (.int (0 + (k : Int) * 1))), some (rV (.int c)), o4, o5, o6] ∧ C' = [rInts ms] ∧ ms.length ≤ 60 * k + j) PassesOwn.never rfl
        (jio_range1 (by rfl) T.n_range (jeo_je je_int) (by decide)) (pg_name (i := 5) sc_nums.nd rfl (.inl rfl)) ⟨o5, o6, ms, c, rfl, rfl, hms⟩ ?_ ?_
      · rintro j τ' C' hj ⟨o5, o6, ms, c, rfl, rfl, hms⟩
        show JSO _ _ _ [some (rLst K (rInts ns)), some (rV (.ref D)), some (rV (.int (0 + (k : Int) * 1))), some (rV (.int c)), o4, some (rV (.int (0 + (j : Int) * 1))), o6] _ _ _
        refine jso_set 3 sc_nums.nd (jeo_je (je_modL (je_add (je_add (je_mulL (je_var 3) je_int (.inr ⟨by decide, by decide⟩)) (je_mulL je_int (je_add (je_var 5) (je_var 2)) (.inl ⟨by decide, by decide⟩))) je_int) je_int (by decide))) ?_
        refine jso_set 6 sc_nums.nd (jeo_je (je_modL (je_add (je_mulL (je_var 3) je_int (.inr ⟨by decide, by decide⟩)) (je_divL (je_var 3) je_int ⟨by decide, by decide⟩)) je_int (by decide))) ?_
        refine jso_append 1 0 (l := D) (by simp) (je_var 1) (jeo_je (je_modL (je_var 6) je_int (by decide))) rfl rfl (by show (rInts ms).length ≤ _; unfold rInts; rw [List.length_map]; omega) (jso_nil ⟨_, _, ms ++ [_], _, rfl, congrArg (fun l => [l]) (rInts_snoc ms _), by rw [List.length_append, List.length_singleton]; omega⟩)
      · rintro τ' C' ⟨o5, o6, ms, c, rfl, rfl, hms⟩
        exact jso_nil ⟨_, _, _, _, _, ms, rfl, rfl, by omega⟩
  · rintro τ' C' ⟨o2, o3, o4, o5, o6, ms, rfl, rfl, hms⟩
    refine jso_retL (l := D) 1 0 rfl rfl rfl (hRt := fun vs H q1 q2 => ?_)
    obtain rfl := ints_of q2
    exact ⟨D, ms, rfl, q1⟩
end
end Sq
end
section
set_option Elab.async false
set_option linter.all false
set_option maxRecDepth 100000
set_option maxHeartbeats 4000000
namespace Sq
open PySem PySem.Spec L2
open PyProof.Rows hiding St
open Evl (Ex)
section
variable {P : Program} {w : World} {K : PySem.W.Frag} {mg : Str → Option Value} {base : Heap} {α : Type}
variable {X : Cx} {ds : List Addr} {τ τ' : Ty} {C C' C'' : Cn} {R R' Ra Rb Rt : Rl} {Rs : List Rl} {a b c e : Expr} {es : List Expr} {pos p apos : Pos} {x y m : Str} {Nx : Ty → Cn → Prop} {sts rest body : List Stmt} {l : Addr}
theorem own_pop {H1 H' : Hp} {ns : List Int} {i : Nat} (nd : ds.Nodup) (o1 : Own ds C H1) (hl : ds[i]? = some l) (ex : Ex (off [l] H1) (off [l] H')) (hl' : H' l = some (.lst (ns.map V.int))) : Ex (off ds H1) (off ds H') ∧ Own ds (C.set i (rInts ns)) H' := by
  have hm : l ∈ ds := List.mem_of_getElem? hl
  have e2 : Ex (off ds H1) (off ds H') := fun a o h => by
    unfold off at h ⊢
    by_cases q : a ∈ ds
    · rw [if_pos q] at h
      cases h
    · rw [if_neg q] at h ⊢
      have ne : a ∉ [l] := fun z => q (by rw [List.mem_singleton.mp z]; exact hm)
      have := ex a o (by unfold off; rw [if_neg ne]; exact h)
      unfold off at this
      rw [if_neg ne] at this
      exact this
  refine ⟨e2, by rw [List.length_set]; exact o1.1, fun j l' Rs' q1 q2 => ?_⟩
  by_cases e : i = j
  · subst e
    rw [hl] at q1
    cases q1
    rw [List.getElem?_set_self (by rw [o1.1]; exact (List.getElem?_eq_some_iff.mp hl).1)] at q2
    cases q2
    exact ⟨_, hl', of_ints _⟩
  · rw [List.getElem?_set_ne e] at q2
    obtain ⟨ws, w1, w2⟩ := o1.2 j l' Rs' q1 q2
    have hne : l' ≠ l := fun q => by
      subst q
      obtain ⟨i1, z1⟩ := List.getElem?_eq_some_iff.mp hl
      obtain ⟨i2, z2⟩ := List.getElem?_eq_some_iff.mp q1
      have pw := List.pairwise_iff_getElem.mp nd
      rcases Nat.lt_or_gt_of_ne e with z | z
      · exact pw i j i1 i2 z (z1.trans z2.symm)
      · exact pw j i i2 i1 z (z2.trans z1.symm)
    have ne : l' ∉ [l] := fun z => hne (List.mem_singleton.mp z)
    have := ex l' _ (by unfold off; rw [if_neg ne]; exact w1)
    unfold off at this
    rw [if_neg ne] at this
    exact ⟨ws, this, w2.mo e2⟩
theorem jeo_prime {ns : List Int} (i : Nat) (T : Tx K mg) (hr : Room 3 X.A) (nd : ds.Nodup) (hg : Gl X "_law_prime") (hl : ds[i]? = some l) (hC : C[i]? = some (rInts ns))
    (ha : JA X [a] τ [rV (.ref l)]) (hX : OfX X P w K mg base := by exact ⟨rfl, rfl, rfl, rfl, rfl⟩) (he : starEach [a] X.env = (false, eval a X.env) :: starEach [] X.env := by rfl) (hpl : (backTo pos (starEach [] X.env)).any (·.1) = false := by rfl) :
    JEO X ds (.Call (.Name "_law_prime" p) [a] [] pos) τ C (rV (.int (primeN ns : Int))) (C.set i (rInts ns.tail)) := by
  obtain ⟨rfl, rfl, rfl, rfl, rfl⟩ := hX
  intro σ H t
  refine pe_se (pe_call (ok_law_prime T) hr hg T.g_law_prime T.f_law_prime.kp T.b_law_prime .nil pass0 sa_pa (by decide) he hpl) ((ha σ H t.ty).mono fun vs H1 ⟨e1, r1⟩ => ?_)
  obtain ⟨v, rfl, r⟩ := r1.one
  obtain rfl : v = .ref l := r
  have o1 := t.o.mo e1
  obtain ⟨vs, h1, h2⟩ := o1.2 i l _ hl hC
  obtain rfl := ints_of h2
  refine ⟨l, ns, rfl, h1, fun H' ex hl' => ?_⟩
  obtain ⟨e2, o2⟩ := own_pop nd o1 hl ex hl'
  exact ⟨(off_mo e1).trans e2, o2, rfl⟩
theorem jeo_make {CX : CXT} {k : Nat} {f C0 : Addr} {fd : FuncData} {ps : List Str} {S : Sg} [s : Solid R] (M : Mk X.K C0 f) (F : FnOk X.prog X.w X.K X.mg X.base CX k f fd ps (spI C0 S)) (hr : Room (k + 1) X.A) (hg : Gl X x) (hm : X.mg x = some (.ref C0)) (hb : Binds X.K fd ps []) (hx : Passes CX X E0)
    (ha : JAO X ds (e :: es) τ C Rs C') (hS : S Rs R)
    (hdb : (x == ("__debug__" : Str)) = false := by decide) (he : starEach (e :: es) X.env = (false, eval e X.env) :: starEach es X.env := by rfl) (hpl : (backTo pos (starEach es X.env)).any (·.1) = false := by rfl) :
    JEO X ds (.Call (.Name x p) (e :: es) [] pos) τ C R C' := fun σ H t =>
  pe_se (pe_make M F hr hg hm hb .nil hx sa_pa hdb he hpl) ((ha σ H t).mono fun vs H1 ⟨e1, o1, r1⟩ => spI_of (dvs := []) (dRs := []) dfl0 (r1.mo off_ex) (by rw [List.append_nil]; exact hS) (Q := fun v H' => Ex (off ds H) (off ds H') ∧ Own ds C' H' ∧ R.p v (off ds H')) fun v H2 e2 r => ⟨e1.trans (off_mo e2), o1.mo e2, s.so v _ _ (own_w (o1.mo e2)) r⟩)
/-- one more fresh list -/
theorem jso_start2 (i : Nat) {pos' : Pos} (nd : X.N.Nodup) (hr : ∀ q, q ∉ ds → JSO X (ds ++ [q]) rest (τ.set i (some (rV (.ref q)))) (C ++ [[]]) (fun _ _ => False) Rt) (hi : X.N[i]? = some x := by rfl) (hx : Loc X.env.scope x := by first | exact .inl rfl | exact .inr rfl)
    (hs : swapsWith (.List [] p) (some (.Name x pos')) pos.line X.env = pure false := by rfl) (hf : X.fn x = true ∨ X.env.scope.names.lookup x = some .local := by first | exact .inl rfl | exact .inr rfl) : JSO X ds (.Assign [.Name x pos'] (.List [] p) pos :: rest) τ C Nx Rt := fun σ H t =>
  pss_sss (pss_cons (ps_set nd hi hx (pe_lst pa_nil) hs hf) sss_pss) ⟨Nat.zero_le _, fun q hq => by
    have hqd : q ∉ ds := fun z => by
      obtain ⟨vs, w⟩ := t.o.at z
      rw [hq] at w
      cases w
    have ex : Ex (off ds H) (off (ds ++ [q]) (upd H q (.lst []))) := fun a o h => by
      unfold off at h ⊢
      split at h
      · cases h
      · rename_i nm
        have ne : a ≠ q := fun z => by subst z; rw [hq] at h; cases h
        rw [if_neg (by rw [List.mem_append, List.mem_singleton]; exact fun z => z.elim nm ne), upd_ne ne]
        exact h
    refine (hr q hqd _ _ ⟨(t.t.mo ex).set i rfl, by rw [List.length_append, List.length_append, t.o.1]; rfl, fun j l Rs h1 h2 => ?_⟩).mono (fun σ' H' ⟨_, _, _, z, _⟩ => z.elim) (fun v H' ⟨e1, r⟩ => ⟨ex.trans e1, r⟩) (fun _ _ q => q) (fun _ _ q => q)
    by_cases hj : j < ds.length
    · rw [List.getElem?_append_left hj] at h1
      rw [List.getElem?_append_left (by rw [t.o.1]; exact hj)] at h2
      obtain ⟨vs, w1, w2⟩ := t.o.2 j l Rs h1 h2
      have ne : l ≠ q := fun z => by subst z; rw [hq] at w1; cases w1
      exact ⟨vs, by rw [upd_ne ne]; exact w1, w2.mo ex⟩
    · rw [List.getElem?_append_right (by omega)] at h1
      rw [List.getElem?_append_right (by rw [t.o.1]; omega), t.o.1] at h2
      have : j - ds.length = 0 := by
        have := (List.getElem?_eq_some_iff.mp h1).1
        simp at this
        omega
      rw [this] at h1 h2
      cases h1
      cases h2
      exact ⟨[], upd_same, trivial⟩⟩
/-- from here on the list is read alone -/
theorem jso_end (i k : Nat) {Nx' : Ty → Prop} (hr : JSs X rest (τ.set i (some (rLst X.K Rs))) (fun _ => False) Rt) (hs : τ[i]? = some (some (rV (.ref l)))) (hl : ds[k]? = some l) (hC : C[k]? = some Rs) : JSO X ds rest τ C Nx Rt := fun σ H t => by
  obtain ⟨v, e0, r0⟩ := t.t.2 i _ hs
  obtain rfl : v = .ref l := r0
  obtain ⟨vs, q1, q2⟩ := t.o.2 k l Rs hl hC
  have q : (rLst X.K Rs).p (.ref l) H := ⟨l, vs, rfl, SqL.of q1, q2.mo off_ex⟩
  have t2 := t.ty.set i q
  have es : σ.set i (some (.ref l)) = σ := by
    apply List.ext_getElem?
    intro j
    by_cases e : i = j
    · subst e
      rw [List.getElem?_set_self (List.getElem?_eq_some_iff.mp e0).1, e0]
    · rw [List.getElem?_set_ne e]
  rw [es] at t2
  exact (hr σ H t2).mono (fun σ' H' ⟨_, _, z, _⟩ => z.elim) (fun v H' ⟨e1, r⟩ => ⟨off_ex.trans e1, r⟩) (fun _ _ q => q) (fun _ _ q => q)
/-! ### rows -/
def rPair (K : PySem.W.Frag) (z : List Int × Nat) : Rl := rTup K [rRow K z.1, rV (.int (z.2 : Int))]
/-- known at G, constant -/
def rC (G : Hp) (R : Rl) : Rl := ⟨fun v _ => R.p v G, fun _ _ _ _ h => h⟩
def rAt (G : Hp) (R : Rl) : Rl := ⟨fun v H => Ex G H ∧ R.p v G, fun _ _ _ e h => ⟨h.1.trans e, h.2⟩⟩
instance (G : Hp) (R : Rl) : Solid (rC G R) := ⟨fun _ _ _ _ h => h⟩
theorem all_at {G : Hp} : ∀ {vs : List V} {Rs : List Rl}, AllR vs Rs G → AllR vs (Rs.map (rAt G)) G
  | [], [], _ => trivial
  | v :: vs, R :: Rs, h => ⟨⟨Evl.Ex.refl G, h.1⟩, all_at h.2⟩
  | [], _ :: _, h => h.elim
  | _ :: _, [], h => h.elim
theorem of_rC {G H : Hp} (e : Ex G H) : ∀ {vs : List V} {Rs : List Rl}, AllR vs (Rs.map (rC G)) H → AllR vs Rs H
  | [], [], _ => trivial
  | v :: vs, R :: Rs, h => ⟨R.mo _ _ _ e h.1, of_rC e h.2⟩
  | [], _ :: _, h => h.elim
  | _ :: _, [], h => h.elim
/-- [z[0] for z in pairs] -/
theorem je_rows {scope : Scope} {tp p3 p4 : Pos} {q0 : Nat} {L : List (List Int × Nat)} (i j : Nat) (hc : X.calm = true) (nd : X.N.Nodup) (hi : X.N[i]? = some x) (hvis : Vis X.env.scope x) (hd : (x == ("__debug__" : Str)) = false) (hcd : (x == ("__classdict__" : Str)) = false) (hji : j ≠ i) (ht : τ[i]? = some (some (rLst X.K (L.map (rPair X.K))))) (hL : L.length ≤ 1000) (hj : j < τ.length) (hNj : X.N[j]? = some y) (hyd : (y == ("__debug__" : Str)) = false) (hycd : (y == ("__classdict__" : Str)) = false)
    (ok : BlkOk X.N X.env.scope scope [(y, j)]) (hg : ∀ (s : Shared) (H : Hp) (C : Addr) (cl : List (Str × Addr)) (fp : List Addr), PG (X.blk s H scope (compEnvC scope cl C X.env) fp) (.Name y tp) (gName j))
    (hv : ∀ (s : Shared) (H : Hp) (C : Addr) (cl : List (Str × Addr)) (fp : List Addr), Vis (X.blk s H scope (compEnvC scope cl C X.env) fp).env.scope y) (hs : ∀ z, foldedSetIterable (.Name x apos) X.env z = pure z := by intro _; rfl) :
    JE X (.ListComp (.Subscript (.Name y p3) (.Constant (.int 0) q0 p4) p) [⟨.Name y tp, .Name x apos, [], 0⟩] scope pos) τ (rLst X.K (L.map fun z => rRow X.K z.1)) := fun σ H t => by
  obtain ⟨v, e0, ⟨al, vs, rfl, h1, h2⟩⟩ := t.2 i _ ht
  have q : (rLst X.K ((L.map (rPair X.K)).map (rAt H))).p (.ref al) H := ⟨al, vs, rfl, h1, all_at h2⟩
  have t2 := t.set i q
  have es : σ.set i (some (.ref al)) = σ := by
    apply List.ext_getElem?
    intro j
    by_cases e : i = j
    · subst e
      rw [List.getElem?_set_self (List.getElem?_eq_some_iff.mp e0).1, e0]
    · rw [List.getElem?_set_ne e]
  rw [es] at t2
  have il : i < τ.length := (List.getElem?_eq_some_iff.mp ht).1
  have key : JE X (.ListComp (.Subscript (.Name y p3) (.Constant (.int 0) q0 p4) p) [⟨.Name y tp, .Name x apos, [], 0⟩] scope pos) (τ.set i (some (rLst X.K ((L.map (rPair X.K)).map (rAt H))))) (rLst X.K ((L.map fun z => rRow X.K z.1).map (rC H))) := by
    refine je_lc (Rs := (L.map (rPair X.K)).map (rAt H)) (j := j) hc nd (ji_list (je_var i hi hvis (List.getElem?_set_self il) hd hcd)) ok hg (fun s0 H0 C cl fp i' R R' hR hR' => ?_) (fun R hR => ?_) (by rw [List.length_map, List.length_map, List.length_map, List.length_map]) (by rw [List.length_map, List.length_map]; exact hL) hs
    · rw [List.getElem?_map, List.getElem?_map] at hR hR'
      cases e : L[i']? with
      | none => rw [e] at hR; cases hR
      | some z =>
        rw [e] at hR hR'
        cases hR
        cases hR'
        refine je_ix ix_tup (je_var (R := rAt H (rPair X.K z)) j hNj (hv _ _ _ _ _) (List.getElem?_set_self (by rw [List.length_set, List.length_set]; exact hj)) hyd hycd) je_int (fun _ _ => rfl) fun v u Hc Q r1 r2 k => ?_
        obtain ⟨ex, ⟨at_, ws, rfl, w1, w2⟩⟩ := r1
        obtain rfl : u = .int 0 := r2
        obtain ⟨w0, g0, g1⟩ := w2.get (i := 0) rfl
        exact ⟨at_, ws, 0, w0, rfl, rfl, Evl.ex_t ex w1, by
          have hl := w2.len
          match ws, g0, hl with
          | [u0, u1], g0, _ => exact g0, k w0 Hc (Evl.Ex.refl Hc) g1⟩
    · obtain ⟨R0, _, rfl⟩ := List.mem_map.mp hR
      infer_instance
  exact (key σ H t2).mono fun v H' ⟨e1, b, ws, h3, h4, h5⟩ => ⟨e1, b, ws, h3, h4, of_rC e1 h5⟩
/-! ### in, of rows -/
def pd (row : List Int) : PyData := .list (row.map .int)
theorem shp_row (ns : List Int) : SeqAt.shaped (pd ns) = true := PySem.W.ke_shaped_ints ns
theorem canRows : ∀ rs : List (List Int), PyData.canLayAll0 (rs.map pd) = true ∧ PyData.depthAll (rs.map pd) ≤ 1
  | [] => ⟨rfl, Nat.zero_le _⟩
  | r :: rs => by
    obtain ⟨h1, h2⟩ := canRows rs
    simp [pd, PyData.canLayAll0, PyData.canLay0, PyData.depthAll, PyData.depth, PySem.W.ke_canLayAll0, PySem.W.ke_depthAll] at h1 h2 ⊢
    exact ⟨h1, by omega⟩
theorem shp_rows (rs : List (List Int)) : SeqAt.shaped (.list (rs.map pd)) = true := by
  obtain ⟨h1, h2⟩ := canRows rs
  simp [SeqAt.shaped, PyData.canLay0, PyData.depth, h1]
  omega
theorem any_rows (row : List Int) : ∀ rs : List (List Int), ((rs.map pd).any fun z => PyData.eqv z (pd row)) = decide (row ∈ rs)
  | [] => by simp
  | r :: rs => by
    rw [List.map_cons, List.any_cons, any_rows row rs]
    have : PyData.eqv (pd r) (pd row) = decide (r = row) := by
      simp only [pd, PyData.eqv]
      exact PySem.W.ked_eqvAll r row
    rw [this]
    by_cases h : r = row
    · subst h
      simp
    · have h' : ¬ row = r := fun z => h z.symm
      simp [h, h']
theorem dpAll_ints {H : Hp} : ∀ {vs : List V} {row : List Int}, AllR vs (row.map fun i => rV (.int i)) H → DpAll K H vs (row.map .int)
  | [], [], _ => .nil
  | v :: vs, n :: ns, h => by
    obtain rfl : v = .int n := h.1
    exact .cons (.int n) (dpAll_ints h.2)
  | [], _ :: _, h => h.elim
  | _ :: _, [], h => h.elim
theorem dp_row {H : Hp} {v : V} {row : List Int} (h : (rRow K row).p v H) : Dp K H v (pd row) := by
  obtain ⟨a, vs, rfl, h1, h2⟩ := h
  exact .lst h1 (dpAll_ints h2)
theorem dpAll_rows {H : Hp} : ∀ {vs : List V} {rs : List (List Int)}, AllR vs (rs.map (rRow K)) H → DpAll K H vs (rs.map pd)
  | [], [], _ => .nil
  | v :: vs, n :: ns, h => .cons (dp_row h.1) (dpAll_rows h.2)
  | [], _ :: _, h => h.elim
  | _ :: _, [], h => h.elim
theorem jt_notInRows {row : List Int} {rs : List (List Int)} {kb : Bool} (hu : X.A.units + 65 < cLine) (ha : JE X a τ (rRow X.K row)) (hb : JE X b τ (rLst X.K (rs.map (rRow X.K)))) (hm : behindInMarks .NotIn b = false) (hk : kb = !decide (row ∈ rs)) : JT X (.Compare a [.NotIn] [b] pos) τ kb :=
  jt_cmpR (op_notInD hu) ha hb hm fun x y H Q r1 ⟨p, vs, e1, h1, h2⟩ q => ⟨pd row, rs.map pd, dp_row r1, by rw [e1]; exact .lst h1 (dpAll_rows h2), shp_row row, shp_rows rs, by rw [any_rows, ← hk]; exact q H (Evl.Ex.refl H)⟩
/-! ### for a, b in pairs -/
theorem jss_forP {tp px py : Pos} {kt : Nat} {iter : Expr} {Nx : Ty → Prop} (i j : Nat) {Rs2 : List (Rl × Rl)} (Pv : Nat → Ty → Prop) (hp : PassesOwn (model X.prog X.w) X.A X.env X.xe) (hc : X.calm = true) (hi : JI X (.Tuple [.Name x px, .Name y py] kt tp) iter τ (Rs2.map fun z => rTup X.K [z.1, z.2]))
    (hg1 : PG X (.Name x px) (gName i)) (hg2 : PG X (.Name y py) (gName j)) (h0 : Pv 0 τ)
    (hs : ∀ k z τ', Rs2[k]? = some z → Pv k τ' → JSs X body ((τ'.set i (some z.1)).set j (some z.2)) (Pv (k + 1)) Rt) (hd : ∀ τ', Pv Rs2.length τ' → JSs X rest τ' Nx Rt) (hfs : ∀ x, foldedSetIterable iter X.env x = pure x := by intro _; rfl)
    (hn : (assignEach [Expr.Name x px, .Name y py] X.env).length = 2 := by rfl) (hst : (assignEach [Expr.Name x px, .Name y py] X.env).findIdx? (·.1) = none := by rfl) (ha1 : (assignEach [Expr.Name x px, .Name y py] X.env).map (·.2) = assign (.Name x px) X.env :: (assignEach [Expr.Name y py] X.env).map (·.2) := by rfl) (ha2 : (assignEach [Expr.Name y py] X.env).map (·.2) = assign (.Name y py) X.env :: (assignEach [] X.env).map (·.2) := by rfl) :
    JSs X (.For (.Tuple [.Name x px, .Name y py] kt tp) iter body [] pos :: rest) τ Nx Rt := fun σ H t =>
  pss_sss (pss_cons (ps_for hp hc (si_pi (X := X) (tg := .Tuple [.Name x px, .Name y py] kt tp) (iter := iter)) (pg_tup hc (pgs_cons hg1 (pgs_cons hg2 pgs_nil ha2) ha1) hn hst) sss_pss hfs) sss_pss) (by
    intro pins s I
    refine thn (hi σ H t pins s I) fun v s1 h1 => thn h1 fun itv s2 h2 => ?_
    obtain ⟨it, fp, tn, J, H1, q1, q2, q3, q4, q5, e1, w1, w2, w3⟩ := h2
    rw [List.length_map] at w1 w3
    refine ⟨it, fp, tn, J, H1, q1, q2, q3, q4, q5, ?_⟩
    refine ⟨fun i m σ' H' => m = Rs2.length - i ∧ i ≤ Rs2.length ∧ ∃ τ', Pv i τ' ∧ Typ σ' τ' H' ∧ Ex H1 H', ⟨Rs2.length, by simp, Nat.zero_le _, τ, h0, t.mo e1, Evl.Ex.refl H1⟩, ?_⟩
    rintro k m σ' H' ⟨rfl, hi, τ', p', t', ex⟩
    by_cases hlt : k < Rs2.length
    · refine .inr ⟨w1 k H' ex hlt, fun σ2 H2 => ∃ τ2, Pv (k + 1) τ2 ∧ Typ σ2 τ2 H2 ∧ Ex H1 H2, fun σ2 H2 q => ⟨Rs2.length - (k + 1), by omega, rfl, hlt, q⟩, fun v H2 y => ?_⟩
      obtain ⟨rfl, hv⟩ := w2 k v H' H2 ex y
      have r := hv (rTup X.K [Rs2[k].1, Rs2[k].2]) (by rw [List.getElem?_map, List.getElem?_eq_getElem hlt]; rfl)
      obtain ⟨aa, vs, rfl, g1, g2⟩ := r
      obtain ⟨v1, v2, rfl, g3, g4⟩ := g2.two
      refine ⟨aa, _, rfl, g1, rfl, v1, _, rfl, v2, _, rfl, rfl, ?_⟩
      exact (hs k _ τ' (List.getElem?_eq_getElem hlt) p' _ H2 ((t'.set i g3).set j g4)).mono (fun σ3 H3 ⟨e3, τ3, p3, t3⟩ => ⟨τ3, p3, t3, ex.trans e3⟩) (fun v H3 ⟨e3, q⟩ => ⟨(e1.trans ex).trans e3, q⟩) (fun _ _ q => q.elim) (fun _ _ q => q.elim)
    · have hi' : k = Rs2.length := by omega
      subst hi'
      exact .inl ⟨w3 H' ex, (hd τ' p').up t' (e1.trans ex)⟩)
theorem je_intB {kb : Bool} (hg : Gl X "int") (hm : X.mg "int" = none) (ha : JE X a τ (rV (.bl kb))) (he : starEach [a] X.env = (false, eval a X.env) :: starEach [] X.env := by rfl) (hpl : (backTo pos (starEach [] X.env)).any (·.1) = false := by rfl) :
    JE X (.Call (.Name "int" p) [a] [] pos) τ (rV (.int (if kb then 1 else 0))) := je_callTy call_int1 hg hm (by decide +kernel) (ja_cons ha ja_nil he) (fun vs H Q h q => by
      obtain ⟨v, rfl, r⟩ := h.one
      obtain rfl : v = .bl kb := r
      exact .inr ⟨kb, rfl, q _ H (Evl.Ex.refl H) rfl⟩) (by decide) (by decide) he hpl
end
end Sq
end
section
set_option Elab.async false
set_option linter.all false
set_option maxRecDepth 100000
set_option maxHeartbeats 4000000
namespace Sq
open PySem PySem.Spec L2
open PyProof.Rows hiding St
open Evl (Ex)
/-! ### what is built, in plain words -/
abbrev Prs2 := List (List Int × Nat)
def rowA (p : Nat) (a : Int) : List Int := [restI p (-a), 1]
def Allowed (p : Nat) (r : List Int) : Prop := (∃ a : Int, 0 ≤ a ∧ a < 5 ∧ r = rowA p a) ∨ (r = [1, 0, 1] ∧ (p = 0 ∨ p = 3))
def sizeL : Prs2 → Nat
  | [] => 0
  | z :: L => z.2 * (z.1.length - 1) + sizeL L
structure ValL (p : Nat) (L : Prs2) : Prop where
  rows : ∀ z ∈ L, Allowed p z.1 ∧ 1 ≤ z.2 ∧ z.2 ≤ 4
  nd : (L.map (·.1)).Nodup
  size : sizeL L ≤ 9
theorem size_snoc : ∀ (L : Prs2) (z : List Int × Nat), sizeL (L ++ [z]) = sizeL L + z.2 * (z.1.length - 1)
  | [], z => by
    show z.2 * (z.1.length - 1) + 0 = 0 + _
    omega
  | y :: L, z => by
    show y.2 * (y.1.length - 1) + sizeL (L ++ [z]) = _
    rw [size_snoc L z]
    show _ = y.2 * (y.1.length - 1) + sizeL L + _
    omega
theorem val_nil {p : Nat} : ValL p [] := ⟨fun z h => (nomatch h), List.nodup_nil, Nat.zero_le _⟩
theorem val_snoc {p : Nat} {L : Prs2} {z : List Int × Nat} (h : ValL p L) (ha : Allowed p z.1) (h1 : 1 ≤ z.2) (h4 : z.2 ≤ 4) (hn : z.1 ∉ L.map (·.1)) (hs : sizeL L + z.2 * (z.1.length - 1) ≤ 9) : ValL p (L ++ [z]) := by
  refine ⟨fun y hy => ?_, ?_, by rw [size_snoc]; exact hs⟩
  · rcases List.mem_append.mp hy with q | q
    · exact h.rows y q
    · rw [List.mem_singleton.mp q]
      exact ⟨ha, h1, h4⟩
  · rw [List.map_append]
    refine List.nodup_append.mpr ⟨h.nd, by simp, fun a ha b hb => ?_⟩
    rw [List.map_singleton, List.mem_singleton] at hb
    subst hb
    exact fun e => hn (by rw [← e]; exact ha)
section
variable {α : Type} (o : Ops α)
noncomputable def bW : Prs2 → List α → Option (List α)
  | [], w => some w
  | z :: L, w => bnd (rowP o z.1) fun f => bnd (powP o f z.2) fun g => bnd (mulP o w g) (bW L)
noncomputable def bO : Prs2 → List α → Option (List α)
  | [], w => some w
  | z :: L, w => bnd (rowP o z.1) fun f => bnd (mulP o w f) (bO L)
structure Good (eqP : α → α → Prop) (p c : Nat) (L : Prs2) (w0 o0 f own s : List α) : Prop where
  h0 : intsP o [(c : Int)] = some w0
  h1 : intsP o [1] = some o0
  hf : bW o L w0 = some f
  ho : bO o L o0 = some own
  hs : sqfP o p 8 f = some s
  he : eqPL eqP s own
  hm : ∀ z ∈ L, ∃ g, rowP o z.1 = some g ∧ multP o f g = some z.2
  hn : ∀ a : Nat, a < 5 → rowA p a ∉ L.map (·.1) → ∃ g, rowP o (rowA p a) = some g ∧ multP o f g = some 0
/-- the plain law, over the numbers of o -/
structure Plain (eqP : α → α → Prop) (p : Nat) : Prop where
  good : ∀ c L, (c = 1 ∨ (c = 2 ∧ p ≠ 2)) → ValL p L → L.length ≤ 3 → ∃ w0 o0 f own s, Good o eqP p c L w0 o0 f own s
  line : ∃ x f, intsP o [0, 1] = some (x :: f)
  one : ∃ f, intsP o [1] = some f ∧ f.length ≤ 1
end
section
variable {P : Program} {w : World} {K : PySem.W.Frag} {mg : Str → Option Value} {base : Heap} {α : Type}
def lawN : List Str := ["_law_script", "_law_numbers_here", "_law_p", "_law_ground_here", "_law_pairs", "_law_size", "_law_turn", "_law_row", "_law_k", "_law_whole", "_law_own", "_law_a", "_law_pair"]
theorem sc_law : FnScope lawN ["_law_script"] (defScope (topS 42)) := ⟨rfl, rfl, rfl, by decide +kernel, rfl, by decide +kernel, by decide +kernel⟩
abbrev lawX (P : Program) (w : World) (K : PySem.W.Frag) (mg : Str → Option Value) (base : Heap) (cdv : Value) (A : Around) (outer : List Env) (s : Shared) (H : Hp) (E : XK) : Cx := cx0 P w K mg base lawN "law" (defScope (topS 42)) (aG K "law") cdv A outer s H E
theorem row_len {p : Nat} {r : List Int} (h : Allowed p r) : r.length = 2 ∨ r.length = 3 := by
  rcases h with ⟨a, _, _, rfl⟩ | ⟨rfl, _⟩
  · exact .inl rfl
  · exact .inr rfl
/-- the second half: what was built is asked -/
theorem law_ask (T : Tx K mg) (N : NumK P w K mg base α) (hP : Plain N.o N.eqP N.p) {cdv : Value} {A : Around} {outer : List Env} {s : Shared} {H : Hp} {E : XK} (hr : Room 24 (A.deeper (envOfC "law" (defScope (topS 42)) s.heap.objs.size (aG K "law") cdv))) {c : Nat} {L : Prs2} {w0 o0 f own sq : List α} (hL : ValL N.p L) (h3 : L.length ≤ 3)
    (G : Good N.o N.eqP N.p c L w0 o0 f own sq) {o1 o5 o6 o7 o8 : Option Rl} :
    JSs (lawX P w K mg base cdv A outer s H E) ((defBody (topS 42)).drop 7) [none, o1, some (rV (.int (N.p : Int))), some (rGr K N.p), some (rLst K (L.map (rPair K))), o5, o6, o7, o8, some (rPo N w0), none, none, none] (fun _ => False) (rV (.bl true)) := by
  have hu : A.units + 3 + 65 < cLine := by
    have := hr.un
    have : (A.deeper (envOfC "law" (defScope (topS 42)) s.heap.objs.size (aG K "law") cdv)).units = A.units + 3 := rfl
    omega
  have rl : ∀ z ∈ L, z.1.length ≤ 40 := fun z hz => by
    rcases row_len (hL.rows z hz).1 with e | e <;> omega
  have hpairs : ((L.map fun z => (rRow K z.1, rV (.int (z.2 : Int)))).map fun z => rTup K [z.1, z.2]) = L.map (rPair K) := by
    rw [List.map_map]
    rfl
  have getL : ∀ (k : Nat) (z : Rl × Rl), (L.map fun z => (rRow K z.1, rV (.int (z.2 : Int))))[k]? = some z → ∃ y ∈ L, z = (rRow K y.1, rV (.int (y.2 : Int))) ∧ L.drop k = y :: L.drop (k + 1) := fun k z h => by
    rw [List.getElem?_map] at h
    cases e : L[k]? with
    | none => rw [e] at h; cases h
    | some y =>
      rw [e] at h
      cases h
      obtain ⟨hk, e2⟩ := List.getElem?_eq_some_iff.mp e
      exact ⟨y, List.mem_of_getElem? e, rfl, by rw [List.drop_eq_getElem_cons hk, e2]⟩
  refine jss_set 10 sc_law.nd (R := rPo N o0) (je_make T.k_Poly (ok_Poly_init T N) (hr.mono (by decide)) (by rfl) T.g_Poly T.b_Poly_init pass0 (ja_cons (je_var 3) (ja_cons (je_lst (ja_cons je_int ja_nil) (by show 1 ≤ 1000; decide)) ja_nil)) (sPo_int (is := [1]) G.h1)) ?_
  refine jss_forP 7 8 (Rs2 := L.map fun z => (rRow K z.1, rV (.int (z.2 : Int)))) (fun k τ' => ∃ o7 o8 wh o', bW N.o (L.drop k) wh = some f ∧ bO N.o (L.drop k) o' = some own ∧ τ' = [none, o1, some (rV (.int (N.p : Int))), some (rGr K N.p), some (rLst K (L.map (rPair K))), o5, o6, o7, o8, some (rPo N wh), some (rPo N o'), none, none]) PassesOwn.never rfl
    (JI.eq (ji_list (je_var 4)) hpairs.symm) (pg_name (i := 7) sc_law.nd rfl (.inl rfl)) (pg_name (i := 8) sc_law.nd rfl (.inl rfl)) ⟨o7, o8, w0, o0, G.hf, G.ho, rfl⟩ ?_ ?_
  · rintro k z τ' hz ⟨o7, o8, wh, o', hw, ho, rfl⟩
    obtain ⟨y, hy, rfl, hd⟩ := getL k z hz
    rw [hd] at hw ho
    obtain ⟨g, g1, hw⟩ := bnd_some (show bnd (rowP N.o y.1) _ = some f from hw)
    obtain ⟨q, g2, hw⟩ := bnd_some hw
    obtain ⟨w', g3, hw⟩ := bnd_some hw
    obtain ⟨g', g4, ho⟩ := bnd_some (show bnd (rowP N.o y.1) _ = some own from ho)
    rw [g1] at g4
    obtain rfl : g = g' := Option.some.inj g4
    obtain ⟨o'', g5, ho⟩ := bnd_some ho
    have hk4 := (hL.rows y hy).2.2
    show JSs _ _ [none, o1, some (rV (.int (N.p : Int))), some (rGr K N.p), some (rLst K (L.map (rPair K))), o5, o6, some (rRow K y.1), some (rV (.int (y.2 : Int))), some (rPo N wh), some (rPo N o'), none, none] _ _
    refine jss_set 9 sc_law.nd (R := rPo N w') (je_own (Rb := rPo N q) T.i_Poly.2 T.m_Poly_mul (ok_Poly_mul T N) (hr.mono (by decide)) T.b_Poly_mul pass0 po_isI po_isI po_ref ⟨wh, q, w', rfl, rfl, g3⟩ (je_var 9)
      (je_meth (Ro := rPo N g) (je_call (ok_law_poly T N) (hr.mono (by decide)) (by rfl) T.g_law_poly T.f_law_poly.kp T.b_law_poly pass0 (ja_cons (je_var 3) (ja_cons (je_var 7) ja_nil)) ⟨y.1, g, rfl, rfl, g1, rl y hy⟩) T.c_Poly (po_recv rfl) T.m_Poly_power (ok_Poly_power T N) (hr.mono (by decide)) T.b_Poly_power pass0 (ja_cons (je_var 8) ja_nil) ⟨g, y.2, q, rfl, rfl, g2, by omega⟩)) ?_
    exact jss_set 10 sc_law.nd (R := rPo N o'') (je_own (Rb := rPo N g) T.i_Poly.2 T.m_Poly_mul (ok_Poly_mul T N) (hr.mono (by decide)) T.b_Poly_mul pass0 po_isI po_isI po_ref ⟨o', g, o'', rfl, rfl, g5⟩ (je_var 10)
      (je_call (ok_law_poly T N) (hr.mono (by decide)) (by rfl) T.g_law_poly T.f_law_poly.kp T.b_law_poly pass0 (ja_cons (je_var 3) (ja_cons (je_var 7) ja_nil)) ⟨y.1, g, rfl, rfl, g1, rl y hy⟩)) (jss_nil ⟨_, _, w', o'', hw, ho, rfl⟩)
  rintro τ' ⟨o7, o8, wh, o', hw, ho, rfl⟩
  rw [List.length_map, List.drop_length] at hw ho
  obtain rfl : wh = f := Option.some.inj hw
  obtain rfl : o' = own := Option.some.inj ho
  refine jss_skip (jt_neF T.ne_Poly (ok_Poly_eq T N) (hr.mono (by decide)) T.b_Poly_eq pass0 po_isI po_isI ⟨sq, _, rfl, rfl, G.he⟩ (je_call (ok_squarefree_part T N 8) (hr.mono (by decide)) (by rfl) T.g_squarefree_part T.f_squarefree_part.kp T.b_squarefree_part pass0 (ja_cons (je_var 9) ja_nil) ⟨_, sq, rfl, rfl, G.hs⟩) (je_var 10)) ?_
  refine jss_forP 7 8 (Rs2 := L.map fun z => (rRow K z.1, rV (.int (z.2 : Int)))) (fun k τ' => ∃ o7 o8, τ' = [none, o1, some (rV (.int (N.p : Int))), some (rGr K N.p), some (rLst K (L.map (rPair K))), o5, o6, o7, o8, some (rPo N wh), some (rPo N o'), none, none]) PassesOwn.never rfl
    (JI.eq (ji_list (je_var 4)) hpairs.symm) (pg_name (i := 7) sc_law.nd rfl (.inl rfl)) (pg_name (i := 8) sc_law.nd rfl (.inl rfl)) ⟨o7, o8, rfl⟩ ?_ ?_
  · rintro k z τ' hz ⟨o7, o8, rfl⟩
    obtain ⟨y, hy, rfl, hd⟩ := getL k z hz
    obtain ⟨g, g1, g2⟩ := G.hm y hy
    show JSs _ _ [none, o1, some (rV (.int (N.p : Int))), some (rGr K N.p), some (rLst K (L.map (rPair K))), o5, o6, some (rRow K y.1), some (rV (.int (y.2 : Int))), some (rPo N wh), some (rPo N o'), none, none] _ _
    refine jss_skip (JT.eq (jt_ne (v := .int (y.2 : Int)) rfl (je_call (ok_multiplicity T N) (hr.mono (by decide)) (by rfl) T.g_multiplicity T.f_multiplicity.kp T.b_multiplicity pass0 (ja_cons (je_var 9) (ja_cons (R := rPo N g) (je_call (ok_law_poly T N) (hr.mono (by decide)) (by rfl) T.g_law_poly T.f_law_poly.kp T.b_law_poly pass0 (ja_cons (je_var 3) (ja_cons (je_var 7) ja_nil)) ⟨y.1, g, rfl, rfl, g1, rl y hy⟩) ja_nil)) ⟨_, g, y.2, rfl, rfl, g2⟩) (je_var 8)) (by simp)) (jss_nil ⟨_, _, rfl⟩)
  rintro τ' ⟨o7, o8, rfl⟩
  refine jss_for (Rs := rgI 0 1 5) 11 (fun k τ' => ∃ o7 o11, τ' = [none, o1, some (rV (.int (N.p : Int))), some (rGr K N.p), some (rLst K (L.map (rPair K))), o5, o6, o7, o8, some (rPo N wh), some (rPo N o'), o11, none]) PassesOwn.never rfl (ji_range1 (by rfl) T.n_range je_int (by decide)) (pg_name (i := 11) sc_law.nd rfl (.inl rfl)) ⟨o7, none, rfl⟩ ?_ ?_
  · rintro k R τ' hR ⟨o7, o11, rfl⟩
    obtain ⟨hk, rfl⟩ := rgI_get hR
    show JSs _ _ [none, o1, some (rV (.int (N.p : Int))), some (rGr K N.p), some (rLst K (L.map (rPair K))), o5, o6, o7, o8, some (rPo N wh), some (rPo N o'), some (rV (.int (0 + (k : Int) * 1))), none] _ _
    rw [show (0 + (k : Int) * 1) = (k : Int) by omega]
    refine jss_set 7 sc_law.nd (R := rRow K (rowA N.p k)) (je_lst (Rs := [rV (.int (restI N.p (-(k : Int)))), rV (.int 1)]) (ja_cons (je_call (ok_law_rest T) (hr.mono (by decide)) (by rfl) T.g_law_rest T.f_law_rest.kp T.b_law_rest pass0 (ja_cons (je_var 2) (ja_cons (je_neg (je_var 11)) ja_nil)) ⟨N.p, _, rfl, rfl⟩) (ja_cons je_int ja_nil)) (by show 2 ≤ 1000; decide)) ?_
    refine jss_skip (JT.eq (k := (!decide (rowA N.p k ∈ L.map (·.1))) && false) (JW.jt (jw_and (l := false) (jt_notInRows (rs := L.map (·.1)) hu (je_var 7) ?rows (by rfl) rfl) fun hk2 => ?bb)) (Bool.and_false _)) (jss_nil ⟨_, _, rfl⟩)
    case rows =>
      rw [List.map_map]
      exact je_rows (x := "_law_pairs") (y := "_law_pair") 4 12 rfl sc_law.nd rfl (.inl rfl) (by decide) (by decide) (by decide) rfl (by omega) (by show 12 < 13; decide) rfl (by decide) (by decide) (blkOk_by (show blkC lawN (defScope (topS 42)) _ _ = true by decide +kernel)) (fun _ _ _ _ _ => pg_name (i := 12) sc_law.nd rfl (.inl rfl)) (fun _ _ _ _ _ => .inl rfl)
    obtain ⟨g, g1, g2⟩ := G.hn k hk (by simpa using hk2)
    exact jw_and1 (JT.eq (jt_ne (v := .int ((0 : Nat) : Int)) rfl (je_call (ok_multiplicity T N) (hr.mono (by decide)) (by rfl) T.g_multiplicity T.f_multiplicity.kp T.b_multiplicity pass0 (ja_cons (je_var 9) (ja_cons (R := rPo N g) (je_call (ok_law_poly T N) (hr.mono (by decide)) (by rfl) T.g_law_poly T.f_law_poly.kp T.b_law_poly pass0 (ja_cons (je_var 3) (ja_cons (je_var 7) ja_nil)) ⟨rowA N.p k, g, rfl, rfl, g1, by show 2 ≤ 40; decide⟩) ja_nil)) ⟨_, g, 0, rfl, rfl, g2⟩) je_int) rfl)
  · rintro τ' ⟨o7, o11, rfl⟩
    obtain ⟨x, fl, hx⟩ := hP.line
    obtain ⟨on, h1, h2⟩ := hP.one
    exact jss_ret (je_call (ok_law_refuses T N) (hr.mono (by decide)) (by rfl) T.g_law_refuses T.f_law_refuses.kp T.b_law_refuses pass0 (ja_cons (je_var 3) ja_nil) ⟨x, fl, on, rfl, rfl, hx, h1, h2⟩)
end
end Sq
end
section
set_option Elab.async false
set_option linter.all false
set_option maxRecDepth 100000
set_option maxHeartbeats 4000000
/-! The plain law from the kernel's checks. -/
namespace Sq
theorem and2_t {a b : Bool} (h : and2 a b = true) : a = true ∧ b = true := by
  cases a with
  | true => exact ⟨rfl, h⟩
  | false => cases h
theorem allN_t {f : Nat → Bool} : ∀ {n : Nat}, allN f n = true → ∀ i, i < n → f i = true
  | 0, _, i, h => absurd h (Nat.not_lt_zero i)
  | n + 1, h, i, hi => by
    have h' : (match f n with
      | true => allN f n
      | false => false) = true := h
    cases e : f n with
    | true =>
      rw [e] at h'
      by_cases q : i = n
      · rw [q]
        exact e
      · exact allN_t h' i (by omega)
    | false =>
      rw [e] at h'
      cases h'
theorem upTo_t {d : Nat} {b : Bool} (h : upTo d b = true) (hd : d ≤ 9) : b = true := by
  unfold upTo at h
  rw [Nat.ble_eq_true_of_le hd] at h
  exact h
section
variable {α : Type} {o : Ops α} {eqs eqb : α → α → Bool} {eqP : α → α → Prop} {p c : Nat}
theorem eqL_t {e : α → α → Bool} (he : ∀ x y, e x y = true → eqP x y) : ∀ {l r : List α}, eqL e l r = true → eqPL eqP l r
  | [], [], _ => trivial
  | [], _ :: _, h => by cases h
  | _ :: _, [], h => by cases h
  | x :: l, y :: r, h => by
    obtain ⟨h1, h2⟩ := and2_t (show and2 (e x y) (eqL e l r) = true from h)
    exact ⟨he x y h1, eqL_t he h2⟩
theorem eqPL_eq : ∀ {l r : List α}, eqPL (fun x y => x = y) l r → l = r
  | [], [], _ => rfl
  | [], _ :: _, h => h.elim
  | _ :: _, [], h => h.elim
  | x :: l, y :: r, h => by rw [show x = y from h.1, eqPL_eq h.2]
theorem eqOp_t {e : α → α → Bool} (he : ∀ x y, e x y = true → eqP x y) {a b : Option (List α)} (h : eqOp e a b = true) : ∃ x y, a = some x ∧ b = some y ∧ eqPL eqP x y := by
  cases a with
  | none => cases h
  | some x =>
    cases b with
    | none => cases h
    | some y => exact ⟨x, y, rfl, rfl, eqL_t he h⟩
theorem eqOp_eq (hs : ∀ x y, eqs x y = true → x = y) {a b : Option (List α)} (h : eqOp eqs a b = true) : a = b := by
  obtain ⟨x, y, rfl, rfl, e⟩ := eqOp_t (eqP := fun x y => x = y) hs h
  rw [eqPL_eq e]
theorem heavy_t (hb : ∀ x y, eqb x y = true → eqP x y) {w own : Option (List α)} {ex : Nat → Nat} (h : heavy o eqb p w own ex = true) : ∃ f s ow, w = some f ∧ own = some ow ∧ sqfP o p 8 f = some s ∧ eqPL eqP s ow ∧ ∀ i, i < manyN p → ∃ g, facP o p i = some g ∧ multP o f g = some (ex i) := by
  cases w with
  | none => cases h
  | some f =>
    obtain ⟨h1, h2⟩ := and2_t (show and2 (eqOp eqb (sqfP o p 8 f) own) (allN (mulOk o p f ex) (manyN p)) = true from h)
    obtain ⟨s, ow, e1, e2, e3⟩ := eqOp_t hb h1
    refine ⟨f, s, ow, rfl, e2, e1, e3, fun i hi => ?_⟩
    have h3 := allN_t h2 i hi
    unfold mulOk at h3
    cases e4 : facP o p i with
    | none => rw [e4] at h3; cases h3
    | some g =>
      rw [e4] at h3
      have h3 : (match multP o f g with
        | none => false
        | some k => Nat.beq k (ex i)) = true := h3
      cases e5 : multP o f g with
      | none => rw [e5] at h3; cases h3
      | some k =>
        rw [e5] at h3
        exact ⟨g, rfl, by rw [← Nat.eq_of_beq_eq_true h3]; exact e5⟩
theorem bW_step {L : Prs2} {w w1 : List α} {i k : Nat} (h : stepW o p (some w) i k = some w1) : bW o ((rowN p i, k) :: L) w = bW o L w1 := by
  obtain ⟨f, h1, h⟩ := bnd_some (show bnd (facP o p i) _ = some w1 from h)
  obtain ⟨g, h2, h⟩ := bnd_some h
  show bnd (rowP o (rowN p i)) (fun f => bnd (powP o f k) fun g => bnd (mulP o w g) (bW o L)) = _
  rw [show rowP o (rowN p i) = some f from h1]
  show bnd (powP o f k) (fun g => bnd (mulP o w g) (bW o L)) = _
  rw [h2]
  show bnd (mulP o w g) (bW o L) = _
  rw [h]
  rfl
theorem bO_step {L : Prs2} {w w1 : List α} {i k : Nat} (h : stepO o p (some w) i = some w1) : bO o ((rowN p i, k) :: L) w = bO o L w1 := by
  obtain ⟨f, h1, h⟩ := bnd_some (show bnd (facP o p i) _ = some w1 from h)
  show bnd (rowP o (rowN p i)) (fun f => bnd (mulP o w f) (bO o L)) = _
  rw [show rowP o (rowN p i) = some f from h1]
  show bnd (mulP o w f) (bO o L) = _
  rw [h]
  rfl
theorem stepW_in {w : Option (List α)} {i k : Nat} {f : List α} (h : stepW o p w i k = some f) : ∃ w', w = some w' := by
  obtain ⟨y, e, _⟩ := bnd_some h
  exact ⟨y, e⟩
theorem stepO_in {w : Option (List α)} {i : Nat} {f : List α} (h : stepO o p w i = some f) : ∃ w', w = some w' := by
  obtain ⟨y, e, _⟩ := bnd_some h
  exact ⟨y, e⟩
/-- a chain of steps -/
noncomputable def chW (o : Ops α) (p : Nat) : List (Nat × Nat) → Option (List α) → Option (List α)
  | [], w => w
  | z :: l, w => chW o p l (stepW o p w z.1 z.2)
noncomputable def chO (o : Ops α) (p : Nat) : List (Nat × Nat) → Option (List α) → Option (List α)
  | [], w => w
  | z :: l, w => chO o p l (stepO o p w z.1)
def asL (p : Nat) (l : List (Nat × Nat)) : Prs2 := l.map fun z => (rowN p z.1, z.2)
theorem chW_none : ∀ (l : List (Nat × Nat)), chW o p l none = none
  | [] => rfl
  | z :: l => chW_none l
theorem chO_none : ∀ (l : List (Nat × Nat)), chO o p l none = none
  | [] => rfl
  | z :: l => chO_none l
theorem bW_ch : ∀ (l : List (Nat × Nat)) {w f : List α}, chW o p l (some w) = some f → bW o (asL p l) w = some f
  | [], w, f, h => h
  | z :: l, w, f, h => by
    have h : chW o p l (stepW o p (some w) z.1 z.2) = some f := h
    cases e : stepW o p (some w) z.1 z.2 with
    | none =>
      rw [e, chW_none] at h
      cases h
    | some w1 =>
      rw [e] at h
      exact (bW_step (L := asL p l) e).trans (bW_ch l h)
theorem bO_ch : ∀ (l : List (Nat × Nat)) {w f : List α}, chO o p l (some w) = some f → bO o (asL p l) w = some f
  | [], w, f, h => h
  | z :: l, w, f, h => by
    have h : chO o p l (stepO o p (some w) z.1) = some f := h
    cases e : stepO o p (some w) z.1 with
    | none =>
      rw [e, chO_none] at h
      cases h
    | some w1 =>
      rw [e] at h
      exact (bO_step (L := asL p l) (k := z.2) e).trans (bO_ch l h)
/-! ### the rows by their places -/
theorem ix_of : ∀ {r : List Int}, (p = 0 ∨ p = 2 ∨ p = 3 ∨ p = 5) → Allowed p r → ∃ i, i < manyN p ∧ r = rowN p i := fun {r} hp h => by
  rcases h with ⟨a, h0, h5, rfl⟩ | ⟨rfl, h⟩
  · have ha : a = 0 ∨ a = 1 ∨ a = 2 ∨ a = 3 ∨ a = 4 := by omega
    rcases hp with rfl | rfl | rfl | rfl
    · rcases ha with rfl | rfl | rfl | rfl | rfl
      · exact ⟨0, by decide, by decide⟩
      · exact ⟨1, by decide, by decide⟩
      · exact ⟨2, by decide, by decide⟩
      · exact ⟨3, by decide, by decide⟩
      · exact ⟨4, by decide, by decide⟩
    · rcases ha with rfl | rfl | rfl | rfl | rfl
      · exact ⟨0, by decide, by decide⟩
      · exact ⟨1, by decide, by decide⟩
      · exact ⟨0, by decide, by decide⟩
      · exact ⟨1, by decide, by decide⟩
      · exact ⟨0, by decide, by decide⟩
    · rcases ha with rfl | rfl | rfl | rfl | rfl
      · exact ⟨0, by decide, by decide⟩
      · exact ⟨2, by decide, by decide⟩
      · exact ⟨1, by decide, by decide⟩
      · exact ⟨0, by decide, by decide⟩
      · exact ⟨2, by decide, by decide⟩
    · rcases ha with rfl | rfl | rfl | rfl | rfl
      · exact ⟨0, by decide, by decide⟩
      · exact ⟨4, by decide, by decide⟩
      · exact ⟨3, by decide, by decide⟩
      · exact ⟨2, by decide, by decide⟩
      · exact ⟨1, by decide, by decide⟩
  · rcases h with rfl | rfl
    · exact ⟨5, by decide, by decide⟩
    · exact ⟨3, by decide, by decide⟩
theorem row_deg (p i : Nat) : (rowN p i).length - 1 = degN p i := by
  unfold rowN degN
  cases quadN p i with
  | true => rfl
  | false => cases p <;> rfl
theorem many_le (p : Nat) : manyN p ≤ 6 := by
  unfold manyN
  split <;> decide
/-- what is known of a list of pairs, from its places -/
theorem as_of (hp : p = 0 ∨ p = 2 ∨ p = 3 ∨ p = 5) : ∀ {L : Prs2}, (∀ z ∈ L, Allowed p z.1 ∧ 1 ≤ z.2 ∧ z.2 ≤ 4) → ∃ l : List (Nat × Nat), L = asL p l ∧ ∀ z ∈ l, z.1 < manyN p ∧ 1 ≤ z.2 ∧ z.2 ≤ 4
  | [], _ => ⟨[], rfl, fun z h => (nomatch h)⟩
  | y :: L, h => by
    obtain ⟨l, e, k⟩ := as_of hp fun z hz => h z (List.mem_cons_of_mem _ hz)
    obtain ⟨i, hi, er⟩ := ix_of hp (h y List.mem_cons_self).1
    refine ⟨(i, y.2) :: l, ?_, fun z hz => ?_⟩
    · rw [e]
      show y :: asL p l = (rowN p i, y.2) :: asL p l
      rw [← er]
    · rcases List.mem_cons.mp hz with rfl | q
      · exact ⟨hi, (h y List.mem_cons_self).2⟩
      · exact k z q
/-- the conclusion, from one heavy check -/
theorem good_of (hp : p = 0 ∨ p = 2 ∨ p = 3 ∨ p = 5) (hb : ∀ x y, eqb x y = true → eqP x y) {l : List (Nat × Nat)} {W O : Option (List α)} {ex : Nat → Nat} (hv : heavy o eqb p W O ex = true) (hW : chW o p l (startW o c) = W) (hO : chO o p l (startW o 1) = O)
    (hl : ∀ z ∈ l, z.1 < manyN p ∧ ex z.1 = z.2) (hno : ∀ i, i < manyN p → (∀ z ∈ l, i ≠ z.1) → ex i = 0) : ∃ w0 o0 f own s, Good o eqP p c (asL p l) w0 o0 f own s := by
  obtain ⟨f, s, own, rfl, rfl, h1, h2, h3⟩ := heavy_t hb hv
  cases e0 : startW o c with
  | none =>
    rw [e0, chW_none] at hW
    cases hW
  | some w0 =>
    cases e1 : startW o 1 with
    | none =>
      rw [e1, chO_none] at hO
      cases hO
    | some o0 =>
      rw [e0] at hW
      rw [e1] at hO
      refine ⟨w0, o0, f, own, s, e0, e1, bW_ch l hW, bO_ch l hO, h1, h2, fun z hz => ?_, fun a ha hn => ?_⟩
      · obtain ⟨y, hy, rfl⟩ := List.mem_map.mp hz
        obtain ⟨hi, he⟩ := hl y hy
        obtain ⟨g, g1, g2⟩ := h3 y.1 hi
        exact ⟨g, g1, by rw [g2, he]⟩
      · obtain ⟨i, hi, er⟩ := ix_of (r := rowA p a) hp (.inl ⟨a, by omega, by omega, rfl⟩)
        obtain ⟨g, g1, g2⟩ := h3 i hi
        refine ⟨g, by rw [er]; exact g1, ?_⟩
        rw [g2, hno i hi fun z hz e => ?_]
        refine hn ?_
        rw [er, e]
        exact List.mem_map.mpr ⟨(rowN p z.1, z.2), List.mem_map.mpr ⟨z, hz, rfl⟩, rfl⟩
theorem beq_f {i j : Nat} (h : i ≠ j) : Nat.beq i j = false := Bool.eq_false_iff.mpr fun q => h (Nat.eq_of_beq_eq_true q)
theorem ex1 {i k1 i2 k2 i3 k3 : Nat} : expN i k1 i2 k2 i3 k3 i = k1 := by
  unfold expN
  rw [show Nat.beq i i = true from Nat.beq_refl i]
theorem ex2 {i1 k1 i k2 i3 k3 : Nat} (h : i ≠ i1) : expN i1 k1 i k2 i3 k3 i = k2 := by
  unfold expN
  rw [beq_f h, show Nat.beq i i = true from Nat.beq_refl i]
theorem ex3 {i1 k1 i2 k2 i k3 : Nat} (h : i ≠ i1) (h2 : i ≠ i2) : expN i1 k1 i2 k2 i k3 i = k3 := by
  unfold expN
  rw [beq_f h, beq_f h2, show Nat.beq i i = true from Nat.beq_refl i]
theorem ex0 {i1 k1 i2 k2 i3 k3 i : Nat} (h : i ≠ i1) (h2 : i ≠ i2) (h3 : i ≠ i3) : expN i1 k1 i2 k2 i3 k3 i = 0 := by
  unfold expN
  rw [beq_f h, beq_f h2, beq_f h3]
/-- the kernel's checks -/
structure Chks (o : Ops α) (eqs eqb : α → α → Bool) (p c : Nat) : Prop where
  c0 : chk0 o eqb p c = true
  c1 : all1 o eqb p c = true
  c2 : all2 o eqs eqb p c = true
  c3 : ∀ k, k < manyN p → all3k o eqs eqb p c k = true
  co : allOwn o eqs p = true
section
variable (C : Chks o eqs eqb p c) (hs : ∀ x y, eqs x y = true → x = y)
include C
theorem c1_at {i a : Nat} (hi : i < manyN p) (ha : 1 ≤ a ∧ a ≤ 4) (hd : a * degN p i ≤ 9) : chk1 o eqb p c i a = true := by
  obtain ⟨a, rfl⟩ : ∃ b, a = b + 1 := ⟨a - 1, by omega⟩
  exact upTo_t (allN_t (allN_t C.c1 i hi) a (by omega)) hd
theorem c2_at {i a j b : Nat} (hij : i < j) (hj : j < manyN p) (ha : 1 ≤ a ∧ a ≤ 4) (hb : 1 ≤ b ∧ b ≤ 4) (hd : a * degN p i + b * degN p j ≤ 9) : chk2 o eqs eqb p c i a j b = true := by
  obtain ⟨a, rfl⟩ : ∃ b, a = b + 1 := ⟨a - 1, by omega⟩
  obtain ⟨b, rfl⟩ : ∃ a, b = a + 1 := ⟨b - 1, by omega⟩
  exact upTo_t (allN_t (allN_t (allN_t (allN_t C.c2 j hj) i hij) a (by omega)) b (by omega)) hd
theorem c3_at {i a j b k d : Nat} (hij : i < j) (hjk : j < k) (hk : k < manyN p) (ha : 1 ≤ a ∧ a ≤ 4) (hb : 1 ≤ b ∧ b ≤ 4) (hd4 : 1 ≤ d ∧ d ≤ 4) (hd : a * degN p i + b * degN p j + d * degN p k ≤ 9) : chk3 o eqs eqb p c i a j b k d = true := by
  obtain ⟨a, rfl⟩ : ∃ b, a = b + 1 := ⟨a - 1, by omega⟩
  obtain ⟨b, rfl⟩ : ∃ a, b = a + 1 := ⟨b - 1, by omega⟩
  obtain ⟨d, rfl⟩ : ∃ a, d = a + 1 := ⟨d - 1, by omega⟩
  exact upTo_t (allN_t (allN_t (allN_t (allN_t (allN_t (C.c3 k hk) j hjk) i hij) a (by omega)) b (by omega)) d (by omega)) hd
theorem co2_at {j k : Nat} (hjk : j < k) (hk : k < manyN p) : own2 o eqs p j k = true ∧ ∀ i, i < j → own3 o eqs p i j k = true := by
  obtain ⟨h1, h2⟩ := and2_t (allN_t (allN_t C.co k hk) j hjk)
  exact ⟨h1, fun i hi => allN_t h2 i hi⟩
include hs
/-- two steps may be turned -/
theorem w2_comm {i a j b : Nat} (hij : i ≠ j) (hi : i < manyN p) (hj : j < manyN p) (ha : 1 ≤ a ∧ a ≤ 4) (hb : 1 ≤ b ∧ b ≤ 4) (hd : a * degN p i + b * degN p j ≤ 9) : stepW o p (stepW o p (startW o c) i a) j b = stepW o p (stepW o p (startW o c) j b) i a := by
  rcases Nat.lt_or_gt_of_ne hij with h | h
  · exact eqOp_eq hs (and2_t (c2_at C h hj ha hb hd)).1
  · exact (eqOp_eq hs (and2_t (c2_at C h hi hb ha (by omega))).1).symm
theorem o2_comm {i j : Nat} (hij : i ≠ j) (hi : i < manyN p) (hj : j < manyN p) : stepO o p (stepO o p (startW o 1) i) j = stepO o p (stepO o p (startW o 1) j) i := by
  rcases Nat.lt_or_gt_of_ne hij with h | h
  · exact eqOp_eq hs (co2_at C h hj).1
  · exact (eqOp_eq hs (co2_at C h hi).1).symm
end
/-- three in order, the list in any order -/
theorem good3 (hp : p = 0 ∨ p = 2 ∨ p = 3 ∨ p = 5) (C : Chks o eqs eqb p c) (hs : ∀ x y, eqs x y = true → x = y) (hb : ∀ x y, eqb x y = true → eqP x y) {x a y b z d : Nat} (hxy : x < y) (hyz : y < z) (hz : z < manyN p) (ha : 1 ≤ a ∧ a ≤ 4) (hb4 : 1 ≤ b ∧ b ≤ 4) (hd4 : 1 ≤ d ∧ d ≤ 4) (hd : a * degN p x + b * degN p y + d * degN p z ≤ 9)
    {l : List (Nat × Nat)} (hl : l = [(x, a), (y, b), (z, d)] ∨ l = [(y, b), (x, a), (z, d)] ∨ l = [(x, a), (z, d), (y, b)] ∨ l = [(z, d), (x, a), (y, b)] ∨ l = [(y, b), (z, d), (x, a)] ∨ l = [(z, d), (y, b), (x, a)]) : ∃ w0 o0 f own s, Good o eqP p c (asL p l) w0 o0 f own s := by
  obtain ⟨e1, h⟩ := and2_t (c3_at C hxy hyz hz ha hb4 hd4 hd)
  obtain ⟨e2, hv⟩ := and2_t h
  have e1 := eqOp_eq hs e1
  have e2 := eqOp_eq hs e2
  obtain ⟨q1, q2⟩ := and2_t ((co2_at C hyz hz).2 x hxy)
  have q1 := eqOp_eq hs q1
  have q2 := eqOp_eq hs q2
  have hy : y < manyN p := by omega
  have hx : x < manyN p := by omega
  have wxy := w2_comm C hs (show x ≠ y by omega) hx hy ha hb4 (by omega)
  have wxz := w2_comm C hs (show x ≠ z by omega) hx hz ha hd4 (by omega)
  have wyz := w2_comm C hs (show y ≠ z by omega) hy hz hb4 hd4 (by omega)
  have oxy := o2_comm C hs (show x ≠ y by omega) hx hy
  have oxz := o2_comm C hs (show x ≠ z by omega) hx hz
  have oyz := o2_comm C hs (show y ≠ z by omega) hy hz
  have xx : expN x a y b z d x = a := ex1
  have xy : expN x a y b z d y = b := ex2 (by omega)
  have xz : expN x a y b z d z = d := ex3 (by omega) (by omega)
  have mem : ∀ q ∈ l, q.1 < manyN p ∧ expN x a y b z d q.1 = q.2 := fun q hq => by
    have : q = (x, a) ∨ q = (y, b) ∨ q = (z, d) := by
      rcases hl with rfl | rfl | rfl | rfl | rfl | rfl <;> simp only [List.mem_cons, List.mem_nil_iff, or_false] at hq <;> rcases hq with h | h | h <;> simp [h]
    rcases this with rfl | rfl | rfl
    · exact ⟨hx, xx⟩
    · exact ⟨hy, xy⟩
    · exact ⟨hz, xz⟩
  have hno : ∀ i, i < manyN p → (∀ q ∈ l, i ≠ q.1) → expN x a y b z d i = 0 := fun i _ h => by
    have m1 : (x, a) ∈ l ∧ (y, b) ∈ l ∧ (z, d) ∈ l := by
      rcases hl with rfl | rfl | rfl | rfl | rfl | rfl <;> simp
    exact ex0 (h _ m1.1) (h _ m1.2.1) (h _ m1.2.2)
  refine good_of hp hb hv ?_ ?_ mem hno
  · rcases hl with rfl | rfl | rfl | rfl | rfl | rfl
    · rfl
    · show stepW o p (stepW o p (stepW o p (startW o c) y b) x a) z d = _
      rw [← wxy]
    · exact e1.symm
    · show stepW o p (stepW o p (stepW o p (startW o c) z d) x a) y b = _
      rw [← wxz]
      exact e1.symm
    · exact e2.symm
    · show stepW o p (stepW o p (stepW o p (startW o c) z d) y b) x a = _
      rw [← wyz]
      exact e2.symm
  · rcases hl with rfl | rfl | rfl | rfl | rfl | rfl
    · rfl
    · show stepO o p (stepO o p (stepO o p (startW o 1) y) x) z = _
      rw [← oxy]
    · exact q1.symm
    · show stepO o p (stepO o p (stepO o p (startW o 1) z) x) y = _
      rw [← oxz]
      exact q1.symm
    · exact q2.symm
    · show stepO o p (stepO o p (stepO o p (startW o 1) z) y) x = _
      rw [← oyz]
      exact q2.symm
theorem good2 (hp : p = 0 ∨ p = 2 ∨ p = 3 ∨ p = 5) (C : Chks o eqs eqb p c) (hs : ∀ x y, eqs x y = true → x = y) (hb : ∀ x y, eqb x y = true → eqP x y) {x a y b : Nat} (hxy : x < y) (hy : y < manyN p) (ha : 1 ≤ a ∧ a ≤ 4) (hb4 : 1 ≤ b ∧ b ≤ 4) (hd : a * degN p x + b * degN p y ≤ 9)
    {l : List (Nat × Nat)} (hl : l = [(x, a), (y, b)] ∨ l = [(y, b), (x, a)]) : ∃ w0 o0 f own s, Good o eqP p c (asL p l) w0 o0 f own s := by
  obtain ⟨e1, hv⟩ := and2_t (c2_at C hxy hy ha hb4 hd)
  have e1 := eqOp_eq hs e1
  have hx : x < manyN p := by omega
  have h6 := many_le p
  have oxy := o2_comm C hs (show x ≠ y by omega) hx hy
  have xx : expN x a y b 9 0 x = a := ex1
  have xy : expN x a y b 9 0 y = b := ex2 (by omega)
  have mem : ∀ q ∈ l, q.1 < manyN p ∧ expN x a y b 9 0 q.1 = q.2 := fun q hq => by
    have : q = (x, a) ∨ q = (y, b) := by
      rcases hl with rfl | rfl <;> simp only [List.mem_cons, List.mem_nil_iff, or_false] at hq <;> rcases hq with h | h <;> simp [h]
    rcases this with rfl | rfl
    · exact ⟨hx, xx⟩
    · exact ⟨hy, xy⟩
  have hno : ∀ i, i < manyN p → (∀ q ∈ l, i ≠ q.1) → expN x a y b 9 0 i = 0 := fun i _ h => by
    have m1 : (x, a) ∈ l ∧ (y, b) ∈ l := by
      rcases hl with rfl | rfl <;> simp
    exact ex0 (h _ m1.1) (h _ m1.2) (by omega)
  refine good_of hp hb hv ?_ ?_ mem hno
  · rcases hl with rfl | rfl
    · rfl
    · exact e1.symm
  · rcases hl with rfl | rfl
    · rfl
    · exact oxy.symm
theorem good_all (hp : p = 0 ∨ p = 2 ∨ p = 3 ∨ p = 5) (C : Chks o eqs eqb p c) (hs : ∀ x y, eqs x y = true → x = y) (hb : ∀ x y, eqb x y = true → eqP x y) {L : Prs2} (hL : ValL p L) (h3 : L.length ≤ 3) : ∃ w0 o0 f own s, Good o eqP p c L w0 o0 f own s := by
  obtain ⟨l, rfl, hl⟩ := as_of hp hL.rows
  have nd := hL.nd
  have hsz := hL.size
  have hlen : l.length ≤ 3 := by
    unfold asL at h3
    rw [List.length_map] at h3
    exact h3
  have h6 := many_le p
  match l, hl, nd, hsz, hlen with
  | [], _, _, _, _ => exact good_of hp hb C.c0 rfl rfl (fun z h => (nomatch h)) fun i _ _ => rfl
  | [(i, a)], hl, nd, hsz, _ =>
    obtain ⟨hi, ha⟩ : i < manyN p ∧ 1 ≤ a ∧ a ≤ 4 := hl (i, a) List.mem_cons_self
    have hd : a * degN p i ≤ 9 := by
      have : a * ((rowN p i).length - 1) + 0 ≤ 9 := hsz
      rw [row_deg] at this
      exact this
    refine good_of hp hb (c1_at C hi ha hd) rfl rfl (fun z hz => ?_) fun j hj h => ?_
    · rw [List.mem_singleton.mp hz]
      exact ⟨hi, ex1⟩
    · exact ex0 (h _ List.mem_cons_self) (by omega) (by omega)
  | [(i, a), (j, b)], hl, nd, hsz, _ =>
    obtain ⟨hi, ha⟩ : i < manyN p ∧ 1 ≤ a ∧ a ≤ 4 := hl (i, a) (by simp)
    obtain ⟨hj, hb4⟩ : j < manyN p ∧ 1 ≤ b ∧ b ≤ 4 := hl (j, b) (by simp)
    have hd : a * degN p i + b * degN p j ≤ 9 := by
      have : a * ((rowN p i).length - 1) + (b * ((rowN p j).length - 1) + 0) ≤ 9 := hsz
      rw [row_deg, row_deg] at this
      exact this
    have hij : i ≠ j := fun e => by
      subst e
      have : [rowN p i, rowN p i].Nodup := nd
      simp at this
    rcases Nat.lt_or_gt_of_ne hij with h | h
    · exact good2 hp C hs hb h hj ha hb4 hd (.inl rfl)
    · exact good2 hp C hs hb h hi hb4 ha (by omega) (.inr rfl)
  | [(i, a), (j, b), (k, d)], hl, nd, hsz, _ =>
    obtain ⟨hi, ha⟩ : i < manyN p ∧ 1 ≤ a ∧ a ≤ 4 := hl (i, a) (by simp)
    obtain ⟨hj, hb4⟩ : j < manyN p ∧ 1 ≤ b ∧ b ≤ 4 := hl (j, b) (by simp)
    obtain ⟨hk, hd4⟩ : k < manyN p ∧ 1 ≤ d ∧ d ≤ 4 := hl (k, d) (by simp)
    have hd : a * degN p i + (b * degN p j + d * degN p k) ≤ 9 := by
      have : a * ((rowN p i).length - 1) + (b * ((rowN p j).length - 1) + (d * ((rowN p k).length - 1) + 0)) ≤ 9 := hsz
      rw [row_deg, row_deg, row_deg] at this
      exact this
    have nd' : [rowN p i, rowN p j, rowN p k].Nodup := nd
    have hij : i ≠ j := fun e => by
      subst e
      simp at nd'
    have hik : i ≠ k := fun e => by
      subst e
      simp at nd'
    have hjk : j ≠ k := fun e => by
      subst e
      simp at nd'
    rcases Nat.lt_or_gt_of_ne hij with h1 | h1
    · rcases Nat.lt_or_gt_of_ne hjk with h2 | h2
      · exact good3 hp C hs hb h1 h2 hk ha hb4 hd4 (by omega) (.inl rfl)
      · rcases Nat.lt_or_gt_of_ne hik with h3 | h3
        · exact good3 hp C hs hb h3 h2 hj ha hd4 hb4 (by omega) (.inr (.inr (.inl rfl)))
        · exact good3 hp C hs hb h3 h1 hj hd4 ha hb4 (by omega) (.inr (.inr (.inr (.inr (.inl rfl)))))
    · rcases Nat.lt_or_gt_of_ne hik with h2 | h2
      · exact good3 hp C hs hb h1 h2 hk hb4 ha hd4 (by omega) (.inr (.inl rfl))
      · rcases Nat.lt_or_gt_of_ne hjk with h3 | h3
        · exact good3 hp C hs hb h3 h2 hi hb4 hd4 ha (by omega) (.inr (.inr (.inr (.inl rfl))))
        · exact good3 hp C hs hb h3 h1 hi hd4 hb4 ha (by omega) (.inr (.inr (.inr (.inr (.inr rfl)))))
theorem plain_of (hp : p = 0 ∨ p = 2 ∨ p = 3 ∨ p = 5) (C : ∀ c, (c = 1 ∨ (c = 2 ∧ p ≠ 2)) → Chks o eqs eqb p c) (hs : ∀ x y, eqs x y = true → x = y) (hb : ∀ x y, eqb x y = true → eqP x y) (line : ∃ x f, intsP o [0, 1] = some (x :: f)) (one : ∃ f, intsP o [1] = some f ∧ f.length ≤ 1) : Plain o eqP p :=
  ⟨fun c L hc hL h3 => good_all hp (C c hc) hs hb hL h3, line, one⟩
end
theorem qEqs_t (x y : Fq) (h : qEqs x y = true) : x = y := by
  obtain ⟨s, n, d⟩ := x
  obtain ⟨t, m, e⟩ := y
  obtain ⟨h1, h⟩ := and2_t (show and2 (Nat.beq n m) _ = true from h)
  obtain ⟨h2, h3⟩ := and2_t h
  obtain rfl := Nat.eq_of_beq_eq_true h1
  obtain rfl := Nat.eq_of_beq_eq_true h2
  cases s <;> cases t <;> first | rfl | cases h3
theorem qEqb_t (x y : Fq) (h : qEqb x y = true) : qEqP x y := by
  obtain ⟨s, n, d⟩ := x
  obtain ⟨t, m, e⟩ := y
  obtain ⟨h1, h⟩ := and2_t (show and2 (Nat.beq n m) _ = true from h)
  obtain ⟨h2, h3⟩ := and2_t h
  obtain rfl := Nat.eq_of_beq_eq_true h1
  obtain rfl := Nat.eq_of_beq_eq_true h2
  refine ⟨?_, rfl⟩
  show toI s n = toI t n
  cases e0 : Nat.beq n 0 with
  | true =>
    obtain rfl := Nat.eq_of_beq_eq_true e0
    cases s <;> cases t <;> rfl
  | false =>
    rw [e0] at h3
    cases s <;> cases t <;> first | rfl | cases h3
theorem nbeq_t (x y : Nat) (h : Nat.beq x y = true) : x = y := Nat.eq_of_beq_eq_true h
end Sq
end
section
set_option Elab.async false
set_option linter.all false
set_option maxRecDepth 100000
set_option maxHeartbeats 4000000
namespace Sq
open PySem PySem.Spec L2
open PyProof.Rows hiding St
open Evl (Ex)
section
variable {P : Program} {w : World} {K : PySem.W.Frag} {mg : Str → Option Value} {base : Heap} {α : Type}
instance gr_solid (p : Nat) : Solid (rGr K p) := by
  unfold rGr
  infer_instance
theorem in03 {X : Cx} {τ : Ty} {a : Expr} {p1 pos : Pos} {pc1 pc2 : Pos} {j1 j2 : Nat} {p : Nat} {kb : Bool} (h4 : p = 0 ∨ p = 2 ∨ p = 3 ∨ p = 5) (hk : kb = decide (p = 0 ∨ p = 3)) (ha : JE X a τ (rV (.int (p : Int))))
    (h1 : starEach [Expr.Constant (.int 0) j1 pc1, .Constant (.int 3) j2 pc2] X.env = (false, eval (.Constant (.int 0) j1 pc1) X.env) :: starEach [Expr.Constant (.int 3) j2 pc2] X.env := by rfl) (h2 : starEach [Expr.Constant (.int 3) j2 pc2] X.env = (false, eval (.Constant (.int 3) j2 pc2) X.env) :: starEach [] X.env := by rfl) :
    JT X (.Compare a [.In] [.List [.Constant (.int 0) j1 pc1, .Constant (.int 3) j2 pc2] p1] pos) τ kb := by
  refine jt_cmpR op_in_seq ha (je_lst (Rs := [rV (.int 0), rV (.int 3)]) (ja_cons je_int (ja_cons je_int ja_nil h2) h1) (by show 2 ≤ 1000; decide)) rfl fun x y H Q r1 r2 q => ?_
  obtain ⟨al, vs, rfl, g1, g2⟩ := r2
  obtain ⟨v1, v2, rfl, g3, g4⟩ := g2.two
  obtain rfl : v1 = .int 0 := g3
  obtain rfl : v2 = .int 3 := g4
  obtain rfl : x = .int (p : Int) := r1
  refine ⟨al, _, rfl, .inl g1, rfl, rfl, ?_⟩
  have e : inV (.int (p : Int)) [.int 0, .int 3] = kb := by
    rw [hk]
    rcases h4 with rfl | rfl | rfl | rfl <;> decide
  show Q (.bl (inV (.int (p : Int)) [.int 0, .int 3])) H
  rw [e]
  exact q H (Evl.Ex.refl H)
/-- the first half: from the prime on -/
theorem law_build (T : Tx K mg) (N : NumK P w K mg base α) (hP : Plain N.o N.eqP N.p) (h4 : N.p = 0 ∨ N.p = 2 ∨ N.p = 3 ∨ N.p = 5) {cdv : Value} {A : Around} {outer : List Env} {s : Shared} {H : Hp} {E : XK} (hr : Room 24 (A.deeper (envOfC "law" (defScope (topS 42)) s.heap.objs.size (aG K "law") cdv))) (l : Addr) (ns : List Int) :
    JSO (lawX P w K mg base cdv A outer s H E) [l] ((defBody (topS 42)).drop 2) [none, some (rV (.ref l)), some (rV (.int (N.p : Int))), none, none, none, none, none, none, none, none, none, none] [rInts ns] (fun _ _ => False) (rV (.bl true)) := by
  have hu : A.units + 3 + 65 < cLine := by
    have := hr.un
    have : (A.deeper (envOfC "law" (defScope (topS 42)) s.heap.objs.size (aG K "law") cdv)).units = A.units + 3 := rfl
    omega
  refine jso_set 3 sc_law.nd (R := rGr K N.p) (jeo_je (je_call (ok_law_ground T) (hr.mono (by decide)) (by rfl) T.g_law_ground T.f_law_ground.kp T.b_law_ground pass0 (ja_cons (je_var 2) ja_nil) ⟨N.p, rfl, rfl, N.hp⟩)) ?_
  refine jso_start2 4 sc_law.nd fun q hq => ?_
  have nd : [l, q].Nodup := by simpa using fun e => hq (by rw [e]; exact List.mem_singleton.mpr rfl)
  refine jso_set 5 sc_law.nd (jeo_je je_int) ?_
  obtain ⟨b0, b1⟩ := nx_bnd (ns := ns) (m := 4) (by decide)
  refine jso_for 6 (n := (nxI ns 4).toNat) (lo := 0) (st := 1) (C' := [rInts ns.tail, []]) (fun i τ' C' => ∃ o6 o7 o8 ns L, ValL N.p L ∧ L.length ≤ i ∧ τ' = [none, some (rV (.ref l)), some (rV (.int (N.p : Int))), some (rGr K N.p), some (rV (.ref q)), some (rV (.int (sizeL L : Int))), o6, o7, o8, none, none, none, none] ∧ C' = [rInts ns, L.map (rPair K)]) PassesOwn.never rfl
    (jio_range1 (by rfl) T.n_range (jeo_next 0 T (hr.mono (by decide)) nd (by rfl) rfl rfl (by decide) (ja_cons (je_var 1) (ja_cons (R := rV (.int ((4 : Nat) : Int))) je_int ja_nil))) (by omega)) (pg_name (i := 6) sc_law.nd rfl (.inl rfl)) ⟨none, none, none, ns.tail, [], val_nil, Nat.le_refl _, rfl, rfl⟩ ?_ ?_
  · rintro i τ' C' hi ⟨o6, o7, o8, ns, L, hL, hLi, rfl, rfl⟩
    show JSO _ _ _ [none, some (rV (.ref l)), some (rV (.int (N.p : Int))), some (rGr K N.p), some (rV (.ref q)), some (rV (.int (sizeL L : Int))), some (rV (.int (0 + (i : Int) * 1))), o7, o8, none, none, none, none] _ _ _
    generalize some (rV (.int (0 + (i : Int) * 1))) = o6
    obtain ⟨c0, c1⟩ := nx_bnd (ns := ns) (m := 5) (by decide)
    refine jso_set 7 sc_law.nd (R := rRow K (rowA N.p (nxI ns 5))) (jeo_lst (Rs := [rV (.int (restI N.p (-(nxI ns 5)))), rV (.int 1)]) (jao_cons (jeo_call (ok_law_rest T) (hr.mono (by decide)) (by rfl) T.g_law_rest T.f_law_rest.kp T.b_law_rest pass0 (jao_cons (jeo_je (je_var 2)) (jao_cons (jeo_neg (jeo_next 0 T (hr.mono (by decide)) nd (by rfl) rfl rfl (by decide) (ja_cons (je_var 1) (ja_cons (R := rV (.int ((5 : Nat) : Int))) je_int ja_nil)))) jao_nil)) ⟨N.p, _, rfl, rfl⟩) (jao_cons (jeo_je je_int) jao_nil)) (by show 2 ≤ 1000; decide)) ?_
    have hA0 : Allowed N.p (rowA N.p (nxI ns 5)) := .inl ⟨_, c0, c1, rfl⟩
    show JSO _ _ _ [none, some (rV (.ref l)), some (rV (.int (N.p : Int))), some (rGr K N.p), some (rV (.ref q)), some (rV (.int (sizeL L : Int))), o6, some (rRow K (rowA N.p (nxI ns 5))), o8, none, none, none, none] [rInts ns.tail, L.map (rPair K)] _ _
    generalize rowA N.p (nxI ns 5) = row0 at hA0
    generalize ns.tail = ns
    -- from the exponent on
    have cont : ∀ (row : List Int) (ns : List Int), Allowed N.p row → JSO (lawX P w K mg base cdv A outer s H E) [l, q] ((match (defBody (topS 42)).drop 5 with
        | .For _ _ b _ _ :: _ => b
        | _ => []).drop 2) [none, some (rV (.ref l)), some (rV (.int (N.p : Int))), some (rGr K N.p), some (rV (.ref q)), some (rV (.int (sizeL L : Int))), o6, some (rRow K row), o8, none, none, none, none] [rInts ns, L.map (rPair K)]
        (fun τ' C' => ∃ o6 o7 o8 ns L, ValL N.p L ∧ L.length ≤ i + 1 ∧ τ' = [none, some (rV (.ref l)), some (rV (.int (N.p : Int))), some (rGr K N.p), some (rV (.ref q)), some (rV (.int (sizeL L : Int))), o6, o7, o8, none, none, none, none] ∧ C' = [rInts ns, L.map (rPair K)]) (rV (.bl true)) := fun row ns hA => by
      obtain ⟨d0, d1⟩ := nx_bnd (ns := ns) (m := 4) (by decide)
      obtain ⟨k, hk⟩ : ∃ k : Nat, 1 + nxI ns 4 = (k : Int) := ⟨(1 + nxI ns 4).toNat, by omega⟩
      refine jso_set 8 sc_law.nd (R := rV (.int (k : Int))) (JEO.sub (jeo_add (jeo_je je_int) (jeo_next 0 T (hr.mono (by decide)) nd (by rfl) rfl rfl (by decide) (ja_cons (je_var 1) (ja_cons (R := rV (.int ((4 : Nat) : Int))) je_int ja_nil)))) fun v H q => by rw [← hk]; exact q) ?_
      show JSO _ _ _ [none, some (rV (.ref l)), some (rV (.int (N.p : Int))), some (rGr K N.p), some (rV (.ref q)), some (rV (.int (sizeL L : Int))), o6, some (rRow K row), some (rV (.int (k : Int))), none, none, none, none] [rInts ns.tail, L.map (rPair K)] _ _
      have hrl := row_len hA
      have hlr : (row.map fun i => rV (.int i)).length = row.length := List.length_map _
      have hz0 : sizeL L + k * (row.length - 1) ≤ 9 ↔ (sizeL L : Int) + (k : Int) * ((row.length : Int) - 1) ≤ 9 := by
        rcases hrl with e | e <;> rw [e] <;> omega
      have hz : (sizeL L + k * (row.length - 1) ≤ 9 ↔ (sizeL L : Int) + (k : Int) * ((row.length : Int) - 1) ≤ 9) := hz0
      by_cases hc : row ∉ L.map (·.1) ∧ sizeL L + k * (row.length - 1) ≤ 9
      · refine jso_ifT (Nx' := fun τ' C' => ∃ o6 o7 o8 ns L, ValL N.p L ∧ L.length ≤ i + 1 ∧ τ' = [none, some (rV (.ref l)), some (rV (.int (N.p : Int))), some (rGr K N.p), some (rV (.ref q)), some (rV (.int (sizeL L : Int))), o6, o7, o8, none, none, none, none] ∧ C' = [rInts ns, L.map (rPair K)])
          (jto_rd (l := q) (Rs := L.map (rPair K)) 4 1 (JT.eq (k := (!decide (row ∈ L.map (·.1))) && decide ((sizeL L : Int) + (k : Int) * ((row.length : Int) - 1) ≤ 9)) (JW.jt (jw_and (jt_notInRows (rs := L.map (·.1)) hu (je_var 7) ?rows (by rfl) rfl) fun _ => jw_and1 (jt_le (je_add (je_var 5) (je_mulL (je_var 8) (je_sub (JE.sub (R' := rV (.int (row.length : Int))) (je_lenL (by rfl) T.n_len (je_var 7)) fun v H q => by rw [hlr] at q; exact q) je_int) (.inl ⟨by omega, by omega⟩))) je_int))) ?val) rfl rfl rfl) ?_ fun τ' C' q => jso_nil q
        case rows =>
          rw [List.map_map]
          exact je_rows (x := "_law_pairs") (y := "_law_pair") 4 12 rfl sc_law.nd rfl (.inl rfl) (by decide) (by decide) (by decide) rfl (by omega) (by show 12 < 13; decide) rfl (by decide) (by decide) (blkOk_by (show blkC lawN (defScope (topS 42)) _ _ = true by decide +kernel)) (fun _ _ _ _ _ => pg_name (i := 12) sc_law.nd rfl (.inl rfl)) (fun _ _ _ _ _ => .inl rfl)
        case val =>
          rw [decide_eq_false hc.1, decide_eq_true (hz.mp hc.2)]
          rfl
        refine jso_append 4 1 (l := q) nd (je_var 4) (jeo_tup (Rs := [rRow K row, rV (.int (k : Int))]) (jao_cons (jeo_var 7) (jao_cons (jeo_je (je_var 8)) jao_nil)) (by show 2 ≤ 1000; decide)) rfl rfl (by rw [List.length_map]; omega) ?_
        refine jso_set 5 sc_law.nd (R := rV (.int (sizeL (L ++ [(row, k)]) : Int))) (JEO.sub (jeo_je (je_add (je_var 5) (je_mulL (je_var 8) (je_sub (JE.sub (R' := rV (.int (row.length : Int))) (je_lenL (by rfl) T.n_len (je_var 7)) fun v H q => by rw [hlr] at q; exact q) je_int) (.inl ⟨by omega, by omega⟩)))) fun v H q => ?_) (jso_nil ⟨o6, _, _, ns.tail, L ++ [(row, k)], val_snoc hL hA (by show 1 ≤ k; omega) (by show k ≤ 4; omega) hc.1 hc.2, by rw [List.length_append, List.length_singleton]; omega, rfl, ?_⟩)
        · rw [show v = _ from q]
          show V.int _ = V.int _
          congr 1
          rw [size_snoc]
          show _ = ((sizeL L + k * (row.length - 1) : Nat) : Int)
          rw [Int.natCast_add, Int.natCast_mul, Int.natCast_sub (by omega)]
          rfl
        · show [rInts ns.tail, L.map (rPair K) ++ [rTup K [rRow K row, rV (.int (k : Int))]]] = [rInts ns.tail, (L ++ [(row, k)]).map (rPair K)]
          rw [List.map_append]
          rfl
      · refine jso_skip (jto_rd (l := q) (Rs := L.map (rPair K)) 4 1 (JT.eq (k := (!decide (row ∈ L.map (·.1))) && decide ((sizeL L : Int) + (k : Int) * ((row.length : Int) - 1) ≤ 9)) (JW.jt (jw_and (jt_notInRows (rs := L.map (·.1)) hu (je_var 7) ?rows (by rfl) rfl) fun _ => jw_and1 (jt_le (je_add (je_var 5) (je_mulL (je_var 8) (je_sub (JE.sub (R' := rV (.int (row.length : Int))) (je_lenL (by rfl) T.n_len (je_var 7)) fun v H q => by rw [hlr] at q; exact q) je_int) (.inl ⟨by omega, by omega⟩))) je_int))) ?val) rfl rfl rfl) (jso_nil ⟨o6, _, _, ns.tail, L, hL, by omega, rfl, rfl⟩)
        case rows =>
          rw [List.map_map]
          exact je_rows (x := "_law_pairs") (y := "_law_pair") 4 12 rfl sc_law.nd rfl (.inl rfl) (by decide) (by decide) (by decide) rfl (by omega) (by show 12 < 13; decide) rfl (by decide) (by decide) (blkOk_by (show blkC lawN (defScope (topS 42)) _ _ = true by decide +kernel)) (fun _ _ _ _ _ => pg_name (i := 12) sc_law.nd rfl (.inl rfl)) (fun _ _ _ _ _ => .inl rfl)
        case val =>
          by_cases hr' : row ∈ L.map (·.1)
          · rw [decide_eq_true hr']
            rfl
          · rw [decide_eq_false (p := (sizeL L : Int) + (k : Int) * ((row.length : Int) - 1) ≤ 9) fun q => hc ⟨hr', hz.mpr q⟩]
            exact Bool.and_false _
    by_cases hp3 : N.p = 0 ∨ N.p = 3
    · by_cases hz : nxI ns 4 = 0
      · refine jso_ifT (Nx' := fun τ' C' => τ' = [none, some (rV (.ref l)), some (rV (.int (N.p : Int))), some (rGr K N.p), some (rV (.ref q)), some (rV (.int (sizeL L : Int))), o6, some (rRow K [1, 0, 1]), o8, none, none, none, none] ∧ C' = [rInts ns.tail, L.map (rPair K)]) (jto_andT (jto_jt (in03 h4 (decide_eq_true hp3).symm (je_var 2))) (JTO.eq (jto_eqO rfl (jeo_next 0 T (hr.mono (by decide)) nd (by rfl) rfl rfl (by decide) (ja_cons (je_var 1) (ja_cons (R := rV (.int ((4 : Nat) : Int))) je_int ja_nil))) je_int) (by rw [hz]; rfl))) ?_ ?_
        · exact jso_set 7 sc_law.nd (R := rRow K [1, 0, 1]) (jeo_lst (Rs := [rV (.int 1), rV (.int 0), rV (.int 1)]) (jao_cons (jeo_je je_int) (jao_cons (jeo_je je_int) (jao_cons (jeo_je je_int) jao_nil))) (by show 3 ≤ 1000; decide)) (jso_nil ⟨rfl, rfl⟩)
        · rintro τ' C' ⟨rfl, rfl⟩
          exact cont [1, 0, 1] ns.tail (.inr ⟨rfl, hp3⟩)
      · refine jso_skip (jto_andT (jto_jt (in03 h4 (decide_eq_true hp3).symm (je_var 2))) (JTO.eq (jto_eqO rfl (jeo_next 0 T (hr.mono (by decide)) nd (by rfl) rfl rfl (by decide) (ja_cons (je_var 1) (ja_cons (R := rV (.int ((4 : Nat) : Int))) je_int ja_nil))) je_int) (dec0 hz))) ?_
        exact cont row0 ns.tail hA0
    · refine jso_skip (jto_andF (jto_jt (in03 h4 (decide_eq_false hp3).symm (je_var 2)))) ?_
      exact cont row0 ns hA0
  · rintro τ' C' ⟨o6, o7, o8, ns, L, hL, hLi, rfl, rfl⟩
    have h3 : L.length ≤ 3 := by omega
    obtain ⟨m, hm, hm1⟩ : ∃ m : Nat, (1 + (if (!decide (V.int (N.p : Int) = V.int 2)) = true then (1 : Int) else 0)) = (m : Int) ∧ (m = 1 ∨ (m = 2 ∧ N.p ≠ 2)) := by
      by_cases h2 : N.p = 2
      · refine ⟨1, ?_, .inl rfl⟩
        rw [h2]
        rfl
      · refine ⟨2, ?_, .inr ⟨rfl, h2⟩⟩
        rw [decide_eq_false fun e => h2 (by have := V.int.inj e; omega)]
        rfl
    have hm0 : 0 < m := by omega
    obtain ⟨d0, d1⟩ := nx_bnd (ns := ns) hm0
    obtain ⟨c, hc⟩ : ∃ c : Nat, 1 + nxI ns m = (c : Int) := ⟨(1 + nxI ns m).toNat, by omega⟩
    have hcc : c = 1 ∨ (c = 2 ∧ N.p ≠ 2) := by
      rcases hm1 with e | ⟨e, e2⟩
      · exact .inl (by omega)
      · by_cases c1 : c = 1
        · exact .inl c1
        · exact .inr ⟨by omega, e2⟩
    obtain ⟨w0, o0, f, own, sq, G⟩ := hP.good c L hcc hL h3
    refine jso_set 9 sc_law.nd (R := rPo N w0) (jeo_make T.k_Poly (ok_Poly_init T N) (hr.mono (by decide)) (by rfl) T.g_Poly T.b_Poly_init pass0 (jao_cons (jeo_je (je_var 3)) (jao_cons (jeo_lst (Rs := [rV (.int (c : Int))]) (jao_cons (JEO.sub (jeo_add (jeo_je je_int) (jeo_next (m := m) 0 T (hr.mono (by decide)) nd (by rfl) rfl rfl hm0 (ja_cons (je_var 1) (ja_cons (R := rV (.int (m : Int))) (JE.sub (je_add je_int (je_intB (by rfl) T.n_int (je_ne rfl (je_var 2) je_int))) fun v H q => by rw [← hm]; exact q) ja_nil)))) fun v H q => by rw [← hc]; exact q) jao_nil) (by show 1 ≤ 1000; decide)) jao_nil)) (sPo_int (is := [(c : Int)]) G.h0)) ?_
    exact jso_end (Nx' := fun _ => False) (l := q) (Rs := L.map (rPair K)) 4 1 (law_ask T N hP hr hL h3 G) rfl rfl rfl
/-- law, over the numbers of N, from the prime that was drawn -/
theorem ok_law (T : Tx K mg) (h0 : Plain Q qEqP 0) (hp : ∀ p, p = 2 ∨ p = 3 ∨ p = 5 → Plain (pOps p) (fun x y => x = y) p) : FnOk P w K mg base CX0 25 (aG K "law") (dG K "law") ["_law_script"] (spLaw K) := by
  refine T.f_law.ok sc_law (fun vs H Q E h => by obtain ⟨_, _, rfl, _⟩ := h; rfl) (fun cdv A outer s H vs Qk E hr h => ?_)
  obtain ⟨a, ns, rfl, hS, hn, q⟩ := h
  refine ⟨_, PSs.nox sss_pss, ?_⟩
  let X := lawX P w K mg base cdv A outer s H E
  have hv : AllR (ns.map V.int) (rInts ns) H := of_ints ns
  have t0 : Typ (L2.start lawN [.ref a]) (ty0 lawN [rLst K (rInts ns)]) H := typ_start (Rs := [rLst K (rInts ns)]) ⟨⟨a, _, rfl, hS, hv⟩, trivial⟩
  refine pss_sss (X := X) (pss_cons (ps_set (i := 1) sc_law.nd rfl (.inl rfl) (se_pe (X := X))) (sss_pss (X := X))) ?_
  refine ((je_call (ok_law_numbers T) (hr.mono (by decide)) (by rfl) T.g_law_numbers T.f_law_numbers.kp T.b_law_numbers pass0 (ja_cons (je_var 0 (R := rLst K (rInts ns))) ja_nil) ⟨ns, rfl, rfl, hn⟩ : JE X _ _ rSomeInts) _ H t0).mono fun v H1 ⟨e1, l, ms, ev, hl⟩ => ?_
  subst ev
  have TT : TO [l] ((L2.start lawN [.ref a]).set 1 (some (.ref l))) [none, some (rV (.ref l)), none, none, none, none, none, none, none, none, none, none, none] [rInts ms] H1 := ⟨⟨rfl, fun i R e => by
    match i, e with
    | 0, e => cases e
    | 1, e =>
      cases e
      exact ⟨.ref l, rfl, rfl⟩
    | 2, e => cases e
    | 3, e => cases e
    | 4, e => cases e
    | 5, e => cases e
    | 6, e => cases e
    | 7, e => cases e
    | 8, e => cases e
    | 9, e => cases e
    | 10, e => cases e
    | 11, e => cases e
    | 12, e => cases e
    | i + 13, e => simp at e⟩, rfl, fun i l' Rs q1 q2 => by
    cases i with
    | zero =>
      cases q1
      cases q2
      exact ⟨_, hl, of_ints ms⟩
    | succ i => simp at q1⟩
  have main : ∀ p, primeN ms = p → JSO X [l] ((defBody (topS 42)).drop 2) [none, some (rV (.ref l)), some (rV (.int (p : Int))), none, none, none, none, none, none, none, none, none, none] [rInts ms.tail] (fun _ _ => False) (rV (.bl true)) := fun p hpp => by
    have h4 : p = 0 ∨ p = 2 ∨ p = 3 ∨ p = 5 := by
      obtain ⟨b1, b2⟩ := nx_bnd (ns := ms) (m := 4) (by decide)
      obtain ⟨k, hk, hk4⟩ : ∃ k : Nat, nxI ms 4 = (k : Int) ∧ k < 4 := ⟨(nxI ms 4).toNat, by omega, by omega⟩
      have : primeN ms = ([0, 2, 3, 5] : List Nat).getD k 0 := by
        unfold primeN
        rw [hk]
        rfl
      rw [← hpp, this]
      match k, hk4 with
      | 0, _ => exact .inl rfl
      | 1, _ => exact .inr (.inl rfl)
      | 2, _ => exact .inr (.inr (.inl rfl))
      | 3, _ => exact .inr (.inr (.inr rfl))
    by_cases hz : p = 0
    · subst hz
      exact law_build T (numQ T) h0 (.inl rfl) hr l ms.tail
    · have h235 : p = 2 ∨ p = 3 ∨ p = 5 := h4.resolve_left hz
      have pr : Pr p := by
        rcases h235 with rfl | rfl | rfl
        · exact ⟨by decide, by decide, by decide +kernel⟩
        · exact ⟨by decide, by decide, by decide +kernel⟩
        · exact ⟨by decide, by decide, by decide +kernel⟩
      exact law_build T (numP T p pr) (hp p h235) h4 hr l ms.tail
  have all : JSO X [l] ((defBody (topS 42)).drop 1) [none, some (rV (.ref l)), none, none, none, none, none, none, none, none, none, none, none] [rInts ms] (fun _ _ => False) (rV (.bl true)) :=
    jso_set 2 sc_law.nd (jeo_prime 0 T (hr.mono (by decide)) (by simp) (by rfl) rfl rfl (ja_cons (je_var 1) ja_nil)) (main _ rfl)
  exact (all _ H1 TT).mono (fun σ' H' ⟨_, _, _, z, _⟩ => z.elim) (fun v H' ⟨_, r⟩ => by
    rw [show v = V.bl true from r]
    exact q H') (fun _ _ z => z) (fun _ _ z => z)
end
end Sq
end
section
set_option Elab.async false
set_option maxRecDepth 100000
set_option maxHeartbeats 0
namespace Sq
theorem ko0 : allOwn Q qEqs 0 = true := by decide +kernel
theorem ka0_1 : chk0 Q qEqb 0 1 = true := by decide +kernel
theorem kb0_1 : all1 Q qEqb 0 1 = true := by decide +kernel
theorem kc0_1 : all2 Q qEqs qEqb 0 1 = true := by decide +kernel
theorem kd0_1_0 : all3k Q qEqs qEqb 0 1 0 = true := by decide +kernel
theorem kd0_1_1 : all3k Q qEqs qEqb 0 1 1 = true := by decide +kernel
theorem kd0_1_2 : all3k Q qEqs qEqb 0 1 2 = true := by decide +kernel
theorem kd0_1_3 : all3k Q qEqs qEqb 0 1 3 = true := by decide +kernel
theorem kd0_1_4 : all3k Q qEqs qEqb 0 1 4 = true := by decide +kernel
theorem kd0_1_5 : all3k Q qEqs qEqb 0 1 5 = true := by decide +kernel
theorem ck0_1 : Chks Q qEqs qEqb 0 1 := ⟨ka0_1, kb0_1, kc0_1, fun k hk => by
  have hk : k < 6 := hk
  match k, hk with
  | 0, _ => exact kd0_1_0
  | 1, _ => exact kd0_1_1
  | 2, _ => exact kd0_1_2
  | 3, _ => exact kd0_1_3
  | 4, _ => exact kd0_1_4
  | 5, _ => exact kd0_1_5
  | n + 6, h => omega, ko0⟩
theorem ka0_2 : chk0 Q qEqb 0 2 = true := by decide +kernel
theorem kb0_2 : all1 Q qEqb 0 2 = true := by decide +kernel
theorem kc0_2 : all2 Q qEqs qEqb 0 2 = true := by decide +kernel
theorem kd0_2_0 : all3k Q qEqs qEqb 0 2 0 = true := by decide +kernel
theorem kd0_2_1 : all3k Q qEqs qEqb 0 2 1 = true := by decide +kernel
theorem kd0_2_2 : all3k Q qEqs qEqb 0 2 2 = true := by decide +kernel
theorem kd0_2_3 : all3k Q qEqs qEqb 0 2 3 = true := by decide +kernel
theorem kd0_2_4 : all3k Q qEqs qEqb 0 2 4 = true := by decide +kernel
theorem kd0_2_5 : all3k Q qEqs qEqb 0 2 5 = true := by decide +kernel
theorem ck0_2 : Chks Q qEqs qEqb 0 2 := ⟨ka0_2, kb0_2, kc0_2, fun k hk => by
  have hk : k < 6 := hk
  match k, hk with
  | 0, _ => exact kd0_2_0
  | 1, _ => exact kd0_2_1
  | 2, _ => exact kd0_2_2
  | 3, _ => exact kd0_2_3
  | 4, _ => exact kd0_2_4
  | 5, _ => exact kd0_2_5
  | n + 6, h => omega, ko0⟩
theorem pc0 : ∀ c, (c = 1 ∨ (c = 2 ∧ 0 ≠ 2)) → Chks Q qEqs qEqb 0 c := fun c hc => by
  rcases hc with rfl | ⟨rfl, _⟩
  · exact ck0_1
  · exact ck0_2
theorem pl0 : Plain Q qEqP 0 := plain_of (by decide) pc0 qEqs_t qEqb_t ⟨_, _, rfl⟩ ⟨_, rfl, by decide⟩
theorem ko2 : allOwn (pOps 2) Nat.beq 2 = true := by decide +kernel
theorem ka2_1 : chk0 (pOps 2) Nat.beq 2 1 = true := by decide +kernel
theorem kb2_1 : all1 (pOps 2) Nat.beq 2 1 = true := by decide +kernel
theorem kc2_1 : all2 (pOps 2) Nat.beq Nat.beq 2 1 = true := by decide +kernel
theorem kd2_1_0 : all3k (pOps 2) Nat.beq Nat.beq 2 1 0 = true := by decide +kernel
theorem kd2_1_1 : all3k (pOps 2) Nat.beq Nat.beq 2 1 1 = true := by decide +kernel
theorem ck2_1 : Chks (pOps 2) Nat.beq Nat.beq 2 1 := ⟨ka2_1, kb2_1, kc2_1, fun k hk => by
  have hk : k < 2 := hk
  match k, hk with
  | 0, _ => exact kd2_1_0
  | 1, _ => exact kd2_1_1
  | n + 2, h => omega, ko2⟩
theorem pc2 : ∀ c, (c = 1 ∨ (c = 2 ∧ 2 ≠ 2)) → Chks (pOps 2) Nat.beq Nat.beq 2 c := fun c hc => by
  rcases hc with rfl | ⟨_, h⟩
  · exact ck2_1
  · exact absurd rfl h
theorem pl2 : Plain (pOps 2) (fun x y => x = y) 2 := plain_of (by decide) pc2 nbeq_t nbeq_t ⟨_, _, rfl⟩ ⟨_, rfl, by decide⟩
theorem ko3 : allOwn (pOps 3) Nat.beq 3 = true := by decide +kernel
theorem ka3_1 : chk0 (pOps 3) Nat.beq 3 1 = true := by decide +kernel
theorem kb3_1 : all1 (pOps 3) Nat.beq 3 1 = true := by decide +kernel
theorem kc3_1 : all2 (pOps 3) Nat.beq Nat.beq 3 1 = true := by decide +kernel
theorem kd3_1_0 : all3k (pOps 3) Nat.beq Nat.beq 3 1 0 = true := by decide +kernel
theorem kd3_1_1 : all3k (pOps 3) Nat.beq Nat.beq 3 1 1 = true := by decide +kernel
theorem kd3_1_2 : all3k (pOps 3) Nat.beq Nat.beq 3 1 2 = true := by decide +kernel
theorem kd3_1_3 : all3k (pOps 3) Nat.beq Nat.beq 3 1 3 = true := by decide +kernel
theorem ck3_1 : Chks (pOps 3) Nat.beq Nat.beq 3 1 := ⟨ka3_1, kb3_1, kc3_1, fun k hk => by
  have hk : k < 4 := hk
  match k, hk with
  | 0, _ => exact kd3_1_0
  | 1, _ => exact kd3_1_1
  | 2, _ => exact kd3_1_2
  | 3, _ => exact kd3_1_3
  | n + 4, h => omega, ko3⟩
theorem ka3_2 : chk0 (pOps 3) Nat.beq 3 2 = true := by decide +kernel
theorem kb3_2 : all1 (pOps 3) Nat.beq 3 2 = true := by decide +kernel
theorem kc3_2 : all2 (pOps 3) Nat.beq Nat.beq 3 2 = true := by decide +kernel
theorem kd3_2_0 : all3k (pOps 3) Nat.beq Nat.beq 3 2 0 = true := by decide +kernel
theorem kd3_2_1 : all3k (pOps 3) Nat.beq Nat.beq 3 2 1 = true := by decide +kernel
theorem kd3_2_2 : all3k (pOps 3) Nat.beq Nat.beq 3 2 2 = true := by decide +kernel
theorem kd3_2_3 : all3k (pOps 3) Nat.beq Nat.beq 3 2 3 = true := by decide +kernel
theorem ck3_2 : Chks (pOps 3) Nat.beq Nat.beq 3 2 := ⟨ka3_2, kb3_2, kc3_2, fun k hk => by
  have hk : k < 4 := hk
  match k, hk with
  | 0, _ => exact kd3_2_0
  | 1, _ => exact kd3_2_1
  | 2, _ => exact kd3_2_2
  | 3, _ => exact kd3_2_3
  | n + 4, h => omega, ko3⟩
theorem pc3 : ∀ c, (c = 1 ∨ (c = 2 ∧ 3 ≠ 2)) → Chks (pOps 3) Nat.beq Nat.beq 3 c := fun c hc => by
  rcases hc with rfl | ⟨rfl, _⟩
  · exact ck3_1
  · exact ck3_2
theorem pl3 : Plain (pOps 3) (fun x y => x = y) 3 := plain_of (by decide) pc3 nbeq_t nbeq_t ⟨_, _, rfl⟩ ⟨_, rfl, by decide⟩
theorem ko5 : allOwn (pOps 5) Nat.beq 5 = true := by decide +kernel
theorem ka5_1 : chk0 (pOps 5) Nat.beq 5 1 = true := by decide +kernel
theorem kb5_1 : all1 (pOps 5) Nat.beq 5 1 = true := by decide +kernel
theorem kc5_1 : all2 (pOps 5) Nat.beq Nat.beq 5 1 = true := by decide +kernel
theorem kd5_1_0 : all3k (pOps 5) Nat.beq Nat.beq 5 1 0 = true := by decide +kernel
theorem kd5_1_1 : all3k (pOps 5) Nat.beq Nat.beq 5 1 1 = true := by decide +kernel
theorem kd5_1_2 : all3k (pOps 5) Nat.beq Nat.beq 5 1 2 = true := by decide +kernel
theorem kd5_1_3 : all3k (pOps 5) Nat.beq Nat.beq 5 1 3 = true := by decide +kernel
theorem kd5_1_4 : all3k (pOps 5) Nat.beq Nat.beq 5 1 4 = true := by decide +kernel
theorem ck5_1 : Chks (pOps 5) Nat.beq Nat.beq 5 1 := ⟨ka5_1, kb5_1, kc5_1, fun k hk => by
  have hk : k < 5 := hk
  match k, hk with
  | 0, _ => exact kd5_1_0
  | 1, _ => exact kd5_1_1
  | 2, _ => exact kd5_1_2
  | 3, _ => exact kd5_1_3
  | 4, _ => exact kd5_1_4
  | n + 5, h => omega, ko5⟩
theorem ka5_2 : chk0 (pOps 5) Nat.beq 5 2 = true := by decide +kernel
theorem kb5_2 : all1 (pOps 5) Nat.beq 5 2 = true := by decide +kernel
theorem kc5_2 : all2 (pOps 5) Nat.beq Nat.beq 5 2 = true := by decide +kernel
theorem kd5_2_0 : all3k (pOps 5) Nat.beq Nat.beq 5 2 0 = true := by decide +kernel
theorem kd5_2_1 : all3k (pOps 5) Nat.beq Nat.beq 5 2 1 = true := by decide +kernel
theorem kd5_2_2 : all3k (pOps 5) Nat.beq Nat.beq 5 2 2 = true := by decide +kernel
theorem kd5_2_3 : all3k (pOps 5) Nat.beq Nat.beq 5 2 3 = true := by decide +kernel
theorem kd5_2_4 : all3k (pOps 5) Nat.beq Nat.beq 5 2 4 = true := by decide +kernel
theorem ck5_2 : Chks (pOps 5) Nat.beq Nat.beq 5 2 := ⟨ka5_2, kb5_2, kc5_2, fun k hk => by
  have hk : k < 5 := hk
  match k, hk with
  | 0, _ => exact kd5_2_0
  | 1, _ => exact kd5_2_1
  | 2, _ => exact kd5_2_2
  | 3, _ => exact kd5_2_3
  | 4, _ => exact kd5_2_4
  | n + 5, h => omega, ko5⟩
theorem pc5 : ∀ c, (c = 1 ∨ (c = 2 ∧ 5 ≠ 2)) → Chks (pOps 5) Nat.beq Nat.beq 5 c := fun c hc => by
  rcases hc with rfl | ⟨rfl, _⟩
  · exact ck5_1
  · exact ck5_2
theorem pl5 : Plain (pOps 5) (fun x y => x = y) 5 := plain_of (by decide) pc5 nbeq_t nbeq_t ⟨_, _, rfl⟩ ⟨_, rfl, by decide⟩
end Sq
end
theorem PySem.Challenge.cw_similarforms_k10_whole_squarefree_parts_holds : PySem.Challenge.rw_similarforms_k10_whole_squarefree_parts.Holds := by
  exact Sq.holds_of 25 ⟨rfl, by decide, by decide⟩ fun w K mg base T => Sq.ok_law T Sq.pl0 fun p hp => by
    rcases hp with rfl | rfl | rfl
    · exact Sq.pl2
    · exact Sq.pl3
    · exact Sq.pl5
