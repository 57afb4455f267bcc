import PyProof.Rows.All
import Wide.All
import OpenK.AllK
import Wide.FinOn
import HandS.ForMost
import HandS.IsInst
import HandS.DictComp
import HandS.NoneIn
import HandS.Conv
import HandS.Deep
import HandS.SortInts
import HandS.Strs
import HandS.More
import KE.SortCalls
import HandS.SetFor
import KE.KEqSeq
import HandS.Zip
import PySem.Challenge.RW_freelots_k72_whole_woods_exactly
set_option Elab.async false
set_option linter.all false
set_option maxRecDepth 100000
set_option autoImplicit false
/-! The pure layer: values as PyData, defs as functions of PyData. -/
namespace Pu
open PySem PySem.Spec PyProof.Rows L2

abbrev D := PyData
def keyD : Key → D
  | .inl i => .int i
  | .inr x => .str x

mutual
/-- the value v, in the heap H, is the data d -/
inductive Rep (K : PySem.W.Frag) (H : Hp) : V → D → Prop
  | non : Rep K H .non .none
  | bl (b : Bool) : Rep K H (.bl b) (.bool b)
  | int (i : Int) : Rep K H (.int i) (.int i)
  | str (x : Str) : Rep K H (.str x) (.str x)
  | lst {a : Addr} {xs : List V} {ds : List D} : H a = some (.lst xs) → Reps K H xs ds → Rep K H (.ref a) (.list ds)
  | tup {a : Addr} {xs : List V} {ds : List D} : SqT K H a xs → Reps K H xs ds → Rep K H (.ref a) (.tuple ds)
  | dic {a : Addr} {kvs : List (Key × V)} {ks : List (D × D)} : H a = some (.dK kvs) → RepK K H kvs ks → Rep K H (.ref a) (.dict ks)
inductive Reps (K : PySem.W.Frag) (H : Hp) : List V → List D → Prop
  | nil : Reps K H [] []
  | cons {v : V} {d : D} {vs : List V} {ds : List D} : Rep K H v d → Reps K H vs ds → Reps K H (v :: vs) (d :: ds)
inductive RepK (K : PySem.W.Frag) (H : Hp) : List (Key × V) → List (D × D) → Prop
  | nil : RepK K H [] []
  | cons {k : Key} {v : V} {d : D} {r : List (Key × V)} {s : List (D × D)} : Rep K H v d → RepK K H r s → RepK K H ((k, v) :: r) ((keyD k, d) :: s)
end

variable {K : PySem.W.Frag} {H H' F F' : Hp}

theorem same_T (e : Same H H') {a : Addr} {xs : List V} (h : SqT K H a xs) : SqT K H' a xs := by
  rcases h with (h | ⟨o, h⟩) | h
  · exact .inl (.inl (e _ _ h))
  · exact .inl (.inr ⟨o, e _ _ h⟩)
  · exact .inr h

mutual
theorem Rep.mono (e : Same H H') : ∀ {v : V} {d : D}, Rep K H v d → Rep K H' v d
  | _, _, .non => .non
  | _, _, .bl b => .bl b
  | _, _, .int i => .int i
  | _, _, .str x => .str x
  | _, _, .lst s r => .lst (e _ _ s) (Reps.mono e r)
  | _, _, .tup s r => .tup (same_T e s) (Reps.mono e r)
  | _, _, .dic s r => .dic (e _ _ s) (RepK.mono e r)
theorem Reps.mono (e : Same H H') : ∀ {vs : List V} {ds : List D}, Reps K H vs ds → Reps K H' vs ds
  | _, _, .nil => .nil
  | _, _, .cons a r => .cons (Rep.mono e a) (Reps.mono e r)
theorem RepK.mono (e : Same H H') : ∀ {vs : List (Key × V)} {ds : List (D × D)}, RepK K H vs ds → RepK K H' vs ds
  | _, _, .nil => .nil
  | _, _, .cons a r => .cons (Rep.mono e a) (RepK.mono e r)
end

theorem Reps.length : ∀ {vs : List V} {ds : List D}, Reps K H vs ds → vs.length = ds.length
  | _, _, .nil => rfl
  | _, _, .cons _ r => by simp [Reps.length r]
theorem Reps.get : ∀ {vs : List V} {ds : List D} {i : Nat} {v : V}, Reps K H vs ds → vs[i]? = some v → ∃ d, ds[i]? = some d ∧ Rep K H v d
  | _, _, _, _, .nil, h => by simp at h
  | _, _, 0, _, .cons a _, h => by simp at h; subst h; exact ⟨_, rfl, a⟩
  | _, _, i + 1, v, .cons _ r, h => by
    obtain ⟨d, h1, h2⟩ := Reps.get (i := i) (v := v) r (by simpa using h)
    exact ⟨d, by simpa using h1, h2⟩
theorem Reps.getD : ∀ {vs : List V} {ds : List D} {i : Nat} {d : D}, Reps K H vs ds → ds[i]? = some d → ∃ v, vs[i]? = some v ∧ Rep K H v d
  | _, _, _, _, .nil, h => by simp at h
  | _, _, 0, _, .cons a _, h => by simp at h; subst h; exact ⟨_, rfl, a⟩
  | _, _, i + 1, d, .cons _ r, h => by
    obtain ⟨v, h1, h2⟩ := Reps.getD (i := i) (d := d) r (by simpa using h)
    exact ⟨v, by simpa using h1, h2⟩
theorem Reps.app : ∀ {vs ws : List V} {ds es : List D}, Reps K H vs ds → Reps K H ws es → Reps K H (vs ++ ws) (ds ++ es)
  | _, _, _, _, .nil, r => r
  | _, _, _, _, .cons a r, s => .cons a (Reps.app r s)
theorem Reps.take : ∀ {vs : List V} {ds : List D} (n : Nat), Reps K H vs ds → Reps K H (vs.take n) (ds.take n)
  | _, _, 0, _ => .nil
  | _, _, _ + 1, .nil => .nil
  | _, _, n + 1, .cons a r => .cons a (Reps.take n r)
theorem Reps.drop : ∀ {vs : List V} {ds : List D} (n : Nat), Reps K H vs ds → Reps K H (vs.drop n) (ds.drop n)
  | _, _, 0, r => r
  | _, _, _ + 1, .nil => .nil
  | _, _, n + 1, .cons _ r => Reps.drop n r
theorem Reps.set {v : V} {d : D} (a : Rep K H v d) : ∀ {vs : List V} {ds : List D} (n : Nat), Reps K H vs ds → Reps K H (vs.set n v) (ds.set n d)
  | _, _, _, .nil => .nil
  | _, _, 0, .cons _ r => .cons a r
  | _, _, n + 1, .cons b r => .cons b (Reps.set a n r)
theorem Reps.rev {vs : List V} {ds : List D} (r : Reps K H vs ds) : Reps K H vs.reverse ds.reverse := by
  induction vs generalizing ds with
  | nil => cases r; exact .nil
  | cons v vs ih =>
    cases r with
    | cons a r => simp only [List.reverse_cons]; exact (ih r).app (.cons a .nil)
theorem Reps.erase : ∀ {vs : List V} {ds : List D} (n : Nat), Reps K H vs ds → Reps K H (vs.eraseIdx n) (ds.eraseIdx n)
  | _, _, _, .nil => .nil
  | _, _, 0, .cons _ r => r
  | _, _, n + 1, .cons b r => .cons b (Reps.erase n r)
theorem Reps.dropLast : ∀ {vs : List V} {ds : List D}, Reps K H vs ds → Reps K H vs.dropLast ds.dropLast
  | _, _, .nil => .nil
  | _, _, .cons a .nil => .nil
  | _, _, .cons a (.cons b r) => .cons a (Reps.dropLast (.cons b r))
theorem Reps.rep1 {v : V} {d : D} (a : Rep K H v d) : ∀ n : Nat, Reps K H (List.replicate n v) (List.replicate n d)
  | 0 => .nil
  | n + 1 => .cons a (Reps.rep1 a n)
theorem Reps.reps {vs : List V} {ds : List D} (r : Reps K H vs ds) : ∀ k : Nat, Reps K H (List.replicate k vs).flatten (List.replicate k ds).flatten
  | 0 => .nil
  | k + 1 => by simp only [List.replicate_succ, List.flatten_cons]; exact r.app (Reps.reps r k)
theorem Reps.ints : ∀ ns : List Int, Reps K H (ns.map V.int) (ns.map PyData.int)
  | [] => .nil
  | n :: r => .cons (.int n) (Reps.ints r)
theorem Reps.ofInts : ∀ {vs : List V} {ns : List Int}, Reps K H vs (ns.map PyData.int) → vs = ns.map V.int
  | _, [], r => by cases r; rfl
  | _, n :: ns, r => by
    cases r with
    | cons a r => cases a; rw [Reps.ofInts r]; rfl
theorem Reps.ofBools : ∀ {vs : List V} {ns : List Bool}, Reps K H vs (ns.map PyData.bool) → vs = ns.map V.bl
  | _, [], r => by cases r; rfl
  | _, n :: ns, r => by
    cases r with
    | cons a r => cases a; rw [Reps.ofBools r]; rfl

/-! ### growing -/
structure Ext (F H F' H' : Hp) : Prop where
  f : Same F F'
  h : Same H H'
  s : Same F' H'
  n : ∀ a o, H a = some o → F a = none → F' a = none
theorem Ext.refl (e : Same F H) : Ext F H F H := ⟨.refl _, .refl _, e, fun _ _ _ h => h⟩
theorem Ext.trans {F1 H1 F2 H2 : Hp} (a : Ext F H F1 H1) (b : Ext F1 H1 F2 H2) : Ext F H F2 H2 :=
  ⟨a.f.trans b.f, a.h.trans b.h, b.s, fun x o h1 h2 => b.n x o (a.h _ _ h1) (a.n x o h1 h2)⟩
theorem same_upd {H : Hp} {p : Addr} {o : HO} (h : H p = none) : Same H (upd H p o) := fun b x e => by
  rw [upd_ne (ne_of_none e h)]; exact e
theorem same_upd2 {F H : Hp} {p : Addr} {o : HO} (e : Same F H) : Same (upd F p o) (upd H p o) := fun b x h => by
  by_cases hb : b = p
  · subst hb; rw [upd_same] at h ⊢; exact h
  · rw [upd_ne hb] at h ⊢; exact e _ _ h
/-- a new object, frozen -/
theorem Ext.new {p : Addr} {o : HO} (e : Same F H) (h : H p = none) : Ext F H (upd F p o) (upd H p o) :=
  ⟨same_upd (e.free h), same_upd h, same_upd2 e, fun a ob h1 h2 => by rw [upd_ne (ne_of_none h1 h)]; exact h2⟩
/-- a new object, not frozen -/
theorem Ext.own {p : Addr} {o : HO} (e : Same F H) (h : H p = none) : Ext F H F (upd H p o) :=
  ⟨.refl _, same_upd h, e.trans (same_upd h), fun _ _ _ h => h⟩
/-- what is not frozen is frozen -/
theorem same_frz {F H : Hp} {p : Addr} {o : HO} (e : Same F H) (h : H p = some o) : Same (upd F p o) H := fun b x q => by
  by_cases hb : b = p
  · subst hb; rw [upd_same] at q; rw [h]; exact q
  · rw [upd_ne hb] at q; exact e _ _ q

/-! ### environments -/
abbrev En := List (Option D)
inductive Md where | fr | ol | od | sc
  deriving DecidableEq
def mAt (M : List Md) (i : Nat) : Md := M.getD i .fr
def SlOk (K : PySem.W.Frag) (F H0 H : Hp) : Md → V → D → Prop
  | .fr, v, d => Rep K F v d
  | .ol, v, d => ∃ a vs ds, v = .ref a ∧ d = .list ds ∧ F a = none ∧ H0 a = none ∧ H a = some (.lst vs) ∧ Reps K F vs ds
  | .od, v, d => ∃ a kvs ks, v = .ref a ∧ d = .dict ks ∧ F a = none ∧ H0 a = none ∧ H a = some (.dK kvs) ∧ RepK K F kvs ks
  | .sc, v, d => ∃ a vs ds, v = .ref a ∧ d = .list ds ∧ SqL K F a vs ∧ Reps K F vs ds
/-- what a def may be handed: data, or the script -/
def RepM (K : PySem.W.Frag) (F : Hp) : Md → V → D → Prop
  | .sc, v, d => ∃ a vs ds, v = .ref a ∧ d = .list ds ∧ SqL K F a vs ∧ Reps K F vs ds
  | _, v, d => Rep K F v d
def Mow (m : Md) : Bool := match m with | .ol => true | .od => true | _ => false

structure ER (K : PySem.W.Frag) (M : List Md) (F0 H0 F H : Hp) (σ : L2.St) (E : En) : Prop where
  ext : Ext F0 H0 F H
  z : Same F0 H0
  len : σ.length = E.length
  sl : ∀ i d, E[i]? = some (some d) → ∃ v, σ[i]? = some (some v) ∧ SlOk K F H0 H (mAt M i) v d
  ap : ∀ i j a d e, i ≠ j → Mow (mAt M i) = true → Mow (mAt M j) = true → E[i]? = some (some d) → E[j]? = some (some e) →
    σ[i]? = some (some (.ref a)) → σ[j]? = some (some (.ref a)) → False

variable {M M' M1 : List Md} {F0 H0 F1 H1 : Hp} {σ : L2.St} {E E' : En} {m : Md} {v : V} {d : D}
theorem SlOk.grow (h : SlOk K F H0 H m v d) (e : Ext F H F' H') : SlOk K F' H0 H' m v d := by
  cases m with
  | fr => exact Rep.mono e.f h
  | ol =>
    obtain ⟨a, vs, ds, e1, e2, e3, e4, e5, e6⟩ := h
    exact ⟨a, vs, ds, e1, e2, e.n _ _ e5 e3, e4, e.h _ _ e5, e6.mono e.f⟩
  | od =>
    obtain ⟨a, vs, ds, e1, e2, e3, e4, e5, e6⟩ := h
    exact ⟨a, vs, ds, e1, e2, e.n _ _ e5 e3, e4, e.h _ _ e5, e6.mono e.f⟩
  | sc =>
    obtain ⟨a, vs, ds, e1, e2, e3, e4⟩ := h
    exact ⟨a, vs, ds, e1, e2, e.f.seq e3, e4.mono e.f⟩
theorem ER.grow (r : ER K M F0 H0 F H σ E) (e : Ext F H F' H') : ER K M F0 H0 F' H' σ E :=
  ⟨r.ext.trans e, r.z, r.len, fun i d h => let ⟨v, h1, h2⟩ := r.sl i d h; ⟨v, h1, h2.grow e⟩, r.ap⟩
theorem ER.fs (r : ER K M F0 H0 F H σ E) : Same F H := r.ext.s

/-! ### readings -/
abbrev Gx := En → Option D
abbrev Gl' := En → Option (List D)
def RdE (K : PySem.W.Frag) (M : List Md) (t : TE) (g : Gx) : Prop := ∀ (F0 H0 F H : Hp) (σ : L2.St) (E : En) (d : D) (Q : VK), ER K M F0 H0 F H σ E → g E = some d →
  (∀ v F' H', Ext F H F' H' → Rep K F' v d → Q v H') → t σ H Q
/-- a list, its top perhaps not frozen -/
def RdL (K : PySem.W.Frag) (M : List Md) (t : TE) (g : Gx) : Prop := ∀ (F0 H0 F H : Hp) (σ : L2.St) (E : En) (ds : List D) (Q : VK), ER K M F0 H0 F H σ E → g E = some (.list ds) →
  (∀ a vs F' H', Ext F H F' H' → H' a = some (.lst vs) → Reps K F' vs ds → Q (.ref a) H') → t σ H Q
/-- a new list, not frozen -/
def RdF (K : PySem.W.Frag) (M : List Md) (t : TE) (g : Gx) : Prop := ∀ (F0 H0 F H : Hp) (σ : L2.St) (E : En) (d : D) (Q : VK), ER K M F0 H0 F H σ E → g E = some d →
  (∀ a vs ds F' H', d = .list ds → Ext F H F' H' → H a = none → F' a = none → H' a = some (.lst vs) → Reps K F' vs ds → Q (.ref a) H') → t σ H Q
/-- a dict -/
def RdD (K : PySem.W.Frag) (M : List Md) (t : TE) (g : Gx) : Prop := ∀ (F0 H0 F H : Hp) (σ : L2.St) (E : En) (ks : List (D × D)) (Q : VK), ER K M F0 H0 F H σ E → g E = some (.dict ks) →
  (∀ a kvs F' H', Ext F H F' H' → H' a = some (.dK kvs) → RepK K F' kvs ks → Q (.ref a) H') → t σ H Q
/-- a new dict, not frozen -/
def RdH (K : PySem.W.Frag) (M : List Md) (t : TE) (g : Gx) : Prop := ∀ (F0 H0 F H : Hp) (σ : L2.St) (E : En) (d : D) (Q : VK), ER K M F0 H0 F H σ E → g E = some d →
  (∀ a kvs ks F' H', d = .dict ks → Ext F H F' H' → H a = none → F' a = none → H' a = some (.dK kvs) → RepK K F' kvs ks → Q (.ref a) H') → t σ H Q
def RdT (K : PySem.W.Frag) (M : List Md) (t : TT) (g : Gx) : Prop := ∀ (F0 H0 F H : Hp) (σ : L2.St) (E : En) (d : D) (Q : Bool → Hp → Prop), ER K M F0 H0 F H σ E → g E = some d →
  (∀ b F' H', d = .bool b → Ext F H F' H' → Q b H') → (∃ b, d = .bool b) → t σ H Q
def RdA (K : PySem.W.Frag) (M : List Md) (t : TA) (g : Gl') : Prop := ∀ (F0 H0 F H : Hp) (σ : L2.St) (E : En) (ds : List D) (Q : List V → Hp → Prop), ER K M F0 H0 F H σ E → g E = some ds →
  (∀ vs F' H', Ext F H F' H' → Reps K F' vs ds → Q vs H') → t σ H Q

inductive Fl where
  | nx | bk | ct | rt (d : D)
abbrev Sm := En → Option (En × Fl)
def EndsOk (K : PySem.W.Frag) (M' : List Md) (F0 H0 F : Hp) (fl : Fl) (E' : En) (De : Ends) : Prop :=
  match fl with
  | .nx => ∀ F' H' σ', Same F F' → ER K M' F0 H0 F' H' σ' E' → De.nx σ' H'
  | .bk => ∀ F' H' σ', Same F F' → ER K M' F0 H0 F' H' σ' E' → De.bk σ' H'
  | .ct => ∀ F' H' σ', Same F F' → ER K M' F0 H0 F' H' σ' E' → De.ct σ' H'
  | .rt d => ∀ v F' H', Same F F' → Ext F0 H0 F' H' → Rep K F' v d → De.rt v H'
def RdS (K : PySem.W.Frag) (M M' : List Md) (t : TS) (g : Sm) : Prop := ∀ (F0 H0 F H : Hp) (σ : L2.St) (E E' : En) (fl : Fl) (De : Ends), ER K M F0 H0 F H σ E → g E = some (E', fl) →
  EndsOk K M' F0 H0 F fl E' De → t De σ H

/-! ### judgements: the hand layer's and the reading -/
structure PX (X : Cx) (M : List Md) (e : Expr) (t : TE) (g : Gx) : Prop where
  pe : PE X e t
  rd : RdE X.K M t g
structure PLx (X : Cx) (M : List Md) (e : Expr) (t : TE) (g : Gx) : Prop where
  pe : PE X e t
  rd : RdL X.K M t g
structure PFx (X : Cx) (M : List Md) (e : Expr) (t : TE) (g : Gx) : Prop where
  pe : PE X e t
  rd : RdF X.K M t g
structure PDx (X : Cx) (M : List Md) (e : Expr) (t : TE) (g : Gx) : Prop where
  pe : PE X e t
  rd : RdD X.K M t g
structure PHx (X : Cx) (M : List Md) (e : Expr) (t : TE) (g : Gx) : Prop where
  pe : PE X e t
  rd : RdH X.K M t g
structure PTx (X : Cx) (M : List Md) (e : Expr) (t : TT) (g : Gx) : Prop where
  pe : PT X e t
  rd : RdT X.K M t g
structure PWx (X : Cx) (M : List Md) (e : Expr) (t : TT) (g : Gx) : Prop where
  pe : PW X e t
  rd : RdT X.K M t g
structure PAx (X : Cx) (M : List Md) (es : List Expr) (t : TA) (g : Gl') : Prop where
  pe : PA X es t
  rd : RdA X.K M t g
structure PSx (X : Cx) (M M' : List Md) (s : Stmt) (t : TS) (g : Sm) : Prop where
  pe : PS X s t
  rd : RdS X.K M M' t g
structure PSsx (X : Cx) (M M' : List Md) (s : List Stmt) (t : TS) (g : Sm) : Prop where
  pe : PSs X s t
  rd : RdS X.K M M' t g

/-! ### from one reading to another -/
theorem RdE.toL {t : TE} {g : Gx} (h : RdE K M t g) : RdL K M t g := fun F0 H0 F H σ E ds Q r e q => by
  refine h F0 H0 F H σ E _ Q r e fun v F' H' x p => ?_
  cases p with
  | lst s p => exact q _ _ F' H' x (x.s _ _ s) p
theorem RdE.toD {t : TE} {g : Gx} (h : RdE K M t g) : RdD K M t g := fun F0 H0 F H σ E ds Q r e q => by
  refine h F0 H0 F H σ E _ Q r e fun v F' H' x p => ?_
  cases p with
  | dic s p => exact q _ _ F' H' x (x.s _ _ s) p
theorem RdF.toE {t : TE} {g : Gx} (h : RdF K M t g) : RdE K M t g := fun F0 H0 F H σ E d Q r e q => by
  refine h F0 H0 F H σ E d Q r e fun a vs ds F' H' e1 x n f s p => ?_
  subst e1
  have x2 : Ext F H (upd F' a (.lst vs)) H' := ⟨x.f.trans (same_upd f), x.h, same_frz x.s s, fun b o h1 h2 => by rw [upd_ne (ne_of_none h1 n)]; exact x.n b o h1 h2⟩
  exact q _ _ H' x2 (.lst upd_same (p.mono (same_upd f)))
theorem RdF.toL {t : TE} {g : Gx} (h : RdF K M t g) : RdL K M t g := fun F0 H0 F H σ E ds Q r e q =>
  h F0 H0 F H σ E _ Q r e fun a vs ds F' H' e1 x n f s p => by cases e1; exact q a vs F' H' x s p
theorem RdH.toE {t : TE} {g : Gx} (h : RdH K M t g) : RdE K M t g := fun F0 H0 F H σ E d Q r e q => by
  refine h F0 H0 F H σ E d Q r e fun a vs ds F' H' e1 x n f s p => ?_
  subst e1
  have x2 : Ext F H (upd F' a (.dK vs)) H' := ⟨x.f.trans (same_upd f), x.h, same_frz x.s s, fun b o h1 h2 => by rw [upd_ne (ne_of_none h1 n)]; exact x.n b o h1 h2⟩
  exact q _ _ H' x2 (.dic upd_same (p.mono (same_upd f)))
/-- only lists, only dicts -/
def oL (d : D) : Option D := match d with | .list xs => some (.list xs) | _ => none
def oD (d : D) : Option D := match d with | .dict xs => some (.dict xs) | _ => none
/-- no objects in it -/
def oF (d : D) : Option D := match d with | .none => some .none | .bool b => some (.bool b) | .int i => some (.int i) | .str x => some (.str x) | _ => none
theorem oL_some {d e : D} (h : oL d = some e) : ∃ xs, d = .list xs ∧ e = .list xs := by
  cases d <;> simp [oL] at h
  exact ⟨_, rfl, h.symm⟩
theorem oD_some {d e : D} (h : oD d = some e) : ∃ xs, d = .dict xs ∧ e = .dict xs := by
  cases d <;> simp [oD] at h
  exact ⟨_, rfl, h.symm⟩
def g1 (f : D → Option D) (a : Gx) : Gx := fun E => (a E).bind f
def g2 (f : D → D → Option D) (a b : Gx) : Gx := fun E => (a E).bind fun x => (b E).bind fun y => f x y
theorem g1_some {f : D → Option D} {a : Gx} {E : En} {d : D} (h : g1 f a E = some d) : ∃ x, a E = some x ∧ f x = some d := Option.bind_eq_some_iff.mp h
theorem g2_some {f : D → D → Option D} {a b : Gx} {E : En} {d : D} (h : g2 f a b E = some d) : ∃ x y, a E = some x ∧ b E = some y ∧ f x y = some d := by
  obtain ⟨x, h1, h2⟩ := Option.bind_eq_some_iff.mp h
  obtain ⟨y, h3, h4⟩ := Option.bind_eq_some_iff.mp h2
  exact ⟨x, y, h1, h3, h4⟩

/-! ### two in a row -/
theorem RdE.two {ta tb : TE} {ga gb : Gx} (ha : RdE K M ta ga) (hb : RdE K M tb gb) {x y : D} (r : ER K M F0 H0 F H σ E) (ea : ga E = some x) (eb : gb E = some y) {R : V → V → Hp → Prop}
    (q : ∀ v w F' H', Ext F H F' H' → Rep K F' v x → Rep K F' w y → R v w H') : ta σ H fun v H1 => tb σ H1 fun w H2 => R v w H2 :=
  ha _ _ _ _ _ _ _ _ r ea fun v F1 H1 x1 p1 => hb _ _ _ _ _ _ _ _ (r.grow x1) eb fun w F2 H2 x2 p2 => q v w F2 H2 (x1.trans x2) (p1.mono x2.f) p2
/-- an operator by values -/
theorem rd_op {r : R2} {f : D → D → Option D} {ta tb : TE} {ga gb : Gx} (ha : RdE K M ta ga) (hb : RdE K M tb gb)
    (hr : ∀ (F H : Hp) (v w : V) (x y d : D) (Q : VK), Same F H → Rep K F v x → Rep K F w y → f x y = some d → (∀ u F' H', Ext F H F' H' → Rep K F' u d → Q u H') → r v w H Q) :
    RdE K M (tOp r ta tb) (g2 f ga gb) := fun F0 H0 F H σ E d Q R e q => by
  obtain ⟨x, y, e1, e2, e3⟩ := g2_some e
  exact ha.two hb R e1 e2 fun v w F' H' x1 p1 p2 => hr F' H' v w x y d Q x1.s p1 p2 e3 fun u F2 H2 x2 p => q u F2 H2 (x1.trans x2) p
end Pu

namespace Pu
open PySem PySem.Spec PyProof.Rows L2
variable {K : PySem.W.Frag} {H H' F F' : Hp} {M M' M1 : List Md} {F0 H0 F1 H1 : Hp} {σ : L2.St} {E E' : En} {m : Md} {v : V}
variable {X : Cx} {a b e : Expr} {es : List Expr} {ta tb t : TE} {ga gb g : Gx} {pos : Pos}

/-! ### names, constants -/
def gV (i : Nat) : Gx := fun E => E[i]?.join
def gC (d : D) : Gx := fun _ => some d
theorem gV_some {i : Nat} {d : D} (h : gV i E = some d) : E[i]? = some (some d) := by
  unfold gV at h
  cases e : E[i]? with
  | none => rw [e] at h; cases h
  | some o => rw [e] at h; cases o with
    | none => cases h
    | some x => cases h; rfl
theorem rd_v {i : Nat} (hm : mAt M i = .fr) : RdE K M (tVar i) (gV i) := fun F0 H0 F H σ E d Q r e q => by
  obtain ⟨v, h1, h2⟩ := r.sl i d (gV_some e)
  rw [hm] at h2
  exact ⟨v, h1, q v F H (.refl r.fs) h2⟩
theorem rdl_v {i : Nat} (hm : mAt M i = .ol) : RdL K M (tVar i) (gV i) := fun F0 H0 F H σ E ds Q r e q => by
  obtain ⟨v, h1, h2⟩ := r.sl i _ (gV_some e)
  rw [hm] at h2
  obtain ⟨a, vs, ds', rfl, e2, _, _, e5, e6⟩ := h2
  cases e2
  exact ⟨_, h1, q a vs F H (.refl r.fs) e5 e6⟩
theorem rdd_v {i : Nat} (hm : mAt M i = .od) : RdD K M (tVar i) (gV i) := fun F0 H0 F H σ E ds Q r e q => by
  obtain ⟨v, h1, h2⟩ := r.sl i _ (gV_some e)
  rw [hm] at h2
  obtain ⟨a, vs, ds', rfl, e2, _, _, e5, e6⟩ := h2
  cases e2
  exact ⟨_, h1, q a vs F H (.refl r.fs) e5 e6⟩
theorem px_v (i : Nat) {x : Str} (hm : mAt M i = .fr := by rfl) (hN : X.N[i]? = some x := by rfl) (hv : Vis X.env.scope x := by first | exact Or.inl rfl | exact Or.inr (Or.inl rfl) | exact Or.inr (Or.inr rfl)) (hd : (x == ("__debug__" : Str)) = false := by decide)
    (hcd : (x == ("__classdict__" : Str)) = false := by decide) : PX X M (.Name x pos) (tVar i) (gV i) := ⟨pe_var hN hv hd hcd, rd_v hm⟩
theorem pl_v (i : Nat) {x : Str} (hm : mAt M i = .ol := by rfl) (hN : X.N[i]? = some x := by rfl) (hv : Vis X.env.scope x := by first | exact Or.inl rfl | exact Or.inr (Or.inl rfl) | exact Or.inr (Or.inr rfl)) (hd : (x == ("__debug__" : Str)) = false := by decide)
    (hcd : (x == ("__classdict__" : Str)) = false := by decide) : PLx X M (.Name x pos) (tVar i) (gV i) := ⟨pe_var hN hv hd hcd, rdl_v hm⟩
theorem pd_v (i : Nat) {x : Str} (hm : mAt M i = .od := by rfl) (hN : X.N[i]? = some x := by rfl) (hv : Vis X.env.scope x := by first | exact Or.inl rfl | exact Or.inr (Or.inl rfl) | exact Or.inr (Or.inr rfl)) (hd : (x == ("__debug__" : Str)) = false := by decide)
    (hcd : (x == ("__classdict__" : Str)) = false := by decide) : PDx X M (.Name x pos) (tVar i) (gV i) := ⟨pe_var hN hv hd hcd, rdd_v hm⟩
theorem PX.l (h : PX X M e t g) : PLx X M e t g := ⟨h.pe, h.rd.toL⟩
theorem PX.d (h : PX X M e t g) : PDx X M e t g := ⟨h.pe, h.rd.toD⟩
theorem PFx.x (h : PFx X M e t g) : PX X M e t g := ⟨h.pe, h.rd.toE⟩
theorem PFx.l (h : PFx X M e t g) : PLx X M e t g := ⟨h.pe, h.rd.toL⟩
theorem PHx.x (h : PHx X M e t g) : PX X M e t g := ⟨h.pe, h.rd.toE⟩
theorem rd_c {v : V} {d : D} (h : ∀ H, Rep K H v d) : RdE K M (tC v) (gC d) := fun F0 H0 F H σ E d' Q r e q => by
  cases e
  exact q v F H (.refl r.fs) (h F)
theorem px_int {i : Int} {j : Nat} : PX X M (.Constant (.int i) j pos) (tC (.int i)) (gC (.int i)) := ⟨pe_int, rd_c fun _ => .int i⟩
theorem px_bl {i : Bool} {j : Nat} : PX X M (.Constant (.bool i) j pos) (tC (.bl i)) (gC (.bool i)) := ⟨pe_bl, rd_c fun _ => .bl i⟩
theorem px_non {j : Nat} : PX X M (.Constant .none j pos) (tC .non) (gC .none) := ⟨pe_non, rd_c fun _ => .non⟩
theorem px_str {i : Str} {j : Nat} : PX X M (.Constant (.str i) j pos) (tC (.str i)) (gC (.str i)) := ⟨pe_str, rd_c fun _ => .str i⟩

/-! ### operators by values -/
def RdOp (K : PySem.W.Frag) (r : R2) (f : D → D → Option D) : Prop := ∀ (F H : Hp) (v w : V) (x y d : D) (Q : VK), Same F H → Rep K F v x → Rep K F w y → f x y = some d →
  (∀ u F' H', Ext F H F' H' → Rep K F' u d → Q u H') → r v w H Q
theorem px_op {op : Operator} {r : R2} {f : D → D → Option D} (ho : OpR X (binaryOp op) r) (hr : RdOp X.K r f) (ha : PX X M a ta ga) (hb : PX X M b tb gb) : PX X M (.BinOp a op b pos) (tOp r ta tb) (g2 f ga gb) :=
  ⟨pe_op ho ha.pe hb.pe, rd_op ha.rd hb.rd hr⟩
theorem px_cmp {op : CmpOp} {r : R2} {f : D → D → Option D} (ho : OpR X (compareOp op) r) (hr : RdOp X.K r f) (ha : PX X M a ta ga) (hb : PX X M b tb gb) (hm : behindInMarks op b = false) :
    PX X M (.Compare a [op] [b] pos) (tOp r ta tb) (g2 f ga gb) := ⟨pe_cmpR ho ha.pe hb.pe hm, rd_op ha.rd hb.rd hr⟩
theorem rd_test {g : Gx} (h : RdE K M t g) : RdT K M (tTest t) g := fun F0 H0 F H σ E d Q r e q ex => by
  obtain ⟨b, rfl⟩ := ex
  refine h F0 H0 F H σ E _ _ r e fun v F' H' x p => ?_
  cases p
  exact ⟨b, rfl, q b F' H' rfl x⟩
theorem rd_tb {g : Gx} (h : RdE K M t g) : RdT K M (tB t) g := fun F0 H0 F H σ E d Q r e q ex => by
  obtain ⟨b, rfl⟩ := ex
  refine h F0 H0 F H σ E _ _ r e fun v F' H' x p => ?_
  cases p
  exact ⟨b, rfl, q b F' H' rfl x⟩
theorem pt_cm {op : CmpOp} {r : R2} {f : D → D → Option D} (ho : OpR X (compareOp op) r) (hr : RdOp X.K r f) (ha : PX X M a ta ga) (hb : PX X M b tb gb) (hm : behindInMarks op b = false) :
    PTx X M (.Compare a [op] [b] pos) (tTest (tOp r ta tb)) (g2 f ga gb) := ⟨pt_cmpR ho ha.pe hb.pe hm, rd_test (rd_op ha.rd hb.rd hr)⟩
/-- a call, a name, an item: a bool, as a test -/
theorem pt_x (h : PX X M e t g) (he : ∀ whole, isTrue e X.env whole = (do let v ← whole; standAt e.pos; holding [v] (truthy v)) := by intro _; rfl) : PTx X M e (tB t) g := ⟨pt_val h.pe he, rd_tb h.rd⟩

def gd {α : Type} (n : Nat) (x : α) : Option α := if n ≤ 16000000 then some x else none
theorem gd_some {α : Type} {n : Nat} {x y : α} (h : gd n x = some y) : n ≤ 16000000 ∧ x = y := by
  unfold gd at h
  split at h
  · cases h; exact ⟨by assumption, rfl⟩
  · cases h
theorem gd_pos {α : Type} {n : Nat} {x : α} (h : n ≤ 16000000) : gd n x = some x := if_pos h
theorem gd_line {n : Nat} (h : n ≤ 16000000) : n < sizeLine := by rw [sizeLine_eq]; omega

def dAdd : D → D → Option D
  | .int i, .int j => some (.int (i + j))
  | .list xs, .list ys => gd (xs.length + ys.length) (.list (xs ++ ys))
  | .tuple (x :: xs), .tuple (y :: ys) => gd (xs.length + ys.length + 2) (.tuple ((x :: xs) ++ (y :: ys)))
  | _, _ => none
def dSub : D → D → Option D
  | .int i, .int j => some (.int (i - j))
  | _, _ => none
def smallI (i : Int) : Bool := decide (-(2 ^ 64) < i) && decide (i < 2 ^ 64)
def dMul : D → D → Option D
  | .int i, .int j => if smallI i || smallI j then some (.int (i * j)) else none
  | .list xs, .int k => if 0 ≤ k ∧ k < 16000000 ∧ xs.length * k.toNat ≤ 16000000 then some (.list (List.replicate k.toNat xs).flatten) else none
  | _, _ => none
def dDiv : D → D → Option D
  | .int i, .int j => if 0 < j ∧ j < 1073741824 then some (.int (i / j)) else none
  | _, _ => none
def dMod : D → D → Option D
  | .int i, .int j => if 0 < j then some (.int (i % j)) else none
  | _, _ => none
def dPow : D → D → Option D
  | .int i, .int j => if 0 ≤ j ∧ j ≤ 1000000 ∧ i.natAbs < 2 ^ 64 then some (.int (i ^ j.toNat)) else none
  | _, _ => none
def dShl : D → D → Option D
  | .int i, .int j => if 0 ≤ j ∧ j ≤ 1000000 ∧ i.natAbs < 2 ^ 64 then some (.int (i * 2 ^ j.toNat)) else none
  | _, _ => none
def dShr : D → D → Option D
  | .int i, .int j => if 0 ≤ j then some (.int (i / 2 ^ j.toNat)) else none
  | _, _ => none
def dBand : D → D → Option D
  | .int i, .int j => some (.int (Builtin.bitAnd i j))
  | _, _ => none

theorem rop_I0 {p : Int → Int → Int} {f : D → D → Option D} (hf : ∀ i j, f (.int i) (.int j) = some (.int (p i j))) (hn : ∀ x y d, f x y = some d → (∃ i, x = .int i) ∧ ∃ j, y = .int j) : RdOp K (rI0 fun i j => .int (p i j)) f := by
  intro F H v w x y d Q s p1 p2 e q
  obtain ⟨⟨i, rfl⟩, ⟨j, rfl⟩⟩ := hn _ _ _ e
  rw [hf] at e
  cases e
  cases p1
  cases p2
  exact ⟨i, j, rfl, rfl, q _ F H (.refl s) (.int _)⟩
theorem rop_B0 {p : Int → Int → Bool} {f : D → D → Option D} (hf : ∀ i j, f (.int i) (.int j) = some (.bool (p i j))) (hn : ∀ x y d, f x y = some d → (∃ i, x = .int i) ∧ ∃ j, y = .int j) : RdOp K (rI0 fun i j => .bl (p i j)) f := by
  intro F H v w x y d Q s p1 p2 e q
  obtain ⟨⟨i, rfl⟩, ⟨j, rfl⟩⟩ := hn _ _ _ e
  rw [hf] at e
  cases e
  cases p1
  cases p2
  exact ⟨i, j, rfl, rfl, q _ F H (.refl s) (.bl _)⟩
theorem rop_IC {C : Int → Int → Prop} {p : Int → Int → Int} {f : D → D → Option D} (hf : ∀ i j d, f (.int i) (.int j) = some d → C i j ∧ d = .int (p i j)) (hn : ∀ x y d, f x y = some d → (∃ i, x = .int i) ∧ ∃ j, y = .int j) : RdOp K (rI C fun i j => .int (p i j)) f := by
  intro F H v w x y d Q s p1 p2 e q
  obtain ⟨⟨i, rfl⟩, ⟨j, rfl⟩⟩ := hn _ _ _ e
  obtain ⟨c, rfl⟩ := hf _ _ _ e
  cases p1
  cases p2
  exact ⟨i, j, rfl, rfl, c, q _ F H (.refl s) (.int _)⟩
theorem rop_sub : RdOp K (rI0 fun i j => .int (i - j)) dSub := rop_I0 (fun _ _ => rfl) fun x y d h => by
  cases x <;> cases y <;> simp [dSub] at h ⊢
theorem rop_div : RdOp K (rI CDiv fun i j => .int (i / j)) dDiv := rop_IC (fun i j d h => by
  simp only [dDiv] at h; split at h
  · cases h; exact ⟨by assumption, rfl⟩
  · cases h) fun x y d h => by cases x <;> cases y <;> simp [dDiv] at h ⊢
theorem rop_mod : RdOp K (rI (fun _ j => 0 < j) fun i j => .int (i % j)) dMod := rop_IC (fun i j d h => by
  simp only [dMod] at h; split at h
  · cases h; exact ⟨by assumption, rfl⟩
  · cases h) fun x y d h => by cases x <;> cases y <;> simp [dMod] at h ⊢
theorem rop_pow : RdOp K (rI CPow fun i j => .int (i ^ j.toNat)) dPow := rop_IC (fun i j d h => by
  simp only [dPow] at h; split at h
  · cases h; exact ⟨by assumption, rfl⟩
  · cases h) fun x y d h => by cases x <;> cases y <;> simp [dPow] at h ⊢
theorem rop_shl : RdOp K (rI CPow fun i j => .int (i * 2 ^ j.toNat)) dShl := rop_IC (fun i j d h => by
  simp only [dShl] at h; split at h
  · cases h; exact ⟨by assumption, rfl⟩
  · cases h) fun x y d h => by cases x <;> cases y <;> simp [dShl] at h ⊢
theorem rop_shr : RdOp K (rI (fun _ j => 0 ≤ j) fun i j => .int (i / 2 ^ j.toNat)) dShr := rop_IC (fun i j d h => by
  simp only [dShr] at h; split at h
  · cases h; exact ⟨by assumption, rfl⟩
  · cases h) fun x y d h => by cases x <;> cases y <;> simp [dShr] at h ⊢
theorem rop_band : RdOp K (rI0 fun i j => .int (Builtin.bitAnd i j)) dBand := rop_I0 (fun _ _ => rfl) fun x y d h => by
  cases x <;> cases y <;> simp [dBand] at h ⊢
/-- + -/
def rAdd (K : PySem.W.Frag) : R2 := fun x y H Q => rI0 (fun i j => .int (i + j)) x y H Q ∨ (rCat x y H Q ∨ rCatT K x y H Q)
theorem op_addA : OpR X (binaryOp .Add) (rAdd X.K) := op_add.or (op_cat.or op_catT)
theorem rop_add : RdOp K (rAdd K) dAdd := by
  intro F H v w x y d Q s p1 p2 e q
  cases p1 with
  | int i =>
    cases p2 with
    | int j => cases e; exact .inl ⟨i, j, rfl, rfl, q _ F H (.refl s) (.int _)⟩
    | _ => cases e
  | lst s1 r1 =>
    cases p2 with
    | lst s2 r2 =>
      obtain ⟨hz, rfl⟩ := gd_some e
      rw [← r1.length, ← r2.length] at hz
      exact .inr (.inl ⟨_, _, _, _, rfl, rfl, s _ _ s1, s _ _ s2, Nat.le_of_lt (gd_line hz), fun p hp => q _ _ _ (.new s hp) (.lst upd_same ((r1.app r2).mono (same_upd (s.free hp))))⟩)
    | _ => cases e
  | tup s1 r1 =>
    cases p2 with
    | tup s2 r2 =>
      cases r1 with
      | nil => cases e
      | cons a1 r1 =>
        cases r2 with
        | nil => cases e
        | cons a2 r2 =>
          obtain ⟨hz, rfl⟩ := gd_some e
          rw [← r1.length, ← r2.length] at hz
          have hs := sizeLine_eq
          refine .inr (.inr ⟨_, _, _, _, rfl, rfl, same_T s s1, same_T s s2, List.cons_ne_nil _ _, by simp only [List.length_cons]; omega, ?_⟩)
          refine ⟨fun z => (nomatch z), fun _ p hp => ?_⟩
          exact q _ _ _ (.new s hp) (.tup (.inl (.inl upd_same)) (((Reps.cons a1 r1).app (.cons a2 r2)).mono (same_upd (s.free hp))))
    | _ => cases r1 <;> cases e
  | _ => cases p2 <;> cases e
/-- * -/
def rMul : R2 := fun x y H Q => rI CMul (fun i j => .int (i * j)) x y H Q ∨ rRep x y H Q
theorem op_mulA : OpR X (binaryOp .Mult) rMul := op_mul.or op_rep
theorem rop_mul : RdOp K rMul dMul := by
  intro F H v w x y d Q s p1 p2 e q
  cases p1 with
  | int i =>
    cases p2 with
    | int j =>
      simp only [dMul] at e
      split at e
      · rename_i hc
        cases e
        refine .inl ⟨i, j, rfl, rfl, ?_, q _ F H (.refl s) (.int _)⟩
        unfold CMul
        simp only [smallI, Bool.or_eq_true, Bool.and_eq_true, decide_eq_true_eq] at hc
        exact hc
      · cases e
    | _ => cases e
  | lst s1 r1 =>
    cases p2 with
    | int k =>
      simp only [dMul] at e
      split at e
      · rename_i hc
        cases e
        have hl := sizeLine_eq
        rw [← r1.length] at hc
        exact .inr ⟨_, k, _, rfl, rfl, s _ _ s1, by omega, by omega, by omega, fun p hp => q _ _ _ (.new s hp) (.lst upd_same ((r1.reps k.toNat).mono (same_upd (s.free hp))))⟩
      · cases e
    | _ => cases e
  | _ => cases p2 <;> cases e
theorem px_add (ha : PX X M a ta ga) (hb : PX X M b tb gb) : PX X M (.BinOp a .Add b pos) (tOp (rAdd X.K) ta tb) (g2 dAdd ga gb) := px_op op_addA rop_add ha hb
theorem px_sub (ha : PX X M a ta ga) (hb : PX X M b tb gb) : PX X M (.BinOp a .Sub b pos) (tOp (rI0 fun i j => .int (i - j)) ta tb) (g2 dSub ga gb) := px_op op_sub rop_sub ha hb
theorem px_mul (ha : PX X M a ta ga) (hb : PX X M b tb gb) : PX X M (.BinOp a .Mult b pos) (tOp rMul ta tb) (g2 dMul ga gb) := px_op op_mulA rop_mul ha hb
theorem px_div (ha : PX X M a ta ga) (hb : PX X M b tb gb) : PX X M (.BinOp a .FloorDiv b pos) (tOp (rI CDiv fun i j => .int (i / j)) ta tb) (g2 dDiv ga gb) := px_op op_fdiv rop_div ha hb
theorem px_mod (ha : PX X M a ta ga) (hb : PX X M b tb gb) : PX X M (.BinOp a .Mod b pos) (tOp (rI (fun _ j => 0 < j) fun i j => .int (i % j)) ta tb) (g2 dMod ga gb) := px_op op_mod rop_mod ha hb
theorem px_pow (ha : PX X M a ta ga) (hb : PX X M b tb gb) : PX X M (.BinOp a .Pow b pos) (tOp (rI CPow fun i j => .int (i ^ j.toNat)) ta tb) (g2 dPow ga gb) := px_op op_pow rop_pow ha hb
theorem px_shl (ha : PX X M a ta ga) (hb : PX X M b tb gb) : PX X M (.BinOp a .LShift b pos) (tOp (rI CPow fun i j => .int (i * 2 ^ j.toNat)) ta tb) (g2 dShl ga gb) := px_op op_shl rop_shl ha hb
theorem px_shr (ha : PX X M a ta ga) (hb : PX X M b tb gb) : PX X M (.BinOp a .RShift b pos) (tOp (rI (fun _ j => 0 ≤ j) fun i j => .int (i / 2 ^ j.toNat)) ta tb) (g2 dShr ga gb) := px_op op_shr rop_shr ha hb
theorem px_band (ha : PX X M a ta ga) (hb : PX X M b tb gb) : PX X M (.BinOp a .BitAnd b pos) (tOp (rI0 fun i j => .int (Builtin.bitAnd i j)) ta tb) (g2 dBand ga gb) := px_op op_and rop_band ha hb
/-- list + list, the tops perhaps not frozen: a new list -/
def dCat : D → D → Option D
  | .list xs, .list ys => gd (xs.length + ys.length) (.list (xs ++ ys))
  | _, _ => none
theorem rdf_add (ha : RdL K M ta ga) (hb : RdL K M tb gb) : RdF K M (tOp (rAdd K) ta tb) (g2 dCat ga gb) := fun F0 H0 F H σ E d Q r e q => by
  obtain ⟨x, y, e1, e2, e3⟩ := g2_some e
  cases x <;> cases y <;> try (cases e3; done)
  obtain ⟨hz, rfl⟩ := gd_some e3
  refine ha _ _ _ _ _ _ _ _ r e1 fun a vs F1 H1 x1 s1 p1 => hb _ _ _ _ _ _ _ _ (r.grow x1) e2 fun b ws F2 H2 x2 s2 p2 => ?_
  rw [← p1.length, ← p2.length] at hz
  exact .inr (.inl ⟨_, _, _, _, rfl, rfl, x2.h _ _ s1, s2, Nat.le_of_lt (gd_line hz), fun p hp => q p _ _ _ _ rfl ((x1.trans x2).trans (.own x2.s hp)) ((x1.trans x2).h.free hp) (x2.s.free hp) upd_same ((p1.mono x2.f).app p2)⟩)
theorem pf_add (ha : PLx X M a ta ga) (hb : PLx X M b tb gb) : PFx X M (.BinOp a .Add b pos) (tOp (rAdd X.K) ta tb) (g2 dCat ga gb) := ⟨pe_op op_addA ha.pe hb.pe, rdf_add ha.rd hb.rd⟩
/-- -i -/
def dNeg : D → Option D
  | .int i => some (.int (-i))
  | _ => none
theorem px_neg (ha : PX X M a ta ga) : PX X M (.UnaryOp .USub a pos) (tUn (rU fun i => .int (-i)) ta) (g1 dNeg ga) := ⟨pe_un un_neg ha.pe, fun F0 H0 F H σ E d Q r e q => by
  obtain ⟨x, e1, e2⟩ := g1_some e
  refine ha.rd _ _ _ _ _ _ _ _ r e1 fun v F1 H1 x1 p => ?_
  cases p <;> cases e2
  exact ⟨_, rfl, q _ _ _ x1 (.int _)⟩⟩
/-- [x] * n: a new list -/
def dRep : D → D → Option D
  | .list xs, .int k => if 0 ≤ k ∧ k < 16000000 ∧ xs.length * k.toNat ≤ 16000000 then some (.list (List.replicate k.toNat xs).flatten) else none
  | _, _ => none
theorem rdf_mul (ha : RdL K M ta ga) (hb : RdE K M tb gb) : RdF K M (tOp rMul ta tb) (g2 dRep ga gb) := fun F0 H0 F H σ E d Q r e q => by
  obtain ⟨x, y, e1, e2, e3⟩ := g2_some e
  cases x <;> cases y <;> try (cases e3; done)
  rename_i xs k
  simp only [dRep] at e3
  split at e3
  · rename_i hc
    cases e3
    refine ha _ _ _ _ _ _ _ _ r e1 fun a vs F1 H1 x1 s1 p1 => hb _ _ _ _ _ _ _ _ (r.grow x1) e2 fun b F2 H2 x2 p2 => ?_
    cases p2
    have hl := sizeLine_eq
    rw [← p1.length] at hc
    exact .inr ⟨_, k, _, rfl, rfl, x2.h _ _ s1, by omega, by omega, by omega, fun p hp => q p _ _ _ _ rfl ((x1.trans x2).trans (.own x2.s hp)) ((x1.trans x2).h.free hp) (x2.s.free hp) upd_same ((p1.mono x2.f).reps k.toNat)⟩
  · cases e3
theorem pf_mul (ha : PLx X M a ta ga) (hb : PX X M b tb gb) : PFx X M (.BinOp a .Mult b pos) (tOp rMul ta tb) (g2 dRep ga gb) := ⟨pe_op op_mulA ha.pe hb.pe, rdf_mul ha.rd hb.rd⟩

/-! ### comparisons -/
def dLt : D → D → Option D
  | .int i, .int j => some (.bool (decide (i < j)))
  | _, _ => none
def dLe : D → D → Option D
  | .int i, .int j => some (.bool (decide (i ≤ j)))
  | _, _ => none
def dGt : D → D → Option D
  | .int i, .int j => some (.bool (decide (j < i)))
  | _, _ => none
def dGe : D → D → Option D
  | .int i, .int j => some (.bool (decide (j ≤ i)))
  | _, _ => none
theorem rop_lt : RdOp K (rI0 fun i j => .bl (decide (i < j))) dLt := rop_B0 (fun _ _ => rfl) fun x y d h => by cases x <;> cases y <;> simp [dLt] at h ⊢
theorem rop_le : RdOp K (rI0 fun i j => .bl (decide (i ≤ j))) dLe := rop_B0 (fun _ _ => rfl) fun x y d h => by cases x <;> cases y <;> simp [dLe] at h ⊢
theorem rop_gt : RdOp K (rI0 fun i j => .bl (decide (j < i))) dGt := rop_B0 (fun _ _ => rfl) fun x y d h => by cases x <;> cases y <;> simp [dGt] at h ⊢
theorem rop_ge : RdOp K (rI0 fun i j => .bl (decide (j ≤ i))) dGe := rop_B0 (fun _ _ => rfl) fun x y d h => by cases x <;> cases y <;> simp [dGe] at h ⊢
/-! ==, != of data without dicts -/
mutual
def noD : D → Bool
  | .list xs => noDs xs
  | .tuple xs => noDs xs
  | .dict _ => false
  | _ => true
def noDs : List D → Bool
  | [] => true
  | x :: xs => noD x && noDs xs
end
mutual
theorem Rep.dp : ∀ {v : V} {d : D}, Rep K H v d → noD d = true → Dp K H v d
  | _, _, .non, _ => .non
  | _, _, .bl b, _ => .bl b
  | _, _, .int i, _ => .int i
  | _, _, .str x, _ => .str x
  | _, _, .lst s r, h => .lst (.inl (.inl s)) (Reps.dp r (by simpa [noD] using h))
  | _, _, .tup s r, h => .tup s (Reps.dp r (by simpa [noD] using h))
  | _, _, .dic _ _, h => by simp [noD] at h
theorem Reps.dp : ∀ {vs : List V} {ds : List D}, Reps K H vs ds → noDs ds = true → DpAll K H vs ds
  | _, _, .nil, _ => .nil
  | _, _, .cons a r, h => .cons (Rep.dp a (by simp [noDs] at h; exact h.1)) (Reps.dp r (by simp [noDs] at h; exact h.2))
end
def okD (d : D) : Bool := noD d && SeqAt.shaped d
def dEq (x y : D) : Option D := if okD x && okD y then some (.bool (PyData.eqv x y)) else none
def dNe (x y : D) : Option D := if okD x && okD y then some (.bool (!PyData.eqv x y)) else none
theorem rop_eq : RdOp K (rEqD K) dEq := by
  intro F H v w x y d Q s p1 p2 e q
  unfold dEq at e
  split at e
  · rename_i hc
    cases e
    simp only [okD, Bool.and_eq_true] at hc
    exact ⟨x, y, (p1.mono s).dp hc.1.1, (p2.mono s).dp hc.2.1, hc.1.2, hc.2.2, q _ F H (.refl s) (.bl _)⟩
  · cases e
theorem rop_ne : RdOp K (rNeD K) dNe := by
  intro F H v w x y d Q s p1 p2 e q
  unfold dNe at e
  split at e
  · rename_i hc
    cases e
    simp only [okD, Bool.and_eq_true] at hc
    exact ⟨x, y, (p1.mono s).dp hc.1.1, (p2.mono s).dp hc.2.1, hc.1.2, hc.2.2, q _ F H (.refl s) (.bl _)⟩
  · cases e
/-- x in a list -/
def dIn : D → D → Option D
  | x, .list ys => if okD x && okD (.list ys) then some (.bool (ys.any fun z => PyData.eqv z x)) else none
  | _, _ => none
def dNotIn : D → D → Option D
  | x, .list ys => if okD x && okD (.list ys) then some (.bool (!ys.any fun z => PyData.eqv z x)) else none
  | _, _ => none
theorem rop_in : RdOp K (rInD K) dIn := by
  intro F H v w x y d Q s p1 p2 e q
  cases y <;> simp only [dIn] at e <;> try cases e
  rename_i ys
  split at e
  · rename_i hc
    cases e
    simp only [okD, Bool.and_eq_true] at hc
    exact ⟨x, ys, (p1.mono s).dp hc.1.1, (p2.mono s).dp hc.2.1, hc.1.2, hc.2.2, q _ F H (.refl s) (.bl _)⟩
  · cases e
theorem rop_notin : RdOp K (rNotInD K) dNotIn := by
  intro F H v w x y d Q s p1 p2 e q
  cases y <;> simp only [dNotIn] at e <;> try cases e
  rename_i ys
  split at e
  · rename_i hc
    cases e
    simp only [okD, Bool.and_eq_true] at hc
    exact ⟨x, ys, (p1.mono s).dp hc.1.1, (p2.mono s).dp hc.2.1, hc.1.2, hc.2.2, q _ F H (.refl s) (.bl _)⟩
  · cases e
/-- a text in a tuple of texts -/
def strsOf : List D → Option (List Str)
  | [] => some []
  | .str x :: r => (strsOf r).map (x :: ·)
  | _ => none
def dInT : D → D → Option D
  | .str x, .tuple ys => (strsOf ys).map fun zs => .bool (zs.any fun z => z == x)
  | _, _ => none
theorem reps_strs : ∀ {vs : List V} {ds : List D} {zs : List Str}, Reps K H vs ds → strsOf ds = some zs → vs = zs.map V.str
  | _, [], zs, r, h => by cases h; cases r; rfl
  | _, d :: ds, zs, r, h => by
    cases r with
    | cons a r =>
      cases d <;> simp only [strsOf] at h <;> try cases h
      obtain ⟨ws, h1, rfl⟩ := Option.map_eq_some_iff.mp h
      cases a
      rw [reps_strs r h1]
      rfl
theorem rop_inT : RdOp K (rIn K false) dInT := by
  intro F H v w x y d Q s p1 p2 e q
  cases p1 with
  | str x =>
    cases p2 with
    | tup s1 r1 =>
      simp only [dInT] at e
      obtain ⟨zs, h1, rfl⟩ := Option.map_eq_some_iff.mp e
      have h2 := reps_strs r1 h1
      subst h2
      refine ⟨_, _, rfl, .inr (same_T s s1), rfl, ?_, ?_⟩
      · simp [List.all_map, flatV, Function.comp_def]
      · rw [if_neg Bool.false_ne_true]
        have : inV (.str x) (zs.map V.str) = zs.any fun z => z == x := by simp [inV, eqV, List.any_map, Function.comp_def]
        rw [this]
        exact q _ F H (.refl s) (.bl _)
    | _ => cases e
  | _ => cases e
/-- is None -/
def dIsN : D → D → Option D
  | x, .none => some (.bool (match x with | .none => true | _ => false))
  | _, _ => none
def dNotN : D → D → Option D
  | x, .none => some (.bool (match x with | .none => false | _ => true))
  | _, _ => none
theorem rop_isN : RdOp K (fun x y H Q => y = .non ∧ Q (.bl (decide (x = .non))) H) dIsN := by
  intro F H v w x y d Q s p1 p2 e q
  cases p2 <;> simp only [dIsN] at e <;> try cases e
  refine ⟨rfl, ?_⟩
  cases p1 <;> exact q _ F H (.refl s) (.bl _)
theorem rop_notN : RdOp K (fun x y H Q => y = .non ∧ Q (.bl (!decide (x = .non))) H) dNotN := by
  intro F H v w x y d Q s p1 p2 e q
  cases p2 <;> simp only [dNotN] at e <;> try cases e
  refine ⟨rfl, ?_⟩
  cases p1 <;> exact q _ F H (.refl s) (.bl _)
end Pu

namespace Pu
open PySem PySem.Spec PyProof.Rows L2
variable {K : PySem.W.Frag} {H H' F F' : Hp} {M M' M1 : List Md} {F0 H0 F1 H1 : Hp} {σ : L2.St} {E E' : En} {m : Md} {v : V}
variable {X : Cx} {a b c e : Expr} {es : List Expr} {ta tb t : TE} {tc tT : TT} {ga gb gc g : Gx} {pos : Pos}

/-! ### items -/
theorem Reps.atD {vs : List V} {ds : List D} {i : Int} {d : D} (r : Reps K H vs ds) (h : atI ds i = some d) : ∃ v, atI vs i = some v ∧ Rep K H v d := by
  unfold atI at h ⊢
  obtain ⟨j, h1, h2⟩ := Option.bind_eq_some_iff.mp h
  obtain ⟨v, h3, h4⟩ := r.getD h2
  exact ⟨v, by rw [r.length, h1]; exact h3, h4⟩
def dIx : D → D → Option D
  | .list xs, .int i => atI xs i
  | .tuple xs, .int i => atI xs i
  | _, _ => none
def dIxL : D → D → Option D
  | .list xs, .int i => atI xs i
  | _, _ => none
theorem rop_ix : RdOp K (rIx K) dIx := by
  intro F H v w x y d Q s p1 p2 e q
  cases p1 with
  | lst s1 r1 =>
    cases p2 with
    | int i =>
      obtain ⟨u, h1, h2⟩ := r1.atD e
      exact .inl ⟨_, _, i, u, rfl, rfl, .inl (.inl (s _ _ s1)), h1, q _ _ _ (.refl s) h2⟩
    | _ => cases e
  | tup s1 r1 =>
    cases p2 with
    | int i =>
      obtain ⟨u, h1, h2⟩ := r1.atD e
      exact .inr (.inl ⟨_, _, i, u, rfl, rfl, same_T s s1, h1, q _ _ _ (.refl s) h2⟩)
    | _ => cases e
  | _ => cases p2 <;> cases e
theorem px_ix (ha : PX X M a ta ga) (hb : PX X M b tb gb) (hs : PlainIx b := by exact fun _ _ => rfl) : PX X M (.Subscript a b pos) (tOp (rIx X.K) ta tb) (g2 dIx ga gb) := ⟨pe_ix ix_seq ha.pe hb.pe hs, rd_op ha.rd hb.rd rop_ix⟩
theorem pl_ix (ha : PLx X M a ta ga) (hb : PX X M b tb gb) (hs : PlainIx b := by exact fun _ _ => rfl) : PX X M (.Subscript a b pos) (tOp (rIx X.K) ta tb) (g2 dIxL ga gb) := ⟨pe_ix ix_seq ha.pe hb.pe hs, fun F0 H0 F H σ E d Q r e q => by
  obtain ⟨x, y, e1, e2, e3⟩ := g2_some e
  cases x <;> cases y <;> try (cases e3; done)
  refine ha.rd _ _ _ _ _ _ _ _ r e1 fun a vs F1 H1 x1 s1 p1 => hb.rd _ _ _ _ _ _ _ _ (r.grow x1) e2 fun w F2 H2 x2 p2 => ?_
  cases p2
  obtain ⟨u, h1, h2⟩ := p1.atD e3
  exact .inl ⟨_, _, _, u, rfl, rfl, .inl (.inl (x2.h _ _ s1)), h1, q _ _ _ (x1.trans x2) (h2.mono x2.f)⟩⟩

/-! ### dicts -/
def keyOf : D → Option Key
  | .int i => some (.inl i)
  | .str x => some (.inr x)
  | _ => none
def keyEq : D → Key → Bool
  | .int i, .inl j => decide (i = j)
  | .str x, .inr y => decide (x = y)
  | _, _ => false
def lookK (ks : List (D × D)) (k : Key) : Option D := (ks.find? fun p => keyEq p.1 k).map (·.2)
theorem keyEq_keyD (k j : Key) : keyEq (keyD k) j = decide (k = j) := by
  cases k <;> cases j <;> simp [keyD, keyEq]
theorem RepK.look : ∀ {kvs : List (Key × V)} {ks : List (D × D)} (k : Key), RepK K H kvs ks → (∃ v d, valV kvs k = some v ∧ lookK ks k = some d ∧ Rep K H v d) ∨ (valV kvs k = none ∧ lookK ks k = none)
  | _, _, k, .nil => .inr ⟨rfl, rfl⟩
  | _, _, k, .cons (k := j) (v := v) (d := d) p r => by
    by_cases h : j = k
    · exact .inl ⟨v, d, valV_pos h, by simp [lookK, List.find?_cons, keyEq_keyD, h], p⟩
    · have h2 : ∀ s : List (D × D), lookK ((keyD j, d) :: s) k = lookK s k := fun s => by simp [lookK, List.find?_cons, keyEq_keyD, h]
      rcases RepK.look k r with ⟨w, z, e1, e2, p2⟩ | ⟨e1, e2⟩
      · exact .inl ⟨w, z, by rw [valV_neg h]; exact e1, by rw [h2]; exact e2, p2⟩
      · exact .inr ⟨by rw [valV_neg h]; exact e1, by rw [h2]; exact e2⟩
theorem keyOf_rep {v : V} {d : D} {k : Key} (p : Rep K H v d) (h : keyOf d = some k) : v = kV k := by
  cases p <;> simp [keyOf] at h <;> subst h <;> rfl
def dDIx : D → D → Option D
  | .dict ks, k => (keyOf k).bind (lookK ks)
  | _, _ => none
theorem rdd_ix (ha : RdD K M ta ga) (hb : RdE K M tb gb) : RdE K M (tDGet ta tb) (g2 dDIx ga gb) := fun F0 H0 F H σ E d Q r e q => by
  obtain ⟨x, y, e1, e2, e3⟩ := g2_some e
  cases x <;> try (cases e3; done)
  obtain ⟨k, h1, h2⟩ := Option.bind_eq_some_iff.mp e3
  refine ha _ _ _ _ _ _ _ _ r e1 fun a vs F1 H1 x1 s1 p1 => hb _ _ _ _ _ _ _ _ (r.grow x1) e2 fun w F2 H2 x2 p2 => ?_
  rcases p1.look k with ⟨u, z, h3, h4, p3⟩ | ⟨h3, h4⟩
  · rw [h2] at h4
    cases h4
    rw [keyOf_rep p2 h1]
    exact ⟨a, u, rfl, by rw [← h3]; exact DGet.k (x2.h _ _ s1), q _ _ _ (x1.trans x2) (p3.mono x2.f)⟩
  · rw [h2] at h4
    cases h4
theorem pd_ix (hu : X.A.units + 1 < cLine) (ha : PDx X M a ta ga) (hb : PX X M b tb gb) (hs : NoSl b := by exact fun _ _ => rfl) : PX X M (.Subscript a b pos) (tDGet ta tb) (g2 dDIx ga gb) := ⟨pe_dget hu ha.pe hb.pe hs, rdd_ix ha.rd hb.rd⟩
def dDIn : D → D → Option D
  | k, .dict ks => (keyOf k).map fun k => .bool (lookK ks k).isSome
  | _, _ => none
def dDNotIn : D → D → Option D
  | k, .dict ks => (keyOf k).map fun k => .bool (!(lookK ks k).isSome)
  | _, _ => none
theorem rdd_in (hb : RdE K M tb gb) (ha : RdD K M ta ga) : RdE K M (tDIn tb ta) (g2 dDIn gb ga) := fun F0 H0 F H σ E d Q r e q => by
  obtain ⟨x, y, e1, e2, e3⟩ := g2_some e
  cases y <;> try (cases e3; done)
  obtain ⟨k, h1, rfl⟩ := Option.map_eq_some_iff.mp e3
  refine hb _ _ _ _ _ _ _ _ r e1 fun w F1 H1 x1 p1 => ha _ _ _ _ _ _ _ _ (r.grow x1) e2 fun a vs F2 H2 x2 s2 p2 => ?_
  rw [keyOf_rep p1 h1]
  refine ⟨a, _, rfl, DGet.k s2, ?_⟩
  rcases p2.look k with ⟨u, z, h3, h4, p3⟩ | ⟨h3, h4⟩ <;> rw [h3] <;> rw [h4] at q <;> exact q _ _ _ (x1.trans x2) (.bl _)
theorem rdd_notin (hb : RdE K M tb gb) (ha : RdD K M ta ga) : RdE K M (tDNotIn tb ta) (g2 dDNotIn gb ga) := fun F0 H0 F H σ E d Q r e q => by
  obtain ⟨x, y, e1, e2, e3⟩ := g2_some e
  cases y <;> try (cases e3; done)
  obtain ⟨k, h1, rfl⟩ := Option.map_eq_some_iff.mp e3
  refine hb _ _ _ _ _ _ _ _ r e1 fun w F1 H1 x1 p1 => ha _ _ _ _ _ _ _ _ (r.grow x1) e2 fun a vs F2 H2 x2 s2 p2 => ?_
  rw [keyOf_rep p1 h1]
  refine ⟨a, _, rfl, DGet.k s2, ?_⟩
  rcases p2.look k with ⟨u, z, h3, h4, p3⟩ | ⟨h3, h4⟩ <;> rw [h3] <;> rw [h4] at q <;> exact q _ _ _ (x1.trans x2) (.bl _)
theorem rd_testB {g : Gx} (h : RdE K M t g) : RdT K M (tB t) g := rd_tb h
theorem px_din (hu : X.A.units + 1 < cLine) (hb : PX X M b tb gb) (ha : PDx X M a ta ga) (hm : behindInMarks .In a = false := by rfl) : PX X M (.Compare b [.In] [a] pos) (tDIn tb ta) (g2 dDIn gb ga) := ⟨pe_cmp (pc_din hu hb.pe ha.pe) hm, rdd_in hb.rd ha.rd⟩
theorem px_dnotin (hu : X.A.units + 1 < cLine) (hb : PX X M b tb gb) (ha : PDx X M a ta ga) (hm : behindInMarks .NotIn a = false := by rfl) : PX X M (.Compare b [.NotIn] [a] pos) (tDNotIn tb ta) (g2 dDNotIn gb ga) := ⟨pe_cmp (pc_dnotin hu hb.pe ha.pe) hm, rdd_notin hb.rd ha.rd⟩
theorem pt_din (hu : X.A.units + 1 < cLine) (hb : PX X M b tb gb) (ha : PDx X M a ta ga) (hm : behindInMarks .In a = false := by rfl) : PTx X M (.Compare b [.In] [a] pos) (tB (tDIn tb ta)) (g2 dDIn gb ga) := ⟨pt_cmp (pc_din hu hb.pe ha.pe) hm, rd_tb (rdd_in hb.rd ha.rd)⟩
theorem pt_dnotin (hu : X.A.units + 1 < cLine) (hb : PX X M b tb gb) (ha : PDx X M a ta ga) (hm : behindInMarks .NotIn a = false := by rfl) : PTx X M (.Compare b [.NotIn] [a] pos) (tB (tDNotIn tb ta)) (g2 dDNotIn gb ga) := ⟨pt_cmp (pc_dnotin hu hb.pe ha.pe) hm, rd_tb (rdd_notin hb.rd ha.rd)⟩
/-- d.get(k, x) -/
def dDGet : D → D → D → Option D
  | .dict ks, k, x => (keyOf k).map fun k => (lookK ks k).getD x
  | _, _, _ => none
def g3 (f : D → D → D → Option D) (a b c : Gx) : Gx := fun E => (a E).bind fun x => (b E).bind fun y => (c E).bind fun z => f x y z
theorem g3_some {f : D → D → D → Option D} {a b c : Gx} {E : En} {d : D} (h : g3 f a b c E = some d) : ∃ x y z, a E = some x ∧ b E = some y ∧ c E = some z ∧ f x y z = some d := by
  obtain ⟨x, h1, h2⟩ := Option.bind_eq_some_iff.mp h
  obtain ⟨y, h3, h4⟩ := Option.bind_eq_some_iff.mp h2
  obtain ⟨z, h5, h6⟩ := Option.bind_eq_some_iff.mp h4
  exact ⟨x, y, z, h1, h3, h5, h6⟩
theorem pd_get {tc : TE} {apos : Pos} (hu : X.A.units + 1 < cLine) (ha : PDx X M a ta ga) (hb : PX X M b tb gb) (hc : PX X M c tc gc) (mm : M2 X a "get" apos b c pos := by exact ⟨rfl, rfl, rfl, rfl⟩) :
    PX X M (.Call (.Attribute a "get" apos) [b, c] [] pos) (tDGet2 ta tb tc) (g3 dDGet ga gb gc) := ⟨pe_dget2 hu ha.pe hb.pe hc.pe mm, fun F0 H0 F H σ E d Q r e q => by
  obtain ⟨x, y, z, e1, e2, e3, e4⟩ := g3_some e
  cases x <;> try (cases e4; done)
  obtain ⟨k, h1, rfl⟩ := Option.map_eq_some_iff.mp e4
  refine ha.rd _ _ _ _ _ _ _ _ r e1 fun a vs F1 H1 x1 s1 p1 => ⟨a, rfl, .inl ⟨_, .inl s1⟩, hb.rd _ _ _ _ _ _ _ _ (r.grow x1) e2 fun w F2 H2 x2 p2 => hc.rd _ _ _ _ _ _ _ _ ((r.grow x1).grow x2) e3 fun u F3 H3 x3 p3 => ?_⟩
  rw [keyOf_rep p2 h1]
  refine ⟨_, DGet.k (x3.h _ _ (x2.h _ _ s1)), ?_⟩
  rcases p1.look k with ⟨u, z, h3, h4, p4⟩ | ⟨h3, h4⟩
  · rw [h3]; rw [h4] at q; exact q _ _ _ ((x1.trans x2).trans x3) ((p4.mono x2.f).mono x3.f)
  · rw [h3]; rw [h4] at q; exact q _ _ _ ((x1.trans x2).trans x3) p3⟩
theorem ph_new : PHx X M (.Dict [] [] pos) tDNewK (gC (.dict [])) := ⟨pe_dnewK, fun F0 H0 F H σ E d Q r e q p hp => by
  cases e
  exact q p _ _ _ _ rfl (.own r.fs hp) hp (r.fs.free hp) upd_same .nil⟩

/-! ### displays -/
def gN : Gl' := fun _ => some []
def gCs (a : Gx) (r : Gl') : Gl' := fun E => (a E).bind fun x => (r E).bind fun xs => some (x :: xs)
theorem gCs_some {a : Gx} {r : Gl'} {E : En} {ds : List D} (h : gCs a r E = some ds) : ∃ x xs, a E = some x ∧ r E = some xs ∧ ds = x :: xs := by
  obtain ⟨x, h1, h2⟩ := Option.bind_eq_some_iff.mp h
  obtain ⟨y, h3, h4⟩ := Option.bind_eq_some_iff.mp h2
  cases h4
  exact ⟨x, y, h1, h3, rfl⟩
theorem pax_nil : PAx X M [] tNil gN := ⟨pa_nil, fun F0 H0 F H σ E ds Q r e q => by cases e; exact q [] F H (.refl r.fs) .nil⟩
theorem pax_cons {tr : TA} {gr : Gl'} (ha : PX X M e t g) (hr : PAx X M es tr gr) (hs : starEach (e :: es) X.env = (false, eval e X.env) :: starEach es X.env := by rfl) : PAx X M (e :: es) (tCons t tr) (gCs g gr) := ⟨pa_cons ha.pe hr.pe hs, fun F0 H0 F H σ E ds Q r e q => by
  obtain ⟨x, xs, e1, e2, rfl⟩ := gCs_some e
  exact ha.rd _ _ _ _ _ _ _ _ r e1 fun v F1 H1 x1 p1 => hr.rd _ _ _ _ _ _ _ _ (r.grow x1) e2 fun vs F2 H2 x2 p2 => q _ _ _ (x1.trans x2) (.cons (p1.mono x2.f) p2)⟩
def gL (gs : Gl') : Gx := fun E => (gs E).bind fun xs => gd xs.length (.list xs)
def gT (gs : Gl') : Gx := fun E => (gs E).bind fun xs => gd xs.length (.tuple xs)
theorem pf_lst {tr : TA} {gr : Gl'} (h : PAx X M es tr gr) : PFx X M (.List es pos) (tLst tr) (gL gr) := ⟨pe_lst h.pe, fun F0 H0 F H σ E d Q r e q => by
  obtain ⟨xs, e1, e2⟩ := Option.bind_eq_some_iff.mp e
  obtain ⟨hz, rfl⟩ := gd_some e2
  refine h.rd _ _ _ _ _ _ _ _ r e1 fun vs F1 H1 x1 p1 => ⟨by rw [p1.length]; exact Nat.le_of_lt (gd_line hz), fun p hp => ?_⟩
  exact q p _ _ _ _ rfl (x1.trans (.own x1.s hp)) (x1.h.free hp) (x1.s.free hp) upd_same p1⟩
theorem px_tup {tr : TA} {gr : Gl'} {j : Nat} (h : PAx X M es tr gr) : PX X M (.Tuple es j pos) (tTup tr) (gT gr) := ⟨pe_tup h.pe, fun F0 H0 F H σ E d Q r e q => by
  obtain ⟨xs, e1, e2⟩ := Option.bind_eq_some_iff.mp e
  obtain ⟨hz, rfl⟩ := gd_some e2
  refine h.rd _ _ _ _ _ _ _ _ r e1 fun vs F1 H1 x1 p1 => ⟨by rw [p1.length]; exact Nat.le_of_lt (gd_line hz), fun p hp => ?_⟩
  exact q _ _ _ (x1.trans (.new x1.s hp)) (.tup (.inl (.inl upd_same)) (p1.mono (same_upd (x1.s.free hp))))⟩

/-! ### and, or, not, if -/
def gAnd (a b : Gx) : Gx := fun E => match a E with | some (.bool true) => b E | some (.bool false) => some (.bool false) | _ => none
def gOr (a b : Gx) : Gx := fun E => match a E with | some (.bool false) => b E | some (.bool true) => some (.bool true) | _ => none
def dNot : D → Option D
  | .bool b => some (.bool (!b))
  | _ => none
def gIf (c a b : Gx) : Gx := fun E => match c E with | some (.bool true) => a E | some (.bool false) => b E | _ => none
theorem gAnd_some {d : D} (h : gAnd ga gb E = some d) : (ga E = some (.bool true) ∧ gb E = some d) ∨ (ga E = some (.bool false) ∧ d = .bool false) := by
  unfold gAnd at h
  split at h
  · exact .inl ⟨by assumption, h⟩
  · cases h; exact .inr ⟨by assumption, rfl⟩
  · cases h
theorem gOr_some {d : D} (h : gOr ga gb E = some d) : (ga E = some (.bool false) ∧ gb E = some d) ∨ (ga E = some (.bool true) ∧ d = .bool true) := by
  unfold gOr at h
  split at h
  · exact .inl ⟨by assumption, h⟩
  · cases h; exact .inr ⟨by assumption, rfl⟩
  · cases h
theorem gIf_some {d : D} (h : gIf gc ga gb E = some d) : (gc E = some (.bool true) ∧ ga E = some d) ∨ (gc E = some (.bool false) ∧ gb E = some d) := by
  unfold gIf at h
  split at h
  · exact .inl ⟨by assumption, h⟩
  · exact .inr ⟨by assumption, h⟩
  · cases h
variable {rest : List Expr} {op : BoolOp}
theorem px_one {op} (h : PX X M a ta ga) : PX X M (.BoolOp op [a] pos) ta ga := ⟨pe_one h.pe, h.rd⟩
theorem px_and (ha : PX X M a ta ga) (hb : PX X M (.BoolOp .And (b :: rest) pos) tb gb) : PX X M (.BoolOp .And (a :: b :: rest) pos) (tAndV ta tb) (gAnd ga gb) := ⟨pe_and ha.pe hb.pe, fun F0 H0 F H σ E d Q r e q => by
  rcases gAnd_some e with ⟨e1, e2⟩ | ⟨e1, rfl⟩
  · refine ha.rd _ _ _ _ _ _ _ _ r e1 fun v F1 H1 x1 p1 => ?_
    cases p1
    refine ⟨true, rfl, iteT (hb.rd _ _ _ _ _ _ _ _ (r.grow x1) e2 fun w F2 H2 x2 p2 => q _ _ _ (x1.trans x2) p2)⟩
  · refine ha.rd _ _ _ _ _ _ _ _ r e1 fun v F1 H1 x1 p1 => ?_
    cases p1
    exact ⟨false, rfl, iteF (q _ _ _ x1 (.bl false))⟩⟩
theorem px_or (ha : PX X M a ta ga) (hb : PX X M (.BoolOp .Or (b :: rest) pos) tb gb) : PX X M (.BoolOp .Or (a :: b :: rest) pos) (tOrV ta tb) (gOr ga gb) := ⟨pe_or ha.pe hb.pe, fun F0 H0 F H σ E d Q r e q => by
  rcases gOr_some e with ⟨e1, e2⟩ | ⟨e1, rfl⟩
  · refine ha.rd _ _ _ _ _ _ _ _ r e1 fun v F1 H1 x1 p1 => ?_
    cases p1
    refine ⟨false, rfl, iteF (hb.rd _ _ _ _ _ _ _ _ (r.grow x1) e2 fun w F2 H2 x2 p2 => q _ _ _ (x1.trans x2) p2)⟩
  · refine ha.rd _ _ _ _ _ _ _ _ r e1 fun v F1 H1 x1 p1 => ?_
    cases p1
    exact ⟨true, rfl, iteT (q _ _ _ x1 (.bl true))⟩⟩
theorem px_not (ha : PX X M a ta ga) : PX X M (.UnaryOp .Not a pos) (tNotV ta) (g1 dNot ga) := ⟨pe_not ha.pe, fun F0 H0 F H σ E d Q r e q => by
  obtain ⟨x, e1, e2⟩ := g1_some e
  cases x <;> try (cases e2; done)
  cases e2
  refine ha.rd _ _ _ _ _ _ _ _ r e1 fun v F1 H1 x1 p1 => ?_
  cases p1
  exact ⟨_, rfl, q _ _ _ x1 (.bl _)⟩⟩
theorem px_if (hc : PTx X M c tc gc) (ha : PX X M a ta ga) (hb : PX X M b tb gb) : PX X M (.IfExp c a b pos) (tIf tc ta tb) (gIf gc ga gb) := ⟨pe_ifExp hc.pe ha.pe hb.pe, fun F0 H0 F H σ E d Q r e q => by
  rcases gIf_some e with ⟨e1, e2⟩ | ⟨e1, e2⟩
  · exact hc.rd _ _ _ _ _ _ _ _ r e1 (fun b F1 H1 eb x1 => by cases eb; exact iteT (ha.rd _ _ _ _ _ _ _ _ (r.grow x1) e2 fun w F2 H2 x2 p2 => q _ _ _ (x1.trans x2) p2)) ⟨_, rfl⟩
  · exact hc.rd _ _ _ _ _ _ _ _ r e1 (fun b F1 H1 eb x1 => by cases eb; exact iteF (hb.rd _ _ _ _ _ _ _ _ (r.grow x1) e2 fun w F2 H2 x2 p2 => q _ _ _ (x1.trans x2) p2)) ⟨_, rfl⟩⟩
theorem pw_ (h : PWx X M e tT g) : PTx X M e tT g := ⟨h.pe.pt, h.rd⟩
theorem pwx_and1 (h : PTx X M a tT g) : PWx X M (.BoolOp .And [a] pos) tT g := ⟨pw_and1 h.pe, h.rd⟩
theorem pwx_or1 (h : PTx X M a tT g) : PWx X M (.BoolOp .Or [a] pos) tT g := ⟨pw_or1 h.pe, h.rd⟩
theorem pwx_and {tu : TT} (ha : PTx X M a tc ga) (hb : PWx X M (.BoolOp .And (b :: rest) pos) tu gb) : PWx X M (.BoolOp .And (a :: b :: rest) pos) (tAnd tc tu) (gAnd ga gb) := ⟨pw_and ha.pe hb.pe, fun F0 H0 F H σ E d Q r e q ex => by
  rcases gAnd_some e with ⟨e1, e2⟩ | ⟨e1, rfl⟩
  · exact ha.rd _ _ _ _ _ _ _ _ r e1 (fun b F1 H1 eb x1 => by cases eb; exact iteT (hb.rd _ _ _ _ _ _ _ _ (r.grow x1) e2 (fun b2 F2 H2 e2 x2 => q _ _ _ e2 (x1.trans x2)) ex)) ⟨_, rfl⟩
  · exact ha.rd _ _ _ _ _ _ _ _ r e1 (fun b F1 H1 eb x1 => by cases eb; exact iteF (q _ _ _ rfl x1)) ⟨_, rfl⟩⟩
theorem pwx_or {tu : TT} (ha : PTx X M a tc ga) (hb : PWx X M (.BoolOp .Or (b :: rest) pos) tu gb) : PWx X M (.BoolOp .Or (a :: b :: rest) pos) (tOr tc tu) (gOr ga gb) := ⟨pw_or ha.pe hb.pe, fun F0 H0 F H σ E d Q r e q ex => by
  rcases gOr_some e with ⟨e1, e2⟩ | ⟨e1, rfl⟩
  · exact ha.rd _ _ _ _ _ _ _ _ r e1 (fun b F1 H1 eb x1 => by cases eb; exact iteF (hb.rd _ _ _ _ _ _ _ _ (r.grow x1) e2 (fun b2 F2 H2 e2 x2 => q _ _ _ e2 (x1.trans x2)) ex)) ⟨_, rfl⟩
  · exact ha.rd _ _ _ _ _ _ _ _ r e1 (fun b F1 H1 eb x1 => by cases eb; exact iteT (q _ _ _ rfl x1)) ⟨_, rfl⟩⟩
theorem ptx_not (ha : PTx X M a tc ga) : PTx X M (.UnaryOp .Not a pos) (tNot tc) (g1 dNot ga) := ⟨pt_not ha.pe, fun F0 H0 F H σ E d Q r e q ex => by
  obtain ⟨x, e1, e2⟩ := g1_some e
  cases x <;> try (cases e2; done)
  cases e2
  exact ha.rd _ _ _ _ _ _ _ _ r e1 (fun b F1 H1 eb x1 => by cases eb; exact q _ _ _ rfl x1) ⟨_, rfl⟩⟩

/-! ### what is not frozen, frozen for a while -/
theorem ER.freeze {i : Nat} (r : ER K M F0 H0 F H σ E) (hm : Mow (mAt M i) = true) : ∃ F', Same F F' ∧ Same F' H ∧ ER K (M.set i .fr) F0 H0 F' H σ E := by
  have hset : ∀ j, j ≠ i → mAt (M.set i .fr) j = mAt M j := fun j hj => by
    unfold mAt
    rw [List.getD_eq_getElem?_getD, List.getD_eq_getElem?_getD, List.getElem?_set_ne (Ne.symm hj)]
  have hi : mAt (M.set i .fr) i = .fr := by
    unfold mAt
    rw [List.getD_eq_getElem?_getD]
    by_cases h : i < M.length
    · rw [List.getElem?_set_self h]; rfl
    · rw [List.getElem?_eq_none (by rw [List.length_set]; omega)]; rfl
  have core : ∀ F', Same F F' → Same F' H → (∀ b o, H0 b = some o → F b = none → F' b = none) → (∀ d, E[i]? = some (some d) → ∃ v, σ[i]? = some (some v) ∧ Rep K F' v d) →
      (∀ j d a, j ≠ i → Mow (mAt M j) = true → E[j]? = some (some d) → σ[j]? = some (some (.ref a)) → F a = none → F' a = none) → ER K (M.set i .fr) F0 H0 F' H σ E := fun F' s1 s2 hn hv ho => by
    refine ⟨⟨r.ext.f.trans s1, r.ext.h, s2, fun b o h1 h2 => hn b o h1 (r.ext.n b o h1 h2)⟩, r.z, r.len, fun j d h => ?_, fun j k a d e hjk mj mk ej ek sj sk => ?_⟩
    · by_cases hj : j = i
      · subst hj
        obtain ⟨v, h1, h2⟩ := hv d h
        exact ⟨v, h1, by rw [hi]; exact h2⟩
      · obtain ⟨v, h1, h2⟩ := r.sl j d h
        refine ⟨v, h1, ?_⟩
        rw [hset j hj]
        cases hmj : mAt M j with
        | fr => rw [hmj] at h2; exact Rep.mono s1 h2
        | sc => rw [hmj] at h2; obtain ⟨a, vs, ds, e1, e2, e3, e4⟩ := h2; exact ⟨a, vs, ds, e1, e2, s1.seq e3, e4.mono s1⟩
        | ol =>
          rw [hmj] at h2
          obtain ⟨a, vs, ds, e1, e2, e3, e4, e5, e6⟩ := h2
          exact ⟨a, vs, ds, e1, e2, ho j d a hj (by rw [hmj]; rfl) h (by rw [← e1]; exact h1) e3, e4, e5, e6.mono s1⟩
        | od =>
          rw [hmj] at h2
          obtain ⟨a, vs, ds, e1, e2, e3, e4, e5, e6⟩ := h2
          exact ⟨a, vs, ds, e1, e2, ho j d a hj (by rw [hmj]; rfl) h (by rw [← e1]; exact h1) e3, e4, e5, e6.mono s1⟩
    · have hj : j ≠ i := fun z => by subst z; rw [hi] at mj; cases mj
      have hk : k ≠ i := fun z => by subst z; rw [hi] at mk; cases mk
      rw [hset j hj] at mj
      rw [hset k hk] at mk
      exact r.ap j k a d e hjk mj mk ej ek sj sk
  cases he : E[i]? with
  | none => exact ⟨F, .refl _, r.fs, core F (.refl _) r.fs (fun _ _ _ h => h) (fun d h => by rw [he] at h; cases h) fun _ _ _ _ _ _ _ h => h⟩
  | some o =>
    cases o with
    | none => exact ⟨F, .refl _, r.fs, core F (.refl _) r.fs (fun _ _ _ h => h) (fun d h => by rw [he] at h; cases h) fun _ _ _ _ _ _ _ h => h⟩
    | some d =>
      obtain ⟨v, h1, h2⟩ := r.sl i d he
      have go : ∀ (a : Addr) (o : HO), v = .ref a → F a = none → H0 a = none → H a = some o → Rep K (upd F a o) v d → ∃ F', Same F F' ∧ Same F' H ∧ ER K (M.set i .fr) F0 H0 F' H σ E := fun a o e1 e3 e4 e5 e6 => by
        refine ⟨upd F a o, same_upd e3, same_frz r.fs e5, core _ (same_upd e3) (same_frz r.fs e5) (fun b ob q1 q2 => by rw [upd_ne (ne_of_none q1 e4)]; exact q2) (fun d' h => by rw [he] at h; cases h; exact ⟨v, h1, e6⟩) fun j d' b hj mj ej sj hb => ?_⟩
        rw [upd_ne]
        · exact hb
        · rintro rfl
          exact r.ap j i b d' d hj mj hm ej he sj (by rw [← e1]; exact h1)
      cases hmi : mAt M i with
      | fr => rw [hmi] at hm; cases hm
      | sc => rw [hmi] at hm; cases hm
      | ol =>
        rw [hmi] at h2
        obtain ⟨a, vs, ds, rfl, rfl, e3, e4, e5, e6⟩ := h2
        exact go a _ rfl e3 e4 e5 (.lst upd_same (e6.mono (same_upd e3)))
      | od =>
        rw [hmi] at h2
        obtain ⟨a, vs, ds, rfl, rfl, e3, e4, e5, e6⟩ := h2
        exact go a _ rfl e3 e4 e5 (.dic upd_same (e6.mono (same_upd e3)))
theorem oF_some {d e : D} (h : oF d = some e) : e = d ∧ ∀ {v : V}, Rep K H v d → ∀ H', Rep K H' v d := by
  cases d <;> simp [oF] at h <;> subst h <;> refine ⟨rfl, fun p H' => ?_⟩ <;> cases p <;> constructor
/-- an expression without objects in its answer may look at what is not frozen -/
theorem px_bw (i : Nat) (h : PX X (M.set i .fr) e t g) (hm : Mow (mAt M i) = true := by rfl) : PX X M e t (g1 oF g) := ⟨h.pe, fun F0 H0 F H σ E d Q r e q => by
  obtain ⟨x, e1, e2⟩ := g1_some e
  obtain ⟨rfl, hx⟩ := oF_some (K := X.K) (H := F) e2
  obtain ⟨F2, s1, s2, r2⟩ := r.freeze hm
  refine h.rd _ _ _ _ _ _ _ _ r2 e1 fun v F1 H1 x1 p1 => ?_
  obtain ⟨_, hx⟩ := oF_some (K := X.K) (H := F1) e2
  exact q v F H1 ⟨.refl _, x1.h, r.fs.trans x1.h, fun _ _ _ h => h⟩ (hx p1 F)⟩
theorem pt_bw (i : Nat) (h : PTx X (M.set i .fr) e tT g) (hm : Mow (mAt M i) = true := by rfl) : PTx X M e tT g := ⟨h.pe, fun F0 H0 F H σ E d Q r e q ex => by
  obtain ⟨F2, s1, s2, r2⟩ := r.freeze hm
  exact h.rd _ _ _ _ _ _ _ _ r2 e (fun b F1 H1 eb x1 => q b F H1 eb ⟨.refl _, x1.h, r.fs.trans x1.h, fun _ _ _ h => h⟩) ex⟩
/-- a new list of things without objects -/
def flats : List D → Option (List D)
  | [] => some []
  | d :: ds => (oF d).bind fun x => (flats ds).map fun xs => x :: xs
def oFs : D → Option D
  | .list xs => (flats xs).map .list
  | _ => none
theorem flats_some : ∀ {ds es : List D}, flats ds = some es → es = ds ∧ ∀ {vs : List V} {H : Hp}, Reps K H vs ds → ∀ H', Reps K H' vs ds
  | [], es, h => by cases h; exact ⟨rfl, fun p H' => by cases p; exact .nil⟩
  | d :: ds, es, h => by
    obtain ⟨x, h1, h2⟩ := Option.bind_eq_some_iff.mp h
    obtain ⟨xs, h3, rfl⟩ := Option.map_eq_some_iff.mp h2
    obtain ⟨rfl, h4⟩ := flats_some h3
    have e : x = d := (oF_some (K := K) (H := fun _ => none) h1).1
    subst e
    refine ⟨rfl, fun {vs H} p H' => ?_⟩
    cases p with
    | cons a r => exact .cons ((oF_some (K := K) (H := H) h1).2 a H') (h4 r H')
theorem pf_bw (i : Nat) (h : PFx X (M.set i .fr) e t g) (hm : Mow (mAt M i) = true := by rfl) : PFx X M e t (g1 oFs g) := ⟨h.pe, fun F0 H0 F H σ E d Q r e q => by
  obtain ⟨x, e1, e2⟩ := g1_some e
  cases x <;> try (cases e2; done)
  obtain ⟨xs, h1, rfl⟩ := Option.map_eq_some_iff.mp e2
  obtain ⟨rfl, hx⟩ := flats_some (K := X.K) h1
  obtain ⟨F2, s1, s2, r2⟩ := r.freeze hm
  refine h.rd _ _ _ _ _ _ _ _ r2 e1 fun a vs ds F1 H1 ed x1 n f s p => ?_
  cases ed
  exact q a vs _ F H1 rfl ⟨.refl _, x1.h, r.fs.trans x1.h, fun _ _ _ h => h⟩ n (r.fs.free n) s (hx p F)⟩
end Pu

namespace Pu
open PySem PySem.Spec PyProof.Rows L2
variable {K : PySem.W.Frag} {H H' F F' : Hp} {M M' M1 : List Md} {F0 H0 F1 H1 : Hp} {σ : L2.St} {E E' : En} {m : Md} {v : V}
variable {X : Cx} {a b c e : Expr} {es : List Expr} {ta tb t : TE} {tc tT : TT} {ga gb gc g : Gx} {p pos : Pos} {tA : TA} {gs : Gl'}

/-! ### calls of built-ins by values -/
def gCall (f : List D → Option D) (gs : Gl') : Gx := fun E => (gs E).bind f
def RdC (K : PySem.W.Frag) (r : List V → Hp → VK → Prop) (f : List D → Option D) : Prop := ∀ (F H : Hp) (vs : List V) (ds : List D) (d : D) (Q : VK), Same F H → Reps K F vs ds → f ds = some d →
  (∀ u F' H', Ext F H F' H' → Rep K F' u d → Q u H') → r vs H Q
/-- .. a new list -/
def RdCF (K : PySem.W.Frag) (r : List V → Hp → VK → Prop) (f : List D → Option D) : Prop := ∀ (F H : Hp) (vs : List V) (ds : List D) (d : D) (Q : VK), Same F H → Reps K F vs ds → f ds = some d →
  ∃ es, d = .list es ∧ ((∀ (a : Addr) (xs : List V), H a = none → Reps K F xs es → Q (.ref a) (upd H a (.lst xs))) → r vs H Q)
theorem rd_call {r : List V → Hp → VK → Prop} {f : List D → Option D} (ha : RdA K M tA gs) (hr : RdC K r f) : RdE K M (tCB r tA) (gCall f gs) := fun F0 H0 F H σ E d Q R e q => by
  obtain ⟨ds, e1, e2⟩ := Option.bind_eq_some_iff.mp e
  exact ha _ _ _ _ _ _ _ _ R e1 fun vs F1 H1 x1 p1 => hr _ _ _ _ _ _ x1.s p1 e2 fun u F2 H2 x2 p2 => q _ _ _ (x1.trans x2) p2
theorem rdf_call {r : List V → Hp → VK → Prop} {f : List D → Option D} (ha : RdA K M tA gs) (hr : RdCF K r f) : RdF K M (tCB r tA) (gCall f gs) := fun F0 H0 F H σ E d Q R e q => by
  obtain ⟨ds, e1, e2⟩ := Option.bind_eq_some_iff.mp e
  refine ha _ _ _ _ _ _ _ _ R e1 fun vs F1 H1 x1 p1 => ?_
  obtain ⟨es, rfl, hw⟩ := hr F1 H1 vs ds d Q x1.s p1 e2
  exact hw fun a xs n r => q a xs _ _ _ rfl (x1.trans (.own x1.s n)) (x1.h.free n) (x1.s.free n) upd_same r
theorem px_cB {id : String} {x : Str} {r : List V → Hp → VK → Prop} {f : List D → Option D} (hc : CallR X (.builtin id) r) (hr : RdC X.K r f) (hm : X.mg x = none) (hv : bootBuiltins x = some (.builtin id)) (ha : PAx X M (e :: es) tA gs) (hg : Gl X x := by rfl) (hn : x ≠ "__name__" := by decide)
    (hdb : (x == ("__debug__" : Str)) = false := by decide) (he : starEach (e :: es) X.env = (false, eval e X.env) :: starEach es X.env := by rfl) (hpl : (backTo pos (starEach es X.env)).any (·.1) = false := by rfl) : PX X M (.Call (.Name x p) (e :: es) [] pos) (tCB r tA) (gCall f gs) :=
  ⟨pe_callB hc hg hm hv ha.pe hn hdb he hpl, rd_call ha.rd hr⟩
theorem pf_cB {id : String} {x : Str} {r : List V → Hp → VK → Prop} {f : List D → Option D} (hc : CallR X (.builtin id) r) (hr : RdCF X.K r f) (hm : X.mg x = none) (hv : bootBuiltins x = some (.builtin id)) (ha : PAx X M (e :: es) tA gs) (hg : Gl X x := by rfl) (hn : x ≠ "__name__" := by decide)
    (hdb : (x == ("__debug__" : Str)) = false := by decide) (he : starEach (e :: es) X.env = (false, eval e X.env) :: starEach es X.env := by rfl) (hpl : (backTo pos (starEach es X.env)).any (·.1) = false := by rfl) : PFx X M (.Call (.Name x p) (e :: es) [] pos) (tCB r tA) (gCall f gs) :=
  ⟨pe_callB hc hg hm hv ha.pe hn hdb he hpl, rdf_call ha.rd hr⟩
theorem px_cT {T : String} {x : Str} {r : List V → Hp → VK → Prop} {f : List D → Option D} (hc : CallR X (.type T) r) (hr : RdC X.K r f) (hm : X.mg x = none) (hv : bootBuiltins x = some (.type T)) (ha : PAx X M (e :: es) tA gs) (hg : Gl X x := by rfl) (hn : x ≠ "__name__" := by decide)
    (hdb : (x == ("__debug__" : Str)) = false := by decide) (he : starEach (e :: es) X.env = (false, eval e X.env) :: starEach es X.env := by rfl) (hpl : (backTo pos (starEach es X.env)).any (·.1) = false := by rfl) : PX X M (.Call (.Name x p) (e :: es) [] pos) (tCB r tA) (gCall f gs) :=
  ⟨pe_callTy hc hg hm hv ha.pe hn hdb he hpl, rd_call ha.rd hr⟩
theorem pf_cT {T : String} {x : Str} {r : List V → Hp → VK → Prop} {f : List D → Option D} (hc : CallR X (.type T) r) (hr : RdCF X.K r f) (hm : X.mg x = none) (hv : bootBuiltins x = some (.type T)) (ha : PAx X M (e :: es) tA gs) (hg : Gl X x := by rfl) (hn : x ≠ "__name__" := by decide)
    (hdb : (x == ("__debug__" : Str)) = false := by decide) (he : starEach (e :: es) X.env = (false, eval e X.env) :: starEach es X.env := by rfl) (hpl : (backTo pos (starEach es X.env)).any (·.1) = false := by rfl) : PFx X M (.Call (.Name x p) (e :: es) [] pos) (tCB r tA) (gCall f gs) :=
  ⟨pe_callTy hc hg hm hv ha.pe hn hdb he hpl, rdf_call ha.rd hr⟩

def dLen : List D → Option D
  | [.list xs] => some (.int xs.length)
  | [.tuple xs] => some (.int xs.length)
  | _ => none
def rLenS (K : PySem.W.Frag) : List V → Hp → VK → Prop := fun xs H Q => ∃ p ys, xs = [.ref p] ∧ (SqL K H p ys ∨ SqT K H p ys) ∧ Q (.int ys.length) H
theorem rdc_len : RdC K (rLenS K) dLen := by
  intro F H vs ds d Q s r e q
  cases r with
  | nil => cases e
  | cons a r =>
    cases r with
    | nil =>
      cases a <;> try (cases e; done)
      · rename_i s1 r1
        cases e
        rw [← r1.length] at q
        exact ⟨_, _, rfl, .inl (.inl (.inl (s _ _ s1))), q _ _ _ (.refl s) (.int _)⟩
      · rename_i s1 r1
        cases e
        rw [← r1.length] at q
        exact ⟨_, _, rfl, .inr (same_T s s1), q _ _ _ (.refl s) (.int _)⟩
    | cons b r => cases a <;> cases e
theorem px_len (hm : X.mg "len" = none) (ha : PAx X M [e] tA gs) (hg : Gl X "len" := by rfl) (he : starEach [e] X.env = (false, eval e X.env) :: starEach [] X.env := by rfl) : PX X M (.Call (.Name "len" p) [e] [] pos) (tCB (rLenS X.K) tA) (gCall dLen gs) := px_cB call_len_seq rdc_len hm PySem.boot_len ha hg (he := he)
def dLst : List D → Option D
  | [.list xs] => some (.list xs)
  | [.tuple xs] => some (.list xs)
  | _ => none
def rLstS (K : PySem.W.Frag) : List V → Hp → VK → Prop := fun xs H Q => ∃ p ys, xs = [.ref p] ∧ (SqL K H p ys ∨ SqT K H p ys) ∧ ∀ l, H l = none → Q (.ref l) (upd H l (.lst ys))
theorem rdc_lst : RdCF K (rLstS K) dLst := by
  intro F H vs ds d Q s r e
  cases r with
  | nil => cases e
  | cons a r =>
    cases r with
    | nil =>
      cases a <;> try (cases e; done)
      · rename_i s1 r1
        cases e
        exact ⟨_, rfl, fun q => ⟨_, _, rfl, .inl (.inl (.inl (s _ _ s1))), fun l hl => q l _ hl r1⟩⟩
      · rename_i s1 r1
        cases e
        exact ⟨_, rfl, fun q => ⟨_, _, rfl, .inr (same_T s s1), fun l hl => q l _ hl r1⟩⟩
    | cons b r => cases a <;> cases e
theorem boot_list' : bootBuiltins "list" = some (.type "list") := by decide +kernel
theorem boot_tuple' : bootBuiltins "tuple" = some (.type "tuple") := by decide +kernel
theorem boot_int' : bootBuiltins "int" = some (.type "int") := by decide +kernel
theorem boot_abs' : bootBuiltins "abs" = some (.builtin "abs") := by decide +kernel
theorem boot_sum' : bootBuiltins "sum" = some (.builtin "sum") := by decide +kernel
theorem boot_max' : bootBuiltins "max" = some (.builtin "max") := by decide +kernel
theorem boot_min' : bootBuiltins "min" = some (.builtin "min") := by decide +kernel
theorem boot_sorted' : bootBuiltins "sorted" = some (.builtin "sorted") := by decide +kernel
theorem pf_list (hm : X.mg "list" = none) (ha : PAx X M [e] tA gs) (hg : Gl X "list" := by rfl) (he : starEach [e] X.env = (false, eval e X.env) :: starEach [] X.env := by rfl) : PFx X M (.Call (.Name "list" p) [e] [] pos) (tCB (rLstS X.K) tA) (gCall dLst gs) := pf_cT call_list_of rdc_lst hm boot_list' ha hg (he := he)
def dTpl : List D → Option D
  | [.list xs] => some (.tuple xs)
  | [.tuple xs] => some (.tuple xs)
  | _ => none
def rTplS (K : PySem.W.Frag) : List V → Hp → VK → Prop := fun xs H Q => ∃ p ys, xs = [.ref p] ∧ ((SqL K H p ys ∧ ∀ l, H l = none → Q (.ref l) (upd H l (.tup ys))) ∨ (SqT K H p ys ∧ Q (.ref p) H))
theorem rdc_tpl : RdC K (rTplS K) dTpl := by
  intro F H vs ds d Q s r e q
  cases r with
  | nil => cases e
  | cons a r =>
    cases r with
    | nil =>
      cases a <;> try (cases e; done)
      · rename_i s1 r1
        cases e
        exact ⟨_, _, rfl, .inl ⟨.inl (.inl (s _ _ s1)), fun l hl => q _ _ _ (.new s hl) (.tup (.inl (.inl upd_same)) (r1.mono (same_upd (s.free hl))))⟩⟩
      · rename_i s1 r1
        cases e
        exact ⟨_, _, rfl, .inr ⟨same_T s s1, q _ _ _ (.refl s) (.tup s1 r1)⟩⟩
    | cons b r => cases a <;> cases e
theorem px_tuple (hm : X.mg "tuple" = none) (ha : PAx X M [e] tA gs) (hg : Gl X "tuple" := by rfl) (he : starEach [e] X.env = (false, eval e X.env) :: starEach [] X.env := by rfl) : PX X M (.Call (.Name "tuple" p) [e] [] pos) (tCB (rTplS X.K) tA) (gCall dTpl gs) := px_cT call_tuple_of rdc_tpl hm boot_tuple' ha hg (he := he)
def dInt : List D → Option D
  | [.int i] => some (.int i)
  | [.bool k] => some (.int (if k then 1 else 0))
  | _ => none
def rInt1 : List V → Hp → VK → Prop := fun xs H Q => (∃ i, xs = [.int i] ∧ Q (.int i) H) ∨ ∃ k, xs = [.bl k] ∧ Q (.int (if k then 1 else 0)) H
theorem rdc_int : RdC K rInt1 dInt := by
  intro F H vs ds d Q s r e q
  cases r with
  | nil => cases e
  | cons a r =>
    cases r with
    | nil =>
      cases a <;> try (cases e; done)
      · cases e; exact .inr ⟨_, rfl, q _ _ _ (.refl s) (.int _)⟩
      · cases e; exact .inl ⟨_, rfl, q _ _ _ (.refl s) (.int _)⟩
    | cons b r => cases a <;> cases e
theorem px_toInt (hm : X.mg "int" = none) (ha : PAx X M [e] tA gs) (hg : Gl X "int" := by rfl) (he : starEach [e] X.env = (false, eval e X.env) :: starEach [] X.env := by rfl) : PX X M (.Call (.Name "int" p) [e] [] pos) (tCB rInt1 tA) (gCall dInt gs) := px_cT call_int1 rdc_int hm boot_int' ha hg (he := he)
def dAbs : List D → Option D
  | [.int i] => some (.int (if i < 0 then -i else i))
  | _ => none
def rAbs1 : List V → Hp → VK → Prop := fun xs H Q => ∃ i, xs = [.int i] ∧ Q (.int (if i < 0 then -i else i)) H
theorem rdc_abs : RdC K rAbs1 dAbs := by
  intro F H vs ds d Q s r e q
  cases r with
  | nil => cases e
  | cons a r =>
    cases r with
    | nil =>
      cases a <;> try (cases e; done)
      cases e; exact ⟨_, rfl, q _ _ _ (.refl s) (.int _)⟩
    | cons b r => cases a <;> cases e
theorem px_abs (hm : X.mg "abs" = none) (ha : PAx X M [e] tA gs) (hg : Gl X "abs" := by rfl) (he : starEach [e] X.env = (false, eval e X.env) :: starEach [] X.env := by rfl) : PX X M (.Call (.Name "abs" p) [e] [] pos) (tCB rAbs1 tA) (gCall dAbs gs) := px_cB call_abs rdc_abs hm boot_abs' ha hg (he := he)
def dMax2 : List D → Option D
  | [.int i, .int j] => some (.int (if j > i then j else i))
  | _ => none
def dMin2 : List D → Option D
  | [.int i, .int j] => some (.int (if j < i then j else i))
  | _ => none
def rMax2 : List V → Hp → VK → Prop := fun xs H Q => ∃ i j, xs = [.int i, .int j] ∧ Q (.int (if j > i then j else i)) H
def rMin2 : List V → Hp → VK → Prop := fun xs H Q => ∃ i j, xs = [.int i, .int j] ∧ Q (.int (if j < i then j else i)) H
theorem two_ints {ds : List D} {vs : List V} {i j : Int} (r : Reps K F vs ds) (h : ds = [.int i, .int j]) : vs = [.int i, .int j] := by
  subst h
  cases r with
  | cons a r => cases r with
    | cons b r => cases r; cases a; cases b; rfl
theorem rdc_max2 : RdC K rMax2 dMax2 := by
  intro F H vs ds d Q s r e q
  unfold dMax2 at e
  split at e
  · cases e; exact ⟨_, _, two_ints r rfl, q _ _ _ (.refl s) (.int _)⟩
  · cases e
theorem rdc_min2 : RdC K rMin2 dMin2 := by
  intro F H vs ds d Q s r e q
  unfold dMin2 at e
  split at e
  · cases e; exact ⟨_, _, two_ints r rfl, q _ _ _ (.refl s) (.int _)⟩
  · cases e
theorem px_max2 (hc : X.calm = true) (hm : X.mg "max" = none) (ha : PAx X M [e, a] tA gs) (hg : Gl X "max" := by rfl) (he : starEach [e, a] X.env = (false, eval e X.env) :: starEach [a] X.env := by rfl) (hpl : (backTo pos (starEach [a] X.env)).any (·.1) = false := by rfl) : PX X M (.Call (.Name "max" p) [e, a] [] pos) (tCB rMax2 tA) (gCall dMax2 gs) := px_cB (call_max2 hc) rdc_max2 hm boot_max' ha hg (he := he) (hpl := hpl)
theorem px_min2 (hc : X.calm = true) (hm : X.mg "min" = none) (ha : PAx X M [e, a] tA gs) (hg : Gl X "min" := by rfl) (he : starEach [e, a] X.env = (false, eval e X.env) :: starEach [a] X.env := by rfl) (hpl : (backTo pos (starEach [a] X.env)).any (·.1) = false := by rfl) : PX X M (.Call (.Name "min" p) [e, a] [] pos) (tCB rMin2 tA) (gCall dMin2 gs) := px_cB (call_min2 hc) rdc_min2 hm boot_min' ha hg (he := he) (hpl := hpl)

/-! ### of lists of ints -/
def intsOf : List D → Option (List Int)
  | [] => some []
  | .int i :: r => (intsOf r).map (i :: ·)
  | _ => none
theorem intsOf_ints : ∀ ns : List Int, intsOf (ns.map PyData.int) = some ns
  | [] => rfl
  | n :: r => by simp [intsOf, intsOf_ints r]
theorem intsOf_some : ∀ {ds : List D} {ns : List Int}, intsOf ds = some ns → ds = ns.map PyData.int
  | [], ns, h => by cases h; rfl
  | d :: ds, ns, h => by
    cases d <;> simp only [intsOf] at h <;> try cases h
    obtain ⟨ms, h1, rfl⟩ := Option.map_eq_some_iff.mp h
    rw [intsOf_some h1]; rfl
def dInts (f : List Int → Option D) : List D → Option D
  | [.list xs] => (intsOf xs).bind f
  | _ => none
theorem dInts_some {f : List Int → Option D} {ds : List D} {d : D} (h : dInts f ds = some d) : ∃ ns : List Int, ds = [.list (ns.map PyData.int)] ∧ f ns = some d := by
  unfold dInts at h
  split at h
  · obtain ⟨ns, h1, h2⟩ := Option.bind_eq_some_iff.mp h
    exact ⟨ns, by rw [intsOf_some h1], h2⟩
  · cases h
theorem one_ints {vs : List V} {ns : List Int} (r : Reps K F vs [.list (ns.map PyData.int)]) : ∃ a, vs = [.ref a] ∧ F a = some (.lst (ns.map V.int)) := by
  cases r with
  | cons a r => cases r; cases a with
    | lst s r => exact ⟨_, rfl, by rw [← Reps.ofInts r]; exact s⟩
def dSum : List D → Option D := dInts fun ns => some (.int ns.sum)
def maxI (ns : List Int) : Int := ns.foldl (fun m x => if x > m then x else m) (ns.headD 0)
def minI (ns : List Int) : Int := ns.foldl (fun m x => if x < m then x else m) (ns.headD 0)
def dMax1 : List D → Option D := dInts fun ns => if ns.isEmpty then none else some (.int (maxI ns))
def dMin1 : List D → Option D := dInts fun ns => if ns.isEmpty then none else some (.int (minI ns))
theorem foldmax : ∀ (ns : List Int) (m : Int), (ns.foldl (fun m x => if x > m then x else m) m = m ∨ ns.foldl (fun m x => if x > m then x else m) m ∈ ns) ∧ m ≤ ns.foldl (fun m x => if x > m then x else m) m ∧ ∀ y ∈ ns, y ≤ ns.foldl (fun m x => if x > m then x else m) m
  | [], m => ⟨.inl rfl, Int.le_refl _, fun y hy => by cases hy⟩
  | n :: r, m => by
    obtain ⟨h1, h2, h3⟩ := foldmax r (if n > m then n else m)
    simp only [List.foldl_cons]
    refine ⟨?_, ?_, fun y hy => ?_⟩
    · rcases h1 with h1 | h1
      · rw [h1]; split
        · exact .inr List.mem_cons_self
        · exact .inl rfl
      · exact .inr (List.mem_cons_of_mem _ h1)
    · split at h2 <;> split <;> omega
    · rcases List.mem_cons.mp hy with rfl | hy
      · split at h2 <;> split <;> omega
      · exact h3 y hy
theorem foldmin : ∀ (ns : List Int) (m : Int), (ns.foldl (fun m x => if x < m then x else m) m = m ∨ ns.foldl (fun m x => if x < m then x else m) m ∈ ns) ∧ ns.foldl (fun m x => if x < m then x else m) m ≤ m ∧ ∀ y ∈ ns, ns.foldl (fun m x => if x < m then x else m) m ≤ y
  | [], m => ⟨.inl rfl, Int.le_refl _, fun y hy => by cases hy⟩
  | n :: r, m => by
    obtain ⟨h1, h2, h3⟩ := foldmin r (if n < m then n else m)
    simp only [List.foldl_cons]
    refine ⟨?_, ?_, fun y hy => ?_⟩
    · rcases h1 with h1 | h1
      · rw [h1]; split
        · exact .inr List.mem_cons_self
        · exact .inl rfl
      · exact .inr (List.mem_cons_of_mem _ h1)
    · split at h2 <;> split <;> omega
    · rcases List.mem_cons.mp hy with rfl | hy
      · split at h2 <;> split <;> omega
      · exact h3 y hy
theorem maxI_spec {ns : List Int} (h : ns ≠ []) : maxI ns ∈ ns ∧ ∀ y ∈ ns, y ≤ maxI ns := by
  cases ns with
  | nil => exact absurd rfl h
  | cons n r =>
    obtain ⟨h1, h2, h3⟩ := foldmax (n :: r) n
    refine ⟨?_, h3⟩
    rcases h1 with h1 | h1
    · unfold maxI; simp only [List.headD_cons]; rw [h1]; exact List.mem_cons_self
    · exact h1
theorem minI_spec {ns : List Int} (h : ns ≠ []) : minI ns ∈ ns ∧ ∀ y ∈ ns, minI ns ≤ y := by
  cases ns with
  | nil => exact absurd rfl h
  | cons n r =>
    obtain ⟨h1, h2, h3⟩ := foldmin (n :: r) n
    refine ⟨?_, h3⟩
    rcases h1 with h1 | h1
    · unfold minI; simp only [List.headD_cons]; rw [h1]; exact List.mem_cons_self
    · exact h1
theorem rdc_sum : RdC K (rSum K) dSum := by
  intro F H vs ds d Q s r e q
  obtain ⟨ns, rfl, h2⟩ := dInts_some e
  obtain ⟨a, rfl, h3⟩ := one_ints r
  cases h2
  exact ⟨a, ns, rfl, .inl (.inl (s _ _ h3)), q _ _ _ (.refl s) (.int _)⟩
theorem rdc_max1 : RdC K (rMax K) dMax1 := by
  intro F H vs ds d Q s r e q
  obtain ⟨ns, rfl, h2⟩ := dInts_some e
  obtain ⟨a, rfl, h3⟩ := one_ints r
  cases ns with
  | nil => cases h2
  | cons n l =>
    cases h2
    obtain ⟨m1, m2⟩ := maxI_spec (ns := n :: l) (by simp)
    refine ⟨a, n :: l, rfl, .inl (.inl (s _ _ h3)), by simp, fun m hm hy => ?_⟩
    have : m = maxI (n :: l) := Int.le_antisymm (m2 m hm) (hy _ m1)
    subst this
    exact q _ _ _ (.refl s) (.int _)
theorem rdc_min1 : RdC K (rMin K) dMin1 := by
  intro F H vs ds d Q s r e q
  obtain ⟨ns, rfl, h2⟩ := dInts_some e
  obtain ⟨a, rfl, h3⟩ := one_ints r
  cases ns with
  | nil => cases h2
  | cons n l =>
    cases h2
    obtain ⟨m1, m2⟩ := minI_spec (ns := n :: l) (by simp)
    refine ⟨a, n :: l, rfl, .inl (.inl (s _ _ h3)), by simp, fun m hm hy => ?_⟩
    have : m = minI (n :: l) := Int.le_antisymm (hy _ m1) (m2 m hm)
    subst this
    exact q _ _ _ (.refl s) (.int _)
theorem px_sum (hc : X.calm = true) (hm : X.mg "sum" = none) (ha : PAx X M [e] tA gs) (hg : Gl X "sum" := by rfl) (he : starEach [e] X.env = (false, eval e X.env) :: starEach [] X.env := by rfl) : PX X M (.Call (.Name "sum" p) [e] [] pos) (tCB (rSum X.K) tA) (gCall dSum gs) := px_cB (cr_sum hc) rdc_sum hm boot_sum' ha hg (he := he)
theorem px_max1 (hc : X.calm = true) (hm : X.mg "max" = none) (ha : PAx X M [e] tA gs) (hg : Gl X "max" := by rfl) (he : starEach [e] X.env = (false, eval e X.env) :: starEach [] X.env := by rfl) : PX X M (.Call (.Name "max" p) [e] [] pos) (tCB (rMax X.K) tA) (gCall dMax1 gs) := px_cB (cr_max hc) rdc_max1 hm boot_max' ha hg (he := he)
theorem px_min1 (hc : X.calm = true) (hm : X.mg "min" = none) (ha : PAx X M [e] tA gs) (hg : Gl X "min" := by rfl) (he : starEach [e] X.env = (false, eval e X.env) :: starEach [] X.env := by rfl) : PX X M (.Call (.Name "min" p) [e] [] pos) (tCB (rMin X.K) tA) (gCall dMin1 gs) := px_cB (cr_min hc) rdc_min1 hm boot_min' ha hg (he := he)
/-- sorted, of ints -/
def insI (x : Int) : List Int → List Int
  | [] => [x]
  | y :: r => if x ≤ y then x :: y :: r else y :: insI x r
def sortI (ns : List Int) : List Int := ns.foldr insI []
theorem insI_perm (x : Int) : ∀ l : List Int, (insI x l).Perm (x :: l)
  | [] => .refl _
  | y :: r => by
    unfold insI
    split
    · exact .refl _
    · exact ((insI_perm x r).cons y).trans (.swap ..)
theorem sortI_perm : ∀ l : List Int, (sortI l).Perm l
  | [] => .refl _
  | y :: r => (insI_perm y (sortI r)).trans ((sortI_perm r).cons y)
theorem insI_sorted (x : Int) : ∀ {l : List Int}, l.Pairwise (· ≤ ·) → (insI x l).Pairwise (· ≤ ·)
  | [], _ => List.pairwise_singleton ..
  | y :: r, h => by
    unfold insI
    rw [List.pairwise_cons] at h
    split
    · rename_i hx
      refine List.pairwise_cons.mpr ⟨fun z hz => ?_, List.pairwise_cons.mpr h⟩
      rcases List.mem_cons.mp hz with rfl | hz
      · exact hx
      · exact Int.le_trans hx (h.1 z hz)
    · rename_i hx
      refine List.pairwise_cons.mpr ⟨fun z hz => ?_, insI_sorted x h.2⟩
      rcases List.mem_cons.mp ((insI_perm x r).mem_iff.mp hz) with rfl | hz
      · omega
      · exact h.1 z hz
theorem sortI_sorted : ∀ l : List Int, (sortI l).Pairwise (· ≤ ·)
  | [] => .nil
  | y :: r => insI_sorted y (sortI_sorted r)
theorem sorted_uniq : ∀ {l m : List Int}, l.Perm m → l.Pairwise (· ≤ ·) → m.Pairwise (· ≤ ·) → l = m
  | [], m, p, _, _ => (List.Perm.nil_eq p).symm ▸ rfl
  | x :: l, [], p, _, _ => absurd p.length_eq (by simp)
  | x :: l, y :: m, p, h1, h2 => by
    rw [List.pairwise_cons] at h1 h2
    have e : x = y := by
      have a := p.mem_iff.mp (List.mem_cons_self (a := x) (l := l))
      have b := p.mem_iff.mpr (List.mem_cons_self (a := y) (l := m))
      rcases List.mem_cons.mp a with a | a
      · exact a
      · rcases List.mem_cons.mp b with b | b
        · exact b.symm
        · exact Int.le_antisymm (h1.1 _ b) (h2.1 _ a)
    subst e
    rw [sorted_uniq (List.Perm.cons_inv p) h1.2 h2.2]
def dSortI : List D → Option D := dInts fun ns => some (.list ((sortI ns).map PyData.int))
theorem rdc_sortI : RdCF K (rSortedI K) dSortI := by
  intro F H vs ds d Q s r e
  obtain ⟨ns, rfl, h2⟩ := dInts_some e
  obtain ⟨a, rfl, h3⟩ := one_ints r
  cases h2
  refine ⟨_, rfl, fun q => ⟨a, ns, rfl, .inl (.inl (s _ _ h3)), fun ns' p hp hs hn => ?_⟩⟩
  rw [sorted_uniq (hp.trans (sortI_perm ns).symm) hs (sortI_sorted ns)]
  exact q p _ hn (.ints _)
theorem pf_sortI (hm : X.mg "sorted" = none) (ha : PAx X M [e] tA gs) (hg : Gl X "sorted" := by rfl) (he : starEach [e] X.env = (false, eval e X.env) :: starEach [] X.env := by rfl) : PFx X M (.Call (.Name "sorted" p) [e] [] pos) (tCB (rSortedI X.K) tA) (gCall dSortI gs) := pf_cB cr_sortedI rdc_sortI hm boot_sorted' ha hg (he := he)

/-! ### list(range(..)) -/
def rngL (lo hi : Int) : List D := (List.range (hi - lo).toNat).map fun i => .int (lo + (i : Nat))
def dRng : D → D → Option D
  | .int i, .int j => if -16000000 ≤ i ∧ i ≤ 16000000 ∧ -16000000 ≤ j ∧ j ≤ 16000000 ∧ (j - i).toNat ≤ 16000000 then some (.list (rngL i j)) else none
  | _, _ => none
theorem dRng_some {x y d : D} (h : dRng x y = some d) : ∃ i j, x = .int i ∧ y = .int j ∧ (-16000000 ≤ i ∧ i ≤ 16000000 ∧ -16000000 ≤ j ∧ j ≤ 16000000 ∧ (j - i).toNat ≤ 16000000) ∧ d = .list (rngL i j) := by
  cases x <;> cases y <;> simp only [dRng] at h <;> try cases h
  split at h
  · cases h; exact ⟨_, _, rfl, rfl, by assumption, rfl⟩
  · cases h
theorem reps_rng (i j : Int) : Reps K F (rgV i j) (rngL i j) := by
  unfold rgV rngL
  generalize List.range (j - i).toNat = l
  induction l with
  | nil => exact .nil
  | cons x l ih => exact .cons (.int _) ih
theorem pf_lrng1 (hc : X.calm = true) (hm : X.mg "list" = none) (hm2 : X.mg "range" = none) (ha : PX X M a ta ga) {p2 q2 : Pos} (hg : Gl X "list" := by rfl) (hg2 : Gl X "range" := by rfl) (na : starEach [a] X.env = (false, eval a X.env) :: starEach [] X.env := by rfl)
    (nb : starEach [.Call (.Name "range" p2) [a] [] q2] X.env = (false, eval (.Call (.Name "range" p2) [a] [] q2) X.env) :: starEach [] X.env := by rfl) : PFx X M (.Call (.Name "list" p) [.Call (.Name "range" p2) [a] [] q2] [] pos) (tLstRg (tRg1 ta)) (g2 dRng (gC (.int 0)) ga) :=
  ⟨pe_listRg hc hg hm (prg_1 hg2 hm2 ha.pe na) nb, fun F0 H0 F H σ E d Q r e q => by
    obtain ⟨x, y, e1, e2, e3⟩ := g2_some e
    obtain ⟨i, j, rfl, rfl, hz, rfl⟩ := dRng_some e3
    cases e1
    refine ha.rd _ _ _ _ _ _ _ _ r e2 fun v F1 H1 x1 p1 => ?_
    cases p1
    exact ⟨_, rfl, ⟨by omega, by omega, by omega, by omega, by omega⟩, fun l hl => q l _ _ _ _ rfl (x1.trans (.own x1.s hl)) (x1.h.free hl) (x1.s.free hl) upd_same (reps_rng _ _)⟩⟩
theorem pf_lrng2 (hc : X.calm = true) (hm : X.mg "list" = none) (hm2 : X.mg "range" = none) (ha : PX X M a ta ga) (hb : PX X M b tb gb) {p2 q2 : Pos} (hg : Gl X "list" := by rfl) (hg2 : Gl X "range" := by rfl) (na : starEach [a, b] X.env = (false, eval a X.env) :: starEach [b] X.env := by rfl)
    (na2 : starEach [b] X.env = (false, eval b X.env) :: starEach [] X.env := by rfl) (hpp : (backTo q2 (starEach [b] X.env)).any (·.1) = false := by rfl)
    (nb : starEach [.Call (.Name "range" p2) [a, b] [] q2] X.env = (false, eval (.Call (.Name "range" p2) [a, b] [] q2) X.env) :: starEach [] X.env := by rfl) : PFx X M (.Call (.Name "list" p) [.Call (.Name "range" p2) [a, b] [] q2] [] pos) (tLstRg (tRg2 ta tb)) (g2 dRng ga gb) :=
  ⟨pe_listRg hc hg hm (prg_2 hg2 hm2 ha.pe hb.pe na na2 hpp) nb, fun F0 H0 F H σ E d Q r e q => by
    obtain ⟨x, y, e1, e2, e3⟩ := g2_some e
    obtain ⟨i, j, rfl, rfl, hz, rfl⟩ := dRng_some e3
    refine ha.rd _ _ _ _ _ _ _ _ r e1 fun v F1 H1 x1 p1 => hb.rd _ _ _ _ _ _ _ _ (r.grow x1) e2 fun w F2 H2 x2 p2 => ?_
    cases p1
    cases p2
    have x3 := x1.trans x2
    exact ⟨_, _, rfl, rfl, ⟨by omega, by omega, by omega, by omega, by omega⟩, fun l hl => q l _ _ _ _ rfl (x3.trans (.own x3.s hl)) (x3.h.free hl) (x3.s.free hl) upd_same (reps_rng _ _)⟩⟩

/-! ### slices of lists -/
def cutD (xs : List D) (lo hi : Option Int) : List D := (xs.drop (HT.sIx xs.length 0 lo)).take (HT.sIx xs.length xs.length hi - HT.sIx xs.length 0 lo)
theorem Reps.cut {vs : List V} {ds : List D} (r : Reps K F vs ds) (lo hi : Option Int) : Reps K F (cutV vs lo hi) (cutD ds lo hi) := by
  unfold cutV cutD
  rw [r.length]
  exact (r.drop _).take _
structure POx (X : Cx) (M : List Md) (e : Option Expr) (t : TO) (g : En → Option (Option Int)) : Prop where
  pe : PO X e t
  rd : ∀ (F0 H0 F H : Hp) (σ : L2.St) (E : En) (o : Option Int) (Q : Option Int → Hp → Prop), ER X.K M F0 H0 F H σ E → g E = some o → (∀ F' H', Ext F H F' H' → Q o H') → t σ H Q
def gO0 : En → Option (Option Int) := fun _ => some none
def gO (g : Gx) : En → Option (Option Int) := fun E => match g E with | some (.int i) => some (some i) | _ => none
theorem pox_none : POx X M none tNoPart gO0 := ⟨po_none, fun F0 H0 F H σ E o Q r e q => by cases e; exact q F H (.refl r.fs)⟩
theorem pox_some (h : PX X M e t g) : POx X M (some e) (tPart t) (gO g) := ⟨po_some h.pe, fun F0 H0 F H σ E o Q r e q => by
  unfold gO at e
  split at e
  · rename_i i hi
    cases e
    refine h.rd _ _ _ _ _ _ _ _ r hi fun v F1 H1 x1 p1 => ?_
    cases p1
    exact ⟨_, rfl, q _ _ x1⟩
  · cases e⟩
def gSl (ga : Gx) (gl gh : En → Option (Option Int)) : Gx := fun E => match ga E with
  | some (.list xs) => (gl E).bind fun lo => (gh E).bind fun hi => some (.list (cutD xs lo hi))
  | _ => none
theorem gSl_some {ga : Gx} {gl gh : En → Option (Option Int)} {d : D} (h : gSl ga gl gh E = some d) : ∃ xs lo hi, ga E = some (.list xs) ∧ gl E = some lo ∧ gh E = some hi ∧ d = .list (cutD xs lo hi) := by
  unfold gSl at h
  split at h
  · obtain ⟨lo, h1, h2⟩ := Option.bind_eq_some_iff.mp h
    obtain ⟨hi, h3, h4⟩ := Option.bind_eq_some_iff.mp h2
    cases h4
    exact ⟨_, lo, hi, by assumption, h1, h3, rfl⟩
  · cases h
variable {lo hi : Option Expr} {tl th : TO} {gl gh : En → Option (Option Int)} {p2 : Pos}
theorem pf_sl (ha : PLx X M a ta ga) (hl : POx X M lo tl gl) (hh : POx X M hi th gh) : PFx X M (.Subscript a (.Slice lo hi none p2) pos) (tSl (rSlL X.K) ta tl th) (gSl ga gl gh) := ⟨pe_slice sl_list ha.pe hl.pe hh.pe, fun F0 H0 F H σ E d Q r e q => by
  obtain ⟨xs, l, h, e1, e2, e3, rfl⟩ := gSl_some e
  refine ha.rd _ _ _ _ _ _ _ _ r e1 fun a vs F1 H1 x1 s1 p1 => hl.rd _ _ _ _ _ _ _ _ (r.grow x1) e2 fun F2 H2 x2 => hh.rd _ _ _ _ _ _ _ _ ((r.grow x1).grow x2) e3 fun F3 H3 x3 => ?_
  have x := (x1.trans x2).trans x3
  exact ⟨a, vs, rfl, .inl (.inl (x3.h _ _ (x2.h _ _ s1))), fun p hp => q p _ _ _ _ rfl (x.trans (.own x.s hp)) (x.h.free hp) (x.s.free hp) upd_same (((p1.mono x2.f).mono x3.f).cut l h)⟩⟩
/-- .. of the script -/
theorem pf_slS (i : Nat) {x : Str} {pn : Pos} (hl : POx X M lo tl gl) (hh : POx X M hi th gh) (hm : mAt M i = .sc := by rfl) (hN : X.N[i]? = some x := by rfl) (hv : Vis X.env.scope x := by first | exact Or.inl rfl | exact Or.inr (Or.inl rfl) | exact Or.inr (Or.inr rfl))
    (hd : (x == ("__debug__" : Str)) = false := by decide) (hcd : (x == ("__classdict__" : Str)) = false := by decide) : PFx X M (.Subscript (.Name x pn) (.Slice lo hi none p2) pos) (tSl (rSlL X.K) (tVar i) tl th) (gSl (gV i) gl gh) := ⟨pe_slice sl_list (pe_var hN hv hd hcd) hl.pe hh.pe, fun F0 H0 F H σ E d Q r e q => by
  obtain ⟨xs, l, h, e1, e2, e3, rfl⟩ := gSl_some e
  obtain ⟨v, h1, h2⟩ := r.sl i _ (gV_some e1)
  rw [hm] at h2
  obtain ⟨a, vs, ds, rfl, e4, e5, e6⟩ := h2
  cases e4
  refine ⟨_, h1, hl.rd _ _ _ _ _ _ _ _ r e2 fun F2 H2 x2 => hh.rd _ _ _ _ _ _ _ _ (r.grow x2) e3 fun F3 H3 x3 => ?_⟩
  have x := x2.trans x3
  exact ⟨a, vs, rfl, x.s.seq (x.f.seq e5), fun p hp => q p _ _ _ _ rfl (x.trans (.own x.s hp)) (x.h.free hp) (x.s.free hp) upd_same ((e6.mono x.f).cut l h)⟩⟩

/-! ### isinstance -/
def tyName : D → String
  | .none => "NoneType" | .bool _ => "bool" | .int _ => "int" | .str _ => "str" | .list _ => "list" | .tuple _ => "tuple" | .dict _ => "dict"
theorem Rep.ty {v : V} {d : D} (p : Rep K H v d) : TyX K H v (.type (tyName d)) := by
  cases p with
  | non => exact .base .non
  | bl b => exact .base (.bl b)
  | int i => exact .base (.int i)
  | str x => exact .base (.str x)
  | lst s r => exact .base (.lst s)
  | tup s r =>
    rcases s with (s | ⟨o, s⟩) | ⟨o, its, n, h1, h2, _⟩
    · exact .base (.tup s)
    · exact .fTuple s
    · exact .kTuple h1 h2
  | dic s r => exact .base (.dK s)
def isaB (d : D) (n : String) : Bool := tyName d == n || (tyName d == "bool" && n == "int")
theorem kit_isa {K : PySem.W.Frag} (d : D) {n : String} (h : n = "int" ∨ n = "bool" ∨ n = "list" ∨ n = "tuple" ∨ n = "str") : PySem.W.kitOne K (.type (tyName d)) (.type n) = some (isaB d n) := by
  refine kit_ty ?_
  rcases h with rfl | rfl | rfl | rfl | rfl <;> cases d <;> simp only [tyName, isaB] <;> decide +kernel
def dIsa (n : String) (d : D) : Option D := some (.bool (isaB d n))
theorem px_isa {n : String} {x : Str} {p2 : Pos} (hn : n = "int" ∨ n = "bool" ∨ n = "list" ∨ n = "tuple" ∨ n = "str") (hm : X.mg "isinstance" = none) (hb : X.mg x = none) (hbx : bootBuiltins x = some (.type n)) (ha : PX X M e t g) (hg : Gl X "isinstance" := by rfl) (hgx : Gl X x := by rfl) (hxn : x ≠ "__name__" := by decide)
    (hxd : (x == ("__debug__" : Str)) = false := by decide) (he : starEach [e, .Name x p2] X.env = (false, eval e X.env) :: starEach [.Name x p2] X.env := by rfl) (he2 : starEach [.Name x p2] X.env = (false, eval (.Name x p2) X.env) :: starEach [] X.env := by rfl)
    (hpl : (backTo pos (starEach [.Name x p2] X.env)).any (·.1) = false := by rfl) :
    PX X M (.Call (.Name "isinstance" p) [e, .Name x p2] [] pos) (tCB (rIsi X.K) (tCons t (tCons (tC (.ty n)) tNil))) (g1 (dIsa n) g) :=
  ⟨pe_callB call_isi hg hm (by decide +kernel) (pa_cons ha.pe (pa_cons (pe_bltn hgx hb hbx rfl hxn hxd) pa_nil he2) he) (by decide) (by decide) he hpl, fun F0 H0 F H σ E d Q r e q => by
    obtain ⟨y, e1, e2⟩ := g1_some e
    cases e2
    refine ha.rd _ _ _ _ _ _ _ _ r e1 fun v F1 H1 x1 p1 => ?_
    exact ⟨v, .ty n, _, _, _, rfl, .ty n, (p1.mono x1.s).ty, kit_isa _ hn, q _ _ _ x1 (.bl _)⟩⟩
end Pu

namespace Pu
open PySem PySem.Spec PyProof.Rows L2
variable {K : PySem.W.Frag} {H H' F F' : Hp} {M M' M1 : List Md} {F0 H0 F1 H1 : Hp} {σ : L2.St} {E E' : En} {m : Md} {v : V}
variable {X : Cx} {a b c e : Expr} {es : List Expr} {ta tb t : TE} {tc tT : TT} {ga gb gc g : Gx} {p pos : Pos} {tA : TA} {gs : Gl'}

/-! ### stores -/
theorem mAt_set {i j : Nat} {m : Md} (h : j ≠ i) : mAt (M.set i m) j = mAt M j := by
  unfold mAt
  rw [List.getD_eq_getElem?_getD, List.getD_eq_getElem?_getD, List.getElem?_set_ne (Ne.symm h)]
theorem mAt_self {i : Nat} {m : Md} : mAt (M.set i m) i = m ∨ mAt (M.set i m) i = .fr := by
  unfold mAt
  rw [List.getD_eq_getElem?_getD]
  by_cases h : i < M.length
  · exact .inl (by rw [List.getElem?_set_self h]; rfl)
  · exact .inr (by rw [List.getElem?_eq_none (by rw [List.length_set]; omega)]; rfl)
theorem mAt_fr {i : Nat} : mAt (M.set i .fr) i = .fr := by rcases mAt_self (M := M) (i := i) (m := .fr) with h | h <;> exact h
theorem mAt_lt {i : Nat} {m : Md} (h : i < M.length) : mAt (M.set i m) i = m := by
  unfold mAt
  rw [List.getD_eq_getElem?_getD, List.getElem?_set_self h]
  rfl
theorem ER.setF {i : Nat} {v : V} {d : D} (r : ER K M F0 H0 F H σ E) (p : Rep K F v d) : ER K (M.set i .fr) F0 H0 F H (σ.set i (some v)) (E.set i (some d)) := by
  refine ⟨r.ext, r.z, by rw [List.length_set, List.length_set]; exact r.len, fun j e h => ?_, fun j k a x y hjk mj mk ej ek sj sk => ?_⟩
  · by_cases hj : j = i
    · subst hj
      have hl : j < E.length := by
        have := (List.getElem?_eq_some_iff.mp h).1
        rwa [List.length_set] at this
      rw [List.getElem?_set_self hl] at h
      cases h
      exact ⟨v, List.getElem?_set_self (by rw [r.len]; exact hl), by rw [mAt_fr]; exact p⟩
    · rw [List.getElem?_set_ne (Ne.symm hj)] at h
      obtain ⟨w, h1, h2⟩ := r.sl j e h
      exact ⟨w, by rw [List.getElem?_set_ne (Ne.symm hj)]; exact h1, by rw [mAt_set hj]; exact h2⟩
  · have hj : j ≠ i := fun z => by subst z; rw [mAt_fr] at mj; cases mj
    have hk : k ≠ i := fun z => by subst z; rw [mAt_fr] at mk; cases mk
    rw [mAt_set hj] at mj
    rw [mAt_set hk] at mk
    rw [List.getElem?_set_ne (Ne.symm hj)] at ej sj
    rw [List.getElem?_set_ne (Ne.symm hk)] at ek sk
    exact r.ap j k a x y hjk mj mk ej ek sj sk
/-- an object that is not frozen, at a slot -/
theorem ER.setO {i : Nat} {m : Md} {a : Addr} {d : D} (hi : i < M.length) (r : ER K M F0 H0 F H σ E) (x : Ext F H F1 H1) (n : H a = none) (mo : Mow m = true) (p : SlOk K F1 H0 H1 m (.ref a) d) : ER K (M.set i m) F0 H0 F1 H1 (σ.set i (some (.ref a))) (E.set i (some d)) := by
  have r1 := r.grow x
  -- other slots' objects stand already
  have old : ∀ j y b, j ≠ i → Mow (mAt M j) = true → E[j]? = some (some y) → σ[j]? = some (some (.ref b)) → b ≠ a := fun j y b hj mj ej sj => by
    obtain ⟨w, h1, h2⟩ := r.sl j y ej
    rw [sj] at h1
    cases h1
    cases hm : mAt M j with
    | fr => rw [hm] at mj; cases mj
    | sc => rw [hm] at mj; cases mj
    | ol => rw [hm] at h2; obtain ⟨c, vs, ds, e1, e2, e3, e4, e5, e6⟩ := h2; cases e1; exact ne_of_none e5 n
    | od => rw [hm] at h2; obtain ⟨c, vs, ds, e1, e2, e3, e4, e5, e6⟩ := h2; cases e1; exact ne_of_none e5 n
  refine ⟨r1.ext, r1.z, by rw [List.length_set, List.length_set]; exact r1.len, fun j e h => ?_, fun j k b y z hjk mj mk ej ek sj sk => ?_⟩
  · by_cases hj : j = i
    · subst hj
      have hl : j < E.length := by
        have := (List.getElem?_eq_some_iff.mp h).1
        rwa [List.length_set] at this
      rw [List.getElem?_set_self hl] at h
      cases h
      exact ⟨.ref a, List.getElem?_set_self (by rw [r.len]; exact hl), by rw [mAt_lt hi]; exact p⟩
    · rw [List.getElem?_set_ne (Ne.symm hj)] at h
      obtain ⟨w, h1, h2⟩ := r1.sl j e h
      exact ⟨w, by rw [List.getElem?_set_ne (Ne.symm hj)]; exact h1, by rw [mAt_set hj]; exact h2⟩
  · by_cases hj : j = i
    · subst hj
      have hk : k ≠ j := Ne.symm hjk
      rw [mAt_set hk] at mk
      rw [List.getElem?_set_ne (Ne.symm hk)] at ek sk
      have hl : j < E.length := by
        have := (List.getElem?_eq_some_iff.mp ej).1
        rwa [List.length_set] at this
      rw [List.getElem?_set_self (by rw [r.len]; exact hl)] at sj
      cases sj
      exact old k z a hk mk ek sk rfl
    · by_cases hk : k = i
      · subst hk
        rw [mAt_set hj] at mj
        rw [List.getElem?_set_ne (Ne.symm hj)] at ej sj
        have hl : k < E.length := by
          have := (List.getElem?_eq_some_iff.mp ek).1
          rwa [List.length_set] at this
        rw [List.getElem?_set_self (by rw [r.len]; exact hl)] at sk
        cases sk
        exact old j y a hj mj ej sj rfl
      · rw [mAt_set hj] at mj
        rw [mAt_set hk] at mk
        rw [List.getElem?_set_ne (Ne.symm hj)] at ej sj
        rw [List.getElem?_set_ne (Ne.symm hk)] at ek sk
        exact r.ap j k b y z hjk mj mk ej ek sj sk
/-- an object that is not frozen is changed -/
theorem ER.mut {i : Nat} {a : Addr} {o o' : HO} {d d' : D} (r : ER K M F0 H0 F H σ E) (hm : Mow (mAt M i) = true) (he : E[i]? = some (some d)) (hs : σ[i]? = some (some (.ref a))) (f : F a = none) (h0 : H0 a = none) (ho : H a = some o)
    (p : SlOk K F H0 (upd H a o') (mAt M i) (.ref a) d') : ER K M F0 H0 F (upd H a o') σ (E.set i (some d')) := by
  have sf : Same F (upd H a o') := fun b x e => by rw [upd_ne (ne_of_none e f)]; exact r.fs _ _ e
  refine ⟨⟨r.ext.f, fun b x e => by rw [upd_ne (ne_of_none e h0)]; exact r.ext.h _ _ e, sf, r.ext.n⟩, r.z, by rw [List.length_set]; exact r.len, fun j e h => ?_, fun j k b y z hjk mj mk ej ek sj sk => ?_⟩
  · by_cases hj : j = i
    · subst hj
      rw [List.getElem?_set_self (List.getElem?_eq_some_iff.mp he).1] at h
      cases h
      exact ⟨.ref a, hs, p⟩
    · rw [List.getElem?_set_ne (Ne.symm hj)] at h
      obtain ⟨w, h1, h2⟩ := r.sl j e h
      refine ⟨w, h1, ?_⟩
      cases hmj : mAt M j with
      | fr => rw [hmj] at h2; exact h2
      | sc => rw [hmj] at h2; exact h2
      | ol =>
        rw [hmj] at h2
        obtain ⟨c, vs, ds, e1, e2, e3, e4, e5, e6⟩ := h2
        refine ⟨c, vs, ds, e1, e2, e3, e4, ?_, e6⟩
        rw [upd_ne]
        · exact e5
        · rintro rfl
          exact r.ap j i c e d hj (by rw [hmj]; rfl) hm h he (by rw [← e1]; exact h1) hs
      | od =>
        rw [hmj] at h2
        obtain ⟨c, vs, ds, e1, e2, e3, e4, e5, e6⟩ := h2
        refine ⟨c, vs, ds, e1, e2, e3, e4, ?_, e6⟩
        rw [upd_ne]
        · exact e5
        · rintro rfl
          exact r.ap j i c e d hj (by rw [hmj]; rfl) hm h he (by rw [← e1]; exact h1) hs
  · have back : ∀ l w, (E.set i (some d'))[l]? = some (some w) → ∃ w', E[l]? = some (some w') := fun l w h => by
      by_cases hl : l = i
      · subst hl; exact ⟨d, he⟩
      · rw [List.getElem?_set_ne (Ne.symm hl)] at h; exact ⟨w, h⟩
    obtain ⟨y', ej'⟩ := back j y ej
    obtain ⟨z', ek'⟩ := back k z ek
    exact r.ap j k b y' z' hjk mj mk ej' ek' sj sk

/-! ### statements -/
def sNx : Sm := fun E => some (E, .nx)
def sNo : Sm := fun _ => none
def sSeq (a b : Sm) : Sm := fun E => match a E with
  | some (E1, .nx) => b E1
  | r => r
def sRet (g : Gx) : Sm := fun E => (g E).map fun d => (E, .rt d)
def sSet (i : Nat) (g : Gx) : Sm := fun E => (g E).map fun d => (E.set i (some d), .nx)
def sIf (c : Gx) (a b : Sm) : Sm := fun E => match c E with
  | some (.bool true) => a E
  | some (.bool false) => b E
  | _ => none
theorem EndsOk.mono {M' : List Md} {fl : Fl} {De : Ends} (h : EndsOk K M' F0 H0 F fl E' De) (e : Same F F1) : EndsOk K M' F0 H0 F1 fl E' De := by
  cases fl with
  | nx => exact fun F' H' σ' s r => h F' H' σ' (e.trans s) r
  | bk => exact fun F' H' σ' s r => h F' H' σ' (e.trans s) r
  | ct => exact fun F' H' σ' s r => h F' H' σ' (e.trans s) r
  | rt d => exact fun v F' H' s x p => h v F' H' (e.trans s) x p
/-- what break and continue want -/
def Loo (K : PySem.W.Frag) (Mb M' : List Md) (fl : Fl) : Prop := match fl with | .bk => Mb = M' | .ct => Mb = M' | _ => True
/-- the ends of a block: next in M', break and continue in Mb -/
def EndsB (K : PySem.W.Frag) (M' Mb : List Md) (F0 H0 F : Hp) (fl : Fl) (E' : En) (De : Ends) : Prop := match fl with
  | .nx => EndsOk K M' F0 H0 F .nx E' De
  | .bk => EndsOk K Mb F0 H0 F .bk E' De
  | .ct => EndsOk K Mb F0 H0 F .ct E' De
  | .rt d => EndsOk K M' F0 H0 F (.rt d) E' De
theorem EndsB.mono {M' Mb : List Md} {fl : Fl} {De : Ends} (h : EndsB K M' Mb F0 H0 F fl E' De) (e : Same F F1) : EndsB K M' Mb F0 H0 F1 fl E' De := by
  cases fl with
  | nx => exact EndsOk.mono (fl := .nx) h e
  | bk => exact EndsOk.mono (fl := .bk) h e
  | ct => exact EndsOk.mono (fl := .ct) h e
  | rt d => exact fun v F2 H2 s x p => h v F2 H2 (e.trans s) x p
def RdB (K : PySem.W.Frag) (M M' Mb : List Md) (t : TS) (g : Sm) : Prop := ∀ (F0 H0 F H : Hp) (σ : L2.St) (E E' : En) (fl : Fl) (De : Ends), ER K M F0 H0 F H σ E → g E = some (E', fl) →
  EndsB K M' Mb F0 H0 F fl E' De → t De σ H
structure PB (X : Cx) (M M' Mb : List Md) (s : Stmt) (t : TS) (g : Sm) : Prop where
  pe : PS X s t
  rd : RdB X.K M M' Mb t g
structure PBs (X : Cx) (M M' Mb : List Md) (s : List Stmt) (t : TS) (g : Sm) : Prop where
  pe : PSs X s t
  rd : RdB X.K M M' Mb t g
variable {Mb : List Md} {s : Stmt} {ss : List Stmt} {tS uS : TS} {gS hS : Sm}
theorem pb_nil : PBs X M M Mb [] tNext sNx := ⟨pss_nil, fun F0 H0 F H σ E E' fl De r e q => by cases e; exact q F H σ (.refl _) r⟩
theorem rd_seq (ha : RdB K M M1 Mb tS gS) (hb : RdB K M1 M' Mb uS hS) : RdB K M M' Mb (tSeq tS uS) (sSeq gS hS) := fun F0 H0 F H σ E E' fl De r e q => by
  unfold sSeq at e
  split at e
  · rename_i E1 h1
    exact ha _ _ _ _ _ _ _ _ _ r h1 fun F' H' σ' s r' => hb _ _ _ _ _ _ _ _ _ r' e (q.mono s)
  · refine ha _ _ _ _ _ _ _ _ _ r e ?_
    cases fl with
    | nx => rename_i hn; exact absurd e (hn _)
    | bk => exact q
    | ct => exact q
    | rt d => exact q
theorem pb_cons (ha : PB X M M1 Mb s tS gS) (hb : PBs X M1 M' Mb ss uS hS) : PBs X M M' Mb (s :: ss) (tSeq tS uS) (sSeq gS hS) := ⟨pss_cons ha.pe hb.pe, rd_seq ha.rd hb.rd⟩
theorem pb_one (ha : PB X M M' Mb s tS gS) : PBs X M M' Mb [s] tS gS := ⟨pss_one ha.pe, ha.rd⟩
theorem pb_never : PBs X M M' Mb ss tNever sNo := ⟨pss_never, fun F0 H0 F H σ E E' fl De r e q => by cases e⟩
theorem pb_neverS : PB X M M' Mb s tNever sNo := ⟨ps_never, fun F0 H0 F H σ E E' fl De r e q => by cases e⟩
theorem pb_doc {x : Str} {j : Nat} {pos pos' : Pos} : PB X M M Mb (.Expr (.Constant (.str x) j pos) pos') tNext sNx := ⟨ps_doc, fun F0 H0 F H σ E E' fl De r e q => by cases e; exact q F H σ (.refl _) r⟩
theorem pb_ret (h : PX X M e t g) : PB X M M' Mb (.Return (some e) pos) (tRet t) (sRet g) := ⟨ps_ret h.pe, fun F0 H0 F H σ E E' fl De r e q => by
  obtain ⟨d, e1, e2⟩ := Option.map_eq_some_iff.mp e
  cases e2
  exact h.rd _ _ _ _ _ _ _ _ r e1 fun v F' H' x p => q v F' H' x.f (r.ext.trans x) p⟩
theorem pb_break : PB X M M' M (.Break pos) tBreak (fun E => some (E, .bk)) := ⟨ps_break, fun F0 H0 F H σ E E' fl De r e q => by cases e; exact q F H σ (.refl _) r⟩
theorem pb_continue : PB X M M' M (.Continue pos) tCont (fun E => some (E, .ct)) := ⟨ps_continue, fun F0 H0 F H σ E E' fl De r e q => by cases e; exact q F H σ (.refl _) r⟩
theorem pb_if {A B : List Stmt} (hc : PTx X M c tc gc) (ha : PBs X M M' Mb A tS gS) (hb : PBs X M M' Mb B uS hS) : PB X M M' Mb (.If c A B pos) (tIfS tc tS uS) (sIf gc gS hS) := ⟨ps_if hc.pe ha.pe hb.pe, fun F0 H0 F H σ E E' fl De r e q => by
  unfold sIf at e
  split at e
  · rename_i h1
    exact hc.rd _ _ _ _ _ _ _ _ r h1 (fun b F1 H1 eb x1 => by cases eb; exact iteT (ha.rd _ _ _ _ _ _ _ _ _ (r.grow x1) e (q.mono x1.f))) ⟨_, rfl⟩
  · rename_i h1
    exact hc.rd _ _ _ _ _ _ _ _ r h1 (fun b F1 H1 eb x1 => by cases eb; exact iteF (hb.rd _ _ _ _ _ _ _ _ _ (r.grow x1) e (q.mono x1.f))) ⟨_, rfl⟩
  · cases e⟩
/-- name = e -/
theorem rd_set (i : Nat) (h : RdE K M t g) : RdB K M (M.set i .fr) Mb (tAsg t (gName i)) (sSet i g) := fun F0 H0 F H σ E E' fl De r e q => by
  obtain ⟨d, e1, e2⟩ := Option.map_eq_some_iff.mp e
  cases e2
  exact h _ _ _ _ _ _ _ _ r e1 fun v F' H' x p => q F' H' _ x.f ((r.grow x).setF p)
theorem rd_setO (i : Nat) (hi : i < M.length) (h : RdF K M t g) : RdB K M (M.set i .ol) Mb (tAsg t (gName i)) (sSet i g) := fun F0 H0 F H σ E E' fl De r e q => by
  obtain ⟨d, e1, e2⟩ := Option.map_eq_some_iff.mp e
  cases e2
  refine h _ _ _ _ _ _ _ _ r e1 fun a vs ds F' H' ed x n f s p => ?_
  subst ed
  exact q F' H' _ x.f (r.setO hi x n rfl ⟨a, vs, ds, rfl, rfl, f, r.ext.h.free n, s, p⟩)
theorem rd_setD (i : Nat) (hi : i < M.length) (h : RdH K M t g) : RdB K M (M.set i .od) Mb (tAsg t (gName i)) (sSet i g) := fun F0 H0 F H σ E E' fl De r e q => by
  obtain ⟨d, e1, e2⟩ := Option.map_eq_some_iff.mp e
  cases e2
  refine h _ _ _ _ _ _ _ _ r e1 fun a vs ds F' H' ed x n f s p => ?_
  subst ed
  exact q F' H' _ x.f (r.setO hi x n rfl ⟨a, vs, ds, rfl, rfl, f, r.ext.h.free n, s, p⟩)
variable {x : Str} {pos' : Pos}
theorem pb_set (i : Nat) (h : PX X M e t g) (hN : X.N.Nodup) (hx : Loc X.env.scope x := by first | exact .inl rfl | exact .inr rfl) (hi : X.N[i]? = some x := by rfl) (hs : swapsWith e (some (.Name x pos')) pos.line X.env = pure false := by rfl) (hf : X.fn x = true ∨ X.env.scope.names.lookup x = some .local := by exact .inl rfl) :
    PB X M (M.set i .fr) Mb (.Assign [.Name x pos'] e pos) (tAsg t (gName i)) (sSet i g) := ⟨ps_set hN hi hx h.pe hs hf, rd_set i h.rd⟩
theorem pb_setO (i : Nat) (h : PFx X M e t g) (hN : X.N.Nodup) (hx : Loc X.env.scope x := by first | exact .inl rfl | exact .inr rfl) (hi : X.N[i]? = some x := by rfl) (hs : swapsWith e (some (.Name x pos')) pos.line X.env = pure false := by rfl) (hf : X.fn x = true ∨ X.env.scope.names.lookup x = some .local := by exact .inl rfl) (hl : i < M.length := by decide) :
    PB X M (M.set i .ol) Mb (.Assign [.Name x pos'] e pos) (tAsg t (gName i)) (sSet i g) := ⟨ps_set hN hi hx h.pe hs hf, rd_setO i hl h.rd⟩
theorem pb_setD (i : Nat) (h : PHx X M e t g) (hN : X.N.Nodup) (hx : Loc X.env.scope x := by first | exact .inl rfl | exact .inr rfl) (hi : X.N[i]? = some x := by rfl) (hs : swapsWith e (some (.Name x pos')) pos.line X.env = pure false := by rfl) (hf : X.fn x = true ∨ X.env.scope.names.lookup x = some .local := by exact .inl rfl) (hl : i < M.length := by decide) :
    PB X M (M.set i .od) Mb (.Assign [.Name x pos'] e pos) (tAsg t (gName i)) (sSet i g) := ⟨ps_set hN hi hx h.pe hs hf, rd_setD i hl h.rd⟩
/-- freeze ahead of a statement, of a block -/
theorem rd_frz (i : Nat) (hm : Mow (mAt M i) = true) (h : RdB K (M.set i .fr) M' Mb tS gS) : RdB K M M' Mb tS gS := fun F0 H0 F H σ E E' fl De r e q => by
  obtain ⟨F2, s1, s2, r2⟩ := r.freeze hm
  exact h _ _ _ _ _ _ _ _ _ r2 e (q.mono s1)
theorem pb_frz (i : Nat) (h : PB X (M.set i .fr) M' Mb s tS gS) (hm : Mow (mAt M i) = true := by rfl) : PB X M M' Mb s tS gS := ⟨h.pe, rd_frz i hm h.rd⟩
theorem pbs_frz (i : Nat) (h : PBs X (M.set i .fr) M' Mb ss tS gS) (hm : Mow (mAt M i) = true := by rfl) : PBs X M M' Mb ss tS gS := ⟨h.pe, rd_frz i hm h.rd⟩
/-- freeze behind a block -/
theorem pbs_frzE (i : Nat) (h : PBs X M M' Mb ss tS gS) (hm : Mow (mAt M' i) = true := by rfl) : PBs X M (M'.set i .fr) Mb ss tS gS := ⟨h.pe, fun F0 H0 F H σ E E' fl De r e q => by
  refine h.rd _ _ _ _ _ _ _ _ _ r e ?_
  cases fl with
  | nx =>
    intro F' H' σ' s r'
    obtain ⟨F2, s1, s2, r2⟩ := r'.freeze hm
    exact q F2 H' σ' (s.trans s1) r2
  | bk => exact q
  | ct => exact q
  | rt d => exact q⟩

/-! ### changes of what is not frozen -/
def sApp (i : Nat) (g : Gx) : Sm := fun E => match gV i E with
  | some (.list xs) => (g E).bind fun d => gd (xs.length + 1) (E.set i (some (.list (xs ++ [d]))), .nx)
  | _ => none
theorem sApp_some {i : Nat} {r : En × Fl} (h : sApp i g E = some r) : ∃ xs d, gV i E = some (.list xs) ∧ g E = some d ∧ xs.length + 1 ≤ 16000000 ∧ r = (E.set i (some (.list (xs ++ [d]))), .nx) := by
  unfold sApp at h
  split at h
  · obtain ⟨d, h1, h2⟩ := Option.bind_eq_some_iff.mp h
    obtain ⟨hz, rfl⟩ := gd_some h2
    exact ⟨_, d, by assumption, h1, hz, rfl⟩
  · cases h
/-- the slot i, not frozen: its list -/
theorem ER.ol {i : Nat} {xs : List D} (r : ER K M F0 H0 F H σ E) (hm : mAt M i = .ol) (e : gV i E = some (.list xs)) : ∃ a vs, σ[i]? = some (some (.ref a)) ∧ F a = none ∧ H0 a = none ∧ H a = some (.lst vs) ∧ Reps K F vs xs := by
  obtain ⟨v, h1, h2⟩ := r.sl i _ (gV_some e)
  rw [hm] at h2
  obtain ⟨a, vs, ds, rfl, e2, e3, e4, e5, e6⟩ := h2
  cases e2
  exact ⟨a, vs, h1, e3, e4, e5, e6⟩
theorem ER.od {i : Nat} {xs : List (D × D)} (r : ER K M F0 H0 F H σ E) (hm : mAt M i = .od) (e : gV i E = some (.dict xs)) : ∃ a vs, σ[i]? = some (some (.ref a)) ∧ F a = none ∧ H0 a = none ∧ H a = some (.dK vs) ∧ RepK K F vs xs := by
  obtain ⟨v, h1, h2⟩ := r.sl i _ (gV_some e)
  rw [hm] at h2
  obtain ⟨a, vs, ds, rfl, e2, e3, e4, e5, e6⟩ := h2
  cases e2
  exact ⟨a, vs, h1, e3, e4, e5, e6⟩
theorem pb_app (i : Nat) {ap cp pn : Pos} (h : PX X M e t g) (hm : mAt M i = .ol := by rfl) (hN : X.N[i]? = some x := by rfl) (hv : Vis X.env.scope x := by first | exact Or.inl rfl | exact Or.inr (Or.inl rfl) | exact Or.inr (Or.inr rfl)) (hd : (x == ("__debug__" : Str)) = false := by decide) (hcd : (x == ("__classdict__" : Str)) = false := by decide)
    (hbase : attributeBase (.Name x pn) "append" X.env (eval (.Name x pn) X.env) = eval (.Name x pn) X.env := by rfl)
    (hfew : ((backTo cp (starEach [e] X.env)).all (fun x => !x.1) && (backToKw cp (keywordEach [] X.env)).all (fun x => x.1.isSome) && decide (([e] : List Expr).length + ([] : List Keyword).length + (if ([] : List Keyword).isEmpty then 0 else 1) < 30)) = true := by rfl)
    (hline : (ap.endLine == cp.line) = true := by rfl) (hst : starEach [e] X.env = (false, eval e X.env) :: starEach [] X.env := by rfl) (hsw : swapsWith (.Call (.Attribute (.Name x pn) "append" ap) [e] [] cp) none pos.line X.env = pure false := by rfl) :
    PB X M M Mb (.Expr (.Call (.Attribute (.Name x pn) "append" ap) [e] [] cp) pos) (tDrop (tBM X.K "list" rAppend (tVar i) (tCons t tNil))) (sApp i g) :=
  ⟨ps_expr (pe_bm PySem.F.plainAttrs_list PySem.F.slot_list_append PySem.F.type_list_append mt_append (pe_var hN hv hd hcd) (pa_cons h.pe pa_nil hst) hbase hfew hline hst) hsw, fun F0 H0 F H σ E E' fl De r e q => by
    obtain ⟨xs, d, e1, e2, hz, er⟩ := sApp_some e
    cases er
    obtain ⟨a, vs, h1, h2, h3, h4, h5⟩ := r.ol hm e1
    refine ⟨_, h1, .inl ⟨rfl, vs, .inl (.inl h4)⟩, h.rd _ _ _ _ _ _ _ _ r e2 fun w F1 H1 x1 p1 => ?_⟩
    have hl : vs.length < sizeLine := by rw [h5.length]; exact Nat.lt_of_lt_of_le (Nat.lt_succ_self _) (Nat.le_of_lt (gd_line hz))
    refine ⟨a, vs, w, rfl, rfl, x1.h _ _ h4, hl, ?_⟩
    have r1 := r.grow x1
    exact q F1 _ σ x1.f (r1.mut (by rw [hm]; rfl) (gV_some e1) h1 (x1.n _ _ h4 h2) h3 (x1.h _ _ h4) (by rw [hm]; exact ⟨a, _, _, rfl, rfl, x1.n _ _ h4 h2, h3, upd_same, (h5.mono x1.f).app (.cons p1 .nil)⟩))⟩
def sExt (i : Nat) (g : Gx) : Sm := fun E => match gV i E, g E with
  | some (.list xs), some (.list ys) => gd (xs.length + ys.length) (E.set i (some (.list (xs ++ ys))), .nx)
  | _, _ => none
theorem pb_ext (i : Nat) {ap cp pn : Pos} (h : PLx X M e t g) (hm : mAt M i = .ol := by rfl) (hN : X.N[i]? = some x := by rfl) (hv : Vis X.env.scope x := by first | exact Or.inl rfl | exact Or.inr (Or.inl rfl) | exact Or.inr (Or.inr rfl)) (hd : (x == ("__debug__" : Str)) = false := by decide) (hcd : (x == ("__classdict__" : Str)) = false := by decide)
    (hbase : attributeBase (.Name x pn) "extend" X.env (eval (.Name x pn) X.env) = eval (.Name x pn) X.env := by rfl)
    (hfew : ((backTo cp (starEach [e] X.env)).all (fun x => !x.1) && (backToKw cp (keywordEach [] X.env)).all (fun x => x.1.isSome) && decide (([e] : List Expr).length + ([] : List Keyword).length + (if ([] : List Keyword).isEmpty then 0 else 1) < 30)) = true := by rfl)
    (hline : (ap.endLine == cp.line) = true := by rfl) (hst : starEach [e] X.env = (false, eval e X.env) :: starEach [] X.env := by rfl) (hsw : swapsWith (.Call (.Attribute (.Name x pn) "extend" ap) [e] [] cp) none pos.line X.env = pure false := by rfl) :
    PB X M M Mb (.Expr (.Call (.Attribute (.Name x pn) "extend" ap) [e] [] cp) pos) (tDrop (tBM X.K "list" rExtend (tVar i) (tCons t tNil))) (sExt i g) :=
  ⟨ps_expr (pe_bm PySem.F.plainAttrs_list PySem.F.slot_list_extend PySem.F.type_list_extend mt_extend (pe_var hN hv hd hcd) (pa_cons h.pe pa_nil hst) hbase hfew hline hst) hsw, fun F0 H0 F H σ E E' fl De r e q => by
    unfold sExt at e
    split at e
    · rename_i xs ys e1 e2
      obtain ⟨hz, er⟩ := gd_some e
      cases er
      obtain ⟨a, vs, h1, h2, h3, h4, h5⟩ := r.ol hm e1
      refine ⟨_, h1, .inl ⟨rfl, vs, .inl (.inl h4)⟩, h.rd _ _ _ _ _ _ _ _ r e2 fun b ws F1 H1 x1 s1 p1 => ?_⟩
      rw [← h5.length, ← p1.length] at hz
      refine ⟨a, b, vs, ws, rfl, rfl, x1.h _ _ h4, s1, Nat.le_of_lt (gd_line hz), ?_⟩
      have r1 := r.grow x1
      exact q F1 _ σ x1.f (r1.mut (by rw [hm]; rfl) (gV_some e1) h1 (x1.n _ _ h4 h2) h3 (x1.h _ _ h4) (by rw [hm]; exact ⟨a, _, _, rfl, rfl, x1.n _ _ h4 h2, h3, upd_same, (h5.mono x1.f).app p1⟩))
    · cases e⟩
/-- xs.insert(k, e) -/
def insD (xs : List D) (k : Nat) (d : D) : List D := xs.take k ++ [d] ++ xs.drop k
def sIns (i : Nat) (gk g : Gx) : Sm := fun E => match gV i E, gk E, g E with
  | some (.list xs), some (.int k), some d => if 0 ≤ k ∧ k < 16000000 ∧ xs.length + 1 ≤ 16000000 then some (E.set i (some (.list (insD xs k.toNat d))), .nx) else none
  | _, _, _ => none
/-- xs[k] = e -/
def sSetIx (i : Nat) (gk g : Gx) : Sm := fun E => match g E, gV i E, gk E with
  | some d, some (.list xs), some (.int k) => (ixN xs.length k).map fun j => (E.set i (some (.list (xs.set j d))), .nx)
  | _, _, _ => none
theorem pb_setIx (i : Nat) {tk : TE} {gk : Gx} {k : Expr} {pn ps : Pos} (h : PX X M e t g) (hk : PX X M k tk gk) (hm : mAt M i = .ol := by rfl) (hN : X.N[i]? = some x := by rfl) (hv : Vis X.env.scope x := by first | exact Or.inl rfl | exact Or.inr (Or.inl rfl) | exact Or.inr (Or.inr rfl)) (hd : (x == ("__debug__" : Str)) = false := by decide) (hcd : (x == ("__classdict__" : Str)) = false := by decide)
    (ha : ∀ v, assign (.Subscript (.Name x pn) k ps) X.env v = (do
      let ov ← holding [v] (eval (.Name x pn) X.env)
      let iv ← holding [v, ov] (eval k X.env)
      standAt ps
      holding [v, ov, iv] (setItem ov iv v)
      release [v, ov, iv] []) := by intro _; rfl)
    (hs : swapsWithSole [.Subscript (.Name x pn) k ps] e pos.line X.env = pure false := by rfl) (hw : swappedStores [.Subscript (.Name x pn) k ps] e X.env = pure none := by rfl)
    (h1 : (assignEach [.Subscript (.Name x pn) k ps] X.env).map (·.2) = [assign (.Subscript (.Name x pn) k ps) X.env] := by rfl) :
    PB X M M Mb (.Assign [.Subscript (.Name x pn) k ps] e pos) (tAsg t (gSub (tVar i) tk rSetL)) (sSetIx i gk g) :=
  ⟨ps_asg h.pe (pg_sub (pe_var hN hv hd hcd) hk.pe set_list ha) hs hw h1, fun F0 H0 F H σ E E' fl De r e q => by
    unfold sSetIx at e
    split at e
    · rename_i d xs k e1 e2 e3
      obtain ⟨j, h3, h4⟩ := Option.map_eq_some_iff.mp e
      cases h4
      obtain ⟨a, vs, g1, g2, g3, g4, g5⟩ := r.ol hm e2
      refine h.rd _ _ _ _ _ _ _ _ r e1 fun w F1 H1 x1 p1 => ⟨_, g1, hk.rd _ _ _ _ _ _ _ _ (r.grow x1) e3 fun u F2 H2 x2 p2 => ?_⟩
      cases p2
      have x3 := x1.trans x2
      refine ⟨a, vs, k, j, rfl, rfl, x3.h _ _ g4, by rw [g5.length]; exact h3, ?_⟩
      exact q F2 _ σ x3.f ((r.grow x3).mut (by rw [hm]; rfl) (gV_some e2) g1 (x3.n _ _ g4 g2) g3 (x3.h _ _ g4) (by rw [hm]; exact ⟨a, _, _, rfl, rfl, x3.n _ _ g4 g2, g3, upd_same, Reps.set (p1.mono x2.f) j (g5.mono x3.f)⟩))
    · cases e⟩
/-- d[k] = e -/
def putD (ks : List (D × D)) (k : D) (d : D) : List (D × D) := match keyOf k with
  | some k' => if (lookK ks k').isSome then ks.map (fun p => if keyEq p.1 k' then (p.1, d) else p) else ks ++ [(k, d)]
  | none => ks
theorem RepK.put : ∀ {kvs : List (Key × V)} {ks : List (D × D)} {k : Key} {v : V} {d : D}, RepK K F kvs ks → Rep K F v d → RepK K F (putK kvs k v) (putD ks (keyD k) d) := by
  intro kvs ks k v d r p
  have hk : keyOf (keyD k) = some k := by cases k <;> rfl
  have app : ∀ {kvs : List (Key × V)} {ks : List (D × D)}, RepK K F kvs ks → RepK K F (kvs ++ [(k, v)]) (ks ++ [(keyD k, d)]) := by
    intro kvs ks r
    induction kvs generalizing ks with
    | nil => cases r; exact .cons p .nil
    | cons a l ih => cases r with | cons q r => exact .cons q (ih r)
  have mp : ∀ {kvs : List (Key × V)} {ks : List (D × D)}, RepK K F kvs ks → RepK K F (kvs.map fun kv => if kv.1 = k then (kv.1, v) else kv) (ks.map fun p => if keyEq p.1 k then (p.1, d) else p) := by
    intro kvs ks r
    induction kvs generalizing ks with
    | nil => cases r; exact .nil
    | cons a l ih =>
      cases r with
      | cons q r =>
        simp only [List.map_cons, keyEq_keyD]
        split
        · rename_i h; simp only [h, decide_true, if_true]; exact .cons p (ih r)
        · rename_i h; simp only [h, decide_false, Bool.false_eq_true, if_false]; exact .cons q (ih r)
  unfold putK putD
  rw [hk]
  dsimp only
  rw [valV_any]
  rcases r.look k with ⟨w, z, h1, h2, _⟩ | ⟨h1, h2⟩
  · rw [h1, h2]; exact mp r
  · rw [h1, h2]; exact app r
def sPut (i : Nat) (gk g : Gx) : Sm := fun E => match g E, gV i E, gk E with
  | some d, some (.dict ks), some k => (keyOf k).bind fun _ => gd (ks.length + 1) (E.set i (some (.dict (putD ks k d))), .nx)
  | _, _, _ => none
theorem RepK.length : ∀ {kvs : List (Key × V)} {ks : List (D × D)}, RepK K F kvs ks → kvs.length = ks.length
  | _, _, .nil => rfl
  | _, _, .cons _ r => by simp [RepK.length r]
theorem keyD_of {d : D} {k : Key} (h : keyOf d = some k) : d = keyD k := by
  cases d <;> simp [keyOf] at h <;> subst h <;> rfl
theorem pb_put (i : Nat) {tk : TE} {gk : Gx} {k : Expr} {pn ps : Pos} (hu : X.A.units + 1 < cLine) (h : PX X M e t g) (hk : PX X M k tk gk) (hm : mAt M i = .od := by rfl) (hN : X.N[i]? = some x := by rfl) (hv : Vis X.env.scope x := by first | exact Or.inl rfl | exact Or.inr (Or.inl rfl) | exact Or.inr (Or.inr rfl)) (hd : (x == ("__debug__" : Str)) = false := by decide) (hcd : (x == ("__classdict__" : Str)) = false := by decide)
    (hs : swapsWith e (some (.Subscript (.Name x pn) k ps)) pos.line X.env = pure false := by rfl) :
    PB X M M Mb (.Assign [.Subscript (.Name x pn) k ps] e pos) (sDPut (tVar i) tk t) (sPut i gk g) :=
  ⟨ps_dput hu (pe_var hN hv hd hcd) hk.pe h.pe hs, fun F0 H0 F H σ E E' fl De r e q => by
    unfold sPut at e
    split at e
    · rename_i d ks kd e1 e2 e3
      obtain ⟨k', h3, h4⟩ := Option.bind_eq_some_iff.mp e
      obtain ⟨hz, er⟩ := gd_some h4
      cases er
      obtain ⟨a, kvs, g1, g2, g3, g4, g5⟩ := r.od hm e2
      refine h.rd _ _ _ _ _ _ _ _ r e1 fun w F1 H1 x1 p1 => ⟨_, g1, hk.rd _ _ _ _ _ _ _ _ (r.grow x1) e3 fun u F2 H2 x2 p2 => ?_⟩
      have x3 := x1.trans x2
      rw [keyOf_rep p2 h3]
      have hl : kvs.length < sizeLine := by rw [g5.length]; exact Nat.lt_of_lt_of_le (Nat.lt_succ_self _) (Nat.le_of_lt (gd_line hz))
      refine ⟨a, _, rfl, DPut.k (x3.h _ _ g4) hl, ?_⟩
      rw [keyD_of h3] at *
      exact q F2 _ σ x3.f ((r.grow x3).mut (by rw [hm]; rfl) (gV_some e2) g1 (x3.n _ _ g4 g2) g3 (x3.h _ _ g4) (by rw [hm]; exact ⟨a, _, _, rfl, rfl, x3.n _ _ g4 g2, g3, upd_same, (g5.mono x3.f).put (p1.mono x2.f)⟩))
    · cases e⟩
end Pu

namespace Pu
open PySem PySem.Spec PyProof.Rows L2
variable {K : PySem.W.Frag} {H H' F F' : Hp} {M M' M1 Mb : List Md} {F0 H0 F1 H1 : Hp} {σ : L2.St} {E E' : En} {m : Md} {v : V}
variable {X : Cx} {a b c e : Expr} {es : List Expr} {ta tb t : TE} {tc tT : TT} {ga gb gc g : Gx} {p pos : Pos} {tA : TA} {gs : Gl'}
variable {s : Stmt} {ss : List Stmt} {tS uS : TS} {gS hS : Sm}

/-! ### targets -/
abbrev Tg := D → En → Option En
abbrev Tgs := List D → En → Option En
def tN (i : Nat) : Tg := fun d E => some (E.set i (some d))
def tgN : Tgs := fun ds E => match ds with | [] => some E | _ => none
def tgC (a : Tg) (r : Tgs) : Tgs := fun ds E => match ds with | d :: ds => (a d E).bind (r ds) | [] => none
def tTup (r : Tgs) : Tg := fun d E => match d with | .tuple ds => r ds E | _ => none
def tUnl (r : Tgs) : Tg := fun d E => match d with | .list ds => r ds E | _ => none
/-- M' behind the store; is: the slots that are stored -/
def RdG (K : PySem.W.Frag) (M M' : List Md) (is : List Nat) (gt : TG) (tg : Tg) : Prop := ∀ (F0 H0 F H : Hp) (σ : L2.St) (E E' : En) (v : V) (d : D) (Q : L2.St → Hp → Prop), ER K M F0 H0 F H σ E → Rep K F v d → tg d E = some E' →
  (∀ σ', ER K M' F0 H0 F H σ' E' → (∀ vs, (∀ i ∈ is, i ∈ vs) → wipe σ' vs = wipe σ vs) → Q σ' H) → gt v σ H Q
def RdGs (K : PySem.W.Frag) (M M' : List Md) (is : List Nat) (gt : TGs) (tg : Tgs) : Prop := ∀ (F0 H0 F H : Hp) (σ : L2.St) (E E' : En) (vs : List V) (ds : List D) (Q : L2.St → Hp → Prop), ER K M F0 H0 F H σ E → Reps K F vs ds → tg ds E = some E' →
  (∀ σ', ER K M' F0 H0 F H σ' E' → (∀ vs, (∀ i ∈ is, i ∈ vs) → wipe σ' vs = wipe σ vs) → Q σ' H) → gt vs σ H Q
structure PGx (X : Cx) (M M' : List Md) (is : List Nat) (e : Expr) (gt : TG) (tg : Tg) : Prop where
  pe : PG X e gt
  rd : RdG X.K M M' is gt tg
structure PGsx (X : Cx) (M M' : List Md) (is : List Nat) (es : List Expr) (gt : TGs) (tg : Tgs) : Prop where
  pe : PGs X es gt
  rd : RdGs X.K M M' is gt tg
theorem wipe_set {x : Option V} : ∀ {vs : List Nat} {i : Nat} {σ : L2.St}, i ∈ vs → wipe (σ.set i x) vs = wipe σ vs
  | [], _, _, h => by cases h
  | w :: vs, i, σ, h => by
    have comm : ∀ {vs : List Nat}, i ∉ vs → wipe (σ.set i x) vs = (wipe σ vs).set i x := by
      intro vs
      induction vs with
      | nil => intro _; rfl
      | cons y l ih =>
        intro hn
        simp only [List.mem_cons, not_or] at hn
        unfold wipe
        rw [ih hn.2, List.set_comm _ _ hn.1]
    unfold wipe
    by_cases hi : i ∈ vs
    · rw [wipe_set hi]
    · rcases List.mem_cons.mp h with rfl | h
      · rw [comm hi, List.set_set]
      · exact absurd h hi
variable {x : Str}
theorem pgx_name (i : Nat) (hN : X.N.Nodup) (hi : X.N[i]? = some x := by rfl) (hx : Loc X.env.scope x := by first | exact .inl rfl | exact .inr rfl) (hf : X.fn x = true ∨ X.env.scope.names.lookup x = some .local := by first | exact .inl rfl | exact .inr rfl) : PGx X M (M.set i .fr) [i] (.Name x pos) (gName i) (tN i) := ⟨pg_name hN hi hx hf, fun F0 H0 F H σ E E' v d Q r p e q => by
  cases e
  exact q _ (r.setF p) fun vs h => wipe_set (h i (by simp))⟩
theorem pgsx_nil : PGsx X M M [] [] gNil tgN := ⟨pgs_nil, fun F0 H0 F H σ E E' vs ds Q r p e q => by
  cases p with
  | nil => cases e; exact ⟨rfl, q _ r fun _ _ => rfl⟩
  | cons _ _ => cases e⟩
theorem pgsx_cons {is js : List Nat} {gt : TG} {gts : TGs} {tg : Tg} {tgs : Tgs} (h1 : PGx X M M1 is e gt tg) (h2 : PGsx X M1 M' js es gts tgs)
    (hs : (assignEach (e :: es) X.env).map (·.2) = assign e X.env :: (assignEach es X.env).map (·.2) := by rfl) : PGsx X M M' (is ++ js) (e :: es) (gCons gt gts) (tgC tg tgs) := ⟨pgs_cons h1.pe h2.pe hs, fun F0 H0 F H σ E E' vs ds Q r p e q => by
  cases p with
  | nil => cases e
  | cons p1 p2 =>
    obtain ⟨E1, e1, e2⟩ := Option.bind_eq_some_iff.mp e
    refine ⟨_, _, rfl, h1.rd _ _ _ _ _ _ _ _ _ _ r p1 e1 fun σ1 r1 w1 => h2.rd _ _ _ _ _ _ _ _ _ _ r1 p2 e2 fun σ2 r2 w2 => q _ r2 fun vs h => ?_⟩
    rw [w2 vs fun i hi => h i (List.mem_append_right _ hi), w1 vs fun i hi => h i (List.mem_append_left _ hi)]⟩
theorem pgx_tup {is : List Nat} {gts : TGs} {tgs : Tgs} {n k : Nat} (hc : X.calm = true) (hl : ∀ ds E E', tgs ds E = some E' → ds.length = n) (h : PGsx X M M' is es gts tgs) (hn : (assignEach es X.env).length = n := by rfl) (hst : (assignEach es X.env).findIdx? (·.1) = none := by rfl) :
    PGx X M M' is (.Tuple es k pos) (gTup X.K n gts) (tTup tgs) := ⟨pg_tup hc h.pe hn hst, fun F0 H0 F H σ E E' v d Q r p e q => by
  cases p <;> try (cases e; done)
  rename_i s1 r1
  exact ⟨_, _, rfl, same_T r.fs s1, by rw [r1.length]; exact hl _ _ _ e, h.rd _ _ _ _ _ _ _ _ _ _ r r1 e q⟩⟩
theorem pgx_unl {is : List Nat} {gts : TGs} {tgs : Tgs} {n k : Nat} (hc : X.calm = true) (hl : ∀ ds E E', tgs ds E = some E' → ds.length = n) (h : PGsx X M M' is es gts tgs) (hn : (assignEach es X.env).length = n := by rfl) (hst : (assignEach es X.env).findIdx? (·.1) = none := by rfl) :
    PGx X M M' is (.Tuple es k pos) (gUnl X.K n gts) (tUnl tgs) := ⟨pg_unl hc h.pe hn hst, fun F0 H0 F H σ E E' v d Q r p e q => by
  cases p <;> try (cases e; done)
  rename_i s1 r1
  exact ⟨_, _, rfl, .inl (.inl (r.fs _ _ s1)), by rw [r1.length]; exact hl _ _ _ e, h.rd _ _ _ _ _ _ _ _ _ _ r r1 e q⟩⟩
theorem two_len {i j : Nat} {ds : List D} {E E' : En} (h : tgC (tN i) (tgC (tN j) tgN) ds E = some E') : ds.length = 2 := by
  match ds, h with
  | [_, _], _ => rfl
theorem three_len {i j k : Nat} {ds : List D} {E E' : En} (h : tgC (tN i) (tgC (tN j) (tgC (tN k) tgN)) ds E = some E') : ds.length = 3 := by
  match ds, h with
  | [_, _, _], _ => rfl
/-- targets = e -/
def sAsg (g : Gx) (tg : Tg) : Sm := fun E => (g E).bind fun d => (tg d E).map fun E1 => (E1, .nx)
theorem pb_asg {is : List Nat} {gt : TG} {tg : Tg} {te : Expr} (h : PX X M e t g) (hg : PGx X M M' is te gt tg) (hs : swapsWithSole [te] e pos.line X.env = pure false := by rfl) (hw : swappedStores [te] e X.env = pure none := by rfl)
    (h1 : (assignEach [te] X.env).map (·.2) = [assign te X.env] := by rfl) : PB X M M' Mb (.Assign [te] e pos) (tAsg t gt) (sAsg g tg) := ⟨ps_asg h.pe hg.pe hs hw h1, fun F0 H0 F H σ E E' fl De r e q => by
  obtain ⟨d, e1, e2⟩ := Option.bind_eq_some_iff.mp e
  obtain ⟨E1, e3, e4⟩ := Option.map_eq_some_iff.mp e2
  cases e4
  exact h.rd _ _ _ _ _ _ _ _ r e1 fun v F1 H1 x1 p1 => hg.rd _ _ _ _ _ _ _ _ _ _ (r.grow x1) p1 e3 fun σ' r' _ => q _ _ _ x1.f r'⟩
/-- a, b = x, y -/
def sPar (i j : Nat) (ga gb : Gx) : Sm := fun E => (ga E).bind fun x => (gb E).map fun y => ((E.set i (some x)).set j (some y), .nx)
theorem pb_par (i j : Nat) {x y : Str} {px py pt pt2 : Pos} {kt k2 : Nat} (hc : X.calm = true) (hN : X.N.Nodup) (ha : PX X M a ta ga) (hb : PX X M b tb gb) (hi : X.N[i]? = some x := by rfl) (hj : X.N[j]? = some y := by rfl) (hij : i ≠ j := by decide)
    (hx : X.env.scope.names.lookup x = some .local := by rfl) (hy : X.env.scope.names.lookup y = some .local := by rfl)
    (hsa : starEach [a, b] X.env = (false, eval a X.env) :: starEach [b] X.env := by rfl) (hsb : starEach [b] X.env = (false, eval b X.env) :: starEach [] X.env := by rfl)
    (hw : swappedStores [.Tuple [.Name x px, .Name y py] kt pt] (.Tuple [a, b] k2 pt2) X.env = pure (some [x, y]) := by rfl)
    (hs : swapsWithSole [.Tuple [.Name x px, .Name y py] kt pt] (.Tuple [a, b] k2 pt2) pos.line X.env = pure false := by rfl) :
    PB X M ((M.set i .fr).set j .fr) Mb (.Assign [.Tuple [.Name x px, .Name y py] kt pt] (.Tuple [a, b] k2 pt2) pos) (tPar i j (tCons ta (tCons tb tNil))) (sPar i j ga gb) :=
  ⟨ps_par hc hN hi hj hij hx hy (pa_cons ha.pe (pa_cons hb.pe pa_nil hsb) hsa) hw hs, fun F0 H0 F H σ E E' fl De r e q => by
    obtain ⟨d, e1, e2⟩ := Option.bind_eq_some_iff.mp e
    obtain ⟨d2, e3, e4⟩ := Option.map_eq_some_iff.mp e2
    cases e4
    refine ha.rd _ _ _ _ _ _ _ _ r e1 fun v F1 H1 x1 p1 => hb.rd _ _ _ _ _ _ _ _ (r.grow x1) e3 fun w F2 H2 x2 p2 => ⟨v, w, rfl, ?_⟩
    exact q F2 H2 _ (x1.f.trans x2.f) ((((r.grow x1).grow x2).setF (p1.mono x2.f)).setF p2)⟩

/-! ### what is walked -/
/-- J yields xs wherever what is frozen stands -/
structure JOk (K : PySem.W.Frag) (F : Hp) (J : It) (xs : List D) : Prop where
  stop : ∀ H i, Same F H → xs.length ≤ i → J.stop i H
  go : ∀ H i d, Same F H → xs[i]? = some d → J.go i H ∧ ∀ y H', J.yld i H y H' → H' = H ∧ Rep K F y d
def RdI (K : PySem.W.Frag) (M : List Md) (wi : TI) (g : Gl') : Prop := ∀ (F0 H0 F H : Hp) (σ : L2.St) (E : En) (xs : List D) (R : It → Hp → Prop), ER K M F0 H0 F H σ E → g E = some xs →
  (∀ J F' H', Ext F H F' H' → JOk K F' J xs → R J H') → wi σ H R
structure PIx (X : Cx) (M : List Md) (tg e : Expr) (wi : TI) (g : Gl') : Prop where
  pe : PI X tg e wi
  rd : RdI X.K M wi g
def iL (g : Gx) : Gl' := fun E => match g E with | some (.list xs) => some xs | _ => none
def iT (g : Gx) : Gl' := fun E => match g E with | some (.tuple xs) => some xs | _ => none
theorem jok_list {a : Addr} {vs : List V} {xs : List D} (h : F a = some (.lst vs)) (r : Reps K F vs xs) : JOk K F (Itl K a) xs := ⟨fun H i s hi => ⟨vs, .inl (.inl (s _ _ h)), by rw [r.length]; exact hi⟩, fun H i d s hd => by
  obtain ⟨v, h1, h2⟩ := r.getD hd
  refine ⟨⟨vs, v, .inl (.inl (s _ _ h)), h1⟩, fun y H' hy => ?_⟩
  obtain ⟨e, hy⟩ := hy
  have := hy vs (.inl (.inl (s _ _ h)))
  rw [h1] at this
  cases this
  exact ⟨e, h2⟩⟩
theorem jok_tup {a : Addr} {vs : List V} {xs : List D} (h : SqT K F a vs) (r : Reps K F vs xs) : JOk K F (Itt K a) xs := ⟨fun H i s hi => ⟨vs, same_T s h, by rw [r.length]; exact hi⟩, fun H i d s hd => by
  obtain ⟨v, h1, h2⟩ := r.getD hd
  refine ⟨⟨vs, v, same_T s h, h1⟩, fun y H' hy => ?_⟩
  obtain ⟨e, hy⟩ := hy
  have := hy vs (same_T s h)
  rw [h1] at this
  cases this
  exact ⟨e, h2⟩⟩
variable {tg : Expr}
theorem pix_list (h : PX X M e t g) : PIx X M tg e (iList X.K t) (iL g) := ⟨pi_list h.pe, fun F0 H0 F H σ E xs R r e q => by
  unfold iL at e
  split at e
  · rename_i ys e1
    cases e
    refine h.rd _ _ _ _ _ _ _ _ r e1 fun v F1 H1 x1 p1 => ?_
    cases p1 with
    | lst s1 r1 => exact ⟨_, rfl, ⟨_, .inl (.inl (x1.s _ _ s1))⟩, q _ _ _ x1 (jok_list s1 r1)⟩
  · cases e⟩
theorem pix_tup (h : PX X M e t g) : PIx X M tg e (iTup X.K t) (iT g) := ⟨pi_tup h.pe, fun F0 H0 F H σ E xs R r e q => by
  unfold iT at e
  split at e
  · rename_i ys e1
    cases e
    refine h.rd _ _ _ _ _ _ _ _ r e1 fun v F1 H1 x1 p1 => ?_
    cases p1 with
    | tup s1 r1 => exact ⟨_, rfl, ⟨_, same_T x1.s s1⟩, q _ _ _ x1 (jok_tup s1 r1)⟩
  · cases e⟩
def iR1 (g : Gx) : Gl' := fun E => match g E with | some (.int j) => if -(2 ^ 62) ≤ j ∧ j < 2 ^ 62 then some ((List.range j.toNat).map fun (i : Nat) => .int i) else none | _ => none
def iR2 (ga gb : Gx) : Gl' := fun E => match ga E, gb E with
  | some (.int i), some (.int j) => if -(2 ^ 62) ≤ i ∧ i < 2 ^ 62 ∧ -(2 ^ 62) ≤ j ∧ j < 2 ^ 62 then some ((List.range (j - i).toNat).map fun (k : Nat) => .int (i + k)) else none
  | _, _ => none
theorem jok_rng {lo : Int} {n : Nat} : JOk K F (Itr lo n) ((List.range n).map fun (k : Nat) => .int (lo + k)) := ⟨fun H i s hi => (show n ≤ i by simpa using hi), fun H i d s hd => by
  rw [List.getElem?_map] at hd
  obtain ⟨k, h1, h2⟩ := Option.map_eq_some_iff.mp hd
  obtain ⟨h3, h4⟩ := List.getElem?_eq_some_iff.mp h1
  rw [List.getElem_range] at h4
  subst h4
  subst h2
  refine ⟨(show i < n by simpa using h3), fun y H' hy => ?_⟩
  obtain ⟨e, rfl⟩ := hy
  exact ⟨e, .int _⟩⟩
theorem pix_r1 {pr : Pos} (h : PX X M a ta ga) (hm : X.mg "range" = none) (hg : Gl X "range" := by rfl) (hs : starEach [a] X.env = [(false, eval a X.env)] := by rfl) : PIx X M tg (.Call (.Name "range" p) [a] [] pr) (iRng1 (tCons ta tNil)) (iR1 ga) := ⟨pi_range1 hg hm (pa_cons h.pe pa_nil hs) hs, fun F0 H0 F H σ E xs R r e q => by
  unfold iR1 at e
  split at e
  · rename_i j e1
    split at e
    · rename_i hb
      cases e
      refine h.rd _ _ _ _ _ _ _ _ r e1 fun v F1 H1 x1 p1 => ?_
      cases p1
      refine ⟨j, rfl, hb.1, hb.2, q _ _ _ x1 ?_⟩
      have := jok_rng (K := X.K) (F := F1) (lo := 0) (n := j.toNat)
      simpa using this
    · cases e
  · cases e⟩
theorem pix_r2 {pr : Pos} (ha : PX X M a ta ga) (hb : PX X M b tb gb) (hm : X.mg "range" = none) (hg : Gl X "range" := by rfl) (hs : starEach [a, b] X.env = [(false, eval a X.env), (false, eval b X.env)] := by rfl) (hs2 : starEach [b] X.env = [(false, eval b X.env)] := by rfl)
    (hs3 : starEach [a, b] X.env = (false, eval a X.env) :: starEach [b] X.env := by rfl) : PIx X M tg (.Call (.Name "range" p) [a, b] [] pr) (iRng2 (tCons ta (tCons tb tNil))) (iR2 ga gb) := ⟨pi_range2 hg hm (pa_cons ha.pe (pa_cons hb.pe pa_nil hs2) hs3) hs hs2, fun F0 H0 F H σ E xs R r e q => by
  unfold iR2 at e
  split at e
  · rename_i i j e1 e2
    split at e
    · rename_i hb'
      cases e
      refine ha.rd _ _ _ _ _ _ _ _ r e1 fun v F1 H1 x1 p1 => hb.rd _ _ _ _ _ _ _ _ (r.grow x1) e2 fun w F2 H2 x2 p2 => ?_
      cases p1
      cases p2
      exact ⟨i, j, rfl, hb', q _ _ _ (x1.trans x2) jok_rng⟩
    · cases e
  · cases e⟩

/-! ### loops -/
def forL (tg : Tg) (b : Sm) : List D → Sm
  | [], E => some (E, .nx)
  | x :: xs, E => (tg x E).bind fun E1 => match b E1 with
    | some (E2, .nx) => forL tg b xs E2
    | some (E2, .ct) => forL tg b xs E2
    | some (E2, .bk) => some (E2, .nx)
    | some (E2, .rt d) => some (E2, .rt d)
    | none => none
def sFor (tg : Tg) (src : Gl') (b : Sm) : Sm := fun E => (src E).bind fun xs => forL tg b xs E
theorem rd_for {is : List Nat} {gt : TG} {wi : TI} {tg : Tg} {src : Gl'} (hi : RdI K M wi src) (hg : RdG K M M1 is gt tg) (hb : RdB K M1 M M tS gS) : RdB K M M Mb (tFor wi gt tS) (sFor tg src gS) := fun F0 H0 F H σ E E' fl De r e q => by
  obtain ⟨xs, e1, e2⟩ := Option.bind_eq_some_iff.mp e
  refine hi _ _ _ _ _ _ _ _ r e1 fun J F1 H1 x1 j => ?_
  refine ⟨fun i m σ H => m = xs.length - i ∧ i ≤ xs.length ∧ ∃ F2 E2, Same F1 F2 ∧ ER K M F0 H0 F2 H σ E2 ∧ forL tg gS (xs.drop i) E2 = some (E', fl), ⟨_, rfl, Nat.zero_le _, F1, E, .refl _, r.grow x1, e2⟩, ?_⟩
  rintro i m σ2 H2 ⟨rfl, hle, F2, E2, sF, r2, e3⟩
  have sH : Same F1 H2 := sF.trans r2.fs
  by_cases hlt : i < xs.length
  · have hd : xs[i]? = some xs[i] := List.getElem?_eq_getElem hlt
    rw [List.drop_eq_getElem_cons hlt] at e3
    obtain ⟨E3, e4, e5⟩ := Option.bind_eq_some_iff.mp e3
    obtain ⟨jg, jy⟩ := j.go H2 i _ sH hd
    refine .inr ⟨jg, fun σ' H' => ∃ F2 E2, Same F1 F2 ∧ ER K M F0 H0 F2 H' σ' E2 ∧ forL tg gS (xs.drop (i + 1)) E2 = some (E', fl), fun σ' H' h => ⟨_, by omega, rfl, by omega, h⟩, fun y H' hy => ?_⟩
    obtain ⟨rfl, py⟩ := jy y H' hy
    refine hg _ _ _ _ _ _ _ _ _ _ r2 (py.mono sF) e4 fun σ3 r3 _ => ?_
    split at e5
    · rename_i E4 h4
      exact hb _ _ _ _ _ _ _ _ _ r3 h4 fun F' H' σ' s r' => ⟨F', E4, sF.trans s, r', e5⟩
    · rename_i E4 h4
      exact hb _ _ _ _ _ _ _ _ _ r3 h4 fun F' H' σ' s r' => ⟨F', E4, sF.trans s, r', e5⟩
    · rename_i E4 h4
      cases e5
      exact hb _ _ _ _ _ _ _ _ _ r3 h4 fun F' H' σ' s r' => q F' H' σ' ((x1.f.trans sF).trans s) r'
    · rename_i E4 d h4
      cases e5
      exact hb _ _ _ _ _ _ _ _ _ r3 h4 fun v F' H' s x p => q v F' H' ((x1.f.trans sF).trans s) x p
    · cases e5
  · have hi : xs.length ≤ i := by omega
    rw [List.drop_eq_nil_of_le hi] at e3
    cases e3
    exact .inl ⟨j.stop H2 i sH hi, q F2 H2 σ2 (x1.f.trans sF) r2⟩
theorem pb_for {is : List Nat} {gt : TG} {wi : TI} {tgE : Expr} {tg : Tg} {src : Gl'} {body : List Stmt} (hp : PassesOwn (model X.prog X.w) X.A X.env X.xe) (hc : X.calm = true) (hi : PIx X M tgE e wi src) (hg : PGx X M M1 is tgE gt tg) (hb : PBs X M1 M M body tS gS)
    (hs : ∀ x, foldedSetIterable e X.env x = pure x := by intro _; rfl) : PB X M M Mb (.For tgE e body [] pos) (tFor wi gt tS) (sFor tg src gS) := ⟨ps_for hp hc hi.pe hg.pe hb.pe hs, rd_for hi.rd hg.rd hb.rd⟩
def whL (c : Gx) (b : Sm) : Nat → Sm
  | 0, _ => none
  | n + 1, E => match c E with
    | some (.bool true) => match b E with
      | some (E1, .nx) => whL c b n E1
      | some (E1, .ct) => whL c b n E1
      | some (E1, .bk) => some (E1, .nx)
      | some (E1, .rt d) => some (E1, .rt d)
      | none => none
    | some (.bool false) => some (E, .nx)
    | _ => none
theorem rd_while (n : Nat) (hc : RdT K M tc gc) (hb : RdB K M M M tS gS) : RdB K M M Mb (tWhile tc tS) (whL gc gS n) := fun F0 H0 F H σ E E' fl De r e q => by
  refine ⟨fun m σ H => ∃ F2 E2, Same F F2 ∧ ER K M F0 H0 F2 H σ E2 ∧ whL gc gS m E2 = some (E', fl), ⟨n, F, E, .refl _, r, e⟩, ?_⟩
  rintro m σ2 H2 ⟨F2, E2, sF, r2, e2⟩
  cases m with
  | zero => cases e2
  | succ m =>
    unfold whL at e2
    split at e2
    · rename_i h1
      refine hc _ _ _ _ _ _ _ _ r2 h1 (fun b F3 H3 eb x3 => ?_) ⟨_, rfl⟩
      cases eb
      refine iteT ⟨fun σ' H' => ∃ F2 E2, Same F F2 ∧ ER K M F0 H0 F2 H' σ' E2 ∧ whL gc gS m E2 = some (E', fl), fun σ' H' h => ⟨m, Nat.lt_succ_self _, h⟩, ?_⟩
      have r3 := r2.grow x3
      have sF3 := sF.trans x3.f
      split at e2
      · rename_i E4 h4
        exact hb _ _ _ _ _ _ _ _ _ r3 h4 fun F' H' σ' s r' => ⟨F', E4, sF3.trans s, r', e2⟩
      · rename_i E4 h4
        exact hb _ _ _ _ _ _ _ _ _ r3 h4 fun F' H' σ' s r' => ⟨F', E4, sF3.trans s, r', e2⟩
      · rename_i E4 h4
        cases e2
        exact hb _ _ _ _ _ _ _ _ _ r3 h4 fun F' H' σ' s r' => q F' H' σ' (sF3.trans s) r'
      · rename_i E4 d h4
        cases e2
        exact hb _ _ _ _ _ _ _ _ _ r3 h4 fun v F' H' s x p => q v F' H' (sF3.trans s) x p
      · cases e2
    · rename_i h1
      cases e2
      refine hc _ _ _ _ _ _ _ _ r2 h1 (fun b F3 H3 eb x3 => ?_) ⟨_, rfl⟩
      cases eb
      exact iteF (q F3 H3 σ2 (sF.trans x3.f) (r2.grow x3))
    · cases e2
theorem pb_while (n : Nat) {body : List Stmt} (hp : PassesOwn (model X.prog X.w) X.A X.env X.xe) (hc : PTx X M c tc gc) (hb : PBs X M M M body tS gS) : PB X M M Mb (.While c body [] pos) (tWhile tc tS) (whL gc gS n) := ⟨ps_while hp hc.pe hb.pe, rd_while n hc.rd hb.rd⟩

/-! ### comprehensions -/
def wipeE (E : En) : List Nat → En
  | [] => E
  | i :: is => (wipeE E is).set i none
theorem wipeE_some {i : Nat} {d : D} : ∀ {vs : List Nat} {E : En}, (wipeE E vs)[i]? = some (some d) → E[i]? = some (some d) ∧ i ∉ vs
  | [], E, h => ⟨h, by simp⟩
  | w :: vs, E, h => by
    unfold wipeE at h
    by_cases hi : w = i
    · subst hi
      by_cases hl : w < (wipeE E vs).length
      · rw [List.getElem?_set_self hl] at h; cases h
      · rw [List.getElem?_eq_none (by simpa using hl)] at h; cases h
    · rw [List.getElem?_set_ne hi] at h
      obtain ⟨h1, h2⟩ := wipeE_some h
      exact ⟨h1, by simp only [List.mem_cons, not_or]; exact ⟨fun z => hi z.symm, h2⟩⟩
theorem wipeE_length (E : En) : ∀ vs : List Nat, (wipeE E vs).length = E.length
  | [] => rfl
  | v :: vs => by unfold wipeE; rw [List.length_set, wipeE_length E vs]
theorem wipe_keep {i : Nat} {x : V} : ∀ {vs : List Nat} {σ : L2.St}, σ[i]? = some (some x) → i ∉ vs → (wipe σ vs)[i]? = some (some x)
  | [], σ, h, _ => h
  | w :: vs, σ, h, hn => by
    simp only [List.mem_cons, not_or] at hn
    unfold wipe
    rw [List.getElem?_set_ne (Ne.symm hn.1)]
    exact wipe_keep h hn.2
theorem ER.wipe (r : ER K M F0 H0 F H σ E) (vs : List Nat) : ER K M F0 H0 F H (L2.wipe σ vs) (wipeE E vs) := by
  refine ⟨r.ext, r.z, by rw [wipe_length, wipeE_length]; exact r.len, fun j d h => ?_, fun j k a x y hjk mj mk ej ek sj sk => ?_⟩
  · obtain ⟨h1, h2⟩ := wipeE_some h
    obtain ⟨v, h3, h4⟩ := r.sl j d h1
    exact ⟨v, wipe_keep h3 h2, h4⟩
  · exact r.ap j k a x y hjk mj mk (wipeE_some ej).1 (wipeE_some ek).1 (wipe_some sj).1 (wipe_some sk).1
def lcL (tg : Tg) (c e : Gx) (E : En) : List D → Option (List D)
  | [] => some []
  | x :: xs => (tg x E).bind fun E1 => match c E1 with
    | some (.bool true) => (e E1).bind fun y => (lcL tg c e E xs).map fun r => y :: r
    | some (.bool false) => lcL tg c e E xs
    | _ => none
def gLc (own : List Nat) (tg : Tg) (src : Gl') (c e : Gx) : Gx := fun E => (src E).bind fun xs => (lcL tg c e (wipeE E own) xs).bind fun r => gd xs.length (.list r)
theorem same_toU {D : Addr} {o : HO} (s : Same F H) (f : F D = none) : Same F (upd H D o) := fun b x e => by rw [upd_ne (ne_of_none e f)]; exact s _ _ e
structure PTsx (X : Cx) (M : List Md) (ifs : List Expr) (t : TT) (g : Gx) : Prop where
  pe : PTs X ifs t
  rd : RdT X.K M t g
theorem ptsx_nil : PTsx X M [] tYes (gC (.bool true)) := ⟨pts_nil, fun F0 H0 F H σ E d Q r e q ex => by cases e; exact q true F H rfl (.refl r.fs)⟩
theorem ptsx_one (h : PTx X M c tc gc) : PTsx X M [c] tc gc := ⟨pts_one h.pe, h.rd⟩
theorem rd_lc {is own : List Nat} {gt : TG} {wi : TI} {tg : Tg} {src : Gl'} {te : TE} (hi : RdI K M wi src) (hg : RdG K M M1 is gt tg) (ho : ∀ i ∈ is, i ∈ own) (hc : RdT K M1 tc gc) (he : RdE K M1 te g) : RdF K M (tLc wi gt tc te own) (gLc own tg src gc g) := fun F0 H0 F H σ E d Q r e q => by
  obtain ⟨xs, e1, e2⟩ := Option.bind_eq_some_iff.mp e
  obtain ⟨ys, e3, e4⟩ := Option.bind_eq_some_iff.mp e2
  obtain ⟨hz, rfl⟩ := gd_some e4
  refine hi _ _ _ _ _ _ _ _ r e1 fun J F1 H1 x1 j D hD => ?_
  have fD : F1 D = none := x1.s.free hD
  have r1 := r.grow x1
  -- between two turns
  refine ⟨fun i m H2 => m = xs.length - i ∧ i ≤ xs.length ∧ ∃ F2 acc pre post, Ext F1 (upd H1 D (.lst [])) F2 (upd H2 D (.lst [])) ∧ Same F2 H2 ∧ F2 D = none ∧ H2 D = some (.lst acc) ∧ Reps K F2 acc pre ∧ acc.length ≤ i ∧ lcL tg gc g (wipeE E own) (xs.drop i) = some post ∧ ys = pre ++ post,
    ⟨_, rfl, Nat.zero_le _, F1, [], [], ys, ⟨.refl _, by rw [upd_upd]; exact .refl _, by rw [upd_upd]; exact x1.s.trans (same_upd hD), fun _ _ _ h => h⟩, x1.s.trans (same_upd hD), fD, upd_same, .nil, Nat.zero_le _, e3, rfl⟩, ?_⟩
  rintro i m H2 ⟨rfl, hle, F2, acc, pre, post, x2, s2, f2, h2, p2, hl, e5, e6⟩
  have ext1 : Ext F1 H1 F2 H2 := ⟨x2.f, fun b o hb => by
    have hn := ne_of_none hb hD
    have := x2.h b o (by rw [upd_ne hn]; exact hb)
    rw [upd_ne hn] at this
    exact this, s2, fun b o hb hf => x2.n b o (by rw [upd_ne (ne_of_none hb hD)]; exact hb) hf⟩
  have r2 := (r1.grow ext1).wipe own
  have sH : Same F1 H2 := x2.f.trans s2
  by_cases hlt : i < xs.length
  · have hd : xs[i]? = some xs[i] := List.getElem?_eq_getElem hlt
    rw [List.drop_eq_getElem_cons hlt] at e5
    obtain ⟨E3, e7, e8⟩ := Option.bind_eq_some_iff.mp e5
    obtain ⟨jg, jy⟩ := j.go H2 i _ sH hd
    refine .inr ⟨jg, fun H2 => i + 1 ≤ xs.length ∧ ∃ F2 acc pre post, Ext F1 (upd H1 D (.lst [])) F2 (upd H2 D (.lst [])) ∧ Same F2 H2 ∧ F2 D = none ∧ H2 D = some (.lst acc) ∧ Reps K F2 acc pre ∧ acc.length ≤ i + 1 ∧ lcL tg gc g (wipeE E own) (xs.drop (i + 1)) = some post ∧ ys = pre ++ post,
      fun H' h => ⟨_, by omega, rfl, h⟩, fun y H' hy => ?_⟩
    obtain ⟨rfl, py⟩ := jy y H' hy
    have line := sizeLine_eq
    refine hg _ _ _ _ _ _ _ _ _ _ r2 (py.mono x2.f) e7 fun σ3 r3 w3 => ⟨(w3 own ho).trans ?_, ?_⟩
    · have idem : ∀ (vs ws : List Nat) (σ : L2.St), (∀ k ∈ vs, k ∈ ws) → L2.wipe (L2.wipe σ vs) ws = L2.wipe σ ws := by
        intro vs
        induction vs with
        | nil => intro ws σ _; rfl
        | cons k vs ih =>
          intro ws σ h
          show L2.wipe ((L2.wipe σ vs).set k none) ws = _
          rw [wipe_set (h k List.mem_cons_self)]
          exact ih ws σ fun l hl => h l (List.mem_cons_of_mem _ hl)
      exact idem own own σ fun _ h => h
    · have keep : ∀ {F3 H3 : Hp}, Ext F2 H' F3 H3 → Ext F1 (upd H1 D (.lst [])) F3 (upd H3 D (.lst [])) := fun {F3 H3} x3 => by
        refine ⟨x2.f.trans x3.f, fun b o hb => ?_, fun b o hb => ?_, fun b o hb hf => ?_⟩
        · have := x2.h b o hb
          by_cases hbD : b = D
          · subst hbD; rw [upd_same] at this ⊢; exact this
          · rw [upd_ne hbD] at this ⊢; exact x3.h _ _ this
        · rw [upd_ne (ne_of_none hb (x3.n D _ h2 f2))]; exact x3.s _ _ hb
        · by_cases hbD : b = D
          · subst hbD; exact x3.n _ _ h2 f2
          · rw [upd_ne hbD] at hb
            have h4 := ext1.h b o hb
            exact x3.n b o h4 (x2.n b o (by rw [upd_ne hbD]; exact hb) hf)
      split at e8
      · rename_i h3
        obtain ⟨z, e9, e10⟩ := Option.bind_eq_some_iff.mp e8
        obtain ⟨rest, e11, rfl⟩ := Option.map_eq_some_iff.mp e10
        refine hc _ _ _ _ _ _ _ _ r3 h3 (fun b F4 H4 eb x4 => ?_) ⟨_, rfl⟩
        cases eb
        refine iteT (he _ _ _ _ _ _ _ _ (r3.grow x4) e9 fun w F5 H5 x5 p5 => ?_)
        have x6 := x4.trans x5
        have f5 : F5 D = none := x6.n D _ h2 f2
        refine ⟨acc, x6.h _ _ h2, by omega, hlt, F5, acc ++ [w], pre ++ [z], rest, by rw [upd_upd]; exact keep x6, same_toU x6.s f5, f5, upd_same, (p2.mono x6.f).app (.cons p5 .nil), by rw [List.length_append, List.length_singleton]; omega, e11, by rw [e6, List.append_assoc]; rfl⟩
      · rename_i h3
        refine hc _ _ _ _ _ _ _ _ r3 h3 (fun b F4 H4 eb x4 => ?_) ⟨_, rfl⟩
        cases eb
        exact iteF ⟨hlt, F4, acc, pre, post, keep x4, x4.s, x4.n D _ h2 f2, x4.h _ _ h2, p2.mono x4.f, by omega, e8, e6⟩
      · cases e8
  · have hi : xs.length ≤ i := by omega
    rw [List.drop_eq_nil_of_le hi] at e5
    cases e5
    rw [List.append_nil] at e6
    subst e6
    exact .inl ⟨j.stop H2 i sH hi, q D acc _ F2 H2 rfl (x1.trans ext1) (x1.h.free hD) f2 h2 p2⟩
end Pu

namespace Pu
open PySem PySem.Spec PyProof.Rows L2
variable {K : PySem.W.Frag} {H H' F F' : Hp} {M M' M1 Mb : List Md} {F0 H0 F1 H1 : Hp} {σ : L2.St} {E E' : En} {m : Md} {v : V}
variable {X : Cx} {a b c e : Expr} {es : List Expr} {ta tb t : TE} {tc tT : TT} {ga gb gc g : Gx} {p pos : Pos} {tA : TA} {gs : Gl'}
variable {s : Stmt} {ss : List Stmt} {tS uS : TS} {gS hS : Sm} {x : Str}

/-! ### comprehensions as expressions and stores -/
variable {is : List Nat} {own : List (Str × Nat)} {gt : TG} {wi : TI} {tg : Tg} {src : Gl'} {te : TE} {tgE iter elt : Expr} {ifs : List Expr} {scope : Scope}
theorem pf_lc (hc : X.calm = true) (hN : X.N.Nodup) (hi : PIx X M tgE iter wi src) (ok : BlkOk X.N X.env.scope scope own)
    (hg : ∀ (s : Shared) (H : Hp) (C : Addr) (cl : List (Str × Addr)) (fp : List Addr), PGx (X.blk s H scope (compEnvC scope cl C X.env) fp) M M1 is tgE gt tg)
    (ht : ∀ (s : Shared) (H : Hp) (C : Addr) (cl : List (Str × Addr)) (fp : List Addr), PTsx (X.blk s H scope (compEnvC scope cl C X.env) fp) M1 ifs tc gc)
    (he : ∀ (s : Shared) (H : Hp) (C : Addr) (cl : List (Str × Addr)) (fp : List Addr), PX (X.blk s H scope (compEnvC scope cl C X.env) fp) M1 elt te g)
    (ho : ∀ i ∈ is, i ∈ own.map (·.2) := by decide) (hs : ∀ x, foldedSetIterable iter X.env x = pure x := by intro _; rfl) :
    PFx X M (.ListComp elt [⟨tgE, iter, ifs, 0⟩] scope pos) (tLc wi gt tc te (own.map (·.2))) (gLc (own.map (·.2)) tg src gc g) :=
  ⟨pe_lc hc hN hi.pe ok (fun s H C cl fp => (hg s H C cl fp).pe) (fun s H C cl fp => (ht s H C cl fp).pe) (fun s H C cl fp => (he s H C cl fp).pe) hs,
    rd_lc hi.rd (hg X.s_0 X.H_0 0 [] []).rd ho (ht X.s_0 X.H_0 0 [] []).rd (he X.s_0 X.H_0 0 [] []).rd⟩
/-- name = [..], the name a local -/
theorem pb_lcAny {m : Md} (i : Nat) {py : Pos} {spos : Pos} (hm : m = .fr ∨ m = .ol) (hi' : i < M.length) (hc : X.calm = true) (hN : X.N.Nodup) (hi : PIx X M tgE iter wi src) (ok : BlkOk X.N X.env.scope scope own)
    (hg : ∀ (s : Shared) (H : Hp) (C : Addr) (cl : List (Str × Addr)) (fp : List Addr), PGx (X.blk s H scope (compEnvC scope cl C X.env) fp) M M1 is tgE gt tg)
    (ht : ∀ (s : Shared) (H : Hp) (C : Addr) (cl : List (Str × Addr)) (fp : List Addr), PTsx (X.blk s H scope (compEnvC scope cl C X.env) fp) M1 ifs tc gc)
    (he : ∀ (s : Shared) (H : Hp) (C : Addr) (cl : List (Str × Addr)) (fp : List Addr), PX (X.blk s H scope (compEnvC scope cl C X.env) fp) M1 elt te g)
    (hy : X.N[i]? = some x) (hyl : X.env.scope.names.lookup x = some .local) (hsw : swapsWith (.ListComp elt [⟨tgE, iter, ifs, 0⟩] scope pos) (some (.Name x py)) spos.line X.env = pure true)
    (ho : ∀ i ∈ is, i ∈ own.map (·.2)) (hs : ∀ x, foldedSetIterable iter X.env x = pure x) :
    PB X M (M.set i m) Mb (.Assign [.Name x py] (.ListComp elt [⟨tgE, iter, ifs, 0⟩] scope pos) spos) (tAsg (tLc wi gt tc te (own.map (·.2))) (gName i)) (sSet i (gLc (own.map (·.2)) tg src gc g)) :=
  ⟨ps_setLc hc hN hy hyl hsw hi.pe ok (fun s H C cl fp => (hg s H C cl fp).pe) (fun s H C cl fp => (ht s H C cl fp).pe) (fun s H C cl fp => (he s H C cl fp).pe) hs, by
    have rd := rd_lc hi.rd (hg X.s_0 X.H_0 0 [] []).rd ho (ht X.s_0 X.H_0 0 [] []).rd (he X.s_0 X.H_0 0 [] []).rd
    rcases hm with rfl | rfl
    · exact rd_set i rd.toE
    · exact rd_setO i hi' rd⟩
theorem pb_lc (i : Nat) {py : Pos} {spos : Pos} (hc : X.calm = true) (hN : X.N.Nodup) (hi : PIx X M tgE iter wi src) (ok : BlkOk X.N X.env.scope scope own)
    (hg : ∀ (s : Shared) (H : Hp) (C : Addr) (cl : List (Str × Addr)) (fp : List Addr), PGx (X.blk s H scope (compEnvC scope cl C X.env) fp) M M1 is tgE gt tg)
    (ht : ∀ (s : Shared) (H : Hp) (C : Addr) (cl : List (Str × Addr)) (fp : List Addr), PTsx (X.blk s H scope (compEnvC scope cl C X.env) fp) M1 ifs tc gc)
    (he : ∀ (s : Shared) (H : Hp) (C : Addr) (cl : List (Str × Addr)) (fp : List Addr), PX (X.blk s H scope (compEnvC scope cl C X.env) fp) M1 elt te g)
    (hsw : swapsWith (.ListComp elt [⟨tgE, iter, ifs, 0⟩] scope pos) (some (.Name x py)) spos.line X.env = pure true := by exact sw_true rfl rfl rfl (by decide +kernel)) (hy : X.N[i]? = some x := by rfl) (hyl : X.env.scope.names.lookup x = some .local := by rfl)
    (ho : ∀ i ∈ is, i ∈ own.map (·.2) := by decide) (hs : ∀ x, foldedSetIterable iter X.env x = pure x := by intro _; rfl) (hi' : i < M.length := by decide) :
    PB X M (M.set i .fr) Mb (.Assign [.Name x py] (.ListComp elt [⟨tgE, iter, ifs, 0⟩] scope pos) spos) (tAsg (tLc wi gt tc te (own.map (·.2))) (gName i)) (sSet i (gLc (own.map (·.2)) tg src gc g)) :=
  pb_lcAny i (.inl rfl) hi' hc hN hi ok hg ht he hy hyl hsw ho hs
theorem pb_lcO (i : Nat) {py : Pos} {spos : Pos} (hc : X.calm = true) (hN : X.N.Nodup) (hi : PIx X M tgE iter wi src) (ok : BlkOk X.N X.env.scope scope own)
    (hg : ∀ (s : Shared) (H : Hp) (C : Addr) (cl : List (Str × Addr)) (fp : List Addr), PGx (X.blk s H scope (compEnvC scope cl C X.env) fp) M M1 is tgE gt tg)
    (ht : ∀ (s : Shared) (H : Hp) (C : Addr) (cl : List (Str × Addr)) (fp : List Addr), PTsx (X.blk s H scope (compEnvC scope cl C X.env) fp) M1 ifs tc gc)
    (he : ∀ (s : Shared) (H : Hp) (C : Addr) (cl : List (Str × Addr)) (fp : List Addr), PX (X.blk s H scope (compEnvC scope cl C X.env) fp) M1 elt te g)
    (hsw : swapsWith (.ListComp elt [⟨tgE, iter, ifs, 0⟩] scope pos) (some (.Name x py)) spos.line X.env = pure true := by exact sw_true rfl rfl rfl (by decide +kernel)) (hy : X.N[i]? = some x := by rfl) (hyl : X.env.scope.names.lookup x = some .local := by rfl)
    (ho : ∀ i ∈ is, i ∈ own.map (·.2) := by decide) (hs : ∀ x, foldedSetIterable iter X.env x = pure x := by intro _; rfl) (hi' : i < M.length := by decide) :
    PB X M (M.set i .ol) Mb (.Assign [.Name x py] (.ListComp elt [⟨tgE, iter, ifs, 0⟩] scope pos) spos) (tAsg (tLc wi gt tc te (own.map (·.2))) (gName i)) (sSet i (gLc (own.map (·.2)) tg src gc g)) :=
  pb_lcAny i (.inr rfl) hi' hc hN hi ok hg ht he hy hyl hsw ho hs

/-! ### y = xs.pop() -/
def sPop (y i : Nat) : Sm := fun E => match gV i E with
  | some (.list xs) => (xs[xs.length - 1]?).map fun d => ((E.set i (some (.list xs.dropLast))).set y (some d), .nx)
  | _ => none
theorem pb_pop (y i : Nat) {z : Str} {ap cp pn py : Pos} (hN : X.N.Nodup) (hm : mAt M i = .ol := by rfl) (hni : X.N[i]? = some x := by rfl) (hny : X.N[y]? = some z := by rfl) (hv : Vis X.env.scope x := by first | exact Or.inl rfl | exact Or.inr (Or.inl rfl) | exact Or.inr (Or.inr rfl)) (hx : Loc X.env.scope z := by first | exact .inl rfl | exact .inr rfl)
    (hd : (x == ("__debug__" : Str)) = false := by decide) (hcd : (x == ("__classdict__" : Str)) = false := by decide)
    (hbase : attributeBase (.Name x pn) "pop" X.env (eval (.Name x pn) X.env) = eval (.Name x pn) X.env := by rfl) (hline : (ap.endLine == cp.line) = true := by rfl)
    (hs : swapsWith (.Call (.Attribute (.Name x pn) "pop" ap) [] [] cp) (some (.Name z py)) pos.line X.env = pure false := by rfl) (hf : X.fn z = true ∨ X.env.scope.names.lookup z = some .local := by exact .inl rfl) :
    PB X M (M.set y .fr) Mb (.Assign [.Name z py] (.Call (.Attribute (.Name x pn) "pop" ap) [] [] cp) pos) (tAsg (tBM0 X.K "list" rPop (tVar i)) (gName y)) (sPop y i) :=
  ⟨ps_set hN hny hx (pe_bm0 PySem.F.plainAttrs_list PySem.F.slot_list_pop PySem.F.type_list_pop mt_pop (pe_var hni hv hd hcd) hbase hline) hs hf, fun F0 H0 F H σ E E' fl De r e q => by
    unfold sPop at e
    split at e
    · rename_i xs e1
      obtain ⟨d, e2, e3⟩ := Option.map_eq_some_iff.mp e
      cases e3
      obtain ⟨a, vs, h1, h2, h3, h4, h5⟩ := r.ol hm e1
      obtain ⟨w, h6, h7⟩ := h5.getD e2
      refine ⟨_, h1, .inl ⟨rfl, vs, .inl (.inl h4)⟩, a, vs, w, rfl, rfl, h4, by rw [h5.length]; exact h6, ?_⟩
      exact q F _ _ (.refl _) ((r.mut (by rw [hm]; rfl) (gV_some e1) h1 h2 h3 h4 (by rw [hm]; exact ⟨a, _, _, rfl, rfl, h2, h3, upd_same, h5.dropLast⟩)).setF h7)
    · cases e⟩
/-! ### xs.insert(k, e) -/
def rIns : V → List V → Hp → VK → Prop := fun x vs H Q => ∃ (l : Addr) (xs : List V) (i : Int) (y : V), x = .ref l ∧ vs = [.int i, y] ∧ H l = some (.lst xs) ∧ xs.length < sizeLine ∧ 0 ≤ i ∧ i < 2 ^ 63 ∧
    Q .non (upd H l (.lst (xs.take i.toNat ++ [y] ++ xs.drop i.toNat)))
theorem pb_ins (i : Nat) {ap cp pn : Pos} {k : Expr} {tk : TE} {gk : Gx} (hk : PX X M k tk gk) (h : PX X M e t g) (hm : mAt M i = .ol := by rfl) (hN : X.N[i]? = some x := by rfl) (hv : Vis X.env.scope x := by first | exact Or.inl rfl | exact Or.inr (Or.inl rfl) | exact Or.inr (Or.inr rfl)) (hd : (x == ("__debug__" : Str)) = false := by decide) (hcd : (x == ("__classdict__" : Str)) = false := by decide)
    (hbase : attributeBase (.Name x pn) "insert" X.env (eval (.Name x pn) X.env) = eval (.Name x pn) X.env := by rfl)
    (hfew : ((backTo cp (starEach [k, e] X.env)).all (fun x => !x.1) && (backToKw cp (keywordEach [] X.env)).all (fun x => x.1.isSome) && decide (([k, e] : List Expr).length + ([] : List Keyword).length + (if ([] : List Keyword).isEmpty then 0 else 1) < 30)) = true := by rfl)
    (hline : (ap.endLine == cp.line) = true := by rfl) (hst : starEach [k, e] X.env = (false, eval k X.env) :: starEach [e] X.env := by rfl) (hst2 : starEach [e] X.env = (false, eval e X.env) :: starEach [] X.env := by rfl) (hpl : (backTo cp (starEach [e] X.env)).any (·.1) = false := by rfl) (hsw : swapsWith (.Call (.Attribute (.Name x pn) "insert" ap) [k, e] [] cp) none pos.line X.env = pure false := by rfl) :
    PB X M M Mb (.Expr (.Call (.Attribute (.Name x pn) "insert" ap) [k, e] [] cp) pos) (tDrop (tBM X.K "list" rIns (tVar i) (tCons tk (tCons t tNil)))) (sIns i gk g) :=
  ⟨ps_expr (pe_bm PySem.F.plainAttrs_list PySem.F.slot_list_insert PySem.F.type_list_insert mt_insert (pe_var hN hv hd hcd) (pa_cons hk.pe (pa_cons h.pe pa_nil hst2) hst) hbase hfew hline hst hpl) hsw, fun F0 H0 F H σ E E' fl De r e q => by
    unfold sIns at e
    split at e
    · rename_i xs j d e1 e2 e3
      split at e
      · rename_i hz
        cases e
        obtain ⟨a, vs, h1, h2, h3, h4, h5⟩ := r.ol hm e1
        refine ⟨_, h1, .inl ⟨rfl, vs, .inl (.inl h4)⟩, hk.rd _ _ _ _ _ _ _ _ r e2 fun u F1 H1 x1 p1 => h.rd _ _ _ _ _ _ _ _ (r.grow x1) e3 fun w F2 H2 x2 p2 => ?_⟩
        cases p1
        have x3 := x1.trans x2
        have hl := sizeLine_eq
        rw [← h5.length] at hz
        refine ⟨a, vs, j, w, rfl, rfl, x3.h _ _ h4, by omega, by omega, by omega, ?_⟩
        exact q F2 _ σ x3.f ((r.grow x3).mut (by rw [hm]; rfl) (gV_some e1) h1 (x3.n _ _ h4 h2) h3 (x3.h _ _ h4) (by rw [hm]; exact ⟨a, _, _, rfl, rfl, x3.n _ _ h4 h2, h3, upd_same, (((h5.mono x3.f).take _).app (.cons p2 .nil)).app ((h5.mono x3.f).drop _)⟩))
      · cases e
    · cases e⟩

/-! ### defs -/
def RepsM (K : PySem.W.Frag) (F : Hp) : List Md → List V → List D → Prop
  | [], [], [] => True
  | m :: ms, v :: vs, d :: ds => RepM K F m v d ∧ RepsM K F ms vs ds
  | _, _, _ => False
theorem RepsM.len : ∀ {ms : List Md} {vs : List V} {ds : List D}, RepsM K F ms vs ds → vs.length = ms.length ∧ ds.length = ms.length
  | [], [], [], _ => ⟨rfl, rfl⟩
  | m :: ms, v :: vs, d :: ds, h => by
    obtain ⟨h1, h2⟩ := RepsM.len h.2
    exact ⟨by simp [h1], by simp [h2]⟩
  | [], _ :: _, _, h => h.elim
  | [], [], _ :: _, h => h.elim
  | _ :: _, [], _, h => h.elim
  | _ :: _, _ :: _, [], h => h.elim
theorem RepsM.get : ∀ {ms : List Md} {vs : List V} {ds : List D} {i : Nat} {d : D}, RepsM K F ms vs ds → ds[i]? = some d → ∃ v m, vs[i]? = some v ∧ ms[i]? = some m ∧ RepM K F m v d
  | [], [], [], i, d, _, h => by simp at h
  | m :: ms, v :: vs, d' :: ds, 0, d, h, e => by simp at e; subst e; exact ⟨v, m, rfl, rfl, h.1⟩
  | m :: ms, v :: vs, d' :: ds, i + 1, d, h, e => by
    obtain ⟨w, k, h1, h2, h3⟩ := RepsM.get (i := i) (d := d) h.2 (by simpa using e)
    exact ⟨w, k, by simpa using h1, by simpa using h2, h3⟩
  | [], _ :: _, _, _, _, h, _ => h.elim
  | [], [], _ :: _, _, _, h, _ => h.elim
  | _ :: _, [], _, _, _, h, _ => h.elim
  | _ :: _, _ :: _, [], _, _, h, _ => h.elim
def isFr (m : Md) : Bool := match m with | .fr => true | _ => false
def isPar (m : Md) : Bool := match m with | .fr => true | .sc => true | _ => false
theorem RepsM.of : ∀ {ms : List Md} {vs : List V} {ds : List D}, Reps K F vs ds → ms.all isFr = true → ds.length = ms.length → RepsM K F ms vs ds
  | [], _, _, .nil, _, _ => trivial
  | [], _, _, .cons _ _, _, h => by simp at h
  | _ :: _, _, _, .nil, _, h => by simp at h
  | m :: ms, _, _, .cons a r, h1, h2 => by
    simp only [List.all_cons, Bool.and_eq_true] at h1
    refine ⟨?_, RepsM.of r h1.2 (by simpa using h2)⟩
    cases m with
    | fr => exact a
    | _ => cases h1.1
/-- a def's promise: with such arguments it hands back what its mirror says, all that stood stands -/
def spOf (K : PySem.W.Frag) (ms : List Md) (g : List D → Option D) : Sp := fun vs H Q _ => ∃ F ds d, Same F H ∧ RepsM K F ms vs ds ∧ g ds = some d ∧ ∀ v F' H', Ext F H F' H' → Rep K F' v d → Q v H'
structure Df (P : Program) (w : World) (K : PySem.W.Frag) (mg : Str → Option Value) (base : Heap) (x : Str) (k : Nat) (ms : List Md) (g : List D → Option D) : Prop where
  ex : ∃ f fd ps, FnOk P w K mg base CX0 k f fd ps (spOf K ms g) ∧ mg x = some (.ref f) ∧ PySem.W.keepIn K (.ref f) = true ∧ Binds K fd ps []
  len : ∀ ds d, g ds = some d → ds.length = ms.length
structure PMx (X : Cx) (M : List Md) (ms : List Md) (es : List Expr) (t : TA) (g : Gl') : Prop where
  pe : PA X es t
  rd : ∀ (F0 H0 F H : Hp) (σ : L2.St) (E : En) (ds : List D) (Q : List V → Hp → Prop), ER X.K M F0 H0 F H σ E → g E = some ds → ds.length = ms.length → (∀ vs F' H', Ext F H F' H' → RepsM X.K F' ms vs ds → Q vs H') → t σ H Q
theorem pmx {ms : List Md} (h : PAx X M es tA gs) (hm : ms.all isFr = true := by rfl) : PMx X M ms es tA gs := ⟨h.pe, fun F0 H0 F H σ E ds Q r e hl q => h.rd _ _ _ _ _ _ _ _ r e fun vs F' H' x p => q vs F' H' x (.of p hm hl)⟩
/-- the script handed on -/
theorem pmx_sc {ms : List Md} {pn : Pos} (i : Nat) (h : PMx X M ms es tA gs) (hm : mAt M i = .sc := by rfl) (hN : X.N[i]? = some x := by rfl) (hv : Vis X.env.scope x := by first | exact Or.inl rfl | exact Or.inr (Or.inl rfl) | exact Or.inr (Or.inr rfl)) (hd : (x == ("__debug__" : Str)) = false := by decide)
    (hcd : (x == ("__classdict__" : Str)) = false := by decide) (hs : starEach (.Name x pn :: es) X.env = (false, eval (.Name x pn) X.env) :: starEach es X.env := by rfl) : PMx X M (.sc :: ms) (.Name x pn :: es) (tCons (tVar i) tA) (gCs (gV i) gs) := ⟨pa_cons (pe_var hN hv hd hcd) h.pe hs, fun F0 H0 F H σ E ds Q r e hl q => by
  obtain ⟨d, xs, e1, e2, rfl⟩ := gCs_some e
  obtain ⟨v, h1, h2⟩ := r.sl i _ (gV_some e1)
  rw [hm] at h2
  obtain ⟨a, vs, ds, rfl, rfl, h3, h4⟩ := h2
  exact ⟨_, h1, h.rd _ _ _ _ _ _ _ _ r e2 (by simpa using hl) fun ws F' H' x p => q _ F' H' x ⟨⟨a, vs, ds, rfl, rfl, x.f.seq h3, h4.mono x.f⟩, p⟩⟩⟩
theorem px_call {k : Nat} {ms : List Md} {gf : List D → Option D} (D : Df X.prog X.w X.K X.mg X.base x k ms gf) (hr : Room k X.A) (ha : PMx X M ms (e :: es) tA gs) (hg : Gl X x := by rfl) (hdb : (x == ("__debug__" : Str)) = false := by decide)
    (he : starEach (e :: es) X.env = (false, eval e X.env) :: starEach es X.env := by rfl) (hpl : (backTo pos (starEach es X.env)).any (·.1) = false := by rfl) :
    PX X M (.Call (.Name x p) (e :: es) [] pos) (tCall (spOf X.K ms gf) [] E0 tA) (gCall gf gs) := by
  obtain ⟨f, fd, ps, hF, hmg, hk, hb⟩ := D.ex
  refine ⟨pe_call hF hr hg hmg hk hb .nil pass0 ha.pe hdb he hpl, fun F0 H0 F H σ E d Q r e q => ?_⟩
  obtain ⟨ds, e1, e2⟩ := Option.bind_eq_some_iff.mp e
  refine ha.rd _ _ _ _ _ _ _ _ r e1 (D.len _ _ e2) fun vs F1 H1 x1 p1 => ?_
  rw [List.append_nil]
  exact ⟨F1, ds, d, x1.s, p1, e2, fun v F' H' x p => q v F' H' (x1.trans x) p⟩
/-- the slots at a def's entry -/
def startE (n : Nat) (ds : List D) : En := ds.map some ++ List.replicate (n - ds.length) none
def fnG (n np : Nat) (b : Sm) (ds : List D) : Option D := if ds.length = np then (match b (startE n ds) with
  | some (_, .rt d) => some d
  | some (_, .nx) => some .none
  | _ => none) else none
theorem er_start {ms rest : List Md} {N : List Str} {vs : List V} {ds : List D} (s : Same F H) (p : RepsM K F ms vs ds) (hp : ms.all isPar = true) : ER K (ms ++ rest) F H F H (L2.start N vs) (startE N.length ds) := by
  obtain ⟨l1, l2⟩ := p.len
  have get : ∀ i d, (startE N.length ds)[i]? = some (some d) → ds[i]? = some d := fun i d h => by
    unfold startE at h
    by_cases hi : i < ds.length
    · rw [List.getElem?_append_left (by simpa using hi), List.getElem?_map] at h
      obtain ⟨x, h1, h2⟩ := Option.map_eq_some_iff.mp h
      cases h2
      exact h1
    · rw [List.getElem?_append_right (by simpa using hi), List.getElem?_replicate] at h
      split at h <;> cases h
  have mode : ∀ i m, ms[i]? = some m → mAt (ms ++ rest) i = m := fun i m h => by
    unfold mAt
    rw [List.getD_eq_getElem?_getD, List.getElem?_append_left (List.getElem?_eq_some_iff.mp h).1, h]
    rfl
  refine ⟨.refl s, s, by unfold L2.start startE; simp [l1, l2], fun i d h => ?_, fun i j a d e hij mi mj ei ej si sj => ?_⟩
  · obtain ⟨v, m, h1, h2, h3⟩ := p.get (get i d h)
    refine ⟨v, ?_, ?_⟩
    · unfold L2.start
      have hi := (List.getElem?_eq_some_iff.mp h1).1
      rw [List.getElem?_append_left (by simpa using hi), List.getElem?_map, h1]
      rfl
    · rw [mode i m h2]
      have := List.all_eq_true.mp hp m (List.mem_of_getElem? h2)
      cases m with
      | fr => exact h3
      | sc => exact h3
      | ol => cases this
      | od => cases this
  · obtain ⟨v, m, h1, h2, h3⟩ := p.get (get i d ei)
    rw [mode i m h2] at mi
    have := List.all_eq_true.mp hp m (List.mem_of_getElem? h2)
    cases m with
    | fr => cases mi
    | sc => cases mi
    | ol => cases this
    | od => cases this
variable {P : Program} {w : World} {mg : Str → Option Value} {base : Heap}
theorem df_mk {x qual : Str} {st : Stmt} {f : Addr} {fd : FuncData} {N ps : List Str} {k : Nat} {ms rest M' : List Md} {gb : Sm} (Fu : Fun K x qual st f fd) (S : FnScope N ps (defScope st)) (hmg : mg x = some (.ref f)) (hb : Binds K fd ps []) (hl : ms.length = ps.length) (hp : ms.all isPar = true)
    (body : ∀ (cdv : Value) (A : Around) (outer : List Env) (s : Shared) (H : Hp) (E : XK), Room k (A.deeper (envOfC qual (defScope st) s.heap.objs.size f cdv)) →
      ∃ t, PBs (cxOf CX0 P w K mg base N qual (defScope st) f cdv A outer s H E).nox (ms ++ rest) M' [] (defBody st) t gb) : Df P w K mg base x (k + 1) ms (fnG N.length ps.length gb) := by
  refine ⟨⟨f, fd, ps, Fu.ok S (fun vs H Q E h => ?_) (fun cdv A outer s H vs Q E hr h => ?_), hmg, Fu.kp, hb⟩, fun ds d h => ?_⟩
  · obtain ⟨F, ds, d, s, p, e, q⟩ := h
    rw [p.len.1, hl]
  · obtain ⟨F, ds, d, sF, p, e, q⟩ := h
    obtain ⟨t, B⟩ := body cdv A outer s H E hr
    refine ⟨t, B.pe, ?_⟩
    unfold fnG at e
    split at e
    · split at e
      · rename_i E2 d2 h1
        cases e
        exact B.rd F H F H (L2.start N vs) (startE N.length ds) _ _ _ (er_start sF p hp) h1 fun v F' H' _ x pv => q v F' H' x pv
      · rename_i E2 h1
        cases e
        exact B.rd F H F H (L2.start N vs) (startE N.length ds) _ _ _ (er_start sF p hp) h1 fun F' H' σ' _ r' => q .non F' H' r'.ext .non
      · cases e
    · cases e
  · unfold fnG at h
    split at h
    · rename_i hh
      rw [hh, hl]
    · cases h
end Pu

namespace Pu
open PySem PySem.Spec PyProof.Rows L2
variable {K : PySem.W.Frag} {H H' F F' : Hp} {M M' M1 Mb : List Md} {F0 H0 F1 H1 : Hp} {σ : L2.St} {E E' : En} {m : Md} {v : V}
variable {X : Cx} {a b c e : Expr} {es : List Expr} {ta tb t : TE} {tc tT : TT} {ga gb gc g : Gx} {p pos : Pos} {tA : TA} {gs : Gl'}

/-! ### sorted, of data that compare -/
def isTupN (d : D) : Bool := match d with | .tuple (_ :: _) => true | _ => false
def isPlainS (d : D) : Bool := match d with | .tuple _ => false | .none => false | _ => true
def okSort (ds : List D) : Bool := noDs ds && ds.all (fun d => ds.all fun e => PySem.W.alike d e) && (ds.all isTupN || ds.all isPlainS) && ds.all (fun d => decide (d.depth ≤ 60))
def leD (x y : D) : Bool := !PySem.W.dataLt y x
def sortD (ds : List D) : List D := ds.mergeSort leD
def rSortedD (K : PySem.W.Frag) : List V → Hp → VK → Prop := fun vs H Q => ∃ (a : Addr) (xs : List V) (ds : List D) (R : V → D → Prop), vs = [.ref a] ∧ SqL K H a xs ∧ DpAll K H xs ds ∧ okSort ds = true ∧ Paired R xs ds ∧
  ∀ (ys : List V) (p : Addr), Paired R ys (sortD ds) → H p = none → Q (.ref p) (upd H p (.lst ys))
theorem each_of {h : Heap} {K : PySem.W.Frag} {R : V → D → Prop} : ∀ {xs : List V} {us : List Value} {ds : List D}, Vals xs us → Paired R xs ds → (∀ (i : Nat) x u d, xs[i]? = some x → us[i]? = some u → ds[i]? = some d → ∃ as, Reads h u d as) → PySem.W.EachIs (fun u d => (∃ as, Reads h u d as) ∧ ∃ x, RelV x u ∧ R x d) us ds
  | _, _, _, .nil, .nil, _ => .nil
  | _, _, _, .cons r t, .cons r2 t2, h => .cons ⟨h 0 _ _ _ rfl rfl rfl, _, r, r2⟩ (each_of (K := K) t t2 fun i x u d e1 e2 e3 => h (i + 1) x u d (by simpa using e1) (by simpa using e2) (by simpa using e3))
theorem of_each {R : V → D → Prop} {S : Value → D → Prop} : ∀ {us : List Value} {ds : List D}, PySem.W.EachIs (fun u d => S u d ∧ ∃ x, RelV x u ∧ R x d) us ds → ∃ ys, Vals ys us ∧ Paired R ys ds
  | _, _, .nil => ⟨[], .nil, .nil⟩
  | _, _, .cons ⟨_, x, r1, r2⟩ t => by
    obtain ⟨ys, h1, h2⟩ := of_each t
    exact ⟨x :: ys, .cons r1 h1, .cons r2 h2⟩
theorem dpAll_get : ∀ {xs : List V} {ds : List D} {i : Nat} {x : V} {d : D}, DpAll K H xs ds → xs[i]? = some x → ds[i]? = some d → Dp K H x d
  | _, _, _, _, _, .nil, h, _ => by simp at h
  | _, _, 0, _, _, .cons a _, h1, h2 => by simp at h1 h2; subst h1 h2; exact a
  | _, _, i + 1, x, d, .cons _ r, h1, h2 => dpAll_get (i := i) (x := x) (d := d) r (by simpa using h1) (by simpa using h2)
theorem paired_len {α β : Type} {R : α → β → Prop} {xs : List α} {ys : List β} (h : Paired R xs ys) : xs.length = ys.length := Paired.length h
theorem sortLe_leD (h : Heap) (ds : List D) (x y : D) : PySem.W.sortLe (PySem.W.dataKind h ds).toKeyOrd false PySem.W.keyToks x y = leD x y := rfl
theorem cr_sortedD (hu : X.A.units + 64 < cLine) : CallR X (.builtin "sorted") (rSortedD X.K) := by
  intro pins s σ H vs us Q I r h
  obtain ⟨a, xs, ds, R, rfl, hs, hd, ok, hp, q⟩ := h
  obtain ⟨its, rv, hl, hz⟩ := I.list hs
  rw [Vals.ref1 r]
  unfold okSort at ok
  simp only [Bool.and_eq_true, Bool.or_eq_true, List.all_eq_true, decide_eq_true_eq] at ok
  obtain ⟨⟨⟨o1, o2⟩, o3⟩, o4⟩ := ok
  have read : ∀ {h' : Heap}, (∀ b o, s.heap.get? b = some o → h'.get? b = some o) → ∀ (i : Nat) x u d, xs[i]? = some x → its[i]? = some u → ds[i]? = some d → ∃ as, Reads h' u d as := fun {h'} k i x u d e1 e2 e3 => by
    obtain ⟨u', e4, r4⟩ := rv.get e1
    rw [e2] at e4
    cases e4
    have I' : Inv X pins σ H { s with heap := h' } := I.kept (t' := s.toks) k
    exact Dp.reads I' d x u (dpAll_get hd e1 e3) r4
  have old : ∀ b o, s.heap.get? b = some o → (PySem.W.sortingHeap (PySem.W.copyHeap s.heap its) (s.heap.objs.size + 1) its).get? b = some o := fun b o e => PySem.W.sorting_copy_old e
  have each := each_of (K := X.K) rv hp (read old)
  have each1 : PySem.W.EachIs (fun u d => ∃ as, Reads (PySem.W.sortingHeap (PySem.W.copyHeap s.heap its) (s.heap.objs.size + 1) its) u d as) its ds := each.mono fun _ _ q => q.1
  have al : PySem.W.AllAlike ds := fun d h1 d' h2 => o2 d h1 d' h2
  have srt : PySem.W.Sortable ds := by
    rcases o3 with o3 | o3
    · refine .inl fun d hd => ?_
      have := o3 d hd
      unfold isTupN at this
      split at this
      · exact ⟨_, _, rfl⟩
      · cases this
    · refine .inr fun d hd => ⟨fun z => ?_, fun zs z => ?_⟩
      · have := o3 d hd; rw [z] at this; cases this
      · have := o3 d hd; rw [z] at this; cases this
  have S : PySem.W.SortsAt X.prog X.w X.A.in1.in1 { s with heap := PySem.W.sortingHeap (PySem.W.copyHeap s.heap its) (s.heap.objs.size + 1) its } (PySem.W.dataKind (PySem.W.sortingHeap (PySem.W.copyHeap s.heap its) (s.heap.objs.size + 1) its) ds) its :=
    PySem.W.SortsAt.data (s := { s with heap := PySem.W.sortingHeap (PySem.W.copyHeap s.heap its) (s.heap.objs.size + 1) its }) each1 al srt fun d hd => by
      have := o4 d hd
      show X.A.units + 1 + 1 + d.depth < cLine
      omega
  refine PySem.W.sorted_vals hl.isList S (by rw [← rv.length]; exact hz) ?_
  have hk : PySem.W.EachIs (fun v b => (PySem.W.dataKind (PySem.W.sortingHeap (PySem.W.copyHeap s.heap its) (s.heap.objs.size + 1) its) ds).keyOf v = some (PySem.W.keyToks b)) its ds := (PySem.W.each_mem each1).mono fun u d q => by
    obtain ⟨⟨as, r⟩, hm⟩ := q
    exact PySem.W.dataKind_some al hm r
  have out := PySem.W.sortVals_each (κ := PySem.W.dataKind (PySem.W.sortingHeap (PySem.W.copyHeap s.heap its) (s.heap.objs.size + 1) its) ds) (rev := false) (ks := its) (vs := its) (bs := ds) PySem.W.keyToks each hk
  have e : ds.mergeSort (PySem.W.sortLe (PySem.W.dataKind (PySem.W.sortingHeap (PySem.W.copyHeap s.heap its) (s.heap.objs.size + 1) its) ds).toKeyOrd false PySem.W.keyToks) = sortD ds := rfl
  rw [e] at out
  obtain ⟨ys, v1, v2⟩ := of_each out
  obtain ⟨ep, he'⟩ := PyProof.Rows.sortedAll_at s.heap its (PySem.W.sortVals (PySem.W.dataKind (PySem.W.sortingHeap (PySem.W.copyHeap s.heap its) (s.heap.objs.size + 1) its) ds) false its its).toArray
  have hlen : ys.length ≤ sizeLine := by
    rw [paired_len v2]
    unfold sortD
    rw [List.length_mergeSort, ← paired_len hp]
    exact hz
  exact ⟨.ref _, upd H (s.heap.objs.size + 1) (.lst ys), I.laid (t' := s.toks) (fun _ _ => PyProof.Rows.sortedAll_old) (Nat.le_succ _) ⟨hlen, _, ep, v1, he'⟩, rfl, q ys _ v2 (I.hok.fresh (Nat.le_succ _))⟩
theorem Reps.paired : ∀ {vs : List V} {ds : List D}, Reps K F vs ds → Paired (Rep K F) vs ds
  | _, _, .nil => .nil
  | _, _, .cons a r => .cons a (Reps.paired r)
theorem Reps.ofPaired : ∀ {vs : List V} {ds : List D}, Paired (Rep K F) vs ds → Reps K F vs ds
  | _, _, .nil => .nil
  | _, _, .cons a r => .cons a (Reps.ofPaired r)
def dSortD : List D → Option D
  | [.list ds] => if okSort ds then some (.list (sortD ds)) else none
  | _ => none
theorem rdc_sortD : RdCF K (rSortedD K) dSortD := by
  intro F H vs ds d Q s r e
  cases r with
  | nil => cases e
  | cons a r =>
    cases r with
    | nil =>
      cases a <;> try (cases e; done)
      rename_i s1 r1
      simp only [dSortD] at e
      split at e
      · rename_i ok
        cases e
        refine ⟨_, rfl, fun q => ⟨_, _, _, Rep K F, rfl, .inl (.inl (s _ _ s1)), (r1.mono s).dp ?_, ok, r1.paired, fun ys p hy hp => q p ys hp (.ofPaired hy)⟩⟩
        unfold okSort at ok
        simp only [Bool.and_eq_true] at ok
        exact ok.1.1.1
      · cases e
    | cons b r => cases a <;> cases e
theorem pf_sortD (hu : X.A.units + 64 < cLine) (hm : X.mg "sorted" = none) (ha : PAx X M [e] tA gs) (hg : Gl X "sorted" := by rfl) (he : starEach [e] X.env = (false, eval e X.env) :: starEach [] X.env := by rfl) : PFx X M (.Call (.Name "sorted" p) [e] [] pos) (tCB (rSortedD X.K) tA) (gCall dSortD gs) := pf_cB (cr_sortedD hu) rdc_sortD hm boot_sorted' ha hg (he := he)

end Pu

namespace Pu
open PySem PySem.Spec PyProof.Rows L2
section
variable {P : Program} {w : World} {A : Around} {E : Value → Shared → Prop} {s : Shared}
/-- the empty set that is laid first -/
abbrev set0 (w : World) : Obj := { cls := .type "set", dict := none, data := .set #[] 0 (.fresh 0 0 (!w.params.followText "set-order")) }
set_option maxHeartbeats 3200000 in
/-- set(l) of a list of ints, as something that can be walked and sorted -/
theorem set_of_list {l : Addr} {items : Array Value} (ns : List Int) {Q : Value → Shared → Prop} (free : A.handled = none) (hl : s.heap.IsList l items) (iA : IntsAre items.toList ns) (few : ns.length + 1 < scanBound)
    (k : ∀ (h' : Heap) (tk c : Nat), SetR w h' s.heap.objs.size (fun j => decide (j ∈ ns)) c → c ≤ ns.length → (∀ b o, s.heap.get? b = some o → h'.get? b = some o) → Q (.ref s.heap.objs.size) { s with heap := h', toks := tk }) :
    wpAny (model P w) A (call (.type "set") [.ref l]) Q E s := by
  have size : items.size = ns.length := by have q := IntsAre.length iA; rwa [Array.length_toList] at q
  obtain ⟨c, tl, hmro⟩ := F.called_set.mro; have hmade := F.called_set.made; have hsub := F.called_set.sub
  refine wpAny_call (codeAny_of_tree ?_); show wpAny _ _ (callAny (.type "set") _) _ _ _
  refine wpAny_pure ⟨Code.quiet_builtin _ (by decide +kernel), codeAny_builtin F.entry_type_call ?_⟩; rw [Around.under_plain (weight_type_call_type "set" [.ref l] []) rfl]
  have h1 := F.called_set.notType; have h2 := F.called_set.canCreate; have hct := F.typeCall_set_1 (.ref l)
  repeat (any_goals (first | assumption | wp_step))
  refine codeAny_mono (code_set_led1 (.ref l) (E := E) (Q₁ := fun obj s₁ => obj = .ref s.heap.objs.size ∧ s₁ = { s with heap := s.heap.push (set0 w) }) ⟨rfl, rfl⟩) fun r s₁ hr => ?_
  cases r with
  | error e => exact hr
  | ok fl => cases fl with
    | ret obj =>
      obtain ⟨rfl, rfl⟩ := hr
      have hS : (s.heap.push (set0 w)).get? s.heap.objs.size = some (set0 w) := Heap.get?_push_size _ rfl
      have hT : Shared.TypeIs { s with heap := s.heap.push (set0 w) } (.ref s.heap.objs.size) "set" := ⟨_, hS, rfl⟩
      have hli := F.called_set.init.lookup; have hbi := F.called_set.init.bind (.ref s.heap.objs.size)
      repeat (any_goals (first | assumption | wp_step))
      refine codeAny_mono (codeAny_call_builtin (R := wants (fun r s₂ => r = .none ∧ ∃ h' tk c, s₂ = { s with heap := h', toks := tk } ∧ SetR w h' s.heap.objs.size (fun j => decide (j ∈ ns)) c ∧ c ≤ ns.length ∧ (∀ b o, s.heap.get? b = some o → h'.get? b = some o)) E) F.called_set.init.plain F.entry_set_init (check_set_init_1 hT ?_)) fun r₂ s₂ hr₂ => ?_
      · obtain ⟨⟨ocls, odict, odata, oslots⟩, hol, hcl, nl, hdl⟩ := hl
        simp only at hcl hdl; subst hcl; subst hdl
        have there : (s.heap.push (set0 w)).get? l = some { cls := .type "list", dict := odict, data := .seq items nl, slots := oslots } := Heap.get?_push_of_some _ hol
        have hsls := F.sub_list_set; have hslf := F.sub_list_frozenset; have hne : (Value.type "list" == Value.type "dict") = false := by decide
        have isl : (s.heap.push (set0 w)).IsList l items := ⟨_, there, rfl, nl, rfl⟩
        unfold Builtin.«set.__init__» noKeywords Builtin.Frozenset.updateFrom; generalize hPI : pyIter = PI; wp_walk; subst hPI
        refine wpAny_pyIter_list isl ?_; refine wpAny_bind (wpAny_runValue ?_)
        have below : l < s.heap.objs.size := Heap.lt_size hol
        have free3 : A.in1.in1.in1.handled = none := by simp [free]
        have apart : l ≠ (s.heap.push (set0 w)).objs.size := by rw [Heap.size_push]; exact Nat.ne_of_lt (Nat.lt_succ_of_lt below)
        have out : s.heap.objs.size ∉ [(s.heap.push (set0 w)).objs.size, l] := by
          rw [Heap.size_push]; simp only [List.mem_cons, List.mem_singleton, List.not_mem_nil, or_false, not_or]; exact ⟨Nat.ne_of_lt (Nat.lt_succ_self _), Nat.ne_of_gt below⟩
        have val : ∀ (i : Nat) (v : Value), items[i]? = some v → ∃ k t, ns[i]? = some k ∧ v = .int k t := fun i v hv => by
          have hi : i < ns.length := by rw [← size]; exact (Array.getElem?_eq_some_iff.mp hv).1
          obtain ⟨t, e⟩ := PyProof.Rows.IntsAre.int_at iA i v (by rw [Array.getElem?_toList]; exact hv)
          exact ⟨ns[i], t, List.getElem?_eq_getElem hi, by rw [e, List.getD_eq_getElem?_getD, List.getElem?_eq_getElem hi]; rfl⟩
        refine set_update_ints ((Walks.list free3 _ l apart items).toS) s.heap.objs.size out ns size few val (items.size - 0) 0 _ (by omega) (Nat.zero_le _) ⟨⟨_, Heap.get?_push_size _ rfl, rfl, rfl⟩, (isl.push _)⟩ ?start ?fin
        case start => exact ⟨0, Nat.le_refl 0, setR_new_at (Heap.get?_push_of_some _ hS)⟩
        case fin =>
          intro s' c' hm hc' hS'
          obtain ⟨h', g2, d', tk', os'⟩ := s'
          have eg : g2 = s.gens := hm.gens; have ed : d' = s.drawn := hm.drawn; have eo : os' = s.os := hm.os
          subst eg; subst ed; subst eo; show wpAny _ _ _ _ _ _
          refine wpAny_pure ?_; show wpAny _ _ (ret Value.none) _ _ _
          rw [size] at hc'
          refine wpAny_pure ⟨rfl, h', tk', c', rfl, hS', hc', fun b o e => ?_⟩
          have lt : b < s.heap.objs.size := Heap.lt_size e
          refine hm.heap b o ?_ (Heap.get?_push_of_some _ (Heap.get?_push_of_some _ e))
          simp only [List.mem_cons, List.mem_singleton, List.not_mem_nil, or_false, not_or]
          exact ⟨Nat.ne_of_lt lt, by rw [Heap.size_push]; exact Nat.ne_of_lt (Nat.lt_succ_of_lt lt)⟩
      · cases r₂ with
        | error e => exact hr₂
        | ok fl₂ => cases fl₂ with
          | ret r =>
            obtain ⟨rfl, h', tk, c', rfl, hS', hc', hk'⟩ := hr₂
            repeat (any_goals (first | assumption | wp_step))
            exact k _ _ _ hS' hc' hk'
          | _ => exact hr₂.elim
    | _ => exact hr.elim
end

variable {K : PySem.W.Frag} {H H' F F' : Hp} {M M' M1 Mb : List Md} {F0 H0 F1 H1 : Hp} {σ : L2.St} {E E' : En} {m : Md} {v : V}
variable {X : Cx} {a b c e : Expr} {es : List Expr} {ta tb t : TE} {tc tT : TT} {ga gb gc g : Gx} {p pos : Pos} {tA : TA} {gs : Gl'}
/-- set(l) of a tracked list of ints -/
def rSetL1 (K : PySem.W.Frag) (w : World) : List V → Hp → VK → Prop := fun vs H Q => ∃ (a : Addr) (ns : List Int), vs = [.ref a] ∧ SqL K H a (ns.map V.int) ∧ ns.length ≤ 4000 ∧
  ∀ p c, H p = none → c ≤ ns.length → Q (.ref p) (upd H p (SetO w p (fun j => decide (j ∈ ns)) c))
theorem cr_setL1 (hc : X.calm = true) : CallR X (.type "set") (rSetL1 X.K X.w) := by
  intro pins s σ H vs us Q I r h
  obtain ⟨a, ns, rfl, hs, hz, q⟩ := h
  obtain ⟨its, rv, hl, _⟩ := I.list hs
  rw [Vals.ref1 r]
  refine set_of_list ns (I.ok.hd hc) hl.isList (by simpa using rv.ints) (by unfold scanBound; omega) fun h' tk c R hc k => ?_
  exact ⟨.ref s.heap.objs.size, _, I.laid (t' := tk) k (Nat.le_refl _) (setO_new R), rfl, q _ c (I.hok.fresh (Nat.le_refl _)) hc⟩
theorem boot_set' : bootBuiltins "set" = some (.type "set") := by decide +kernel
/-- unlike ints, ascending -/
def setI (ns : List Int) : List Int := (sortI ns).foldr (fun x r => match r with | [] => [x] | y :: s => if x = y then y :: s else x :: y :: s) []
theorem dd_mem : ∀ {l : List Int} {k : Int}, k ∈ l.foldr (fun x r => match r with | [] => [x] | y :: s => if x = y then y :: s else x :: y :: s) [] ↔ k ∈ l
  | [], k => Iff.rfl
  | x :: l, k => by
    have ih := dd_mem (l := l) (k := k)
    simp only [List.foldr_cons, List.mem_cons]
    generalize l.foldr _ [] = r at ih ⊢
    cases r with
    | nil => simp at ih ⊢; intro h; exact absurd h ih
    | cons y s =>
      dsimp only
      split
      · rename_i h
        subst h
        rw [← ih]
        simp
      · rw [← ih]; simp
theorem dd_sorted : ∀ {l : List Int}, l.Pairwise (· ≤ ·) → (l.foldr (fun x r => match r with | [] => [x] | y :: s => if x = y then y :: s else x :: y :: s) []).Pairwise (· < ·)
  | [], _ => .nil
  | x :: l, h => by
    rw [List.pairwise_cons] at h
    have ih := dd_sorted h.2
    have mem : ∀ k, k ∈ l.foldr (fun x r => match r with | [] => [x] | y :: s => if x = y then y :: s else x :: y :: s) [] ↔ k ∈ l := fun k => dd_mem
    simp only [List.foldr_cons]
    generalize l.foldr _ [] = r at ih mem ⊢
    cases r with
    | nil => exact List.pairwise_singleton ..
    | cons y s =>
      dsimp only
      split
      · exact ih
      · rename_i hxy
        refine List.pairwise_cons.mpr ⟨fun z hz => ?_, ih⟩
        have hle := h.1 z ((mem z).mp hz)
        have hy := h.1 y ((mem y).mp List.mem_cons_self)
        rw [List.pairwise_cons] at ih
        rcases List.mem_cons.mp hz with rfl | hz
        · omega
        · have := ih.1 z hz; omega
theorem setI_mem {ns : List Int} {k : Int} : k ∈ setI ns ↔ k ∈ ns := by unfold setI; rw [dd_mem]; exact (sortI_perm ns).mem_iff
theorem setI_sorted (ns : List Int) : (setI ns).Pairwise (· < ·) := dd_sorted (sortI_sorted ns)
theorem asc_uniq : ∀ {l m : List Int}, l.Pairwise (· < ·) → m.Pairwise (· < ·) → (∀ k, k ∈ l ↔ k ∈ m) → l = m
  | [], [], _, _, _ => rfl
  | [], y :: m, _, _, h => absurd ((h y).mpr List.mem_cons_self) (by simp)
  | x :: l, [], _, _, h => absurd ((h x).mp List.mem_cons_self) (by simp)
  | x :: l, y :: m, h1, h2, h => by
    rw [List.pairwise_cons] at h1 h2
    have e : x = y := by
      rcases List.mem_cons.mp ((h x).mp List.mem_cons_self) with e | e
      · exact e
      · rcases List.mem_cons.mp ((h y).mpr List.mem_cons_self) with e2 | e2
        · exact e2.symm
        · have a := h1.1 y e2; have b := h2.1 x e; omega
    subst e
    rw [asc_uniq h1.2 h2.2 fun k => ⟨fun hk => ?_, fun hk => ?_⟩]
    · rcases List.mem_cons.mp ((h k).mp (List.mem_cons_of_mem _ hk)) with e | e
      · subst e; exact absurd (h1.1 k hk) (by omega)
      · exact e
    · rcases List.mem_cons.mp ((h k).mpr (List.mem_cons_of_mem _ hk)) with e | e
      · subst e; exact absurd (h2.1 k hk) (by omega)
      · exact e
/-- sorted(set(e)) -/
def dSortSet : List D → Option D := dInts fun ns => if ns.length < 64 then some (.list ((setI ns).map PyData.int)) else none
def tSS (K : PySem.W.Frag) (w : World) (tA : TA) : TE := tCB (rSortedSet w) (tCons (tCB (rSetL1 K w) tA) tNil)
theorem pf_sortSet (hc : X.calm = true) (hm : X.mg "sorted" = none) (hm2 : X.mg "set" = none) {p2 q2 : Pos} (ha : PAx X M [e] tA gs) (hg : Gl X "sorted" := by rfl) (hg2 : Gl X "set" := by rfl) (he : starEach [e] X.env = (false, eval e X.env) :: starEach [] X.env := by rfl)
    (he2 : starEach [.Call (.Name "set" p2) [e] [] q2] X.env = (false, eval (.Call (.Name "set" p2) [e] [] q2) X.env) :: starEach [] X.env := by rfl) : PFx X M (.Call (.Name "sorted" p) [.Call (.Name "set" p2) [e] [] q2] [] pos) (tSS X.K X.w tA) (gCall dSortSet gs) :=
  ⟨pe_callB (cr_sortedSet hc) hg hm boot_sorted' (pa_cons (pe_callTy (cr_setL1 hc) hg2 hm2 boot_set' ha.pe (by decide) (by decide) he) pa_nil he2) (by decide) (by decide) he2, fun F0 H0 F H σ E d Q r eq q => by
    obtain ⟨ds, e1, e2⟩ := Option.bind_eq_some_iff.mp eq
    obtain ⟨ns, rfl, e3⟩ := dInts_some e2
    split at e3
    · rename_i h64
      cases e3
      refine ha.rd _ _ _ _ _ _ _ _ r e1 fun vs F1 H1 x1 p1 => ?_
      obtain ⟨a, rfl, h3⟩ := one_ints p1
      refine ⟨a, ns, rfl, .inl (.inl (x1.s _ _ h3)), by omega, fun p c hp hc => ⟨p, _, c, rfl, upd_same, by omega, fun ns' p' hs hk hl hp' => ?_⟩⟩
      have hne : p' ≠ p := fun z => by subst z; rw [upd_same] at hp'; cases hp'
      have hp1 : H1 p' = none := by rw [upd_ne hne] at hp'; exact hp'
      rw [asc_uniq hs (setI_sorted ns) fun k => by rw [hk k, setI_mem]; simp]
      have x2 : Ext F1 H1 F1 (upd H1 p (SetO X.w p (fun j => decide (j ∈ ns)) c)) := .own x1.s hp
      have x3 := x2.trans (.own (o := .lst ((setI ns).map V.int)) x2.s hp')
      exact q p' _ _ _ _ rfl (x1.trans x3) (x1.h.free hp1) (x1.s.free hp1) upd_same (.ints _)
    · cases e3⟩
/-- len(set(e)) -/
def cntI (ns : List Int) : Nat := (PyProof.Rows.firstMet (fun i => ns.getD i 0) ns.length).length
def dLenSet : List D → Option D := dInts fun ns => if ns.length ≤ 4000 then some (.int (cntI ns)) else none
def tLS (K : PySem.W.Frag) (tA : TA) : TE := fun σ H Q => tA σ H fun vs H1 => ∃ (l : Addr) (ns : List Int), vs = [.ref l] ∧ SqL K H1 l (ns.map V.int) ∧ ns.length ≤ 4000 ∧ Q (.int (cntI ns)) H1
theorem pe_lenSet' {p2 q2 : Pos} (hc : X.calm = true) (hm : X.mg "len" = none) (hm2 : X.mg "set" = none) (ha : PA X [e] tA) (hg : Gl X "len") (hg2 : Gl X "set") (he : starEach [e] X.env = (false, eval e X.env) :: starEach [] X.env)
    (he2 : starEach [.Call (.Name "set" p2) [e] [] q2] X.env = (false, eval (.Call (.Name "set" p2) [e] [] q2) X.env) :: starEach [] X.env) : PE X (.Call (.Name "len" p) [.Call (.Name "set" p2) [e] [] q2] [] pos) (tLS X.K tA) := by
  refine ⟨fun pins s σ H Q I h => ?_⟩
  refine Call_ (ld_blt I hg hm boot_len (PyProof.Rows.callWith_builtin1 (PyProof.Rows.args_cons ?_ he2) he2 rfl))
  refine Call_ (ld_blt I hg2 hm2 boot_set (PyProof.Rows.callWith_type1 (thn (ha.run q2 pins s σ H _ I h) fun us s1 ⟨vs, H1, I1, r1, q1⟩ => ?_) he rfl))
  obtain ⟨l, ns, rfl, hq, hz, q1⟩ := q1
  rw [Vals.ref1 r1]
  obtain ⟨its, r, pl, _⟩ := I1.list hq
  have len : its.toArray.size = ns.length := by rw [List.size_toArray, ← r.length, List.length_map]
  refine call_set_list (I1.ok.hd hc) pl.isList (by simpa using r.ints) (by rw [len]; unfold scanBound; omega) fun h' tk hS hk => ?_
  refine PyProof.Rows.args_nil ?_
  rw [len] at hS
  obtain ⟨o, es, ep, t, ho, hex, hd, _, _, hb, hf, hn⟩ := hS
  have I2 : Inv X pins σ H1 { s1 with heap := h', toks := tk } := I1.kept fun b o e => hk b o (Heap.lt_size e) e
  have small : es.size < 2 ^ 63 := Nat.lt_of_lt_of_le hb (by unfold scanBound; decide)
  exact call_len_set ho hex hd hf (by first | exact small | omega) ⟨.int (cntI ns), H1, I2.tok _, ⟨_, by rw [hn]; rfl⟩, q1⟩
theorem px_lenSet {p2 q2 : Pos} (hc : X.calm = true) (hm : X.mg "len" = none) (hm2 : X.mg "set" = none) (ha : PAx X M [e] tA gs) (hg : Gl X "len" := by rfl) (hg2 : Gl X "set" := by rfl) (he : starEach [e] X.env = (false, eval e X.env) :: starEach [] X.env := by rfl)
    (he2 : starEach [.Call (.Name "set" p2) [e] [] q2] X.env = (false, eval (.Call (.Name "set" p2) [e] [] q2) X.env) :: starEach [] X.env := by rfl) : PX X M (.Call (.Name "len" p) [.Call (.Name "set" p2) [e] [] q2] [] pos) (tLS X.K tA) (gCall dLenSet gs) :=
  ⟨pe_lenSet' hc hm hm2 ha.pe hg hg2 he he2, fun F0 H0 F H σ E d Q r eq q => by
    obtain ⟨ds, e1, e2⟩ := Option.bind_eq_some_iff.mp eq
    obtain ⟨ns, rfl, e3⟩ := dInts_some e2
    split at e3
    · rename_i h4
      cases e3
      refine ha.rd _ _ _ _ _ _ _ _ r e1 fun vs F1 H1 x1 p1 => ?_
      obtain ⟨a, rfl, h3⟩ := one_ints p1
      exact ⟨a, ns, rfl, .inl (.inl (x1.s _ _ h3)), h4, q _ _ _ x1 (.int _)⟩
    · cases e3⟩
end Pu

namespace Pu
open PySem PySem.Spec PyProof.Rows L2
variable {K : PySem.W.Frag} {H H' F F' : Hp} {M M' M1 Mb : List Md} {F0 H0 F1 H1 : Hp} {σ : L2.St} {E E' : En} {m : Md} {v : V}
variable {X : Cx} {a b c e : Expr} {es : List Expr} {ta tb t : TE} {tc tT : TT} {ga gb gc g : Gx} {p pos : Pos} {tA : TA} {gs : Gl'}

/-! ### [d[k] for k in d], d not frozen -/
def valsD (ks : List (D × D)) : Option (List D) := ks.mapM fun p => (keyOf p.1).bind (lookK ks)
def gDvals (i j : Nat) : Gx := fun E => match gV i E with
  | some (.dict ks) => if ks.length ≤ 16000000 ∧ j < E.length then (valsD ks).map .list else none
  | _ => none
theorem RepK.at : ∀ {kvs : List (Key × V)} {ks : List (D × D)} {i : Nat} {k : Key} {v : V}, RepK K F kvs ks → kvs[i]? = some (k, v) → ∃ d, ks[i]? = some (keyD k, d)
  | _, _, _, _, _, .nil, h => by simp at h
  | _, _, 0, k, v, .cons _ _, h => by simp at h; obtain ⟨rfl, rfl⟩ := h; exact ⟨_, rfl⟩
  | _, _, i + 1, k, v, .cons _ r, h => by
    obtain ⟨d, h1⟩ := RepK.at (i := i) (k := k) (v := v) r (by simpa using h)
    exact ⟨d, by simpa using h1⟩
theorem mapM_at {α β : Type} {f : α → Option β} : ∀ {l : List α} {r : List β} {i : Nat} {x : α}, l.mapM f = some r → l[i]? = some x → ∃ y, f x = some y ∧ r[i]? = some y
  | [], r, i, x, h, hx => by simp at hx
  | y :: l, r, i, x, h, hx => by
    rw [List.mapM_cons] at h
    obtain ⟨z, h1, h2⟩ := Option.bind_eq_some_iff.mp h
    obtain ⟨zs, h3, h4⟩ := Option.bind_eq_some_iff.mp h2
    cases h4
    cases i with
    | zero => simp at hx; subst hx; exact ⟨z, h1, rfl⟩
    | succ i =>
      obtain ⟨w, h5, h6⟩ := mapM_at (i := i) h3 (by simpa using hx)
      exact ⟨w, h5, by simpa using h6⟩
theorem mapM_len {α β : Type} {f : α → Option β} : ∀ {l : List α} {r : List β}, l.mapM f = some r → r.length = l.length
  | [], r, h => by cases h; rfl
  | y :: l, r, h => by
    rw [List.mapM_cons] at h
    obtain ⟨z, h1, h2⟩ := Option.bind_eq_some_iff.mp h
    obtain ⟨zs, h3, h4⟩ := Option.bind_eq_some_iff.mp h2
    cases h4
    simp [mapM_len h3]
variable {own : List (Str × Nat)} {scope : Scope} {x y : Str} {p1 p2 p3 p4 p5 : Pos}
theorem rd_dvals (i j : Nat) (hij : i ≠ j) (hm : mAt M i = .od) : RdF K M (tLockE (tLc (iKeys (tVar i)) (gName j) tYes (tDGet (tVar i) (tVar j)) [j])) (gDvals i j) := fun F0 H0 F H σ E d Q r e q => by
  unfold gDvals at e
  split at e
  · rename_i ks e1
    split at e
    case isFalse => cases e
    rename_i hzj
    obtain ⟨hz, hjl⟩ := hzj
    obtain ⟨ys, hv, rfl⟩ := Option.map_eq_some_iff.mp e
    obtain ⟨a, kvs, g1, g2, g3, g4, g5⟩ := r.od hm e1
    have len := g5.length
    refine ⟨a, .dK kvs, g4, trivial, fun od => ?_⟩
    refine ⟨_, g1, a, od, rfl, .inl ⟨kvs, upd_same, fun D hD => ?_⟩⟩
    have hDa : D ≠ a := fun z => by subst z; rw [upd_same] at hD; cases hD
    have hDn : H D = none := by rw [upd_ne hDa] at hD; exact hD
    refine ⟨fun n m H2 => m = kvs.length - n ∧ n ≤ kvs.length ∧ H2 a = some (.frz od (.dK kvs)) ∧ (∀ b o, b ≠ a → H b = some o → H2 b = some o) ∧ ∃ acc, H2 D = some (.lst acc) ∧ Reps K F acc (ys.take n) ∧ acc.length = n, ⟨_, rfl, Nat.zero_le _, ?_, ?_, [], upd_same, .nil, rfl⟩, ?_⟩
    · rw [upd_ne (Ne.symm hDa), upd_same]
    · intro b o hb h
      rw [upd_ne (ne_of_none h hDn), upd_ne hb]
      exact h
    rintro n m H2 ⟨rfl, hle, h1, h2, acc, h3, h4, h5⟩
    by_cases hlt : n < kvs.length
    · refine .inr ⟨⟨h1, hlt⟩, fun H2 => n + 1 ≤ kvs.length ∧ H2 a = some (.frz od (.dK kvs)) ∧ (∀ b o, b ≠ a → H b = some o → H2 b = some o) ∧ ∃ acc, H2 D = some (.lst acc) ∧ Reps K F acc (ys.take (n + 1)) ∧ acc.length = n + 1, fun H' h => ⟨_, by omega, rfl, h⟩, fun z H' hy => ?_⟩
      obtain ⟨rfl, k, w, hkv, rfl⟩ := hy
      have line := sizeLine_eq
      have iw : i ∉ [j] := by simpa using hij
      refine ⟨?_, ?_⟩
      · unfold wipe
        show ((wipe (((wipe σ []).set j none).set j (some (kV k))) []).set j none) = (wipe σ []).set j none
        unfold wipe
        rw [List.set_set, List.set_set]
        rfl
      · simp only [tYes, if_true]
        refine ⟨.ref a, ?_, kV k, ?_, ?_⟩
        · rw [List.getElem?_set_ne (Ne.symm hij)]
          exact wipe_keep g1 iw
        · rw [List.getElem?_set_self (by rw [wipe_length, r.len]; exact hjl)]
        · obtain ⟨d, hd⟩ := g5.at hkv
          obtain ⟨w', hf, hw'⟩ := mapM_at hv hd
          have kk : keyOf (keyD k) = some k := by cases k <;> rfl
          rw [kk] at hf
          rcases g5.look k with ⟨u, z, l1, l2, pz⟩ | ⟨l1, l2⟩
          · have ez : z = w' := by
              have q2 : lookK ks k = some w' := hf
              rw [l2] at q2
              exact Option.some.inj q2
            subst ez
            refine ⟨a, u, rfl, .inl ⟨kvs, k, .inr ⟨od, h1⟩, rfl, l1.symm⟩, acc, h3, by omega, hlt, ?_, ?_, acc ++ [u], upd_same, ?_, by simp [h5]⟩
            · rw [upd_ne (Ne.symm hDa)]; exact h1
            · intro b o hb hh
              rw [upd_ne (ne_of_none hh hDn)]
              exact h2 b o hb hh
            · rw [List.take_add_one, hw']
              exact h4.app (.cons pz .nil)
          · have q2 : lookK ks k = some w' := hf
            rw [l2] at q2
            cases q2
    · have hn : n = kvs.length := by omega
      subst hn
      refine .inl ⟨⟨h1, Nat.le_refl _⟩, h1, ?_⟩
      rw [List.take_of_length_le (Nat.le_of_eq (by rw [mapM_len hv, len]))] at h4
      refine q D acc ys F _ rfl ⟨.refl _, fun b o h => ?_, fun b o h => ?_, fun _ _ _ h => h⟩ hDn (r.fs.free hDn) (by rw [upd_ne hDa]; exact h3) h4
      · by_cases hb : b = a
        · subst hb; rw [upd_same, ← g4]; exact h
        · rw [upd_ne hb]; exact h2 b o hb h
      · have hb := ne_of_none h g2
        rw [upd_ne hb]
        exact h2 b o hb (r.fs _ _ h)
  · cases e
theorem pf_dvals (i j : Nat) (hc : X.calm = true) (hN : X.N.Nodup) (hu : X.A.units + 1 < cLine) (ok : BlkOk X.N X.env.scope scope [(y, j)]) (hij : i ≠ j := by decide) (hm : mAt M i = .od := by rfl)
    (hi : X.N[i]? = some x := by rfl) (hj : X.N[j]? = some y := by rfl) (hv : Vis X.env.scope x := by first | exact Or.inl rfl | exact Or.inr (Or.inl rfl) | exact Or.inr (Or.inr rfl)) (hd : (x == ("__debug__" : Str)) = false := by decide) (hcd : (x == ("__classdict__" : Str)) = false := by decide)
    (hd2 : (y == ("__debug__" : Str)) = false := by decide) (hcd2 : (y == ("__classdict__" : Str)) = false := by decide)
    (hg : ∀ (s : Shared) (H : Hp) (C : Addr) (cl : List (Str × Addr)) (fp : List Addr), PG (X.blk s H scope (compEnvC scope cl C X.env) fp) (.Name y p1) (gName j) := by intro _ _ _ _ _; exact pg_name (by assumption) rfl (.inl rfl) (.inr rfl))
    (hbv : ∀ (s : Shared) (H : Hp) (C : Addr) (cl : List (Str × Addr)) (fp : List Addr), Vis (compEnvC scope cl C X.env).scope x ∧ Vis (compEnvC scope cl C X.env).scope y := by intro _ _ _ _ _; exact ⟨.inr (.inr rfl), .inl rfl⟩)
    (hs : ∀ z, foldedSetIterable (.Name x p2) X.env z = pure z := by intro _; rfl) :
    PFx X M (.ListComp (.Subscript (.Name x p3) (.Name y p4) p5) [⟨.Name y p1, .Name x p2, [], 0⟩] scope pos) (tLockE (tLc (iKeys (tVar i)) (gName j) tYes (tDGet (tVar i) (tVar j)) [j])) (gDvals i j) :=
  ⟨pe_lock (pe_lc hc hN (pi_keys (pe_var hi hv hd hcd)) ok hg (fun _ _ _ _ _ => pts_nil) (fun s H C cl fp => pe_dget hu (pe_var hi (hbv s H C cl fp).1 hd hcd) (pe_var hj (hbv s H C cl fp).2 hd2 hcd2) (fun _ _ => rfl)) hs), rd_dvals i j hij hm⟩

/-! ### {k: v for ..} -/
def dcL (tg : Tg) (c k e : Gx) (E : En) : List D → List (D × D) → Option (List (D × D))
  | [], acc => some acc
  | x :: xs, acc => (tg x E).bind fun E1 => match c E1 with
    | some (.bool true) => (k E1).bind fun kd => (e E1).bind fun y => (keyOf kd).bind fun _ => dcL tg c k e E xs (putD acc kd y)
    | some (.bool false) => dcL tg c k e E xs acc
    | _ => none
def gDc (own : List Nat) (tg : Tg) (src : Gl') (c k e : Gx) : Gx := fun E => (src E).bind fun xs => (dcL tg c k e (wipeE E own) xs []).bind fun r => gd xs.length (.dict r)
variable {is own' : List Nat} {gt : TG} {wi : TI} {tg : Tg} {src : Gl'} {tk te : TE} {gk : Gx}
theorem putK_len {κ : Type} [DecidableEq κ] (kvs : List (κ × V)) (k : κ) (v : V) : (putK kvs k v).length ≤ kvs.length + 1 := length_putK kvs k v
theorem rd_dc (hi : RdI K M wi src) (hg : RdG K M M1 is gt tg) (ho : ∀ i ∈ is, i ∈ own') (hc : RdT K M1 tc gc) (hk : RdE K M1 tk gk) (he : RdE K M1 te g) : RdH K M (tDc wi gt tc tk te own') (gDc own' tg src gc gk g) := fun F0 H0 F H σ E d Q r e q => by
  obtain ⟨xs, e1, e2⟩ := Option.bind_eq_some_iff.mp e
  obtain ⟨ys, e3, e4⟩ := Option.bind_eq_some_iff.mp e2
  obtain ⟨hz, rfl⟩ := gd_some e4
  refine hi _ _ _ _ _ _ _ _ r e1 fun J F1 H1 x1 j D hD => ?_
  have fD : F1 D = none := x1.s.free hD
  have r1 := r.grow x1
  have line := sizeLine_eq
  refine ⟨fun i m H2 => m = xs.length - i ∧ i ≤ xs.length ∧ ∃ F2 acc pre, Ext F1 H1 F2 H2 ∧ F2 D = none ∧ H2 D = some (.dK acc) ∧ RepK K F2 acc pre ∧ acc.length ≤ i ∧ dcL tg gc gk g (wipeE E own') (xs.drop i) pre = some ys,
    ⟨_, rfl, Nat.zero_le _, F1, [], [], .own x1.s hD, fD, upd_same, .nil, Nat.zero_le _, e3⟩, ?_⟩
  rintro i m H2 ⟨rfl, hle, F2, acc, pre, x2, f2, h2, p2, hl, e5⟩
  have r2 := (r1.grow x2).wipe own'
  have sH : Same F1 H2 := x2.f.trans x2.s
  by_cases hlt : i < xs.length
  · have hd : xs[i]? = some xs[i] := List.getElem?_eq_getElem hlt
    rw [List.drop_eq_getElem_cons hlt] at e5
    obtain ⟨E3, e7, e8⟩ := Option.bind_eq_some_iff.mp e5
    obtain ⟨jg, jy⟩ := j.go H2 i _ sH hd
    refine .inr ⟨jg, fun H2 => i + 1 ≤ xs.length ∧ ∃ F2 acc pre, Ext F1 H1 F2 H2 ∧ F2 D = none ∧ H2 D = some (.dK acc) ∧ RepK K F2 acc pre ∧ acc.length ≤ i + 1 ∧ dcL tg gc gk g (wipeE E own') (xs.drop (i + 1)) pre = some ys,
      fun H' h => ⟨_, by omega, rfl, h⟩, fun y H' hy => ?_⟩
    obtain ⟨rfl, py⟩ := jy y H' hy
    refine hg _ _ _ _ _ _ _ _ _ _ r2 (py.mono x2.f) e7 fun σ3 r3 w3 => ⟨(w3 own' ho).trans ?_, ?_⟩
    · have idem : ∀ (vs ws : List Nat) (σ : L2.St), (∀ k ∈ vs, k ∈ ws) → L2.wipe (L2.wipe σ vs) ws = L2.wipe σ ws := by
        intro vs
        induction vs with
        | nil => intro ws σ _; rfl
        | cons k vs ih =>
          intro ws σ h
          show L2.wipe ((L2.wipe σ vs).set k none) ws = _
          rw [wipe_set (h k List.mem_cons_self)]
          exact ih ws σ fun l hl => h l (List.mem_cons_of_mem _ hl)
      exact idem own' own' σ fun _ h => h
    · split at e8
      · rename_i h3
        obtain ⟨kd, e9, e10⟩ := Option.bind_eq_some_iff.mp e8
        obtain ⟨z, e11, e12⟩ := Option.bind_eq_some_iff.mp e10
        obtain ⟨k', e13, e14⟩ := Option.bind_eq_some_iff.mp e12
        refine hc _ _ _ _ _ _ _ _ r3 h3 (fun b F4 H4 eb x4 => ?_) ⟨_, rfl⟩
        cases eb
        refine iteT (hk _ _ _ _ _ _ _ _ (r3.grow x4) e9 fun u F5 H5 x5 p5 => he _ _ _ _ _ _ _ _ ((r3.grow x4).grow x5) e11 fun w F6 H6 x6 p6 => ?_)
        have x7 := (x4.trans x5).trans x6
        have f7 : F6 D = none := x7.n D _ h2 f2
        have h7 := x7.h _ _ h2
        have hp := putK_len acc k' w
        rw [keyOf_rep p5 e13]
        refine ⟨acc, k', rfl, h7, by omega, hlt, F6, putK acc k' w, putD pre kd z, ?_, f7, upd_same, by rw [keyD_of e13]; exact (p2.mono x7.f).put p6, by omega, e14⟩
        have x8 := x2.trans x7
        refine ⟨x8.f, fun b o hb => by rw [upd_ne (ne_of_none hb hD)]; exact x8.h _ _ hb, same_toU x8.s f7, x8.n⟩
      · rename_i h3
        refine hc _ _ _ _ _ _ _ _ r3 h3 (fun b F4 H4 eb x4 => ?_) ⟨_, rfl⟩
        cases eb
        exact iteF ⟨hlt, F4, acc, pre, x2.trans x4, x4.n D _ h2 f2, x4.h _ _ h2, p2.mono x4.f, by omega, e8⟩
      · cases e8
  · have hi : xs.length ≤ i := by omega
    rw [List.drop_eq_nil_of_le hi] at e5
    cases e5
    exact .inl ⟨j.stop H2 i sH hi, q D acc _ F2 H2 rfl (x1.trans x2) (x1.h.free hD) f2 h2 p2⟩
variable {tgE iter kx vx : Expr} {ifs : List Expr} {own : List (Str × Nat)}
theorem ph_dc (hc : X.calm = true) (hN : X.N.Nodup) (hi : PIx X M tgE iter wi src) (ok : BlkOk X.N X.env.scope scope own)
    (hg : ∀ (s : Shared) (H : Hp) (C : Addr) (cl : List (Str × Addr)) (fp : List Addr), PGx (X.blk s H scope (compEnvC scope cl C X.env) fp) M M1 is tgE gt tg)
    (ht : ∀ (s : Shared) (H : Hp) (C : Addr) (cl : List (Str × Addr)) (fp : List Addr), PTsx (X.blk s H scope (compEnvC scope cl C X.env) fp) M1 ifs tc gc)
    (hk : ∀ (s : Shared) (H : Hp) (C : Addr) (cl : List (Str × Addr)) (fp : List Addr), PX (X.blk s H scope (compEnvC scope cl C X.env) fp) M1 kx tk gk)
    (he : ∀ (s : Shared) (H : Hp) (C : Addr) (cl : List (Str × Addr)) (fp : List Addr), PX (X.blk s H scope (compEnvC scope cl C X.env) fp) M1 vx te g)
    (ho : ∀ i ∈ is, i ∈ own.map (·.2) := by decide) (hs : ∀ x, foldedSetIterable iter X.env x = pure x := by intro _; rfl) :
    PHx X M (.DictComp kx vx [⟨tgE, iter, ifs, 0⟩] scope pos) (tDc wi gt tc tk te (own.map (·.2))) (gDc (own.map (·.2)) tg src gc gk g) :=
  ⟨pe_dc hc hN hi.pe ok (fun s H C cl fp => (hg s H C cl fp).pe) (fun s H C cl fp => (ht s H C cl fp).pe) (fun s H C cl fp => (hk s H C cl fp).pe) (fun s H C cl fp => (he s H C cl fp).pe) hs,
    rd_dc hi.rd (hg X.s_0 X.H_0 0 [] []).rd ho (ht X.s_0 X.H_0 0 [] []).rd (hk X.s_0 X.H_0 0 [] []).rd (he X.s_0 X.H_0 0 [] []).rd⟩
end Pu

namespace Pu
open PySem PySem.Spec PyProof.Rows L2
variable {K : PySem.W.Frag} {H H' F F' : Hp} {M M' M1 M2 M3 Mb : List Md} {F0 H0 F1 H1 : Hp} {σ : L2.St} {E E' : En} {m : Md} {v : V}
variable {X : Cx} {a b c e : Expr} {es : List Expr} {ta tb t : TE} {tc tT : TT} {ga gb gc g : Gx} {p pos : Pos} {tA : TA} {gs : Gl'}
variable {s : Stmt} {ss : List Stmt} {tS uS : TS} {gS hS : Sm} {x : Str}
variable {is is1 : List Nat} {own : List (Str × Nat)} {gt gt1 : TG} {wi wi1 : TI} {tg tg1 : Tg} {src src1 : Gl'} {te : TE} {tgE iter tgE1 iter1 elt : Expr} {ifs ifs1 : List Expr} {scope : Scope} {tc1 : TT} {gc1 : Gx}
/-! ### two clauses -/
def lcL2 (vs1 : List Nat) (tg : Tg) (c : Gx) (src1 : Gl') (tg1 : Tg) (c1 e : Gx) (E : En) : List D → Option (List D)
  | [] => some []
  | x :: xs => (tg x E).bind fun E1 => match c E1 with
    | some (.bool true) => (src1 E1).bind fun zs => (lcL tg1 c1 e (wipeE E1 vs1) zs).bind fun a => (lcL2 vs1 tg c src1 tg1 c1 e E xs).map fun r => a ++ r
    | some (.bool false) => lcL2 vs1 tg c src1 tg1 c1 e E xs
    | _ => none
def gLc2 (own vs1 : List Nat) (tg : Tg) (src : Gl') (c : Gx) (src1 : Gl') (tg1 : Tg) (c1 e : Gx) : Gx := fun E => (src E).bind fun xs => (lcL2 vs1 tg c src1 tg1 c1 e (wipeE E own) xs).bind fun r => gd r.length (.list r)
theorem wipe_idem : ∀ (vs ws : List Nat) (σ : L2.St), (∀ k ∈ vs, k ∈ ws) → L2.wipe (L2.wipe σ vs) ws = L2.wipe σ ws := by
  intro vs
  induction vs with
  | nil => intro ws σ _; rfl
  | cons k vs ih =>
    intro ws σ h
    show L2.wipe ((L2.wipe σ vs).set k none) ws = _
    rw [wipe_set (h k List.mem_cons_self)]
    exact ih ws σ fun l hl => h l (List.mem_cons_of_mem _ hl)
def inner2 (wi1 : TI) (g1 : TG) (tt1 : TT) (te : TE) (vs1 : List Nat) (D : Addr) (Nx : Hp → Prop) (σ2 : L2.St) (H3 : Hp) : Prop :=
  wi1 σ2 H3 fun J1 H4 => ∃ W1 : Nat → Nat → Hp → Prop, (∃ m, W1 0 m H4) ∧ ∀ j k H, W1 j k H →
      (J1.stop j H ∧ Nx H) ∨ (J1.go j H ∧ ∃ Nx1 : Hp → Prop, (∀ H', Nx1 H' → ∃ k', k' < k ∧ W1 (j + 1) k' H') ∧ ∀ x H', J1.yld j H x H' → g1 x (wipe σ2 vs1) H' fun σ3 H5 => wipe σ3 vs1 = wipe σ2 vs1 ∧ tt1 σ3 H5 fun b H6 =>
        if b = true then te σ3 H6 fun y H7 => ∃ acc, H7 D = some (.lst acc) ∧ acc.length < sizeLine ∧ Nx1 (upd H7 D (.lst (acc ++ [y]))) else Nx1 H6)
theorem upd_id {H : Hp} {D : Addr} {o : HO} (h : H D = some o) : upd H D o = H := by
  funext b
  by_cases hb : b = D
  · subst hb; rw [upd_same, h]
  · rw [upd_ne hb]
theorem ER.reD {D : Addr} {acc : List V} (acc' : List V) (r : ER K M F0 H0 F H σ E) (f : F D = none) (h0 : H0 D = some (.lst acc)) : ER K M F0 (upd H0 D (.lst acc')) F (upd H D (.lst acc')) σ E := by
  have f0 : F0 D = none := Same.free (show Same F0 F from r.ext.f) f
  refine ⟨⟨r.ext.f, fun b o hb => ?_, fun b o hb => by rw [upd_ne (ne_of_none hb f)]; exact r.ext.s _ _ hb, fun b o hb hf => ?_⟩, fun b o hb => by rw [upd_ne (ne_of_none hb f0)]; exact r.z _ _ hb, r.len, fun i d h => ?_, r.ap⟩
  · by_cases hbD : b = D
    · subst hbD; rw [upd_same] at hb ⊢; exact hb
    · rw [upd_ne hbD] at hb ⊢; exact r.ext.h _ _ hb
  · by_cases hbD : b = D
    · subst hbD; exact f
    · rw [upd_ne hbD] at hb; exact r.ext.n b o hb hf
  · obtain ⟨v, h1, h2⟩ := r.sl i d h
    refine ⟨v, h1, ?_⟩
    cases hm : mAt M i with
    | fr => rw [hm] at h2; exact h2
    | sc => rw [hm] at h2; exact h2
    | ol =>
      rw [hm] at h2
      obtain ⟨a, vs, ds, e1, e2, e3, e4, e5, e6⟩ := h2
      have hn : a ≠ D := fun e => by subst e; rw [h0] at e4; cases e4
      exact ⟨a, vs, ds, e1, e2, e3, by rw [upd_ne hn]; exact e4, by rw [upd_ne hn]; exact e5, e6⟩
    | od =>
      rw [hm] at h2
      obtain ⟨a, vs, ds, e1, e2, e3, e4, e5, e6⟩ := h2
      have hn : a ≠ D := fun e => by subst e; rw [h0] at e4; cases e4
      exact ⟨a, vs, ds, e1, e2, e3, by rw [upd_ne hn]; exact e4, by rw [upd_ne hn]; exact e5, e6⟩
theorem ER.addD {D : Addr} {acc : List V} (r : ER K M F0 H0 F H σ E) (h : H D = none) : ER K M F0 (upd H0 D (.lst acc)) F (upd H D (.lst acc)) σ E := by
  have h0 : H0 D = none := Same.free (show Same H0 H from r.ext.h) h
  have f : F D = none := Same.free (show Same F H from r.ext.s) h
  have f0 : F0 D = none := Same.free (show Same F0 F from r.ext.f) f
  refine ⟨⟨r.ext.f, fun b o hb => ?_, fun b o hb => by rw [upd_ne (ne_of_none hb f)]; exact r.ext.s _ _ hb, fun b o hb hf => ?_⟩, fun b o hb => by rw [upd_ne (ne_of_none hb f0)]; exact r.z _ _ hb, r.len, fun i d e => ?_, r.ap⟩
  · by_cases hbD : b = D
    · subst hbD; rw [upd_same] at hb ⊢; exact hb
    · rw [upd_ne hbD] at hb ⊢; exact r.ext.h _ _ hb
  · by_cases hbD : b = D
    · subst hbD; exact f
    · rw [upd_ne hbD] at hb; exact r.ext.n b o hb hf
  · obtain ⟨v, h1, h2⟩ := r.sl i d e
    refine ⟨v, h1, ?_⟩
    cases hm : mAt M i with
    | fr => rw [hm] at h2; exact h2
    | sc => rw [hm] at h2; exact h2
    | ol =>
      rw [hm] at h2
      obtain ⟨a, vs, ds, e1, e2, e3, e4, e5, e6⟩ := h2
      have hn : a ≠ D := ne_of_none e5 h
      exact ⟨a, vs, ds, e1, e2, e3, by rw [upd_ne hn]; exact e4, by rw [upd_ne hn]; exact e5, e6⟩
    | od =>
      rw [hm] at h2
      obtain ⟨a, vs, ds, e1, e2, e3, e4, e5, e6⟩ := h2
      have hn : a ≠ D := ne_of_none e5 h
      exact ⟨a, vs, ds, e1, e2, e3, by rw [upd_ne hn]; exact e4, by rw [upd_ne hn]; exact e5, e6⟩
theorem keepU {D : Addr} {L : List V} {F H F3 H3 : Hp} (f : F D = none) (h : H D = some (.lst L)) (x3 : Ext F H F3 H3) : Ext F (upd H D (.lst [])) F3 (upd H3 D (.lst [])) := by
  refine ⟨x3.f, fun b o hb => ?_, fun b o hb => ?_, fun b o hb hf => ?_⟩
  · by_cases hbD : b = D
    · subst hbD; rw [upd_same] at hb ⊢; exact hb
    · rw [upd_ne hbD] at hb ⊢; exact x3.h _ _ hb
  · rw [upd_ne (ne_of_none hb (x3.n D _ h f))]; exact x3.s _ _ hb
  · by_cases hbD : b = D
    · subst hbD; exact x3.n _ _ h f
    · rw [upd_ne hbD] at hb; exact x3.n b o hb hf
theorem ER.step {D : Addr} {acc0 acc : List V} {F2 H2 : Hp} (r : ER K M F0 H0 F H σ E) (h0 : H0 D = some (.lst acc0)) (f : F D = none) (x : Ext F (upd H D (.lst [])) F2 (upd H2 D (.lst []))) (f2 : F2 D = none) (h2 : H2 D = some (.lst acc)) : ER K M F0 (upd H0 D (.lst acc)) F2 H2 σ E := by
  have a := ((r.reD [] f h0).grow x).reD acc f2 upd_same
  rw [upd_upd, upd_upd, upd_id h2] at a
  exact a
theorem rd_inner {vs1 : List Nat} {D : Addr} {acc0 : List V} {pre0 zs out : List PyData} {Nx : Hp → Prop}
    (hi : RdI K M2 wi1 src1) (hg : RdG K M2 M3 is1 gt1 tg1) (ho : ∀ i ∈ is1, i ∈ vs1) (hc : RdT K M3 tc1 gc1) (he : RdE K M3 te g)
    (r : ER K M2 F0 H0 F H σ E) (h0 : H0 D = some (.lst acc0)) (e1 : src1 E = some zs) (e3 : lcL tg1 gc1 g (wipeE E vs1) zs = some out) (fD : F D = none) (hD : H D = some (.lst acc0)) (p0 : Reps K F acc0 pre0) (hz : pre0.length + out.length ≤ 16000000)
    (hNx : ∀ F' H' acc', Ext F (upd H D (.lst [])) F' (upd H' D (.lst [])) → Same F' H' → F' D = none → H' D = some (.lst acc') → Reps K F' acc' (pre0 ++ out) → Nx H') :
    inner2 wi1 gt1 tc1 te vs1 D Nx σ H := by
  refine hi _ _ _ _ _ _ _ _ r e1 fun J F1 H1 x1 j => ?_
  have f1D : F1 D = none := x1.n D _ hD fD
  have h1D := x1.h _ _ hD
  have r1 := r.grow x1
  have line := sizeLine_eq
  refine ⟨fun i m H2 => m = zs.length - i ∧ i ≤ zs.length ∧ ∃ F2 acc pre post, Ext F1 (upd H1 D (.lst [])) F2 (upd H2 D (.lst [])) ∧ Same F2 H2 ∧ F2 D = none ∧ H2 D = some (.lst acc) ∧ Reps K F2 acc (pre0 ++ pre) ∧ lcL tg1 gc1 g (wipeE E vs1) (zs.drop i) = some post ∧ out = pre ++ post,
    ⟨_, rfl, Nat.zero_le _, F1, acc0, [], out, ⟨.refl _, .refl _, fun b o hb => by rw [upd_ne (ne_of_none hb f1D)]; exact x1.s _ _ hb, fun _ _ _ h => h⟩, x1.s, f1D, h1D, by rw [List.append_nil]; exact p0.mono x1.f, e3, rfl⟩, ?_⟩
  rintro i m H2 ⟨rfl, hle, F2, acc, pre, post, x2, s2, f2, h2, p2, e5, e6⟩
  have sH : Same F1 H2 := x2.f.trans s2
  have r2 := (r1.step h0 f1D x2 f2 h2).wipe vs1
  by_cases hlt : i < zs.length
  · have hd : zs[i]? = some zs[i] := List.getElem?_eq_getElem hlt
    rw [List.drop_eq_getElem_cons hlt] at e5
    obtain ⟨E3, e7, e8⟩ := Option.bind_eq_some_iff.mp e5
    obtain ⟨jg, jy⟩ := j.go H2 i _ sH hd
    refine .inr ⟨jg, fun H2 => i + 1 ≤ zs.length ∧ ∃ F2 acc pre post, Ext F1 (upd H1 D (.lst [])) F2 (upd H2 D (.lst [])) ∧ Same F2 H2 ∧ F2 D = none ∧ H2 D = some (.lst acc) ∧ Reps K F2 acc (pre0 ++ pre) ∧ lcL tg1 gc1 g (wipeE E vs1) (zs.drop (i + 1)) = some post ∧ out = pre ++ post,
      fun H' h => ⟨_, by omega, rfl, h⟩, fun y H' hy => ?_⟩
    obtain ⟨rfl, py⟩ := jy y H' hy
    refine hg _ _ _ _ _ _ _ _ _ _ r2 (py.mono x2.f) e7 fun σ3 r3 w3 => ⟨(w3 vs1 ho).trans (wipe_idem vs1 vs1 σ fun _ h => h), ?_⟩
    split at e8
    · rename_i h3
      obtain ⟨z, e9, e10⟩ := Option.bind_eq_some_iff.mp e8
      obtain ⟨rest, e11, rfl⟩ := Option.map_eq_some_iff.mp e10
      refine hc _ _ _ _ _ _ _ _ r3 h3 (fun b F4 H4 eb x4 => ?_) ⟨_, rfl⟩
      cases eb
      refine iteT (he _ _ _ _ _ _ _ _ (r3.grow x4) e9 fun w F5 H5 x5 p5 => ?_)
      have x6 := x4.trans x5
      have f5 : F5 D = none := x6.n D _ h2 f2
      have hlen : acc.length < 16000000 := by
        rw [p2.length]
        subst e6
        simp only [List.length_append, List.length_cons] at hz ⊢
        omega
      refine ⟨acc, x6.h _ _ h2, by omega, hlt, F5, acc ++ [w], pre ++ [z], rest, by rw [upd_upd]; exact x2.trans (keepU f2 h2 x6), same_toU x6.s f5, f5, upd_same, by rw [← List.append_assoc]; exact (p2.mono x6.f).app (.cons p5 .nil), e11, by rw [e6, List.append_assoc]; rfl⟩
    · rename_i h3
      refine hc _ _ _ _ _ _ _ _ r3 h3 (fun b F4 H4 eb x4 => ?_) ⟨_, rfl⟩
      cases eb
      exact iteF ⟨hlt, F4, acc, pre, post, x2.trans (keepU f2 h2 x4), x4.s, x4.n D _ h2 f2, x4.h _ _ h2, p2.mono x4.f, e8, e6⟩
    · cases e8
  · have hi : zs.length ≤ i := by omega
    rw [List.drop_eq_nil_of_le hi] at e5
    cases e5
    rw [List.append_nil] at e6
    subst e6
    exact .inl ⟨j.stop H2 i sH hi, hNx F2 H2 acc ((keepU fD hD x1).trans x2) s2 f2 h2 p2⟩
theorem rd_lc2 {own vs1 : List Nat} (hi : RdI K M wi src) (hg : RdG K M M1 is gt tg) (ho : ∀ i ∈ is, i ∈ own) (hc : RdT K M1 tc gc) (hi1 : RdI K M1 wi1 src1) (hg1 : RdG K M1 M3 is1 gt1 tg1) (ho1 : ∀ i ∈ is1, i ∈ vs1) (hc1 : RdT K M3 tc1 gc1) (he : RdE K M3 te g) :
    RdF K M (tLc2 wi gt tc wi1 gt1 tc1 te own vs1) (gLc2 own vs1 tg src gc src1 tg1 gc1 g) := fun F0 H0 F H σ E d Q r e q => by
  obtain ⟨xs, e1, e2⟩ := Option.bind_eq_some_iff.mp e
  obtain ⟨ys, e3, e4⟩ := Option.bind_eq_some_iff.mp e2
  obtain ⟨hz, rfl⟩ := gd_some e4
  refine hi _ _ _ _ _ _ _ _ r e1 fun J F1 H1 x1 j D hD => ?_
  have fD : F1 D = none := x1.s.free hD
  have r1 := (r.grow x1).addD (acc := []) hD
  have line := sizeLine_eq
  refine ⟨fun i m H2 => m = xs.length - i ∧ i ≤ xs.length ∧ ∃ F2 acc pre post, Ext F1 (upd H1 D (.lst [])) F2 (upd H2 D (.lst [])) ∧ Same F2 H2 ∧ F2 D = none ∧ H2 D = some (.lst acc) ∧ Reps K F2 acc pre ∧ lcL2 vs1 tg gc src1 tg1 gc1 g (wipeE E own) (xs.drop i) = some post ∧ ys = pre ++ post,
    ⟨_, rfl, Nat.zero_le _, F1, [], [], ys, ⟨.refl _, by rw [upd_upd]; exact .refl _, by rw [upd_upd]; exact x1.s.trans (same_upd hD), fun _ _ _ h => h⟩, x1.s.trans (same_upd hD), fD, upd_same, .nil, e3, rfl⟩, ?_⟩
  rintro i m H2 ⟨rfl, hle, F2, acc, pre, post, x2, s2, f2, h2, p2, e5, e6⟩
  have ext1 : Ext F1 H1 F2 H2 := ⟨x2.f, fun b o hb => by
    have hn := ne_of_none hb hD
    have := x2.h b o (by rw [upd_ne hn]; exact hb)
    rw [upd_ne hn] at this
    exact this, s2, fun b o hb hf => x2.n b o (by rw [upd_ne (ne_of_none hb hD)]; exact hb) hf⟩
  have r2 := (r1.step upd_same fD (by rw [upd_upd]; exact x2) f2 h2).wipe own
  rw [upd_upd] at r2
  have sH : Same F1 H2 := x2.f.trans s2
  by_cases hlt : i < xs.length
  · have hd : xs[i]? = some xs[i] := List.getElem?_eq_getElem hlt
    rw [List.drop_eq_getElem_cons hlt] at e5
    obtain ⟨E3, e7, e8⟩ := Option.bind_eq_some_iff.mp e5
    obtain ⟨jg, jy⟩ := j.go H2 i _ sH hd
    refine .inr ⟨jg, fun H2 => i + 1 ≤ xs.length ∧ ∃ F2 acc pre post, Ext F1 (upd H1 D (.lst [])) F2 (upd H2 D (.lst [])) ∧ Same F2 H2 ∧ F2 D = none ∧ H2 D = some (.lst acc) ∧ Reps K F2 acc pre ∧ lcL2 vs1 tg gc src1 tg1 gc1 g (wipeE E own) (xs.drop (i + 1)) = some post ∧ ys = pre ++ post,
      fun H' h => ⟨_, by omega, rfl, h⟩, fun y H' hy => ?_⟩
    obtain ⟨rfl, py⟩ := jy y H' hy
    refine hg _ _ _ _ _ _ _ _ _ _ r2 (py.mono x2.f) e7 fun σ3 r3 w3 => ⟨(w3 own ho).trans (wipe_idem own own σ fun _ h => h), ?_⟩
    split at e8
    · rename_i h3
      obtain ⟨zs, e9, e10⟩ := Option.bind_eq_some_iff.mp e8
      obtain ⟨out, e11, e12⟩ := Option.bind_eq_some_iff.mp e10
      obtain ⟨rest, e13, rfl⟩ := Option.map_eq_some_iff.mp e12
      refine hc _ _ _ _ _ _ _ _ r3 h3 (fun b F4 H4 eb x4 => ?_) ⟨_, rfl⟩
      cases eb
      have hl4 : pre.length + out.length ≤ 16000000 := by
        rw [e6] at hz
        simp only [List.length_append] at hz
        omega
      refine iteT (rd_inner hi1 hg1 ho1 hc1 he (r3.grow x4) upd_same e9 e11 (x4.n D _ h2 f2) (x4.h _ _ h2) (p2.mono x4.f) hl4 fun F' H' acc' x5 s5 f5 h5 p5 => ?_)
      exact ⟨hlt, F', acc', pre ++ out, rest, x2.trans ((keepU f2 h2 x4).trans x5), s5, f5, h5, p5, e13, by rw [e6, List.append_assoc]⟩
    · rename_i h3
      refine hc _ _ _ _ _ _ _ _ r3 h3 (fun b F4 H4 eb x4 => ?_) ⟨_, rfl⟩
      cases eb
      exact iteF ⟨hlt, F4, acc, pre, post, x2.trans (keepU f2 h2 x4), x4.s, x4.n D _ h2 f2, x4.h _ _ h2, p2.mono x4.f, e8, e6⟩
    · cases e8
  · have hi : xs.length ≤ i := by omega
    rw [List.drop_eq_nil_of_le hi] at e5
    cases e5
    rw [List.append_nil] at e6
    subst e6
    exact .inl ⟨j.stop H2 i sH hi, q D acc _ F2 H2 rfl (x1.trans ext1) (x1.h.free hD) f2 h2 p2⟩
theorem pf_lc2 (hc : X.calm = true) (hN : X.N.Nodup) (vs1 : List Nat) (hi : PIx X M tgE iter wi src) (ok : BlkOk X.N X.env.scope scope own)
    (hg : ∀ (s : Shared) (H : Hp) (C : Addr) (cl : List (Str × Addr)) (fp : List Addr), PGx (X.blk s H scope (compEnvC scope cl C X.env) fp) M M1 is tgE gt tg)
    (ht : ∀ (s : Shared) (H : Hp) (C : Addr) (cl : List (Str × Addr)) (fp : List Addr), PTsx (X.blk s H scope (compEnvC scope cl C X.env) fp) M1 ifs tc gc)
    (hi1 : ∀ (s : Shared) (H : Hp) (C : Addr) (cl : List (Str × Addr)) (fp : List Addr), PIx (X.blk s H scope (compEnvC scope cl C X.env) fp) M1 tgE1 iter1 wi1 src1)
    (hg1 : ∀ (s : Shared) (H : Hp) (C : Addr) (cl : List (Str × Addr)) (fp : List Addr), PGx (X.blk s H scope (compEnvC scope cl C X.env) fp) M1 M3 is1 tgE1 gt1 tg1)
    (ht1 : ∀ (s : Shared) (H : Hp) (C : Addr) (cl : List (Str × Addr)) (fp : List Addr), PTsx (X.blk s H scope (compEnvC scope cl C X.env) fp) M3 ifs1 tc1 gc1)
    (he : ∀ (s : Shared) (H : Hp) (C : Addr) (cl : List (Str × Addr)) (fp : List Addr), PX (X.blk s H scope (compEnvC scope cl C X.env) fp) M3 elt te g)
    (ho : ∀ i ∈ is, i ∈ own.map (·.2) := by decide) (ho1 : ∀ i ∈ is1, i ∈ vs1 := by decide) (hv : ∀ i ∈ vs1, i ∈ own.map (·.2) := by decide) (hs : ∀ x, foldedSetIterable iter X.env x = pure x := by intro _; rfl) (hs1 : ∀ env x, foldedSetIterable iter1 env x = pure x := by intro _ _; rfl) :
    PFx X M (.ListComp elt [⟨tgE, iter, ifs, 0⟩, ⟨tgE1, iter1, ifs1, 0⟩] scope pos) (tLc2 wi gt tc wi1 gt1 tc1 te (own.map (·.2)) vs1) (gLc2 (own.map (·.2)) vs1 tg src gc src1 tg1 gc1 g) :=
  ⟨pe_lc2 hc hN hi.pe ok hv (fun s H C cl fp => (hg s H C cl fp).pe) (fun s H C cl fp => (ht s H C cl fp).pe) (fun s H C cl fp => (hi1 s H C cl fp).pe) (fun s H C cl fp => (hg1 s H C cl fp).pe) (fun s H C cl fp => (ht1 s H C cl fp).pe) (fun s H C cl fp => (he s H C cl fp).pe) hs hs1,
    rd_lc2 hi.rd (hg X.s_0 X.H_0 0 [] []).rd ho (ht X.s_0 X.H_0 0 [] []).rd (hi1 X.s_0 X.H_0 0 [] []).rd (hg1 X.s_0 X.H_0 0 [] []).rd ho1 (ht1 X.s_0 X.H_0 0 [] []).rd (he X.s_0 X.H_0 0 [] []).rd⟩
theorem pb_lc2 (i : Nat) {py spos : Pos} (hc : X.calm = true) (hN : X.N.Nodup) (vs1 : List Nat) (hi : PIx X M tgE iter wi src) (ok : BlkOk X.N X.env.scope scope own)
    (hg : ∀ (s : Shared) (H : Hp) (C : Addr) (cl : List (Str × Addr)) (fp : List Addr), PGx (X.blk s H scope (compEnvC scope cl C X.env) fp) M M1 is tgE gt tg)
    (ht : ∀ (s : Shared) (H : Hp) (C : Addr) (cl : List (Str × Addr)) (fp : List Addr), PTsx (X.blk s H scope (compEnvC scope cl C X.env) fp) M1 ifs tc gc)
    (hi1 : ∀ (s : Shared) (H : Hp) (C : Addr) (cl : List (Str × Addr)) (fp : List Addr), PIx (X.blk s H scope (compEnvC scope cl C X.env) fp) M1 tgE1 iter1 wi1 src1)
    (hg1 : ∀ (s : Shared) (H : Hp) (C : Addr) (cl : List (Str × Addr)) (fp : List Addr), PGx (X.blk s H scope (compEnvC scope cl C X.env) fp) M1 M3 is1 tgE1 gt1 tg1)
    (ht1 : ∀ (s : Shared) (H : Hp) (C : Addr) (cl : List (Str × Addr)) (fp : List Addr), PTsx (X.blk s H scope (compEnvC scope cl C X.env) fp) M3 ifs1 tc1 gc1)
    (he : ∀ (s : Shared) (H : Hp) (C : Addr) (cl : List (Str × Addr)) (fp : List Addr), PX (X.blk s H scope (compEnvC scope cl C X.env) fp) M3 elt te g)
    (hsw : swapsWith (.ListComp elt [⟨tgE, iter, ifs, 0⟩, ⟨tgE1, iter1, ifs1, 0⟩] scope pos) (some (.Name x py)) spos.line X.env = pure true := by exact sw_true rfl rfl rfl (by decide +kernel)) (hy : X.N[i]? = some x := by rfl) (hyl : X.env.scope.names.lookup x = some .local := by rfl)
    (ho : ∀ i ∈ is, i ∈ own.map (·.2) := by decide) (ho1 : ∀ i ∈ is1, i ∈ vs1 := by decide) (hv : ∀ i ∈ vs1, i ∈ own.map (·.2) := by decide) (hs : ∀ x, foldedSetIterable iter X.env x = pure x := by intro _; rfl) (hs1 : ∀ env x, foldedSetIterable iter1 env x = pure x := by intro _ _; rfl) :
    PB X M (M.set i .fr) Mb (.Assign [.Name x py] (.ListComp elt [⟨tgE, iter, ifs, 0⟩, ⟨tgE1, iter1, ifs1, 0⟩] scope pos) spos) (tAsg (tLc2 wi gt tc wi1 gt1 tc1 te (own.map (·.2)) vs1) (gName i)) (sSet i (gLc2 (own.map (·.2)) vs1 tg src gc src1 tg1 gc1 g)) :=
  ⟨ps_setLc2 hc hN hy hyl hsw hi.pe ok hv (fun s H C cl fp => (hg s H C cl fp).pe) (fun s H C cl fp => (ht s H C cl fp).pe) (fun s H C cl fp => (hi1 s H C cl fp).pe) (fun s H C cl fp => (hg1 s H C cl fp).pe) (fun s H C cl fp => (ht1 s H C cl fp).pe) (fun s H C cl fp => (he s H C cl fp).pe) hs hs1,
    rd_set i (rd_lc2 hi.rd (hg X.s_0 X.H_0 0 [] []).rd ho (ht X.s_0 X.H_0 0 [] []).rd (hi1 X.s_0 X.H_0 0 [] []).rd (hg1 X.s_0 X.H_0 0 [] []).rd ho1 (ht1 X.s_0 X.H_0 0 [] []).rd (he X.s_0 X.H_0 0 [] []).rd).toE⟩

/-! ### sorted(d), the keys ints -/
def keysI : List (D × D) → Option (List Int)
  | [] => some []
  | (.int i, _) :: r => (keysI r).map fun l => i :: l
  | _ => none
theorem keysI_some : ∀ {kvs : List (Key × V)} {ks : List (D × D)} {ns : List Int}, RepK K F kvs ks → keysI ks = some ns → kvs.map (·.1) = ns.map Sum.inl
  | _, _, ns, .nil, h => by cases h; rfl
  | _, _, ns, .cons (k := k) a r, h => by
    cases k with
    | inl i =>
      obtain ⟨l, h1, rfl⟩ := Option.map_eq_some_iff.mp h
      simp [keysI_some r h1]
    | inr x => simp [keyD, keysI] at h
def dSortK : List D → Option D
  | [.dict ks] => (keysI ks).bind fun ns => if ns.length < 64 then some (.list ((sortI ns).map PyData.int)) else none
  | _ => none
theorem pf_sortK (hc : X.calm = true) (hm : X.mg "sorted" = none) (ha : PAx X M [e] tA gs) (hg : Gl X "sorted" := by rfl) (he : starEach [e] X.env = (false, eval e X.env) :: starEach [] X.env := by rfl) : PFx X M (.Call (.Name "sorted" p) [e] [] pos) (tCB (fun xs H Q => ∃ (a : Addr) (kvs : List (Key × V)) (ks : List Int), xs = [.ref a] ∧ Rd H a (.dK kvs) ∧ kvs.map (·.1) = ks.map Sum.inl ∧ ks.length < 64 ∧
    ∀ (ys : List Int) (p : Addr), ys.Perm ks → ys.Pairwise (· ≤ ·) → H p = none → Q (.ref p) (upd H p (.lst (ys.map V.int)))) tA) (gCall dSortK gs) := pf_cB (call_sortedDI hc) (fun F H vs ds d Q s r e => by
  cases r with
  | nil => cases e
  | cons a r =>
    cases r with
    | nil =>
      cases a <;> try (cases e; done)
      rename_i s1 r1
      obtain ⟨ns, h1, h2⟩ := Option.bind_eq_some_iff.mp e
      split at h2
      · rename_i h64
        cases h2
        refine ⟨_, rfl, fun q => ⟨_, _, ns, rfl, .inl (s _ _ s1), keysI_some r1 h1, h64, fun ys p hy hs hp => ?_⟩⟩
        rw [sorted_uniq (hy.trans (sortI_perm ns).symm) hs (sortI_sorted ns)]
        exact q p _ hp (.ints _)
      · cases h2
    | cons b r => cases a <;> cases e) hm boot_sorted' ha hg (he := he)

/-! ### a module's tuple of strings -/
theorem reps_strsT : ∀ xs : List Str, Reps K F (xs.map V.str) (xs.map PyData.str)
  | [] => .nil
  | x :: r => .cons (.str x) (reps_strsT r)
theorem px_globT {ad : Addr} {o : Obj} {its : Array Value} {n : Nat} (ds : List Str) (hm : X.mg x = some (.ref ad)) (hk : X.K.lookup ad = some o) (ho : o.cls = .type "tuple") (hd : o.data = .seq its n) (hs : its.size ≤ sizeLine) (hv : Vals (ds.map V.str) its.toList) (hg : Gl X x := by rfl) (hdb : (x == ("__debug__" : Str)) = false := by decide) :
    PX X M (.Name x pos) (tC (.ref ad)) (gC (.tuple (ds.map PyData.str))) := ⟨pe_glob hg hm rfl hdb, fun F0 H0 F H σ E d Q r e q => by
  cases e
  exact q _ F H (.refl r.fs) (.tup (.inr ⟨o, its, n, hk, ho, hd, hs, hv⟩) (reps_strsT ds))⟩
end Pu

namespace Pu
open PySem PySem.Spec PyProof.Rows L2
theorem u65 {A : Around} {k : Nat} (hr : Room k A) : A.units + 65 < cLine := by have := hr.un; omega
def fuel : Nat := 100000
structure De (K : PySem.W.Frag) (mg : Str → Option Value) (x : Str) (st : Stmt) (ps : List Str) : Prop where
  ex : ∃ f fd, Fun K x x st f fd ∧ mg x = some (.ref f) ∧ Binds K fd ps []
structure GTu (K : PySem.W.Frag) (mg : Str → Option Value) (x : Str) (ds : List Str) : Prop where
  ex : ∃ (ad : Addr) (o : Obj) (its : Array Value) (n : Nat), mg x = some (.ref ad) ∧ K.lookup ad = some o ∧ o.cls = .type "tuple" ∧ o.data = .seq its n ∧ its.size ≤ sizeLine ∧ Vals (ds.map V.str) its.toList
variable {X : Cx} {M : List Md} {a b : Expr} {ta tb : TE} {ga gb : Gx} {pos : Pos}
theorem px_eq (hu : X.A.units + 64 < cLine) (ha : PX X M a ta ga) (hb : PX X M b tb gb) : PX X M (.Compare a [.Eq] [b] pos) (tOp (rEqD X.K) ta tb) (g2 dEq ga gb) := px_cmp (op_eqD hu) rop_eq ha hb (nomark _)
theorem pt_eq (hu : X.A.units + 64 < cLine) (ha : PX X M a ta ga) (hb : PX X M b tb gb) : PTx X M (.Compare a [.Eq] [b] pos) (tB (tOp (rEqD X.K) ta tb)) (g2 dEq ga gb) := pt_cm (op_eqD hu) rop_eq ha hb (nomark _)
theorem px_ne (hu : X.A.units + 64 < cLine) (ha : PX X M a ta ga) (hb : PX X M b tb gb) : PX X M (.Compare a [.NotEq] [b] pos) (tOp (rNeD X.K) ta tb) (g2 dNe ga gb) := px_cmp (op_neD hu) rop_ne ha hb (nomark _)
theorem pt_ne (hu : X.A.units + 64 < cLine) (ha : PX X M a ta ga) (hb : PX X M b tb gb) : PTx X M (.Compare a [.NotEq] [b] pos) (tB (tOp (rNeD X.K) ta tb)) (g2 dNe ga gb) := pt_cm (op_neD hu) rop_ne ha hb (nomark _)
theorem px_in (hu : X.A.units + 65 < cLine) (ha : PX X M a ta ga) (hb : PX X M b tb gb) (hm : behindInMarks .In b = false := by rfl) : PX X M (.Compare a [.In] [b] pos) (tOp (rInD X.K) ta tb) (g2 dIn ga gb) := px_cmp (op_inD hu) rop_in ha hb hm
theorem pt_in (hu : X.A.units + 65 < cLine) (ha : PX X M a ta ga) (hb : PX X M b tb gb) (hm : behindInMarks .In b = false := by rfl) : PTx X M (.Compare a [.In] [b] pos) (tB (tOp (rInD X.K) ta tb)) (g2 dIn ga gb) := pt_cm (op_inD hu) rop_in ha hb hm
theorem px_notin (hu : X.A.units + 65 < cLine) (ha : PX X M a ta ga) (hb : PX X M b tb gb) (hm : behindInMarks .NotIn b = false := by rfl) : PX X M (.Compare a [.NotIn] [b] pos) (tOp (rNotInD X.K) ta tb) (g2 dNotIn ga gb) := px_cmp (op_notInD hu) rop_notin ha hb hm
theorem pt_notin (hu : X.A.units + 65 < cLine) (ha : PX X M a ta ga) (hb : PX X M b tb gb) (hm : behindInMarks .NotIn b = false := by rfl) : PTx X M (.Compare a [.NotIn] [b] pos) (tB (tOp (rNotInD X.K) ta tb)) (g2 dNotIn ga gb) := pt_cm (op_notInD hu) rop_notin ha hb hm
theorem px_lt (ha : PX X M a ta ga) (hb : PX X M b tb gb) : PX X M (.Compare a [.Lt] [b] pos) (tOp (rI0 fun i j => .bl (decide (i < j))) ta tb) (g2 dLt ga gb) := px_cmp op_lt rop_lt ha hb (nomark _)
theorem pt_lt (ha : PX X M a ta ga) (hb : PX X M b tb gb) : PTx X M (.Compare a [.Lt] [b] pos) (tB (tOp (rI0 fun i j => .bl (decide (i < j))) ta tb)) (g2 dLt ga gb) := pt_cm op_lt rop_lt ha hb (nomark _)
theorem px_le (ha : PX X M a ta ga) (hb : PX X M b tb gb) : PX X M (.Compare a [.LtE] [b] pos) (tOp (rI0 fun i j => .bl (decide (i ≤ j))) ta tb) (g2 dLe ga gb) := px_cmp op_le rop_le ha hb (nomark _)
theorem pt_le (ha : PX X M a ta ga) (hb : PX X M b tb gb) : PTx X M (.Compare a [.LtE] [b] pos) (tB (tOp (rI0 fun i j => .bl (decide (i ≤ j))) ta tb)) (g2 dLe ga gb) := pt_cm op_le rop_le ha hb (nomark _)
theorem px_gt (ha : PX X M a ta ga) (hb : PX X M b tb gb) : PX X M (.Compare a [.Gt] [b] pos) (tOp (rI0 fun i j => .bl (decide (j < i))) ta tb) (g2 dGt ga gb) := px_cmp op_gt rop_gt ha hb (nomark _)
theorem pt_gt (ha : PX X M a ta ga) (hb : PX X M b tb gb) : PTx X M (.Compare a [.Gt] [b] pos) (tB (tOp (rI0 fun i j => .bl (decide (j < i))) ta tb)) (g2 dGt ga gb) := pt_cm op_gt rop_gt ha hb (nomark _)
theorem px_ge (ha : PX X M a ta ga) (hb : PX X M b tb gb) : PX X M (.Compare a [.GtE] [b] pos) (tOp (rI0 fun i j => .bl (decide (j ≤ i))) ta tb) (g2 dGe ga gb) := px_cmp op_ge rop_ge ha hb (nomark _)
theorem pt_ge (ha : PX X M a ta ga) (hb : PX X M b tb gb) : PTx X M (.Compare a [.GtE] [b] pos) (tB (tOp (rI0 fun i j => .bl (decide (j ≤ i))) ta tb)) (g2 dGe ga gb) := pt_cm op_ge rop_ge ha hb (nomark _)
theorem px_isN (ha : PX X M a ta ga) (hb : PX X M b tb gb) : PX X M (.Compare a [.Is] [b] pos) (tOp (fun x y H Q => y = .non ∧ Q (.bl (decide (x = .non))) H) ta tb) (g2 dIsN ga gb) := px_cmp op_isN rop_isN ha hb (nomark _)
theorem pt_isN (ha : PX X M a ta ga) (hb : PX X M b tb gb) : PTx X M (.Compare a [.Is] [b] pos) (tB (tOp (fun x y H Q => y = .non ∧ Q (.bl (decide (x = .non))) H) ta tb)) (g2 dIsN ga gb) := pt_cm op_isN rop_isN ha hb (nomark _)
theorem px_notN (ha : PX X M a ta ga) (hb : PX X M b tb gb) : PX X M (.Compare a [.IsNot] [b] pos) (tOp (fun x y H Q => y = .non ∧ Q (.bl (!decide (x = .non))) H) ta tb) (g2 dNotN ga gb) := px_cmp op_notN rop_notN ha hb (nomark _)
theorem pt_notN (ha : PX X M a ta ga) (hb : PX X M b tb gb) : PTx X M (.Compare a [.IsNot] [b] pos) (tB (tOp (fun x y H Q => y = .non ∧ Q (.bl (!decide (x = .non))) H) ta tb)) (g2 dNotN ga gb) := pt_cm op_notN rop_notN ha hb (nomark _)
theorem px_inT (ha : PX X M a ta ga) (hb : PX X M b tb gb) (hm : behindInMarks .In b = false := by rfl) : PX X M (.Compare a [.In] [b] pos) (tOp (rIn X.K false) ta tb) (g2 dInT ga gb) := px_cmp op_in_seq rop_inT ha hb hm
theorem pt_inT (ha : PX X M a ta ga) (hb : PX X M b tb gb) (hm : behindInMarks .In b = false := by rfl) : PTx X M (.Compare a [.In] [b] pos) (tB (tOp (rIn X.K false) ta tb)) (g2 dInT ga gb) := pt_cm op_in_seq rop_inT ha hb hm

/-! ### name = {k: v for ..}, the name a local -/
section
variable {X : Cx} {M M1 Mb : List Md} {is : List Nat} {own : List (Str × Nat)} {gt : TG} {wi : TI} {tg : Tg} {src : Gl'} {tk te : TE} {gk g gc : Gx} {tc : TT} {tgE iter kx vx : Expr} {ifs : List Expr} {scope : Scope} {x : Str}
theorem sw_trueD {scope : Scope} {pos py : Pos} {y : Str} {l : Nat} {env : Env} {gs : List Comprehension} (hk : env.scope.kind = .function) (hy : env.scope.names.lookup y = some .local) (hl : (py.line == pos.line) = true)
    (ha : (scope.names.any fun (n, k) => n == y && (k == .local || k == .cell)) = false) : swapsWith (.DictComp kx vx gs scope pos) (some (.Name y py)) l env = pure true := by
  have ky : env.kindOf y = some .local := hy
  have hb : env.blockKind = .function := by unfold Env.blockKind; rw [hk]; rfl
  unfold swapsWith
  simp only [hb, ky, ha, Expr.pos, hl]
  rfl
theorem ps_setDc {i : Nat} {y : Str} {py pos spos : Pos} {tgx : Expr} {gT : TG} {tt : TT} (hc : X.calm = true) (hN : X.N.Nodup) (hy : X.N[i]? = some y) (hyl : X.env.scope.names.lookup y = some .local)
    (hsw : swapsWith (.DictComp kx vx [⟨tgx, iter, ifs, 0⟩] scope pos) (some (.Name y py)) spos.line X.env = pure true) (hi : PI X tgx iter wi) (ok : BlkOk X.N X.env.scope scope own)
    (hg : ∀ (s : Shared) (H : Hp) (C : Addr) (cl : List (Str × Addr)) (fp : List Addr), PG (X.blk s H scope (compEnvC scope cl C X.env) fp) tgx gT) (ht : ∀ (s : Shared) (H : Hp) (C : Addr) (cl : List (Str × Addr)) (fp : List Addr), PTs (X.blk s H scope (compEnvC scope cl C X.env) fp) ifs tt)
    (hk : ∀ (s : Shared) (H : Hp) (C : Addr) (cl : List (Str × Addr)) (fp : List Addr), PE (X.blk s H scope (compEnvC scope cl C X.env) fp) kx tk)
    (he : ∀ (s : Shared) (H : Hp) (C : Addr) (cl : List (Str × Addr)) (fp : List Addr), PE (X.blk s H scope (compEnvC scope cl C X.env) fp) vx te) (hs : ∀ x, foldedSetIterable iter X.env x = pure x := by intro _; rfl) :
    PS X (.Assign [.Name y py] (.DictComp kx vx [⟨tgx, iter, ifs, 0⟩] scope pos) spos) (tAsg (tDc wi gT tt tk te (own.map (·.2))) (gName i)) := by
  refine ⟨fun pins s σ H D I h => ?_⟩
  rw [exec_Assign_Name_used _ _ _ _ hsw]
  refine wpAny_bind (wpAny_standAt (wpAny_bind ?_))
  show wpAny _ X.A (do let _ ← comprehension (.DictComp kx vx [⟨tgx, iter, ifs, 0⟩] scope pos) scope X.env (firstIterPos [⟨tgx, iter, ifs, 0⟩] pos) newDict false (eval iter X.env) (some (assign (.Name y py) X.env))) _ _ s
  have h : tDc wi gT tt tk te (own.map (·.2)) σ H (fun x H1 => gName i x σ H1 D.nx) := h
  refine wpAny_bind (thn (dc_core (Qf := fun _ s' => SP X pins D .next s') hc hN I hi ok hg ht hk he hs h fun L C s' m H' I' q hn f => ?_) fun _ s' hq => wpAny_pure (wpAny_pure hq))
  show wpAny _ _ (assign (.Name y py) X.env (.ref L)) _ _ _
  refine wpAny_assign_Name (store_ok2 (v := V.ref L) I' hN hy (.inl hyl) rfl (fun s2 I2 ⟨a, sb, ha⟩ => ?_) (.inr hyl))
  obtain ⟨f0, f1, f2, f3, f4, f5⟩ := f
  have haC : C ≠ a := by
    rcases ha with z | z
    · rw [z]; exact f1
    · exact fun e => f4 y a z e.symm
  refine ⟨m, hn.sameBut sb haC, fun h3 sb3 => ?_⟩
  exact ⟨_, H', I2.turned (t' := s2.toks) (fun b o hb e => (sb3.2 b hb).trans e) f0 f1 f3 f4 f5, q⟩
theorem pb_dcAny {m : Md} (i : Nat) {py pos spos : Pos} (hm : m = .fr ∨ m = .od) (hi' : i < M.length) (hc : X.calm = true) (hN : X.N.Nodup) (hi : PIx X M tgE iter wi src) (ok : BlkOk X.N X.env.scope scope own)
    (hg : ∀ (s : Shared) (H : Hp) (C : Addr) (cl : List (Str × Addr)) (fp : List Addr), PGx (X.blk s H scope (compEnvC scope cl C X.env) fp) M M1 is tgE gt tg)
    (ht : ∀ (s : Shared) (H : Hp) (C : Addr) (cl : List (Str × Addr)) (fp : List Addr), PTsx (X.blk s H scope (compEnvC scope cl C X.env) fp) M1 ifs tc gc)
    (hk : ∀ (s : Shared) (H : Hp) (C : Addr) (cl : List (Str × Addr)) (fp : List Addr), PX (X.blk s H scope (compEnvC scope cl C X.env) fp) M1 kx tk gk)
    (he : ∀ (s : Shared) (H : Hp) (C : Addr) (cl : List (Str × Addr)) (fp : List Addr), PX (X.blk s H scope (compEnvC scope cl C X.env) fp) M1 vx te g)
    (hy : X.N[i]? = some x) (hyl : X.env.scope.names.lookup x = some .local) (hsw : swapsWith (.DictComp kx vx [⟨tgE, iter, ifs, 0⟩] scope pos) (some (.Name x py)) spos.line X.env = pure true)
    (ho : ∀ i ∈ is, i ∈ own.map (·.2)) (hs : ∀ x, foldedSetIterable iter X.env x = pure x) :
    PB X M (M.set i m) Mb (.Assign [.Name x py] (.DictComp kx vx [⟨tgE, iter, ifs, 0⟩] scope pos) spos) (tAsg (tDc wi gt tc tk te (own.map (·.2))) (gName i)) (sSet i (gDc (own.map (·.2)) tg src gc gk g)) :=
  ⟨ps_setDc hc hN hy hyl hsw hi.pe ok (fun s H C cl fp => (hg s H C cl fp).pe) (fun s H C cl fp => (ht s H C cl fp).pe) (fun s H C cl fp => (hk s H C cl fp).pe) (fun s H C cl fp => (he s H C cl fp).pe) hs, by
    have rd := rd_dc hi.rd (hg X.s_0 X.H_0 0 [] []).rd ho (ht X.s_0 X.H_0 0 [] []).rd (hk X.s_0 X.H_0 0 [] []).rd (he X.s_0 X.H_0 0 [] []).rd
    rcases hm with rfl | rfl
    · exact rd_set i rd.toE
    · exact rd_setD i hi' rd⟩
theorem pb_dc (i : Nat) {py pos spos : Pos} (hc : X.calm = true) (hN : X.N.Nodup) (hi : PIx X M tgE iter wi src) (ok : BlkOk X.N X.env.scope scope own)
    (hg : ∀ (s : Shared) (H : Hp) (C : Addr) (cl : List (Str × Addr)) (fp : List Addr), PGx (X.blk s H scope (compEnvC scope cl C X.env) fp) M M1 is tgE gt tg)
    (ht : ∀ (s : Shared) (H : Hp) (C : Addr) (cl : List (Str × Addr)) (fp : List Addr), PTsx (X.blk s H scope (compEnvC scope cl C X.env) fp) M1 ifs tc gc)
    (hk : ∀ (s : Shared) (H : Hp) (C : Addr) (cl : List (Str × Addr)) (fp : List Addr), PX (X.blk s H scope (compEnvC scope cl C X.env) fp) M1 kx tk gk)
    (he : ∀ (s : Shared) (H : Hp) (C : Addr) (cl : List (Str × Addr)) (fp : List Addr), PX (X.blk s H scope (compEnvC scope cl C X.env) fp) M1 vx te g)
    (hsw : swapsWith (.DictComp kx vx [⟨tgE, iter, ifs, 0⟩] scope pos) (some (.Name x py)) spos.line X.env = pure true := by exact sw_trueD rfl rfl rfl (by decide +kernel)) (hy : X.N[i]? = some x := by rfl) (hyl : X.env.scope.names.lookup x = some .local := by rfl)
    (ho : ∀ i ∈ is, i ∈ own.map (·.2) := by decide) (hs : ∀ x, foldedSetIterable iter X.env x = pure x := by intro _; rfl) (hi' : i < M.length := by decide) :
    PB X M (M.set i .fr) Mb (.Assign [.Name x py] (.DictComp kx vx [⟨tgE, iter, ifs, 0⟩] scope pos) spos) (tAsg (tDc wi gt tc tk te (own.map (·.2))) (gName i)) (sSet i (gDc (own.map (·.2)) tg src gc gk g)) :=
  pb_dcAny i (.inl rfl) hi' hc hN hi ok hg ht hk he hy hyl hsw ho hs
theorem pb_dcO (i : Nat) {py pos spos : Pos} (hc : X.calm = true) (hN : X.N.Nodup) (hi : PIx X M tgE iter wi src) (ok : BlkOk X.N X.env.scope scope own)
    (hg : ∀ (s : Shared) (H : Hp) (C : Addr) (cl : List (Str × Addr)) (fp : List Addr), PGx (X.blk s H scope (compEnvC scope cl C X.env) fp) M M1 is tgE gt tg)
    (ht : ∀ (s : Shared) (H : Hp) (C : Addr) (cl : List (Str × Addr)) (fp : List Addr), PTsx (X.blk s H scope (compEnvC scope cl C X.env) fp) M1 ifs tc gc)
    (hk : ∀ (s : Shared) (H : Hp) (C : Addr) (cl : List (Str × Addr)) (fp : List Addr), PX (X.blk s H scope (compEnvC scope cl C X.env) fp) M1 kx tk gk)
    (he : ∀ (s : Shared) (H : Hp) (C : Addr) (cl : List (Str × Addr)) (fp : List Addr), PX (X.blk s H scope (compEnvC scope cl C X.env) fp) M1 vx te g)
    (hsw : swapsWith (.DictComp kx vx [⟨tgE, iter, ifs, 0⟩] scope pos) (some (.Name x py)) spos.line X.env = pure true := by exact sw_trueD rfl rfl rfl (by decide +kernel)) (hy : X.N[i]? = some x := by rfl) (hyl : X.env.scope.names.lookup x = some .local := by rfl)
    (ho : ∀ i ∈ is, i ∈ own.map (·.2) := by decide) (hs : ∀ x, foldedSetIterable iter X.env x = pure x := by intro _; rfl) (hi' : i < M.length := by decide) :
    PB X M (M.set i .od) Mb (.Assign [.Name x py] (.DictComp kx vx [⟨tgE, iter, ifs, 0⟩] scope pos) spos) (tAsg (tDc wi gt tc tk te (own.map (·.2))) (gName i)) (sSet i (gDc (own.map (·.2)) tg src gc gk g)) :=
  pb_dcAny i (.inr rfl) hi' hc hN hi ok hg ht hk he hy hyl hsw ho hs
end

/-! companions with K given, for use within comprehensions -/
section
variable {K : PySem.W.Frag} {M' M1 M2 M3 Mb : List Md} {is : List Nat} {c e tg : Expr} {es : List Expr} {t : TE} {tc : TT} {gc g : Gx} {p p2 : Pos} {tA : TA} {gs : Gl'} {x : Str} {lo hi : Option Expr} {tl th : TO} {gl gh : En → Option (Option Int)}
theorem px_add' (Kf : PySem.W.Frag) (ha : PX X M a ta ga) (hb : PX X M b tb gb) (hK : X.K = Kf := by rfl) : PX X M (.BinOp a .Add b pos) (tOp (rAdd Kf) ta tb) (g2 dAdd ga gb) := by
  subst hK
  exact px_add (ha := ha) (hb := hb)
theorem pf_add' (Kf : PySem.W.Frag) (ha : PLx X M a ta ga) (hb : PLx X M b tb gb) (hK : X.K = Kf := by rfl) : PFx X M (.BinOp a .Add b pos) (tOp (rAdd Kf) ta tb) (g2 dCat ga gb) := by
  subst hK
  exact pf_add (ha := ha) (hb := hb)
theorem px_ix' (Kf : PySem.W.Frag) (ha : PX X M a ta ga) (hb : PX X M b tb gb) (hs : PlainIx b := by exact fun _ _ => rfl) (hK : X.K = Kf := by rfl) : PX X M (.Subscript a b pos) (tOp (rIx Kf) ta tb) (g2 dIx ga gb) := by
  subst hK
  exact px_ix (ha := ha) (hb := hb) (hs := hs)
theorem pl_ix' (Kf : PySem.W.Frag) (ha : PLx X M a ta ga) (hb : PX X M b tb gb) (hs : PlainIx b := by exact fun _ _ => rfl) (hK : X.K = Kf := by rfl) : PX X M (.Subscript a b pos) (tOp (rIx Kf) ta tb) (g2 dIxL ga gb) := by
  subst hK
  exact pl_ix (ha := ha) (hb := hb) (hs := hs)
theorem px_len' (Kf : PySem.W.Frag) (hm : X.mg "len" = none) (ha : PAx X M [e] tA gs) (hg : Gl X "len" := by rfl) (he : starEach [e] X.env = (false, eval e X.env) :: starEach [] X.env := by rfl) (hK : X.K = Kf := by rfl) : PX X M (.Call (.Name "len" p) [e] [] pos) (tCB (rLenS Kf) tA) (gCall dLen gs) := by
  subst hK
  exact px_len (hm := hm) (ha := ha) (hg := hg) (he := he)
theorem pf_list' (Kf : PySem.W.Frag) (hm : X.mg "list" = none) (ha : PAx X M [e] tA gs) (hg : Gl X "list" := by rfl) (he : starEach [e] X.env = (false, eval e X.env) :: starEach [] X.env := by rfl) (hK : X.K = Kf := by rfl) : PFx X M (.Call (.Name "list" p) [e] [] pos) (tCB (rLstS Kf) tA) (gCall dLst gs) := by
  subst hK
  exact pf_list (hm := hm) (ha := ha) (hg := hg) (he := he)
theorem px_tuple' (Kf : PySem.W.Frag) (hm : X.mg "tuple" = none) (ha : PAx X M [e] tA gs) (hg : Gl X "tuple" := by rfl) (he : starEach [e] X.env = (false, eval e X.env) :: starEach [] X.env := by rfl) (hK : X.K = Kf := by rfl) : PX X M (.Call (.Name "tuple" p) [e] [] pos) (tCB (rTplS Kf) tA) (gCall dTpl gs) := by
  subst hK
  exact px_tuple (hm := hm) (ha := ha) (hg := hg) (he := he)
theorem px_sum' (Kf : PySem.W.Frag) (hc : X.calm = true) (hm : X.mg "sum" = none) (ha : PAx X M [e] tA gs) (hg : Gl X "sum" := by rfl) (he : starEach [e] X.env = (false, eval e X.env) :: starEach [] X.env := by rfl) (hK : X.K = Kf := by rfl) : PX X M (.Call (.Name "sum" p) [e] [] pos) (tCB (rSum Kf) tA) (gCall dSum gs) := by
  subst hK
  exact px_sum (hc := hc) (hm := hm) (ha := ha) (hg := hg) (he := he)
theorem px_max1' (Kf : PySem.W.Frag) (hc : X.calm = true) (hm : X.mg "max" = none) (ha : PAx X M [e] tA gs) (hg : Gl X "max" := by rfl) (he : starEach [e] X.env = (false, eval e X.env) :: starEach [] X.env := by rfl) (hK : X.K = Kf := by rfl) : PX X M (.Call (.Name "max" p) [e] [] pos) (tCB (rMax Kf) tA) (gCall dMax1 gs) := by
  subst hK
  exact px_max1 (hc := hc) (hm := hm) (ha := ha) (hg := hg) (he := he)
theorem px_min1' (Kf : PySem.W.Frag) (hc : X.calm = true) (hm : X.mg "min" = none) (ha : PAx X M [e] tA gs) (hg : Gl X "min" := by rfl) (he : starEach [e] X.env = (false, eval e X.env) :: starEach [] X.env := by rfl) (hK : X.K = Kf := by rfl) : PX X M (.Call (.Name "min" p) [e] [] pos) (tCB (rMin Kf) tA) (gCall dMin1 gs) := by
  subst hK
  exact px_min1 (hc := hc) (hm := hm) (ha := ha) (hg := hg) (he := he)
theorem pf_sortI' (Kf : PySem.W.Frag) (hm : X.mg "sorted" = none) (ha : PAx X M [e] tA gs) (hg : Gl X "sorted" := by rfl) (he : starEach [e] X.env = (false, eval e X.env) :: starEach [] X.env := by rfl) (hK : X.K = Kf := by rfl) : PFx X M (.Call (.Name "sorted" p) [e] [] pos) (tCB (rSortedI Kf) tA) (gCall dSortI gs) := by
  subst hK
  exact pf_sortI (hm := hm) (ha := ha) (hg := hg) (he := he)
theorem pf_sl' (Kf : PySem.W.Frag) (ha : PLx X M a ta ga) (hl : POx X M lo tl gl) (hh : POx X M hi th gh) (hK : X.K = Kf := by rfl) : PFx X M (.Subscript a (.Slice lo hi none p2) pos) (tSl (rSlL Kf) ta tl th) (gSl ga gl gh) := by
  subst hK
  exact pf_sl (ha := ha) (hl := hl) (hh := hh)
theorem pf_slS' (Kf : PySem.W.Frag) (i : Nat) {x : Str} {pn : Pos} (hl : POx X M lo tl gl) (hh : POx X M hi th gh) (hm : mAt M i = .sc := by rfl) (hN : X.N[i]? = some x := by rfl) (hv : Vis X.env.scope x := by first | exact Or.inl rfl | exact Or.inr (Or.inl rfl) | exact Or.inr (Or.inr rfl))
    (hd : (x == ("__debug__" : Str)) = false := by decide) (hcd : (x == ("__classdict__" : Str)) = false := by decide) (hK : X.K = Kf := by rfl) : PFx X M (.Subscript (.Name x pn) (.Slice lo hi none p2) pos) (tSl (rSlL Kf) (tVar i) tl th) (gSl (gV i) gl gh) := by
  subst hK
  exact pf_slS (i := i) (hl := hl) (hh := hh) (hm := hm) (hN := hN) (hv := hv) (hd := hd) (hcd := hcd)
theorem px_isa' (Kf : PySem.W.Frag) {n : String} {x : Str} {p2 : Pos} (hn : n = "int" ∨ n = "bool" ∨ n = "list" ∨ n = "tuple" ∨ n = "str") (hm : X.mg "isinstance" = none) (hb : X.mg x = none) (hbx : bootBuiltins x = some (.type n)) (ha : PX X M e t g) (hg : Gl X "isinstance" := by rfl) (hgx : Gl X x := by rfl) (hxn : x ≠ "__name__" := by decide)
    (hxd : (x == ("__debug__" : Str)) = false := by decide) (he : starEach [e, .Name x p2] X.env = (false, eval e X.env) :: starEach [.Name x p2] X.env := by rfl) (he2 : starEach [.Name x p2] X.env = (false, eval (.Name x p2) X.env) :: starEach [] X.env := by rfl)
    (hpl : (backTo pos (starEach [.Name x p2] X.env)).any (·.1) = false := by rfl) (hK : X.K = Kf := by rfl) : PX X M (.Call (.Name "isinstance" p) [e, .Name x p2] [] pos) (tCB (rIsi Kf) (tCons t (tCons (tC (.ty n)) tNil))) (g1 (dIsa n) g) := by
  subst hK
  exact px_isa (hn := hn) (hm := hm) (hb := hb) (hbx := hbx) (ha := ha) (hg := hg) (hgx := hgx) (hxn := hxn) (hxd := hxd) (he := he) (he2 := he2) (hpl := hpl)
theorem pgx_tup' (Kf : PySem.W.Frag) {is : List Nat} {gts : TGs} {tgs : Tgs} {n k : Nat} (hc : X.calm = true) (hl : ∀ ds E E', tgs ds E = some E' → ds.length = n) (h : PGsx X M M' is es gts tgs) (hn : (assignEach es X.env).length = n := by rfl) (hst : (assignEach es X.env).findIdx? (·.1) = none := by rfl) (hK : X.K = Kf := by rfl) : PGx X M M' is (.Tuple es k pos) (gTup Kf n gts) (tTup tgs) := by
  subst hK
  exact pgx_tup (hc := hc) (hl := hl) (h := h) (hn := hn) (hst := hst)
theorem pgx_unl' (Kf : PySem.W.Frag) {is : List Nat} {gts : TGs} {tgs : Tgs} {n k : Nat} (hc : X.calm = true) (hl : ∀ ds E E', tgs ds E = some E' → ds.length = n) (h : PGsx X M M' is es gts tgs) (hn : (assignEach es X.env).length = n := by rfl) (hst : (assignEach es X.env).findIdx? (·.1) = none := by rfl) (hK : X.K = Kf := by rfl) : PGx X M M' is (.Tuple es k pos) (gUnl Kf n gts) (tUnl tgs) := by
  subst hK
  exact pgx_unl (hc := hc) (hl := hl) (h := h) (hn := hn) (hst := hst)
theorem pix_list' (Kf : PySem.W.Frag) (h : PX X M e t g) (hK : X.K = Kf := by rfl) : PIx X M tg e (iList Kf t) (iL g) := by
  subst hK
  exact pix_list (h := h)
theorem pix_tup' (Kf : PySem.W.Frag) (h : PX X M e t g) (hK : X.K = Kf := by rfl) : PIx X M tg e (iTup Kf t) (iT g) := by
  subst hK
  exact pix_tup (h := h)
theorem px_call' (Kf : PySem.W.Frag) {k : Nat} {ms : List Md} {gf : List D → Option D} (D : Df X.prog X.w X.K X.mg X.base x k ms gf) (hr : Room k X.A) (ha : PMx X M ms (e :: es) tA gs) (hg : Gl X x := by rfl) (hdb : (x == ("__debug__" : Str)) = false := by decide)
    (he : starEach (e :: es) X.env = (false, eval e X.env) :: starEach es X.env := by rfl) (hpl : (backTo pos (starEach es X.env)).any (·.1) = false := by rfl) (hK : X.K = Kf := by rfl) : PX X M (.Call (.Name x p) (e :: es) [] pos) (tCall (spOf Kf ms gf) [] E0 tA) (gCall gf gs) := by
  subst hK
  exact px_call (D := D) (hr := hr) (ha := ha) (hg := hg) (hdb := hdb) (he := he) (hpl := hpl)
theorem pf_sortD' (Kf : PySem.W.Frag) (hu : X.A.units + 64 < cLine) (hm : X.mg "sorted" = none) (ha : PAx X M [e] tA gs) (hg : Gl X "sorted" := by rfl) (he : starEach [e] X.env = (false, eval e X.env) :: starEach [] X.env := by rfl) (hK : X.K = Kf := by rfl) : PFx X M (.Call (.Name "sorted" p) [e] [] pos) (tCB (rSortedD Kf) tA) (gCall dSortD gs) := by
  subst hK
  exact pf_sortD (hu := hu) (hm := hm) (ha := ha) (hg := hg) (he := he)
theorem pf_sortSet' (Kf : PySem.W.Frag) (hc : X.calm = true) (hm : X.mg "sorted" = none) (hm2 : X.mg "set" = none) {p2 q2 : Pos} (ha : PAx X M [e] tA gs) (hg : Gl X "sorted" := by rfl) (hg2 : Gl X "set" := by rfl) (he : starEach [e] X.env = (false, eval e X.env) :: starEach [] X.env := by rfl)
    (he2 : starEach [.Call (.Name "set" p2) [e] [] q2] X.env = (false, eval (.Call (.Name "set" p2) [e] [] q2) X.env) :: starEach [] X.env := by rfl) (hK : X.K = Kf := by rfl) : PFx X M (.Call (.Name "sorted" p) [.Call (.Name "set" p2) [e] [] q2] [] pos) (tSS Kf X.w tA) (gCall dSortSet gs) := by
  subst hK
  exact pf_sortSet (hc := hc) (hm := hm) (hm2 := hm2) (ha := ha) (hg := hg) (hg2 := hg2) (he := he) (he2 := he2)
theorem px_lenSet' (Kf : PySem.W.Frag) {p2 q2 : Pos} (hc : X.calm = true) (hm : X.mg "len" = none) (hm2 : X.mg "set" = none) (ha : PAx X M [e] tA gs) (hg : Gl X "len" := by rfl) (hg2 : Gl X "set" := by rfl) (he : starEach [e] X.env = (false, eval e X.env) :: starEach [] X.env := by rfl)
    (he2 : starEach [.Call (.Name "set" p2) [e] [] q2] X.env = (false, eval (.Call (.Name "set" p2) [e] [] q2) X.env) :: starEach [] X.env := by rfl) (hK : X.K = Kf := by rfl) : PX X M (.Call (.Name "len" p) [.Call (.Name "set" p2) [e] [] q2] [] pos) (tLS Kf tA) (gCall dLenSet gs) := by
  subst hK
  exact px_lenSet (hc := hc) (hm := hm) (hm2 := hm2) (ha := ha) (hg := hg) (hg2 := hg2) (he := he) (he2 := he2)
theorem px_eq' (Kf : PySem.W.Frag) (hu : X.A.units + 64 < cLine) (ha : PX X M a ta ga) (hb : PX X M b tb gb) (hK : X.K = Kf := by rfl) : PX X M (.Compare a [.Eq] [b] pos) (tOp (rEqD Kf) ta tb) (g2 dEq ga gb) := by
  subst hK
  exact px_eq (hu := hu) (ha := ha) (hb := hb)
theorem pt_eq' (Kf : PySem.W.Frag) (hu : X.A.units + 64 < cLine) (ha : PX X M a ta ga) (hb : PX X M b tb gb) (hK : X.K = Kf := by rfl) : PTx X M (.Compare a [.Eq] [b] pos) (tB (tOp (rEqD Kf) ta tb)) (g2 dEq ga gb) := by
  subst hK
  exact pt_eq (hu := hu) (ha := ha) (hb := hb)
theorem px_ne' (Kf : PySem.W.Frag) (hu : X.A.units + 64 < cLine) (ha : PX X M a ta ga) (hb : PX X M b tb gb) (hK : X.K = Kf := by rfl) : PX X M (.Compare a [.NotEq] [b] pos) (tOp (rNeD Kf) ta tb) (g2 dNe ga gb) := by
  subst hK
  exact px_ne (hu := hu) (ha := ha) (hb := hb)
theorem pt_ne' (Kf : PySem.W.Frag) (hu : X.A.units + 64 < cLine) (ha : PX X M a ta ga) (hb : PX X M b tb gb) (hK : X.K = Kf := by rfl) : PTx X M (.Compare a [.NotEq] [b] pos) (tB (tOp (rNeD Kf) ta tb)) (g2 dNe ga gb) := by
  subst hK
  exact pt_ne (hu := hu) (ha := ha) (hb := hb)
theorem px_in' (Kf : PySem.W.Frag) (hu : X.A.units + 65 < cLine) (ha : PX X M a ta ga) (hb : PX X M b tb gb) (hm : behindInMarks .In b = false := by rfl) (hK : X.K = Kf := by rfl) : PX X M (.Compare a [.In] [b] pos) (tOp (rInD Kf) ta tb) (g2 dIn ga gb) := by
  subst hK
  exact px_in (hu := hu) (ha := ha) (hb := hb) (hm := hm)
theorem pt_in' (Kf : PySem.W.Frag) (hu : X.A.units + 65 < cLine) (ha : PX X M a ta ga) (hb : PX X M b tb gb) (hm : behindInMarks .In b = false := by rfl) (hK : X.K = Kf := by rfl) : PTx X M (.Compare a [.In] [b] pos) (tB (tOp (rInD Kf) ta tb)) (g2 dIn ga gb) := by
  subst hK
  exact pt_in (hu := hu) (ha := ha) (hb := hb) (hm := hm)
theorem px_notin' (Kf : PySem.W.Frag) (hu : X.A.units + 65 < cLine) (ha : PX X M a ta ga) (hb : PX X M b tb gb) (hm : behindInMarks .NotIn b = false := by rfl) (hK : X.K = Kf := by rfl) : PX X M (.Compare a [.NotIn] [b] pos) (tOp (rNotInD Kf) ta tb) (g2 dNotIn ga gb) := by
  subst hK
  exact px_notin (hu := hu) (ha := ha) (hb := hb) (hm := hm)
theorem pt_notin' (Kf : PySem.W.Frag) (hu : X.A.units + 65 < cLine) (ha : PX X M a ta ga) (hb : PX X M b tb gb) (hm : behindInMarks .NotIn b = false := by rfl) (hK : X.K = Kf := by rfl) : PTx X M (.Compare a [.NotIn] [b] pos) (tB (tOp (rNotInD Kf) ta tb)) (g2 dNotIn ga gb) := by
  subst hK
  exact pt_notin (hu := hu) (ha := ha) (hb := hb) (hm := hm)
theorem px_inT' (Kf : PySem.W.Frag) (ha : PX X M a ta ga) (hb : PX X M b tb gb) (hm : behindInMarks .In b = false := by rfl) (hK : X.K = Kf := by rfl) : PX X M (.Compare a [.In] [b] pos) (tOp (rIn Kf false) ta tb) (g2 dInT ga gb) := by
  subst hK
  exact px_inT (ha := ha) (hb := hb) (hm := hm)
theorem pt_inT' (Kf : PySem.W.Frag) (ha : PX X M a ta ga) (hb : PX X M b tb gb) (hm : behindInMarks .In b = false := by rfl) (hK : X.K = Kf := by rfl) : PTx X M (.Compare a [.In] [b] pos) (tB (tOp (rIn Kf false) ta tb)) (g2 dInT ga gb) := by
  subst hK
  exact pt_inT (ha := ha) (hb := hb) (hm := hm)

end

section
variable {P : Program} {w : World} {K : PySem.W.Frag} {mg : Str → Option Value} {base : Heap}
theorem fn_mk {x qual : Str} {st : Stmt} {f : Addr} {fd : FuncData} {N ps : List Str} {k : Nat} {ms rest M' : List Md} {gb : Sm} (Fu : Fun K x qual st f fd) (S : FnScope N ps (defScope st)) (hl : ms.length = ps.length) (hp : ms.all isPar = true)
    (body : ∀ (cdv : Value) (A : Around) (outer : List Env) (s : Shared) (H : Hp) (E : XK), Room k (A.deeper (envOfC qual (defScope st) s.heap.objs.size f cdv)) →
      ∃ t, PBs (cxOf CX0 P w K mg base N qual (defScope st) f cdv A outer s H E).nox (ms ++ rest) M' [] (defBody st) t gb) : FnOk P w K mg base CX0 (k + 1) f fd ps (spOf K ms (fnG N.length ps.length gb)) := by
  refine Fu.ok S (fun vs H Q E h => ?_) (fun cdv A outer s H vs Q E hr h => ?_)
  · obtain ⟨F, ds, d, s, p, e, q⟩ := h
    rw [p.len.1, hl]
  · obtain ⟨F, ds, d, sF, p, e, q⟩ := h
    obtain ⟨t, B⟩ := body cdv A outer s H E hr
    refine ⟨t, B.pe, ?_⟩
    unfold fnG at e
    split at e
    · split at e
      · rename_i E2 d2 h1
        cases e
        exact B.rd F H F H (L2.start N vs) (startE N.length ds) _ _ _ (er_start sF p hp) h1 fun v F' H' _ x pv => q v F' H' x pv
      · rename_i E2 h1
        cases e
        exact B.rd F H F H (L2.start N vs) (startE N.length ds) _ _ _ (er_start sF p hp) h1 fun F' H' σ' _ r' => q .non F' H' r'.ext .non
      · cases e
    · cases e
theorem sp_law {g : List D → Option D} {a : Addr} {ns : List Int} {H : Hp} {Q : VK} {E : XK} (hS : SqL K H a (ns.map V.int)) (h : g [.list (ns.map PyData.int)] = some (.bool true)) (q : ∀ H', Q (.bl true) H') : spOf K [.sc] g [.ref a] H Q E :=
  ⟨H, [.list (ns.map PyData.int)], .bool true, .refl _, ⟨⟨a, _, _, rfl, rfl, hS, .ints ns⟩, trivial⟩, h, fun v F' H' _ p => by cases p; exact q H'⟩
end
end Pu

namespace Pu
open PySem PySem.Spec PyProof.Rows L2
/-! ### mirrors run -/
section
variable {E E' : En} {a b c g : Gx} {gs : Gl'} {i j : Nat} {d x y : D} {sa sb : Sm} {f1 : D → Option D} {f2 : D → D → Option D} {f3 : D → D → D → Option D} {fn : List D → Option D}
@[simp] theorem x_gV : gV i E = E[i]?.join := id rfl
@[simp] theorem x_gC : gC d E = some d := id rfl
@[simp] theorem x_g1 : g1 f1 a E = (a E).bind f1 := id rfl
@[simp] theorem x_g2 : g2 f2 a b E = (a E).bind fun x => (b E).bind fun y => f2 x y := id rfl
@[simp] theorem x_g3 : g3 f3 a b c E = (a E).bind fun x => (b E).bind fun y => (c E).bind fun z => f3 x y z := id rfl
@[simp] theorem x_gN : gN E = some [] := id rfl
@[simp] theorem x_gCs : gCs a gs E = (a E).bind fun x => (gs E).bind fun xs => some (x :: xs) := id rfl
@[simp] theorem x_gL : gL gs E = (gs E).bind fun xs => gd xs.length (.list xs) := id rfl
@[simp] theorem x_gT : gT gs E = (gs E).bind fun xs => gd xs.length (.tuple xs) := id rfl
@[simp] theorem x_gCall : gCall fn gs E = (gs E).bind fn := id rfl
@[simp] theorem x_gAnd : gAnd a b E = match a E with | some (.bool true) => b E | some (.bool false) => some (.bool false) | _ => none := id rfl
@[simp] theorem x_gOr : gOr a b E = match a E with | some (.bool false) => b E | some (.bool true) => some (.bool true) | _ => none := id rfl
@[simp] theorem x_gIf : gIf c a b E = match c E with | some (.bool true) => a E | some (.bool false) => b E | _ => none := id rfl
@[simp] theorem x_sNx : sNx E = some (E, .nx) := id rfl
@[simp] theorem x_sRet : sRet g E = (g E).map fun d => (E, .rt d) := id rfl
@[simp] theorem x_sSet : sSet i g E = (g E).map fun d => (E.set i (some d), .nx) := id rfl
@[simp] theorem x_sIf : sIf c sa sb E = match c E with | some (.bool true) => sa E | some (.bool false) => sb E | _ => none := id rfl
@[simp] theorem x_sSeq : sSeq sa sb E = match sa E with | some (E1, .nx) => sb E1 | r => r := id rfl
@[simp] theorem x_sApp : sApp i g E = match gV i E with | some (.list xs) => (g E).bind fun d => gd (xs.length + 1) (E.set i (some (.list (xs ++ [d]))), .nx) | _ => none := by
  unfold sApp
  cases h : gV i E with
  | none => rfl
  | some v =>
    cases v <;> first | rfl | (cases g E <;> rfl)
@[simp] theorem x_sAsg {tg : Tg} : sAsg g tg E = (g E).bind fun d => (tg d E).map fun E1 => (E1, .nx) := id rfl
@[simp] theorem x_sPar : sPar i j a b E = (a E).bind fun x => (b E).map fun y => ((E.set i (some x)).set j (some y), .nx) := id rfl
@[simp] theorem x_tN : tN i d E = some (E.set i (some d)) := id rfl
@[simp] theorem x_tgN : tgN [] E = some E := id rfl
@[simp] theorem x_tgC {t : Tg} {r : Tgs} {ds : List D} : tgC t r (d :: ds) E = (t d E).bind (r ds) := id rfl
@[simp] theorem x_tTup {r : Tgs} {ds : List D} : tTup r (.tuple ds) E = r ds E := id rfl
@[simp] theorem x_tUnl {r : Tgs} {ds : List D} : tUnl r (.list ds) E = r ds E := id rfl
@[simp] theorem x_iL : iL g E = match g E with | some (.list xs) => some xs | _ => none := id rfl
@[simp] theorem x_iT : iT g E = match g E with | some (.tuple xs) => some xs | _ => none := id rfl
@[simp] theorem x_sFor {tg : Tg} {src : Gl'} {b : Sm} : sFor tg src b E = (src E).bind fun xs => forL tg b xs E := id rfl
@[simp] theorem x_wipe0 : wipeE E [] = E := id rfl
@[simp] theorem x_wipe1 {is : List Nat} : wipeE E (i :: is) = (wipeE E is).set i none := id rfl
@[simp] theorem x_gLc {own : List Nat} {tg : Tg} {src : Gl'} : gLc own tg src c g E = (src E).bind fun xs => (lcL tg c g (wipeE E own) xs).bind fun r => gd xs.length (.list r) := id rfl
@[simp] theorem x_gO0 : gO0 E = some none := id rfl
@[simp] theorem x_gO : gO g E = match g E with | some (.int i) => some (some i) | _ => none := id rfl
@[simp] theorem x_gSl {gl gh : En → Option (Option Int)} : gSl a gl gh E = match a E with | some (.list xs) => (gl E).bind fun lo => (gh E).bind fun hi => some (.list (cutD xs lo hi)) | _ => none := id rfl
end
theorem x_bind {α β : Type} {f : α → Option β} {x : α} : (some x).bind f = f x := id rfl
theorem x_map {α β : Type} {f : α → β} {x : α} : (some x).map f = some (f x) := id rfl
theorem x_join {α : Type} {x : Option α} : (some x).join = x := id rfl
/-! ### data -/
abbrev N (n : Nat) : D := .int (n : Int)
abbrev LN (l : List Nat) : D := .list (l.map N)
abbrev TT (t : Nat × Nat) : D := .tuple [N t.1, N t.2]
abbrev LTs (l : List (Nat × Nat)) : D := .list (l.map TT)
abbrev LL (l : List (List Nat)) : D := .list (l.map LN)
section
variable {a b n i : Nat} {l : List Nat}
@[simp] theorem okN : okD (N a) = true := id rfl
theorem noDs_N : ∀ l : List Nat, noDs (l.map N) = true
  | [] => rfl
  | _ :: l => by simp [noDs, noD, noDs_N l]
theorem lay_N : ∀ l : List Nat, PyData.canLayAll0 (l.map N) = true
  | [] => rfl
  | _ :: l => by simp [PyData.canLayAll0, PyData.canLay0, lay_N l]
theorem dep_N : ∀ l : List Nat, PyData.depthAll (l.map N) = 0
  | [] => rfl
  | _ :: l => by simp [PyData.depthAll, PyData.depth, dep_N l]
@[simp] theorem okLN : okD (.list (l.map N)) = true := by
  simp [okD, noD, noDs_N, SeqAt.shaped, PyData.canLay0, lay_N, PyData.depth, dep_N]
theorem eqv_N : PyData.eqv (N a) (N b) = decide (a = b) := by
  show ((a : Int) == (b : Int)) = _
  by_cases h : a = b
  · simp [h]
  · have : (a : Int) ≠ b := by omega
    simp [h, this]
@[simp] theorem dEq_N : dEq (N a) (N b) = some (.bool (decide (a = b))) := by
  simp only [dEq, okN, Bool.and_self, if_true, eqv_N]
@[simp] theorem dNe_N : dNe (N a) (N b) = some (.bool (decide (a ≠ b))) := by
  simp only [dNe, okN, Bool.and_self, if_true, eqv_N]; simp
theorem any_N : ((l.map N).any fun z => PyData.eqv z (N a)) = decide (a ∈ l) := by
  induction l with
  | nil => simp
  | cons x l ih =>
    rw [List.map_cons, List.any_cons, ih, eqv_N]
    by_cases h : x = a
    · simp [h]
    · have h2 : a ≠ x := fun e => h e.symm
      simp [h, h2]
@[simp] theorem dIn_N : dIn (N a) (.list (l.map N)) = some (.bool (decide (a ∈ l))) := by
  simp only [dIn, okN, okLN, Bool.and_self, if_true, any_N]
@[simp] theorem dNotIn_N : dNotIn (N a) (.list (l.map N)) = some (.bool (decide (a ∉ l))) := by
  simp only [dNotIn, okN, okLN, Bool.and_self, if_true, any_N]; simp
@[simp] theorem dLt_N : dLt (N a) (N b) = some (.bool (decide (a < b))) := by simp [dLt]
@[simp] theorem dLe_N : dLe (N a) (N b) = some (.bool (decide (a ≤ b))) := by simp [dLe]
@[simp] theorem dGt_N : dGt (N a) (N b) = some (.bool (decide (b < a))) := by simp [dGt]
@[simp] theorem dGe_N : dGe (N a) (N b) = some (.bool (decide (b ≤ a))) := by simp [dGe]
@[simp] theorem dAdd_N : dAdd (N a) (N b) = some (N (a + b)) := by simp [dAdd]
theorem dSub_N (h : b ≤ a) : dSub (N a) (N b) = some (N (a - b)) := by simp [dSub]; omega
theorem dMul_N (h : a < 2 ^ 64 ∨ b < 2 ^ 64) : dMul (N a) (N b) = some (N (a * b)) := by
  have : smallI (a : Int) || smallI (b : Int) := by
    simp only [smallI, Bool.or_eq_true, Bool.and_eq_true, decide_eq_true_eq]
    omega
  simp [dMul, this]
theorem dMod_N (h : 0 < b) : dMod (N a) (N b) = some (N (a % b)) := by
  have : (0 : Int) < b := by omega
  simp only [dMod]
  rw [if_pos this]
  rfl
theorem dDiv_N (h : 0 < b) (h2 : b < 1073741824) : dDiv (N a) (N b) = some (N (a / b)) := by
  have : (0 : Int) < b ∧ (b : Int) < 1073741824 := by omega
  simp only [dDiv, this, and_self, if_true]
  rfl
theorem atI_N {α : Type} {xs : List α} (h : i < xs.length) : atI xs (i : Int) = some xs[i] := atI_nat (List.getElem?_eq_getElem h)
theorem atI_some {α : Type} {xs : List α} {x : α} (h : xs[i]? = some x) : atI xs (i : Int) = some x := atI_nat h
theorem dIx_some {α : Type} {f : α → D} {xs : List α} {x : α} (h : xs[i]? = some x) : dIx (.list (xs.map f)) (N i) = some (f x) := atI_some (by simp [h])
theorem dIxL_some {α : Type} {f : α → D} {xs : List α} {x : α} (h : xs[i]? = some x) : dIxL (.list (xs.map f)) (N i) = some (f x) := atI_some (by simp [h])
@[simp] theorem dIx_t0 {x : D} {xs : List D} : dIx (.tuple (x :: xs)) (.int 0) = some x := atI_some (i := 0) rfl
@[simp] theorem dIx_t1 {x y : D} {xs : List D} : dIx (.tuple (x :: y :: xs)) (.int 1) = some y := atI_some (i := 1) rfl
@[simp] theorem dIx_t2 {x y z : D} {xs : List D} : dIx (.tuple (x :: y :: z :: xs)) (.int 2) = some z := atI_some (i := 2) rfl
@[simp] theorem dIx_l0 {x : D} {xs : List D} : dIx (.list (x :: xs)) (.int 0) = some x := atI_some (i := 0) rfl
@[simp] theorem dIx_l1 {x y : D} {xs : List D} : dIx (.list (x :: y :: xs)) (.int 1) = some y := atI_some (i := 1) rfl
@[simp] theorem dLen_l {xs : List D} : dLen [.list xs] = some (N xs.length) := id rfl
@[simp] theorem dLst_l {xs : List D} (h : xs.length ≤ 16000000) : dLst [.list xs] = some (.list xs) := by simp [dLst, gd, h]
theorem iR1_N {g : Gx} {E : En} (h : g E = some (N n)) (hn : n < 2 ^ 62) : iR1 g E = some ((List.range n).map N) := by
  have : -(2 ^ 62 : Int) ≤ n ∧ (n : Int) < 2 ^ 62 := by omega
  simp only [iR1, h]
  rw [if_pos this, Int.toNat_natCast]
theorem dRng_N (h : n ≤ 16000000) : dRng (.int 0) (N n) = some (LN (List.range n)) := by
  have : -16000000 ≤ (0 : Int) ∧ (0 : Int) ≤ 16000000 ∧ -16000000 ≤ (n : Int) ∧ (n : Int) ≤ 16000000 ∧ ((n : Int) - 0).toNat ≤ 16000000 := by omega
  simp only [dRng]
  rw [if_pos this]
  simp [rngL]
@[simp] theorem dInt_b {b : Bool} : dInt [.bool b] = some (.int (if b then 1 else 0)) := by cases b <;> rfl
end
/-! ### loops -/
section
variable {σ α : Type} {tg : Tg} {b : Sm} {e : α → D}
/-- what a turn may give -/
def Turn (Inv : σ → En → Prop) (r : σ ⊕ D) (o : Option (En × Fl)) : Prop := match r with
  | .inl s => ∃ E' fl, o = some (E', fl) ∧ (fl = .nx ∨ fl = .ct) ∧ Inv s E'
  | .inr d => ∃ E', o = some (E', .rt d)
def foldX (f : σ → α → σ ⊕ D) : List α → σ → σ ⊕ D
  | [], s => .inl s
  | x :: xs, s => match f s x with
    | .inl s' => foldX f xs s'
    | .inr d => .inr d
theorem forL_fold {Inv : σ → En → Prop} (f : σ → α → σ ⊕ D) : ∀ (xs : List α) (s : σ) (E : En), Inv s E → (∀ s x E, x ∈ xs → Inv s E → Turn Inv (f s x) ((tg (e x) E).bind b)) →
    match foldX f xs s with
    | .inl s' => ∃ E', forL tg b (xs.map e) E = some (E', .nx) ∧ Inv s' E'
    | .inr d => ∃ E', forL tg b (xs.map e) E = some (E', .rt d)
  | [], s, E, h, _ => ⟨E, rfl, h⟩
  | x :: xs, s, E, h, ht => by
    have t := ht s x E (by simp) h
    unfold foldX
    cases hf : f s x with
    | inr d =>
      rw [hf] at t
      obtain ⟨E', h1⟩ := t
      obtain ⟨E1, h2, h3⟩ := Option.bind_eq_some_iff.mp h1
      exact ⟨E', by simp [forL, h2, h3]⟩
    | inl s' =>
      rw [hf] at t
      obtain ⟨E', fl, h1, hfl, h4⟩ := t
      obtain ⟨E1, h2, h3⟩ := Option.bind_eq_some_iff.mp h1
      have ih := forL_fold f xs s' E' h4 fun s x E hx => ht s x E (by simp [hx])
      have e1 : forL tg b ((x :: xs).map e) E = forL tg b (xs.map e) E' := by
        rcases hfl with rfl | rfl <;> simp [forL, h2, h3]
      rw [e1]
      exact ih
/-- by the part done -/
theorem forL_pre {Inv : List α → En → Prop} {R : D → Prop} : ∀ (xs pre : List α) (E : En), Inv pre E →
    (∀ p x q E, pre ++ xs = p ++ x :: q → Inv p E → (∃ E' fl, (tg (e x) E).bind b = some (E', fl) ∧ (fl = .nx ∨ fl = .ct) ∧ Inv (p ++ [x]) E') ∨ ∃ E' d, (tg (e x) E).bind b = some (E', .rt d) ∧ R d) →
    (∃ E', forL tg b (xs.map e) E = some (E', .nx) ∧ Inv (pre ++ xs) E') ∨ ∃ E' d, forL tg b (xs.map e) E = some (E', .rt d) ∧ R d
  | [], pre, E, h, _ => .inl ⟨E, rfl, by rw [List.append_nil]; exact h⟩
  | x :: xs, pre, E, h, ht => by
    rcases ht pre x xs E rfl h with ⟨E', fl, h1, hfl, h4⟩ | ⟨E', d, h1, hR⟩
    · obtain ⟨E1, h2, h3⟩ := Option.bind_eq_some_iff.mp h1
      have e1 : forL tg b ((x :: xs).map e) E = forL tg b (xs.map e) E' := by
        rcases hfl with rfl | rfl <;> simp [forL, h2, h3]
      rw [e1]
      have ih := forL_pre xs (pre ++ [x]) E' h4 fun p y q E hp => ht p y q E (by rw [← hp]; simp)
      rw [List.append_assoc] at ih
      exact ih
    · obtain ⟨E1, h2, h3⟩ := Option.bind_eq_some_iff.mp h1
      exact .inr ⟨E', d, by simp [forL, h2, h3], hR⟩
theorem whL_inv {c : Gx} {Inv : Nat → En → Prop} {Q : En → Prop} {R : D → Prop} : ∀ (n m : Nat) (E : En), m < n → Inv m E →
    (∀ m E, Inv m E → (c E = some (.bool false) ∧ Q E) ∨ (c E = some (.bool true) ∧ ((∃ E' fl, b E = some (E', fl) ∧ (fl = .nx ∨ fl = .ct) ∧ ∃ m', m' < m ∧ Inv m' E') ∨ ∃ E' d, b E = some (E', .rt d) ∧ R d))) →
    (∃ E', whL c b n E = some (E', .nx) ∧ Q E') ∨ ∃ E' d, whL c b n E = some (E', .rt d) ∧ R d
  | 0, m, E, h, _, _ => absurd h (Nat.not_lt_zero _)
  | n + 1, m, E, h, hI, ht => by
    rcases ht m E hI with ⟨h1, h2⟩ | ⟨h1, ⟨E', fl, h2, hfl, m', hm, h3⟩ | ⟨E', d, h2, h3⟩⟩
    · exact .inl ⟨E, by simp [whL, h1], h2⟩
    · have := whL_inv n m' E' (by omega) h3 ht
      have e1 : whL c b (n + 1) E = whL c b n E' := by rcases hfl with rfl | rfl <;> simp [whL, h1, h2]
      rw [e1]
      exact this
    · exact .inr ⟨E', d, by simp [whL, h1, h2], h3⟩
theorem lcL_map {c g : Gx} {E : En} {f : α → D} {p : α → Bool} : ∀ (xs : List α), (∀ x ∈ xs, ∃ E1, tg (e x) E = some E1 ∧ c E1 = some (.bool (p x)) ∧ (p x = true → g E1 = some (f x))) →
    lcL tg c g E (xs.map e) = some ((xs.filter p).map f)
  | [], _ => rfl
  | x :: xs, h => by
    obtain ⟨E1, h1, h2, h3⟩ := h x (by simp)
    have ih := lcL_map (f := f) xs fun y hy => h y (by simp [hy])
    cases hp : p x with
    | true =>
      rw [hp] at h2
      simp [lcL, h1, h2, h3 hp, ih, List.filter_cons, hp]
    | false =>
      rw [hp] at h2
      simp [lcL, h1, h2, ih, List.filter_cons, hp]
theorem lcL_all {c g : Gx} {E : En} {f : α → D} (xs : List α) (h : ∀ x ∈ xs, ∃ E1, tg (e x) E = some E1 ∧ c E1 = some (.bool true) ∧ g E1 = some (f x)) : lcL tg c g E (xs.map e) = some (xs.map f) := by
  have := lcL_map (p := fun _ => true) (f := f) (tg := tg) (c := c) (g := g) (E := E) (e := e) xs fun x hx => let ⟨E1, a, b, c⟩ := h x hx; ⟨E1, a, b, fun _ => c⟩
  rw [List.filter_eq_self.mpr (fun _ _ => rfl)] at this
  exact this
end
/-! ### sorting -/
def insN (x : Nat) : List Nat → List Nat
  | [] => [x]
  | y :: r => if x ≤ y then x :: y :: r else y :: insN x r
def sortN (ns : List Nat) : List Nat := ns.foldr insN []
theorem insN_perm (x : Nat) : ∀ l : List Nat, (insN x l).Perm (x :: l)
  | [] => .refl _
  | y :: r => by
    unfold insN
    split
    · exact .refl _
    · exact ((insN_perm x r).cons y).trans (.swap ..)
theorem sortN_perm : ∀ l : List Nat, (sortN l).Perm l
  | [] => .refl _
  | y :: r => (insN_perm y (sortN r)).trans ((sortN_perm r).cons y)
theorem insN_sorted (x : Nat) : ∀ {l : List Nat}, l.Pairwise (· ≤ ·) → (insN x l).Pairwise (· ≤ ·)
  | [], _ => List.pairwise_singleton ..
  | y :: r, h => by
    unfold insN
    rw [List.pairwise_cons] at h
    split
    · rename_i hx
      refine List.pairwise_cons.mpr ⟨fun z hz => ?_, List.pairwise_cons.mpr h⟩
      rcases List.mem_cons.mp hz with rfl | hz
      · exact hx
      · exact Nat.le_trans hx (h.1 z hz)
    · rename_i hx
      refine List.pairwise_cons.mpr ⟨fun z hz => ?_, insN_sorted x h.2⟩
      rcases List.mem_cons.mp ((insN_perm x r).mem_iff.mp hz) with rfl | hz
      · omega
      · exact h.1 z hz
theorem sortN_sorted : ∀ l : List Nat, (sortN l).Pairwise (· ≤ ·)
  | [] => .nil
  | y :: r => insN_sorted y (sortN_sorted r)
abbrev cI (n : Nat) : Int := n
theorem insI_N (x : Nat) : ∀ l : List Nat, insI (cI x) (l.map cI) = (insN x l).map cI
  | [] => rfl
  | y :: r => by
    show (if (x : Int) ≤ y then cI x :: cI y :: r.map cI else cI y :: insI (cI x) (r.map cI)) = (if x ≤ y then x :: y :: r else y :: insN x r).map cI
    rw [insI_N x r]
    by_cases h : x ≤ y
    · have : (x : Int) ≤ y := by omega
      rw [if_pos h, if_pos this]; rfl
    · have : ¬ (x : Int) ≤ y := by omega
      rw [if_neg h, if_neg this]; rfl
theorem sortI_N : ∀ l : List Nat, sortI (l.map cI) = (sortN l).map cI
  | [] => rfl
  | y :: r => by
    show insI (cI y) (sortI (r.map cI)) = (insN y (sortN r)).map cI
    rw [sortI_N r, insI_N]
theorem map_N (l : List Nat) : l.map N = (l.map cI).map PyData.int := by simp
theorem dInts_N (f : List Int → Option D) (l : List Nat) : dInts f [.list (l.map N)] = f (l.map cI) := by
  rw [map_N]
  simp only [dInts, intsOf_ints, Option.bind_some]
@[simp] theorem dSortI_N {l : List Nat} : dSortI [.list (l.map N)] = some (.list ((sortN l).map N)) := by
  rw [dSortI, dInts_N, sortI_N, map_N (sortN l)]
theorem gd_ok {α : Type} {n : Nat} {x : α} (h : n ≤ 16000000) : gd n x = some x := gd_pos h
theorem dCat_ok {xs ys : List D} (h : xs.length + ys.length ≤ 16000000) : dCat (.list xs) (.list ys) = some (.list (xs ++ ys)) := gd_pos h
theorem dAdd_ok {xs ys : List D} (h : xs.length + ys.length ≤ 16000000) : dAdd (.list xs) (.list ys) = some (.list (xs ++ ys)) := gd_pos h
/-! ### what a run brings -/
@[irreducible] def wp (S : Sm) (Q : En → Prop) (R : D → Prop) (E : En) : Prop := match S E with
  | some (E', .nx) => Q E'
  | some (_, .rt d) => R d
  | _ => False
section
variable {Q : En → Prop} {R : D → Prop} {E : En} {a b : Sm} {g ga gb c : Gx} {i j : Nat} {d x y : D}
theorem wp_seq (h : wp a (wp b Q R) R E) : wp (sSeq a b) Q R E := by
  rw [wp] at h ⊢
  unfold sSeq
  cases h1 : a E with
  | none => rw [h1] at h; exact h
  | some r =>
    obtain ⟨E1, fl⟩ := r
    rw [h1] at h
    cases fl with
    | nx => dsimp only at h ⊢; rw [wp] at h; exact h
    | bk => exact h
    | ct => exact h
    | rt d => exact h
theorem wp_nx (h : Q E) : wp sNx Q R E := by unfold wp; exact h
theorem wp_set (e : g E = some d) (h : Q (E.set i (some d))) : wp (sSet i g) Q R E := by
  simp only [wp, sSet, e, Option.map_some]; exact h
theorem wp_ret (e : g E = some d) (h : R d) : wp (sRet g) Q R E := by
  simp only [wp, sRet, e, Option.map_some]; exact h
theorem wp_if {t : Bool} (e : c E = some (.bool t)) (h1 : t = true → wp a Q R E) (h2 : t = false → wp b Q R E) : wp (sIf c a b) Q R E := by
  unfold wp sIf
  rw [e]
  cases t
  · have := h2 rfl
    unfold wp at this
    exact this
  · have := h1 rfl
    unfold wp at this
    exact this
theorem wp_app {xs : List D} (e1 : gV i E = some (.list xs)) (e : g E = some d) (hl : xs.length < 16000000) (h : Q (E.set i (some (.list (xs ++ [d]))))) : wp (sApp i g) Q R E := by
  unfold wp
  rw [x_sApp, e1, e]
  simp only [Option.bind_some]
  rw [gd_pos (by omega)]
  exact h
theorem wp_asg {tg : Tg} {E1 : En} (e : g E = some d) (e1 : tg d E = some E1) (h : Q E1) : wp (sAsg g tg) Q R E := by
  simp only [wp, sAsg, e, e1, Option.bind_some, Option.map_some]; exact h
theorem wp_par (e : ga E = some x) (e1 : gb E = some y) (h : Q ((E.set i (some x)).set j (some y))) : wp (sPar i j ga gb) Q R E := by
  simp only [wp, sPar, e, e1, Option.bind_some, Option.map_some]; exact h
theorem wp_mono {Q' : En → Prop} {R' : D → Prop} {S : Sm} (h : wp S Q R E) (hq : ∀ E, Q E → Q' E) (hr : ∀ d, R d → R' d) : wp S Q' R' E := by
  unfold wp at *
  split at h
  · exact hq _ h
  · exact hr _ h
  · exact h.elim
theorem wp_out {S : Sm} (h : wp S Q R E) : (∃ E', S E = some (E', .nx) ∧ Q E') ∨ ∃ E' d, S E = some (E', .rt d) ∧ R d := by
  unfold wp at h
  split at h
  · rename_i E' e; exact .inl ⟨E', e, h⟩
  · rename_i E' d e; exact .inr ⟨E', d, e, h⟩
  · exact h.elim
theorem wp_for {α : Type} {tg : Tg} {src : Gl'} {e : α → D} (xs : List α) (Inv : List α → En → Prop) (hs : src E = some (xs.map e)) (h0 : Inv [] E)
    (ht : ∀ p x q E, xs = p ++ x :: q → Inv p E → ∃ E1, tg (e x) E = some E1 ∧ wp b (Inv (p ++ [x])) R E1) (hq : ∀ E, Inv xs E → Q E) : wp (sFor tg src b) Q R E := by
  have := forL_pre (tg := tg) (b := b) (e := e) (Inv := Inv) (R := R) xs [] E h0 fun p x q E hp hI => by
    obtain ⟨E1, h1, h2⟩ := ht p x q E (by rw [← hp]; rfl) hI
    rcases wp_out h2 with ⟨E', h3, h4⟩ | ⟨E', d, h3, h4⟩
    · exact .inl ⟨E', .nx, by rw [h1]; exact h3, .inl rfl, h4⟩
    · exact .inr ⟨E', d, by rw [h1]; exact h3, h4⟩
  unfold wp
  rw [x_sFor, hs]
  simp only [Option.bind_some]
  rcases this with ⟨E', h1, h2⟩ | ⟨E', d, h1, h2⟩
  · rw [h1]; exact hq _ h2
  · rw [h1]; exact h2
theorem wp_while {n : Nat} (Inv : Nat → En → Prop) (m : Nat) (hm : m < n) (h0 : Inv m E) (ht : ∀ m E, Inv m E → ∃ t, c E = some (.bool t) ∧ (t = false → Q E) ∧ (t = true → wp b (fun E => ∃ m', m' < m ∧ Inv m' E) R E)) : wp (whL c b n) Q R E := by
  have := whL_inv (c := c) (b := b) (Inv := Inv) (Q := Q) (R := R) n m E hm h0 fun m E hI => by
    obtain ⟨t, h1, h2, h3⟩ := ht m E hI
    cases t with
    | false => exact .inl ⟨h1, h2 rfl⟩
    | true =>
      refine .inr ⟨h1, ?_⟩
      rcases wp_out (h3 rfl) with ⟨E', h3, h4⟩ | ⟨E', d, h3, h4⟩
      · exact .inl ⟨E', .nx, h3, .inl rfl, h4⟩
      · exact .inr ⟨E', d, h3, h4⟩
  unfold wp
  rcases this with ⟨E', h1, h2⟩ | ⟨E', d, h1, h2⟩
  · rw [h1]; exact h2
  · rw [h1]; exact h2
theorem fn_wp {n np : Nat} {m : Sm} {ds : List D} (E : En) (hl : ds.length = np) (hE : startE n ds = E) (h : wp m (fun _ => False) R E) : ∃ d, fnG n np m ds = some d ∧ R d := by
  subst hE
  unfold fnG
  rw [if_pos hl]
  rcases wp_out h with ⟨E', h1, h2⟩ | ⟨E', d, h1, h2⟩
  · exact h2.elim
  · exact ⟨d, by rw [h1], h2⟩
theorem fn_ret {n np : Nat} {ds : List D} (E : En) (hl : ds.length = np) (hE : startE n ds = E) (h : g E = some d) : fnG n np (sRet g) ds = some d := by
  obtain ⟨d', h1, h2⟩ := fn_wp (R := fun x => x = d) E hl hE (wp_ret h rfl)
  rw [h1, h2]
theorem v_lc {own : List Nat} {tg : Tg} {src : Gl'} {xs ys : List D} (hs : src E = some xs) (h : lcL tg c g (wipeE E own) xs = some ys) (hl : xs.length ≤ 16000000) : gLc own tg src c g E = some (.list ys) := by
  simp only [gLc, hs, h, Option.bind_some]
  exact gd_pos hl
end
end Pu

namespace Mt
variable {α : Type}
/-- a closure with exchange -/
structure Cl (α : Type) where
  cl : (α → Prop) → α → Prop
  sub : ∀ {S : α → Prop} {x : α}, S x → cl S x
  idem : ∀ {S T : α → Prop}, (∀ x, T x → cl S x) → ∀ {x}, cl T x → cl S x
  exch : ∀ {S : α → Prop} {y z : α}, cl (fun x => S x ∨ x = y) z → ¬ cl S z → cl (fun x => S x ∨ x = z) y
variable {c : Cl α} {S T I J : α → Prop} {x y z : α}
theorem Cl.mono (c : Cl α) (h : ∀ x, S x → T x) {x : α} (k : c.cl S x) : c.cl T x := c.idem (fun x hx => c.sub (h x hx)) k
def Free (c : Cl α) (S : α → Prop) : Prop := ∀ e, S e → ¬ c.cl (fun x => S x ∧ x ≠ e) e
theorem Free.sub (h : Free c T) (s : ∀ x, S x → T x) : Free c S := fun e he k => h e (s e he) (c.mono (fun x hx => ⟨s x hx.1, hx.2⟩) k)
theorem Free.congr (h : Free c S) (s : ∀ x, T x ↔ S x) : Free c T := h.sub fun x hx => (s x).mp hx
theorem Free.add (h : Free c S) (k : ¬ c.cl S y) : Free c (fun x => S x ∨ x = y) := by
  intro e he q
  by_cases hy : e = y
  · subst hy
    exact k (c.mono (fun x hx => hx.1.elim id fun e2 => absurd e2 hx.2) q)
  · have hS : S e := he.elim id fun e2 => absurd e2 hy
    have q2 : c.cl (fun x => (S x ∧ x ≠ e) ∨ x = y) e := c.mono (fun x hx => hx.1.elim (fun s => .inl ⟨s, hx.2⟩) .inr) q
    have q3 := c.exch q2 (h e hS)
    exact k (c.mono (fun x hx => hx.elim (·.1) fun e2 => e2 ▸ hS) q3)
theorem Free.not_cl (h : Free c (fun x => S x ∨ x = y)) (k : ¬ S y) : ¬ c.cl S y := fun q =>
  h y (.inr rfl) (c.mono (fun x hx => ⟨.inl hx, fun e => k (e ▸ hx)⟩) q)
theorem Free.cl_of (h : Free c S) (k : ¬ Free c (fun x => S x ∨ x = y)) : c.cl S y := by
  by_cases hc : c.cl S y
  · exact hc
  · exact absurd (h.add hc) k
/-- y spanned by I less each of Z is spanned by I less all of Z -/
theorem Free.cut (h : Free c I) (hy : c.cl I y) : ∀ Z : List α, (∀ z, z ∈ Z → c.cl (fun x => I x ∧ x ≠ z) y) → c.cl (fun x => I x ∧ x ∉ Z) y
  | [], _ => c.mono (fun x hx => ⟨hx, by simp⟩) hy
  | z :: Z, hz => by
    have ih := Free.cut h hy Z fun w hw => hz w (by simp [hw])
    have h1 := hz z (by simp)
    by_cases hI : I z
    · by_cases hc : c.cl (fun x => I x ∧ x ∉ z :: Z) y
      · exact hc
      · exfalso
        have q : c.cl (fun x => (I x ∧ x ∉ z :: Z) ∨ x = z) y := c.mono (fun x hx => by
          by_cases e : x = z
          · exact .inr e
          · exact .inl ⟨hx.1, by simp [e, hx.2]⟩) ih
        have q2 := c.exch q hc
        refine h z hI (c.idem (fun x hx => ?_) q2)
        rcases hx with hx | rfl
        · exact c.sub ⟨hx.1, fun e => hx.2 (by simp [e])⟩
        · exact h1
    · exact c.mono (fun x hx => ⟨hx.1, fun m => (List.mem_cons.mp m).elim (fun e => hI (e ▸ hx.1)) hx.2⟩) ih
/-- one exchange, z on the ring that y closes -/
theorem Free.swap {W : α → Prop} (hJ : Free c J) (hWJ : ∀ x, W x → J x) (hWI : ∀ x, W x → I x) (hz : W z) (hy : c.cl W y) (hn : ¬ c.cl (fun x => I x ∧ x ≠ z) y) : Free c (fun x => (J x ∧ x ≠ z) ∨ x = y) := by
  refine (hJ.sub (fun x hx => hx.1)).add fun q => ?_
  have n1 : ¬ c.cl (fun x => W x ∧ x ≠ z) y := fun k => hn (c.mono (fun x hx => ⟨hWI x hx.1, hx.2⟩) k)
  have q1 : c.cl (fun x => (W x ∧ x ≠ z) ∨ x = z) y := c.mono (fun x hx => by
    by_cases e : x = z
    · exact .inr e
    · exact .inl ⟨hx, e⟩) hy
  have q2 := c.exch q1 n1
  refine hJ z (hWJ z hz) (c.idem (fun x hx => ?_) q2)
  rcases hx with hx | rfl
  · exact c.sub ⟨hWJ x hx.1, hx.2⟩
  · exact q

/-! ### lists -/
def FreeL (c : Cl α) (l : List α) : Prop := l.Nodup ∧ Free c (· ∈ l)
theorem freeL_nil : FreeL c ([] : List α) := ⟨.nil, fun e he => by cases he⟩
theorem freeL_snoc {l : List α} : FreeL c (l ++ [x]) ↔ FreeL c l ∧ ¬ c.cl (· ∈ l) x := by
  constructor
  · intro h
    have hd := List.nodup_append.mp h.1
    have hx : x ∉ l := fun m => hd.2.2 x m x (by simp) rfl
    refine ⟨⟨hd.1, h.2.sub fun y hy => by simp [hy]⟩, fun q => h.2 x (by simp) (c.mono (fun y hy => ⟨by simp [hy], fun e => hx (e ▸ hy)⟩) q)⟩
  · intro h
    have hx : x ∉ l := fun m => h.2 (c.sub m)
    refine ⟨List.nodup_append.mpr ⟨h.1.1, by simp, fun a ha b hb e => ?_⟩, (h.1.2.add h.2).congr fun y => by simp⟩
    simp at hb
    exact hx (hb ▸ e ▸ ha)
theorem FreeL.perm {l m : List α} (h : FreeL c l) (p : l.Perm m) : FreeL c m := ⟨p.nodup h.1, h.2.congr fun _ => p.mem_iff.symm⟩
theorem FreeL.sublist {l m : List α} (h : FreeL c l) (s : m.Sublist l) : FreeL c m := ⟨h.1.sublist s, h.2.sub fun _ hx => s.subset hx⟩

/-! ### graphs -/
variable (e : α → Nat × Nat)
def Joins (x : α) (u v : Nat) : Prop := ((e x).1 = u ∧ (e x).2 = v) ∨ ((e x).2 = u ∧ (e x).1 = v)
inductive Conn (S : α → Prop) (u : Nat) : Nat → Prop
  | refl : Conn S u u
  | step {v w : Nat} (x : α) : Conn S u v → S x → Joins e x v w → Conn S u w
variable {e} {u v w : Nat}
theorem Conn.trans (h : Conn e S u v) (k : Conn e S v w) : Conn e S u w := by
  induction k with
  | refl => exact h
  | step x _ hx j ih => exact ih.step x hx j
theorem Conn.one (h : S x) (j : Joins e x u v) : Conn e S u v := Conn.refl.step x h j
theorem Conn.symm (h : Conn e S u v) : Conn e S v u := by
  induction h with
  | refl => exact .refl
  | step x _ hx j ih => exact (Conn.one hx (j.elim (fun k => .inr ⟨k.2, k.1⟩) fun k => .inl ⟨k.2, k.1⟩)).trans ih
theorem Conn.lift (s : ∀ x, S x → Conn e T (e x).1 (e x).2) (h : Conn e S u v) : Conn e T u v := by
  induction h with
  | refl => exact .refl
  | step x _ hx j ih =>
    rcases j with ⟨rfl, rfl⟩ | ⟨rfl, rfl⟩
    · exact ih.trans (s x hx)
    · exact ih.trans (s x hx).symm
theorem Conn.mono (s : ∀ x, S x → T x) (h : Conn e S u v) : Conn e T u v := h.lift fun x hx => .one (s x hx) (.inl ⟨rfl, rfl⟩)
theorem conn_add : Conn e (fun x => S x ∨ x = y) u v ↔ Conn e S u v ∨ (Conn e S u (e y).1 ∧ Conn e S (e y).2 v) ∨ (Conn e S u (e y).2 ∧ Conn e S (e y).1 v) := by
  constructor
  · intro h
    induction h with
    | refl => exact .inl .refl
    | step x _ hx j ih =>
      rcases hx with hx | rfl
      · have o := Conn.one (e := e) hx j
        rcases ih with h | ⟨h1, h2⟩ | ⟨h1, h2⟩
        · exact .inl (h.trans o)
        · exact .inr (.inl ⟨h1, h2.trans o⟩)
        · exact .inr (.inr ⟨h1, h2.trans o⟩)
      · rcases j with ⟨rfl, rfl⟩ | ⟨rfl, rfl⟩
        · rcases ih with h | ⟨h1, h2⟩ | ⟨h1, h2⟩
          · exact .inr (.inl ⟨h, .refl⟩)
          · exact .inr (.inl ⟨h1, .refl⟩)
          · exact .inl h1
        · rcases ih with h | ⟨h1, h2⟩ | ⟨h1, h2⟩
          · exact .inr (.inr ⟨h, .refl⟩)
          · exact .inl h1
          · exact .inr (.inr ⟨h1, .refl⟩)
  · have m : ∀ {a b : Nat}, Conn e S a b → Conn e (fun x => S x ∨ x = y) a b := fun h => h.mono fun _ => .inl
    have o : Conn e (fun x => S x ∨ x = y) (e y).1 (e y).2 := .one (.inr rfl) (.inl ⟨rfl, rfl⟩)
    rintro (h | ⟨h1, h2⟩ | ⟨h1, h2⟩)
    · exact m h
    · exact (m h1).trans (o.trans (m h2))
    · exact (m h1).trans (o.symm.trans (m h2))
def gcl (e : α → Nat × Nat) : Cl α where
  cl S x := Conn e S (e x).1 (e x).2
  sub {S x} h := .one h (.inl ⟨rfl, rfl⟩)
  idem {S T} h {x} k := Conn.lift h k
  exch := by
    intro S y z h n
    rcases conn_add.mp h with h | ⟨h1, h2⟩ | ⟨h1, h2⟩
    · exact absurd h n
    · exact conn_add.mpr (.inr (.inl ⟨h1.symm, h2.symm⟩))
    · exact conn_add.mpr (.inr (.inr ⟨h2, h1⟩))
/-- within n places -/
def In (e : α → Nat × Nat) (S : α → Prop) (n : Nat) : Prop := ∀ x, S x → (e x).1 < n ∧ (e x).2 < n
theorem Conn.lt {n : Nat} (hS : In e S n) (h : Conn e S u v) (hu : u < n) : v < n := by
  induction h with
  | refl => exact hu
  | step x _ hx j ih =>
    rcases j with ⟨_, rfl⟩ | ⟨_, rfl⟩
    · exact (hS x hx).2
    · exact (hS x hx).1

/-! ### names -/
def Names (e : α → Nat × Nat) (S : α → Prop) (nm : Nat → Nat) (n : Nat) : Prop := ∀ i j, i < n → j < n → (nm i = nm j ↔ Conn e S i j)
theorem names_start (n : Nat) : Names e (fun _ => False) id n := fun i j _ _ => ⟨fun h => by cases h; exact .refl, fun h => by
  cases h with
  | refl => rfl
  | step x _ hx _ => exact hx.elim⟩
theorem names_start_nil (n : Nat) : Names e (· ∈ ([] : List α)) id n := fun i j hi hj => (names_start n i j hi hj).trans ⟨fun h => Conn.mono (fun _ hx => False.elim hx) h, fun h => Conn.mono (fun x hx => by simp at hx) h⟩
theorem Names.merge {nm : Nat → Nat} {n p q : Nat} (h : Names e S nm n) (h1 : (e y).1 < n) (h2 : (e y).2 < n) (hpq : (p = nm (e y).1 ∧ q = nm (e y).2) ∨ (p = nm (e y).2 ∧ q = nm (e y).1)) :
    Names e (fun x => S x ∨ x = y) (fun i => if nm i = p then q else nm i) n := by
  intro i j hi hj
  rw [conn_add, ← h i j hi hj, ← h i _ hi h1, ← h _ j h2 hj, ← h i _ hi h2, ← h _ j h1 hj]
  rcases hpq with ⟨rfl, rfl⟩ | ⟨rfl, rfl⟩
  · by_cases c1 : nm i = nm (e y).1 <;> by_cases c2 : nm j = nm (e y).1 <;> simp [c1, c2] <;> grind
  · by_cases c1 : nm i = nm (e y).2 <;> by_cases c2 : nm j = nm (e y).2 <;> simp [c1, c2] <;> grind
theorem Names.congr {nm : Nat → Nat} {n : Nat} (h : Names e S nm n) (s : ∀ x, T x ↔ S x) : Names e T nm n := fun i j hi hj => (h i j hi hj).trans ⟨fun k => Conn.mono (fun x => (s x).mpr) k, fun k => Conn.mono (fun x => (s x).mp) k⟩
end Mt

namespace Mt
variable {α : Type}
/-! ### counting -/
theorem nodup_len {β : Type} [DecidableEq β] : ∀ {l m : List β}, l.Nodup → (∀ x, x ∈ l → x ∈ m) → l.length ≤ m.length
  | [], _, _, _ => Nat.zero_le _
  | x :: l, m, h, s => by
    rw [List.nodup_cons] at h
    have hx := s x (by simp)
    have := nodup_len (m := m.erase x) h.2 fun y hy => by
      have hne : y ≠ x := fun e => h.1 (e ▸ hy)
      exact (List.mem_erase_of_ne hne).mpr (s y (by simp [hy]))
    rw [List.length_erase_of_mem hx] at this
    have : 0 < m.length := List.length_pos_of_mem hx
    simp
    omega
def dd : List Nat → List Nat
  | [] => []
  | x :: l => if x ∈ dd l then dd l else x :: dd l
theorem mem_dd {x : Nat} : ∀ {l : List Nat}, x ∈ dd l ↔ x ∈ l
  | [] => by simp [dd]
  | y :: l => by
    unfold dd
    have := mem_dd (x := x) (l := l)
    split
    · rename_i h
      constructor
      · intro k; simp [this.mp k]
      · intro k
        rcases List.mem_cons.mp k with rfl | k
        · exact h
        · exact this.mpr k
    · simp [this]
theorem nodup_dd : ∀ {l : List Nat}, (dd l).Nodup
  | [] => by simp [dd]
  | y :: l => by
    unfold dd
    split
    · exact nodup_dd
    · rename_i h; exact List.nodup_cons.mpr ⟨h, nodup_dd⟩
theorem dd_le (l : List Nat) : (dd l).length ≤ l.length := nodup_len nodup_dd fun x => mem_dd.mp
theorem dd_merge_le {l : List Nat} {p q : Nat} : (dd l).length ≤ (dd (l.map fun x => if x = p then q else x)).length + 1 := by
  have := nodup_len (l := dd l) (m := p :: dd (l.map fun x => if x = p then q else x)) nodup_dd fun x hx => by
    by_cases e : x = p
    · simp [e]
    · refine List.mem_cons_of_mem _ (mem_dd.mpr (List.mem_map.mpr ⟨x, mem_dd.mp hx, by simp [e]⟩))
  simpa using this
theorem dd_merge_lt {l : List Nat} {p q : Nat} (hp : p ∈ l) (hq : q ∈ l) (h : p ≠ q) : (dd (l.map fun x => if x = p then q else x)).length + 1 ≤ (dd l).length := by
  have hp' : p ∈ dd l := mem_dd.mpr hp
  have := nodup_len (l := dd (l.map fun x => if x = p then q else x)) (m := (dd l).erase p) nodup_dd fun x hx => by
    obtain ⟨y, hy, rfl⟩ := List.mem_map.mp (mem_dd.mp hx)
    by_cases e : y = p
    · simp only [e, if_true]
      exact (List.mem_erase_of_ne (Ne.symm h)).mpr (mem_dd.mpr hq)
    · simp only [e, if_false]
      exact (List.mem_erase_of_ne e).mpr (mem_dd.mpr hy)
  rw [List.length_erase_of_mem hp'] at this
  have : 0 < (dd l).length := List.length_pos_of_mem hp'
  omega
variable {e : α → Nat × Nat} {S : α → Prop} {n : Nat}
theorem snoc_ind {β : Type} {P : List β → Prop} (h0 : P []) (h1 : ∀ l x, P l → P (l ++ [x])) : ∀ l, P l := by
  intro l
  have : ∀ m : List β, P m.reverse := by
    intro m
    induction m with
    | nil => exact h0
    | cons x m ih => rw [List.reverse_cons]; exact h1 _ _ ih
  rw [← List.reverse_reverse l]
  exact this _
theorem names_snoc {nm : Nat → Nat} {l : List α} {x : α} (h : Names e (· ∈ l) nm n) (h1 : (e x).1 < n) (h2 : (e x).2 < n) :
    Names e (· ∈ l ++ [x]) (fun i => if nm i = nm (e x).1 then nm (e x).2 else nm i) n := (h.merge h1 h2 (.inl ⟨rfl, rfl⟩)).congr fun y => by simp
/-- a wood's ties are fewer than its places -/
theorem wood_le {P : List Nat} (hP : ∀ v, v ∈ P → v < n) (h0 : P ≠ []) {F : List α} (hF : FreeL (gcl e) F) (hE : ∀ x, x ∈ F → (e x).1 ∈ P ∧ (e x).2 ∈ P) : F.length + 1 ≤ P.length := by
  have key : ∀ F : List α, FreeL (gcl e) F → (∀ x, x ∈ F → (e x).1 ∈ P ∧ (e x).2 ∈ P) → ∃ nm, Names e (· ∈ F) nm n ∧ (dd (P.map nm)).length + F.length ≤ P.length := by
    refine snoc_ind (fun _ _ => ⟨id, names_start_nil n, by simpa using dd_le P⟩) fun l x ih hF hE => ?_
    obtain ⟨h1, h2⟩ := freeL_snoc.mp hF
    obtain ⟨nm, a, b⟩ := ih h1 fun y hy => hE y (by simp [hy])
    obtain ⟨p1, p2⟩ := hE x (by simp)
    refine ⟨_, names_snoc a (hP _ p1) (hP _ p2), ?_⟩
    have hne : nm (e x).1 ≠ nm (e x).2 := fun q => h2 ((a _ _ (hP _ p1) (hP _ p2)).mp q)
    have := dd_merge_lt (l := P.map nm) (List.mem_map.mpr ⟨_, p1, rfl⟩) (List.mem_map.mpr ⟨_, p2, rfl⟩) hne
    rw [List.map_map] at this
    simp only [Function.comp_def] at this
    simp only [List.length_append, List.length_singleton]
    omega
  obtain ⟨nm, _, b⟩ := key F hF hE
  have : 0 < (dd (P.map nm)).length := by
    obtain ⟨v, hv⟩ := List.exists_mem_of_ne_nil P h0
    exact List.length_pos_of_mem (mem_dd.mpr (List.mem_map.mpr ⟨v, hv, rfl⟩))
  omega
/-- what joins all of C has at least its places less one -/
theorem joined_ge {C : List Nat} (hC : C.Nodup) (hn : ∀ v, v ∈ C → v < n) {F : List α} (hE : ∀ x, x ∈ F → (e x).1 < n ∧ (e x).2 < n) (hJ : ∀ u v, u ∈ C → v ∈ C → Conn e (· ∈ F) u v) : C.length ≤ F.length + 1 := by
  have key : ∀ F : List α, (∀ x, x ∈ F → (e x).1 < n ∧ (e x).2 < n) → ∃ nm, Names e (· ∈ F) nm n ∧ C.length ≤ (dd (C.map nm)).length + F.length := by
    refine snoc_ind (fun _ => ⟨id, names_start_nil n, by simpa using nodup_len hC fun x hx => mem_dd.mpr hx⟩) fun l x ih hE => ?_
    obtain ⟨nm, a, b⟩ := ih fun y hy => hE y (by simp [hy])
    obtain ⟨p1, p2⟩ := hE x (by simp)
    refine ⟨_, names_snoc a p1 p2, ?_⟩
    have := dd_merge_le (l := C.map nm) (p := nm (e x).1) (q := nm (e x).2)
    rw [List.map_map] at this
    simp only [Function.comp_def] at this
    simp only [List.length_append, List.length_singleton]
    omega
  obtain ⟨nm, a, b⟩ := key F hE
  have : (dd (C.map nm)).length ≤ 1 := by
    cases C with
    | nil => simp [dd]
    | cons v C =>
      have := nodup_len (l := dd ((v :: C).map nm)) (m := [nm v]) nodup_dd fun x hx => by
        obtain ⟨w, hw, rfl⟩ := List.mem_map.mp (mem_dd.mp hx)
        rw [List.mem_singleton]
        exact (a w v (hn w hw) (hn v (by simp))).mpr (hJ w v hw (by simp))
      simpa using this
  omega
/-- parts that are woods: a set of places holds at most so many -/
theorem woods_le [DecidableEq α] {P : List Nat} (hP : ∀ v, v ∈ P → v < n) (h0 : P ≠ []) {parts : List (List α)} (hF : ∀ F, F ∈ parts → FreeL (gcl e) F) :
    ((parts.flatten).filter fun x => decide ((e x).1 ∈ P) && decide ((e x).2 ∈ P)).length ≤ parts.length * (P.length - 1) := by
  induction parts with
  | nil => simp
  | cons F parts ih =>
    have h1 := wood_le (F := F.filter fun x => decide ((e x).1 ∈ P) && decide ((e x).2 ∈ P)) hP h0 ((hF F (by simp)).sublist List.filter_sublist) fun x hx => by
      have := (List.mem_filter.mp hx).2
      simpa using this
    have h2 := ih fun G hG => hF G (by simp [hG])
    simp only [List.flatten_cons, List.filter_append, List.length_append, List.length_cons]
    have : (parts.length + 1) * (P.length - 1) = parts.length * (P.length - 1) + (P.length - 1) := by rw [Nat.add_mul]; omega
    omega
theorem conn_within {C : Nat → Prop} {u v : Nat} (h : Conn e S u v) (hu : C u) (hC : ∀ x a b, S x → Joins e x a b → C a → C b) : Conn e (fun x => S x ∧ C (e x).1 ∧ C (e x).2) u v ∧ C v := by
  induction h with
  | refl => exact ⟨.refl, hu⟩
  | step x h hx j ih =>
    have cw := hC x _ _ hx j ih.2
    refine ⟨ih.1.step x ⟨hx, ?_⟩ j, cw⟩
    rcases j with ⟨rfl, rfl⟩ | ⟨rfl, rfl⟩
    · exact ⟨ih.2, cw⟩
    · exact ⟨cw, ih.2⟩
/-- where the search ends: one class of the lot holds too many -/
theorem crowd [DecidableEq α] {parts : List (List α)} {lot : List α} {x0 : α} {C : List Nat} (hF : ∀ F, F ∈ parts → FreeL (gcl e) F) (hd : parts.flatten.Nodup) (hl : lot.Nodup) (hn : ∀ x, x ∈ lot → (e x).1 < n ∧ (e x).2 < n)
    (h1 : ∀ F, F ∈ parts → ∀ x, x ∈ lot → x ∉ F → ¬ Free (gcl e) (fun y => y ∈ F ∨ y = x))
    (h2 : ∀ F, F ∈ parts → ∀ x, x ∈ lot → x ∉ F → ∀ y, y ∈ F → Free (gcl e) (fun w => (w ∈ F ∧ w ≠ y) ∨ w = x) → y ∈ lot)
    (hx0 : x0 ∈ lot) (hx0' : x0 ∉ parts.flatten) (hC : C.Nodup) (hCn : ∀ v, v ∈ C → v < n) (hCx : ∀ v, v < n → (v ∈ C ↔ Conn e (· ∈ lot) (e x0).1 v)) :
    parts.length * (C.length - 1) + 1 ≤ (lot.filter fun x => decide ((e x).1 ∈ C) && decide ((e x).2 ∈ C)).length := by
  have step : ∀ x a b, x ∈ lot → Joins e x a b → a ∈ C → b ∈ C := fun x a b hx j ha => by
    have hb : b < n := by
      rcases j with ⟨_, rfl⟩ | ⟨_, rfl⟩
      · exact (hn x hx).2
      · exact (hn x hx).1
    exact (hCx b hb).mpr (((hCx a (hCn a ha)).mp ha).step x hx j)
  -- each part joins C within the lot
  have per : ∀ F, F ∈ parts → C.length ≤ (F.filter fun x => decide (x ∈ lot) && (decide ((e x).1 ∈ C) && decide ((e x).2 ∈ C))).length + 1 := fun F hFp => by
    have fr := (hF F hFp).2
    have span : ∀ x, x ∈ lot → Conn e (fun y => y ∈ F ∧ y ∈ lot) (e x).1 (e x).2 := fun x hx => by
      by_cases hxF : x ∈ F
      · exact .one ⟨hxF, hx⟩ (.inl ⟨rfl, rfl⟩)
      · have c1 : (gcl e).cl (· ∈ F) x := fr.cl_of (h1 F hFp x hx hxF)
        have c2 := fr.cut c1 (F.filter fun y => decide (y ∉ lot)) fun z hz => by
          have hz' := List.mem_filter.mp hz
          have hzl : z ∉ lot := by simpa using hz'.2
          refine (fr.sub (S := fun w => w ∈ F ∧ w ≠ z) fun w hw => hw.1).cl_of fun k => hzl (h2 F hFp x hx hxF z hz'.1 k)
        refine Conn.mono (fun y hy => ⟨hy.1, ?_⟩) c2
        by_cases hyl : y ∈ lot
        · exact hyl
        · exact absurd (List.mem_filter.mpr ⟨hy.1, by simpa using hyl⟩) hy.2
    refine joined_ge (e := e) hC hCn (F := F.filter fun x => decide (x ∈ lot) && (decide ((e x).1 ∈ C) && decide ((e x).2 ∈ C))) (fun x hx => ?_) fun u v hu hv => ?_
    · have := (List.mem_filter.mp hx).2
      simp only [Bool.and_eq_true, decide_eq_true_eq] at this
      exact hn x this.1
    · have cu := (hCx u (hCn u hu)).mp hu
      have cv := (hCx v (hCn v hv)).mp hv
      have cuv : Conn e (· ∈ lot) u v := cu.symm.trans cv
      have c3 : Conn e (fun y => y ∈ F ∧ y ∈ lot) u v := cuv.lift span
      have c4 := (conn_within (C := (· ∈ C)) c3 hu fun x a b hx => step x a b hx.2).1
      refine Conn.mono (fun y hy => ?_) c4
      exact List.mem_filter.mpr ⟨hy.1.1, by simp [hy.1.2, hy.2]⟩
  have sum : ∀ ps : List (List α), (∀ F, F ∈ ps → F ∈ parts) → ps.length * (C.length - 1) ≤ (ps.flatten.filter fun x => decide (x ∈ lot) && (decide ((e x).1 ∈ C) && decide ((e x).2 ∈ C))).length := by
    intro ps
    induction ps with
    | nil => simp
    | cons F ps ih =>
      intro hs
      have a := per F (hs F (by simp))
      have b := ih fun G hG => hs G (by simp [hG])
      simp only [List.flatten_cons, List.filter_append, List.length_append, List.length_cons]
      have : (ps.length + 1) * (C.length - 1) = ps.length * (C.length - 1) + (C.length - 1) := by rw [Nat.add_mul]; omega
      omega
  have s := sum parts fun _ h => h
  have c1 : (e x0).1 ∈ C := (hCx _ (hn x0 hx0).1).mpr .refl
  have c2 : (e x0).2 ∈ C := (hCx _ (hn x0 hx0).2).mpr (.one hx0 (.inl ⟨rfl, rfl⟩))
  have fin := nodup_len (l := x0 :: (parts.flatten.filter fun x => decide (x ∈ lot) && (decide ((e x).1 ∈ C) && decide ((e x).2 ∈ C)))) (m := lot.filter fun x => decide ((e x).1 ∈ C) && decide ((e x).2 ∈ C))
    (List.nodup_cons.mpr ⟨fun h => hx0' (List.mem_filter.mp h).1, hd.sublist List.filter_sublist⟩) fun x hx => by
      rcases List.mem_cons.mp hx with rfl | hx
      · exact List.mem_filter.mpr ⟨hx0, by simp [c1, c2]⟩
      · have := (List.mem_filter.mp hx).2
        simp only [Bool.and_eq_true, decide_eq_true_eq] at this
        exact List.mem_filter.mpr ⟨this.1, by simp [this.2]⟩
  simp only [List.length_cons] at fin
  omega
end Mt

namespace Mt
/-! ### a search that goes by exchanges, and the change along its path -/
abbrev Rc := List (Nat × Option (Nat × Nat))
def keys (r : Rc) : List Nat := r.map (·.1)
def idx (r : Rc) (y : Nat) : Nat := (keys r).idxOf y
structure RchOk (cs : Nat → Cl Nat) (parts : List (List Nat)) (r : Rc) : Prop where
  nd : (keys r).Nodup
  st : ∀ y, (y, none) ∈ r → y ∉ parts.flatten
  en : ∀ y b p, (y, some (b, p)) ∈ r → ∃ P : List Nat, parts[p]? = some P ∧ y ∈ P ∧ b ∉ P ∧ b ∈ keys r ∧ idx r b < idx r y ∧ Free (cs p) (fun w => (w ∈ P ∧ w ≠ y) ∨ w = b)
/-- all that stand before place a have been asked -/
def Asked (cs : Nat → Cl Nat) (parts : List (List Nat)) (r : Rc) (a : Nat) : Prop := ∀ b, b ∈ keys r → idx r b < a → ∀ (p : Nat) (P : List Nat), parts[p]? = some P → b ∉ P →
  ¬ Free (cs p) (fun w => w ∈ P ∨ w = b) ∧ ∀ y, y ∈ P → Free (cs p) (fun w => (w ∈ P ∧ w ≠ y) ∨ w = b) → ∃ o, (y, o) ∈ r ∧ (o = none ∨ ∃ b' p', o = some (b', p') ∧ idx r b' ≤ idx r b)
structure Chg (cs : Nat → Cl Nat) (parts : List (List Nat)) (r : Rc) (a : Nat) (made : List (List Nat)) (thing : Nat) (done : List Nat) : Prop where
  len : made.length = parts.length
  free : ∀ (p : Nat) (M : List Nat), made[p]? = some M → FreeL (cs p) M
  keep : ∀ (p : Nat) (P M : List Nat), parts[p]? = some P → made[p]? = some M → ∀ y, y ∈ P → y ∉ done → y ∈ M
  orig : ∀ (p : Nat) (P M : List Nat), parts[p]? = some P → made[p]? = some M → ∀ y, y ∈ M → y ∈ P ∨ y = thing ∨ y ∈ done
  perm : made.flatten.Perm (thing :: parts.flatten)
  key : thing ∈ keys r
  le : idx r thing ≤ a
  dn : ∀ y, y ∈ done → idx r thing < idx r y ∧ ∃ b p, (y, some (b, p)) ∈ r ∧ idx r thing ≤ idx r b
theorem flatten_at : ∀ {made : List (List Nat)} {p : Nat} {M : List Nat}, made[p]? = some M → made.flatten.Perm (M ++ (made.eraseIdx p).flatten)
  | [], _, _, h => by simp at h
  | A :: made, 0, M, h => by simp at h; subst h; simp
  | A :: made, p + 1, M, h => by
    have ih := flatten_at (made := made) (p := p) (M := M) (by simpa using h)
    simp only [List.flatten_cons, List.eraseIdx_cons_succ]
    refine (ih.append_left A).trans ?_
    rw [← List.append_assoc, ← List.append_assoc]
    exact List.perm_append_comm.append_right _
theorem flatten_set : ∀ {made : List (List Nat)} {p : Nat} (M' : List Nat), p < made.length → (made.set p M').flatten.Perm (M' ++ (made.eraseIdx p).flatten)
  | [], _, _, h => by simp at h
  | A :: made, 0, M', _ => by simp
  | A :: made, p + 1, M', h => by
    have ih := flatten_set (made := made) (p := p) M' (by simpa using h)
    simp only [List.set_cons_succ, List.flatten_cons, List.eraseIdx_cons_succ]
    refine (ih.append_left A).trans ?_
    rw [← List.append_assoc, ← List.append_assoc]
    exact List.perm_append_comm.append_right _
theorem entry_uniq {r : Rc} (h : (keys r).Nodup) {y : Nat} {o o' : Option (Nat × Nat)} (h1 : (y, o) ∈ r) (h2 : (y, o') ∈ r) : o = o' := by
  induction r with
  | nil => cases h1
  | cons e r ih =>
    have hn := List.nodup_cons.mp (show (e.1 :: keys r).Nodup from h)
    have mk : ∀ o : Option (Nat × Nat), (y, o) ∈ r → y ∈ keys r := fun o h => List.mem_map.mpr ⟨(y, o), h, rfl⟩
    rcases List.mem_cons.mp h1 with k1 | k1
    · rcases List.mem_cons.mp h2 with k2 | k2
      · exact (Prod.ext_iff.mp (k1.trans k2.symm)).2
      · exact absurd (show e.1 ∈ keys r from k1 ▸ mk _ k2) hn.1
    · rcases List.mem_cons.mp h2 with k2 | k2
      · exact absurd (show e.1 ∈ keys r from k2 ▸ mk _ k1) hn.1
      · exact ih hn.2 k1 k2
theorem perm_out {l : List Nat} {x : Nat} (h : l.Nodup) (hx : x ∈ l) : l.Perm (x :: l.filter (· ≠ x)) := by
  have := List.perm_cons_erase hx
  refine this.trans (.cons _ ?_)
  rw [h.erase_eq_filter]
  have : (l.filter (· != x)) = l.filter (· ≠ x) := by
    congr 1; funext y; by_cases k : y = x <;> simp [k]
  rw [this]
variable {cs : Nat → Cl Nat} {parts made : List (List Nat)} {r : Rc} {a thing : Nat} {done : List Nat}
theorem Chg.step (hp : ∀ (p : Nat) (P : List Nat), parts[p]? = some P → FreeL (cs p) P) (hR : RchOk cs parts r) (hA : Asked cs parts r a) (h : Chg cs parts r a made thing done) {b p : Nat} (hb : (thing, some (b, p)) ∈ r) :
    idx r b < idx r thing ∧ ∃ M : List Nat, made[p]? = some M ∧ thing ∈ M ∧ b ∉ M ∧ ∀ M' : List Nat, M'.Perm (M.filter (· ≠ thing) ++ [b]) → Chg cs parts r a (made.set p M') b (thing :: done) := by
  obtain ⟨P, e1, e2, e3, e4, e5, e6⟩ := hR.en _ _ _ hb
  have hpl : p < made.length := by rw [h.len]; exact (List.getElem?_eq_some_iff.mp e1).1
  obtain ⟨M, hM⟩ : ∃ M : List Nat, made[p]? = some M := ⟨_, List.getElem?_eq_getElem hpl⟩
  have tnd : thing ∉ done := fun m => Nat.lt_irrefl _ (h.dn _ m).1
  have tM : thing ∈ M := h.keep p P M e1 hM thing e2 tnd
  have bM : b ∉ M := fun m => by
    rcases h.orig p P M e1 hM b m with k | k | k
    · exact e3 k
    · subst k; exact Nat.lt_irrefl _ e5
    · exact Nat.lt_irrefl _ (Nat.lt_trans e5 (h.dn _ k).1)
  refine ⟨e5, M, hM, tM, bM, fun M' pM => ?_⟩
  have fM := h.free p M hM
  have fP := (hp p P e1).2
  obtain ⟨q1, q2⟩ := hA b e4 (Nat.lt_of_lt_of_le e5 h.le) p P e1 e3
  have c0 : (cs p).cl (· ∈ P) b := fP.cl_of q1
  have c1 : (cs p).cl (fun x => x ∈ P ∧ x ∉ done) b := fP.cut c0 done fun z hz => by
    by_cases hzP : z ∈ P
    · by_cases k : Free (cs p) (fun w => (w ∈ P ∧ w ≠ z) ∨ w = b)
      · exfalso
        obtain ⟨o, k1, k2⟩ := q2 z hzP k
        obtain ⟨_, b', p', k3, k4⟩ := h.dn z hz
        have := entry_uniq hR.nd k1 k3
        subst this
        rcases k2 with k2 | ⟨b2, p2, k2, k5⟩
        · cases k2
        · cases k2; omega
      · exact (fP.sub (S := fun w => w ∈ P ∧ w ≠ z) fun w hw => hw.1).cl_of k
    · exact (cs p).mono (fun x hx => ⟨hx, fun e => hzP (e ▸ hx)⟩) c0
  have n1 : ¬ (cs p).cl (fun x => x ∈ P ∧ x ≠ thing) b := e6.not_cl fun k => e3 k.1
  have fr' : FreeL (cs p) M' := by
    refine FreeL.perm ⟨?_, ?_⟩ pM.symm
    · refine List.nodup_append.mpr ⟨fM.1.sublist List.filter_sublist, by simp, fun u hu w hw e => ?_⟩
      simp at hw
      subst e; subst hw
      exact bM (List.mem_filter.mp hu).1
    · refine (fM.2.swap (W := fun x => x ∈ P ∧ x ∉ done) (fun x hx => h.keep p P M e1 hM x hx.1 hx.2) (fun x hx => hx.1) ⟨e2, tnd⟩ c1 n1).congr fun x => ?_
      simp [List.mem_filter]
  have rest := flatten_at hM
  have set' := flatten_set (made := made) M' hpl
  have pm : (M.filter (· ≠ thing) ++ (made.eraseIdx p).flatten).Perm parts.flatten := by
    have k1 : (thing :: (M.filter (· ≠ thing) ++ (made.eraseIdx p).flatten)).Perm made.flatten := (((perm_out fM.1 tM).append_right _).symm).trans rest.symm
    exact List.Perm.cons_inv (k1.trans h.perm)
  refine ⟨by rw [List.length_set]; exact h.len, fun q N hN => ?_, fun q Q N hQ hN y hy hyd => ?_, fun q Q N hQ hN y hy => ?_, ?_, e4, Nat.le_trans (Nat.le_of_lt e5) h.le, fun y hy => ?_⟩
  · by_cases hq : p = q
    · subst hq
      rw [List.getElem?_set_self hpl] at hN
      cases hN
      exact fr'
    · rw [List.getElem?_set_ne hq] at hN
      exact h.free q N hN
  · simp only [List.mem_cons, not_or] at hyd
    by_cases hq : p = q
    · subst hq
      rw [List.getElem?_set_self hpl] at hN
      cases hN
      exact pM.mem_iff.mpr (List.mem_append_left _ (List.mem_filter.mpr ⟨h.keep p Q M hQ hM y hy hyd.2, by simpa using hyd.1⟩))
    · rw [List.getElem?_set_ne hq] at hN
      exact h.keep q Q N hQ hN y hy hyd.2
  · by_cases hq : p = q
    · subst hq
      rw [List.getElem?_set_self hpl] at hN
      cases hN
      rcases List.mem_append.mp (pM.mem_iff.mp hy) with k | k
      · rcases h.orig p Q M hQ hM y (List.mem_filter.mp k).1 with k | k | k
        · exact .inl k
        · exact .inr (.inr (by simp [k]))
        · exact .inr (.inr (by simp [k]))
      · simp at k
        exact .inr (.inl k)
    · rw [List.getElem?_set_ne hq] at hN
      rcases h.orig q Q N hQ hN y hy with k | k | k
      · exact .inl k
      · exact .inr (.inr (by simp [k]))
      · exact .inr (.inr (by simp [k]))
  · refine set'.trans ((pM.append_right _).trans ?_)
    rw [List.append_assoc]
    refine (List.perm_append_comm_assoc _ _ _).trans ?_
    exact pm.cons b
  · rcases List.mem_cons.mp hy with rfl | hy
    · exact ⟨e5, b, p, hb, Nat.le_refl _⟩
    · obtain ⟨k1, b', p', k2, k3⟩ := h.dn y hy
      exact ⟨Nat.lt_trans e5 k1, b', p', k2, Nat.le_trans (Nat.le_of_lt e5) k3⟩
theorem Chg.start (hp : ∀ (p : Nat) (P : List Nat), parts[p]? = some P → FreeL (cs p) P) {last p : Nat} {P M' : List Nat} (hk : last ∈ keys r) (ha : idx r last ≤ a) (e1 : parts[p]? = some P) (hl : last ∉ P) (hf : Free (cs p) (fun w => w ∈ P ∨ w = last)) (pM : M'.Perm (P ++ [last])) :
    Chg cs parts r a (parts.set p M') last [] := by
  have hpl := (List.getElem?_eq_some_iff.mp e1).1
  refine ⟨by rw [List.length_set], fun q N hN => ?_, fun q Q N hQ hN y hy _ => ?_, fun q Q N hQ hN y hy => ?_, ?_, hk, ha, fun y hy => by cases hy⟩
  · by_cases hq : p = q
    · subst hq
      rw [List.getElem?_set_self hpl] at hN
      cases hN
      refine FreeL.perm ⟨?_, hf.congr fun x => by simp⟩ pM.symm
      refine List.nodup_append.mpr ⟨(hp p P e1).1, by simp, fun u hu w hw e => ?_⟩
      simp at hw
      subst e; subst hw
      exact hl hu
    · rw [List.getElem?_set_ne hq] at hN
      exact hp q N hN
  · by_cases hq : p = q
    · subst hq
      rw [List.getElem?_set_self hpl] at hN
      cases hN
      rw [e1] at hQ
      cases hQ
      exact pM.mem_iff.mpr (by simp [hy])
    · rw [List.getElem?_set_ne hq] at hN
      rw [hQ] at hN
      cases hN
      exact hy
  · by_cases hq : p = q
    · subst hq
      rw [List.getElem?_set_self hpl] at hN
      cases hN
      rw [e1] at hQ
      cases hQ
      have := pM.mem_iff.mp hy
      simp at this
      rcases this with k | k
      · exact .inl k
      · exact .inr (.inl k)
    · rw [List.getElem?_set_ne hq] at hN
      rw [hQ] at hN
      cases hN
      exact .inl hy
  · refine (flatten_set M' hpl).trans ((pM.append_right _).trans ?_)
    have := flatten_at e1
    rw [List.append_assoc]
    refine (List.perm_append_comm_assoc _ _ _).trans ?_
    exact this.symm.cons last
end Mt

namespace K72
open PySem PySem.Spec PyProof.Rows L2 Pu
def m_law_draws : Sm := (sSeq (sSet 2 (gL gN)) (sSeq (sFor (tN 3) (iL (gSl (gV 0) gO0 (gO (gC (.int 63))))) (sSeq (sSet 4 (gCall dAbs (gCs (gCall dInt (gCs (gV 3) gN)) gN))) (sIf (g2 dGe (gV 4) (g2 dPow (gC (.int 10)) (gC (.int 18)))) (sFor (tN 5) (iR1 (gC (.int 60))) (sIf (g2 dGt (gV 4) (gC (.int 0))) (sSeq (sApp 2 (g2 dMod (gV 4) (gC (.int 1000003)))) (sSet 4 (g2 dDiv (gV 4) (gC (.int 1000003))))) sNx)) (sSeq (sSet 6 (g2 dMod (g2 dAdd (g2 dAdd (g2 dMul (gV 4) (gC (.int 48271))) (g2 dMul (gC (.int 7)) (g1 oF (gCall dLen (gCs (gV 2) gN))))) (gC (.int 11))) (gC (.int 2147483647)))) (sFor (tN 5) (iR1 (gC (.int 4))) (sSeq (sSet 6 (g2 dMod (g2 dAdd (g2 dAdd (g2 dAdd (g2 dMul (gV 6) (gC (.int 69621))) (g2 dDiv (gV 6) (gC (.int 65536)))) (g2 dMul (gC (.int 13)) (gV 5))) (gC (.int 5))) (gC (.int 2147483629)))) (sApp 2 (g2 dMod (g2 dDiv (gV 6) (gC (.int 8))) (gC (.int 1000003)))))))))) (sSeq (sFor (tN 5) (iR1 (gV 1)) (sIf (g2 dLt (g1 oF (gCall dLen (gCs (gV 2) gN))) (gV 1)) (sSeq (sSet 7 (gC (.int 0))) (sSeq (sIf (g2 dGt (g1 oF (gCall dLen (gCs (gV 2) gN))) (gC (.int 0))) (sSet 7 (g2 dIxL (gV 2) (g2 dMod (gV 5) (g1 oF (gCall dLen (gCs (gV 2) gN)))))) sNx) (sApp 2 (g2 dMod (g2 dAdd (g2 dAdd (g2 dMul (gV 7) (gC (.int 16807))) (g2 dMul (gC (.int 31)) (g1 oF (gCall dLen (gCs (gV 2) gN))))) (gC (.int 17))) (gC (.int 1000003)))))) sNx)) (sRet (gSl (gV 2) gO0 (gO (gV 1)))))))
def g_law_draws : List D → Option D := fnG 8 2 m_law_draws
def m_law_things : Sm := (sRet (gLc [1] (tN 1) (iR1 (gC (.int 12))) (g2 dEq (g2 dBand (g2 dShr (gV 0) (gV 1)) (gC (.int 1))) (gC (.int 1))) (gV 1)))
def g_law_things : List D → Option D := fnG 2 1 m_law_things
def m_law_within : Sm := (sRet (gCall dLen (gCs (gLc [2] (tN 2) (iL (gV 0)) (gAnd (g2 dIn (g2 dIx (gV 2) (gC (.int 0))) (gV 1)) (g2 dIn (g2 dIx (gV 2) (gC (.int 1))) (gV 1))) (gV 2)) gN)))
def g_law_within : List D → Option D := fnG 3 2 m_law_within
def m_law_need : Sm := (sSeq (sSet 2 (gL (gCs (gC (.int 0)) gN))) (sSeq (sFor (tN 3) (iR1 (g2 dShl (gC (.int 1)) (gV 0))) (sSeq (sSet 4 (gCall g_law_things (gCs (gV 3) gN))) (sIf (g2 dGt (gCall dLen (gCs (gV 4) gN)) (gC (.int 1))) (sApp 2 (g2 dDiv (g2 dSub (g2 dAdd (gCall g_law_within (gCs (gV 1) (gCs (gV 4) gN))) (gCall dLen (gCs (gV 4) gN))) (gC (.int 2))) (g2 dSub (gCall dLen (gCs (gV 4) gN)) (gC (.int 1))))) sNx))) (sRet (g1 oF (gCall dMax1 (gCs (gV 2) gN))))))
def g_law_need : List D → Option D := fnG 5 2 m_law_need
def m_count_of : Sm := (sSeq (sIf (gOr (g2 dEq (g2 dIx (gV 0) (gC (.int 0))) (gC (.str "net"))) (gOr (g2 dEq (g2 dIx (gV 0) (gC (.int 0))) (gC (.str "table"))) (g2 dEq (g2 dIx (gV 0) (gC (.int 0))) (gC (.str "frame"))))) (sRet (gCall dLen (gCs (g2 dIx (gV 0) (gC (.int 2))) gN))) sNx) sNo)
def g_count_of : List D → Option D := fnG 1 1 m_count_of
def m_is_plain : Sm := (sRet (g2 dInT (g2 dIx (gV 0) (gC (.int 0))) (gC (.tuple [.str "net", .str "table", .str "rooms", .str "lists", .str "linked", .str "frame", .str "told"]))))
def g_is_plain : List D → Option D := fnG 1 1 m_is_plain
def m_have_no_ring : Sm := (sSeq (sSet 2 (g2 dRng (gC (.int 0)) (gV 0))) (sSeq (sFor (tTup (tgC (tN 3) (tgC (tN 4) tgN))) (iL (gV 1)) (sSeq (sIf (g2 dEq (g2 dIx (gV 2) (gV 3)) (g2 dIx (gV 2) (gV 4))) (sRet (gC (.bool false))) sNx) (sSet 2 (gLc [5] (tN 5) (iL (gV 2)) (gC (.bool true)) (g2 dIx (gL (gCs (gV 5) (gCs (g2 dIx (gV 2) (gV 3)) gN))) (gCall dInt (gCs (g2 dEq (gV 5) (g2 dIx (gV 2) (gV 4))) gN))))))) (sRet (gC (.bool true)))))
def g_have_no_ring : List D → Option D := fnG 6 2 m_have_no_ring
def m_is_free_plain : Sm := (sSeq (sIf (g2 dEq (g2 dIx (gV 0) (gC (.int 0))) (gC (.str "net"))) (sRet (gCall g_have_no_ring (gCs (g2 dIx (gV 0) (gC (.int 1))) (gCs (gLc [2] (tN 2) (iL (gV 1)) (gC (.bool true)) (g2 dIx (g2 dIx (gV 0) (gC (.int 2))) (gV 2))) gN)))) sNx) sNo)
def g_is_free_plain : List D → Option D := fnG 3 2 m_is_free_plain
def m_is_free : Sm := (sSeq (sIf (gCall g_is_plain (gCs (gV 0) gN)) (sRet (gCall g_is_free_plain (gCs (gV 0) (gCs (gV 1) gN)))) sNx) sNo)
def g_is_free : List D → Option D := fnG 2 2 m_is_free
def m_with_thing : Sm := (sRet (gCall dSortI (gCs (g2 dCat (gV 0) (gL (gCs (gV 1) gN))) gN)))
def g_with_thing : List D → Option D := fnG 2 2 m_with_thing
def m_without_thing : Sm := (sRet (gLc [2] (tN 2) (iL (gV 0)) (g2 dNe (gV 2) (gV 1)) (gV 2)))
def g_without_thing : List D → Option D := fnG 3 2 m_without_thing
def m_exchanged : Sm := (sRet (gCall g_with_thing (gCs (gCall g_without_thing (gCs (gV 0) (gCs (gV 2) gN))) (gCs (gV 1) gN))))
def g_exchanged : List D → Option D := fnG 3 3 m_exchanged
def m_steps_from : Sm := (sSeq (sSet 3 (gL gN)) (sSeq (sFor (tN 4) (iR1 (gCall dLen (gCs (gV 0) gN))) (sIf (g2 dNotIn (gV 2) (g2 dIx (gV 1) (gV 4))) (sFor (tN 5) (iL (g2 dIx (gV 1) (gV 4))) (sIf (gCall g_is_free (gCs (g2 dIx (gV 0) (gV 4)) (gCs (gCall g_exchanged (gCs (g2 dIx (gV 1) (gV 4)) (gCs (gV 2) (gCs (gV 5) gN)))) gN))) (sApp 3 (gT (gCs (gV 5) (gCs (gV 4) gN)))) sNx)) sNx)) (sRet (gV 3))))
def g_steps_from : List D → Option D := fnG 6 3 m_steps_from
def m_part_that_takes : Sm := (sSeq (sFor (tN 3) (iR1 (gCall dLen (gCs (gV 0) gN))) (sIf (gAnd (g2 dNotIn (gV 2) (g2 dIx (gV 1) (gV 3))) (gCall g_is_free (gCs (g2 dIx (gV 0) (gV 3)) (gCs (gCall g_with_thing (gCs (g2 dIx (gV 1) (gV 3)) (gCs (gV 2) gN))) gN)))) (sRet (gV 3)) sNx)) (sRet (gC .none)))
def g_part_that_takes : List D → Option D := fnG 4 3 m_part_that_takes
def m_searched : Sm := (sSeq (sSet 3 (gDc [8] (tN 8) (iL (gV 2)) (gC (.bool true)) (gV 8) (gC .none))) (sSeq (sSet 4 (gCall dLst (gCs (gV 2) gN))) (sSeq (sSet 5 (gC (.int 0))) (sSeq (whL (g2 dLt (gV 5) (g1 oF (gCall dLen (gCs (gV 4) gN)))) (sSeq (sIf (g2 dNotN (gCall g_part_that_takes (gCs (gV 0) (gCs (gV 1) (gCs (g2 dIxL (gV 4) (gV 5)) gN)))) (gC .none)) (sRet (gT (gCs (gV 3) (gCs (g2 dIxL (gV 4) (gV 5)) gN)))) sNx) (sSeq (sFor (tTup (tgC (tN 6) (tgC (tN 7) tgN))) (iL (gCall g_steps_from (gCs (gV 0) (gCs (gV 1) (gCs (g2 dIxL (gV 4) (gV 5)) gN))))) (sIf (g2 dDNotIn (gV 6) (gV 3)) (sSeq (sPut 3 (gV 6) (gT (gCs (g2 dIxL (gV 4) (gV 5)) (gCs (gV 7) gN)))) (sApp 4 (gV 6))) sNx)) (sSet 5 (g2 dAdd (gV 5) (gC (.int 1)))))) fuel) (sRet (gT (gCs (gV 3) (gCs (gC .none) gN))))))))
def g_searched : List D → Option D := fnG 9 3 m_searched
def m_outside_of : Sm := (sSeq (sSet 2 (gLc2 [3, 4] [4] (tN 3) (iL (gV 1)) (gC (.bool true)) (iL (gV 3)) (tN 4) (gC (.bool true)) (gV 4))) (sRet (gLc [4] (tN 4) (iR1 (gV 0)) (g2 dNotIn (gV 4) (gV 2)) (gV 4))))
def g_outside_of : List D → Option D := fnG 5 2 m_outside_of
def m_changed_along : Sm := (sSeq (sSet 4 (gLc [9] (tN 9) (iL (gV 1)) (gC (.bool true)) (gCall dLst (gCs (gV 9) gN)))) (sSeq (sSet 5 (gCall g_part_that_takes (gCs (gV 0) (gCs (gV 1) (gCs (gV 3) gN))))) (sSeq (sSetIx 4 (gV 5) (gCall g_with_thing (gCs (g2 dIxL (gV 4) (gV 5)) (gCs (gV 3) gN)))) (sSeq (sSet 6 (gV 3)) (sSeq (whL (g2 dNotN (g2 dDIx (gV 2) (gV 6)) (gC .none)) (sSeq (sAsg (g2 dDIx (gV 2) (gV 6)) (tTup (tgC (tN 7) (tgC (tN 8) tgN)))) (sSeq (sSetIx 4 (gV 8) (gCall g_exchanged (gCs (g2 dIxL (gV 4) (gV 8)) (gCs (gV 7) (gCs (gV 6) gN))))) (sSet 6 (gV 7)))) fuel) (sRet (gV 4)))))))
def g_changed_along : List D → Option D := fnG 10 4 m_changed_along
def m_greatest_parts : Sm := (sSeq (sSet 1 (gCall g_count_of (gCs (g2 dIx (gV 0) (gC (.int 0))) gN))) (sSeq (sSet 2 (gLc [5] (tN 5) (iL (gV 0)) (gC (.bool true)) (gL gN))) (sSeq (sAsg (gCall g_searched (gCs (gV 0) (gCs (gV 2) (gCs (gCall g_outside_of (gCs (gV 1) (gCs (gV 2) gN))) gN)))) (tTup (tgC (tN 3) (tgC (tN 4) tgN)))) (sSeq (whL (g2 dNotN (gV 4) (gC .none)) (sSeq (sSet 2 (gCall g_changed_along (gCs (gV 0) (gCs (gV 2) (gCs (gV 3) (gCs (gV 4) gN)))))) (sAsg (gCall g_searched (gCs (gV 0) (gCs (gV 2) (gCs (gCall g_outside_of (gCs (gV 1) (gCs (gV 2) gN))) gN)))) (tTup (tgC (tN 3) (tgC (tN 4) tgN))))) fuel) (sRet (gT (gCs (gV 2) (gCs (gCall dSortK (gCs (gV 3) gN)) gN))))))))
def g_greatest_parts : List D → Option D := fnG 6 1 m_greatest_parts
def m_net_rules : Sm := (sRet (gLc [3] (tN 3) (iR1 (gV 2)) (gC (.bool true)) (gT (gCs (gC (.str "net")) (gCs (gV 0) (gCs (gCall dLst (gCs (gV 1) gN)) gN))))))
def g_net_rules : List D → Option D := fnG 4 3 m_net_rules
def m_number_held : Sm := (sRet (gCall dSum (gCs (gLc [1] (tN 1) (iL (gV 0)) (gC (.bool true)) (gCall dLen (gCs (gV 1) gN))) gN)))
def g_number_held : List D → Option D := fnG 2 1 m_number_held
def m_chosen_ties : Sm := (sRet (gLc [2] (tN 2) (iL (gV 1)) (gC (.bool true)) (g2 dIx (gV 0) (gV 2))))
def g_chosen_ties : List D → Option D := fnG 3 2 m_chosen_ties
def m_renamed : Sm := (sSeq (sPar 3 4 (gCall dMin2 (gCs (gV 1) (gCs (gV 2) gN))) (gCall dMax2 (gCs (gV 1) (gCs (gV 2) gN)))) (sSeq (sSet 5 (gL gN)) (sSeq (sFor (tN 6) (iL (gV 0)) (sIf (g2 dEq (gV 6) (gV 4)) (sApp 5 (gV 3)) (sApp 5 (gV 6)))) (sRet (gV 5)))))
def g_renamed : List D → Option D := fnG 7 3 m_renamed
def m_joined_lists : Sm := (sSeq (sSet 2 (g2 dRng (gC (.int 0)) (gV 0))) (sSeq (sFor (tTup (tgC (tN 3) (tgC (tN 4) tgN))) (iL (gV 1)) (sSet 2 (gCall g_renamed (gCs (gV 2) (gCs (g2 dIx (gV 2) (gV 3)) (gCs (g2 dIx (gV 2) (gV 4)) gN)))))) (sSeq (sSet 5 (gC (.dict []))) (sSeq (sFor (tN 6) (iR1 (gV 0)) (sPut 5 (g2 dIx (gV 2) (gV 6)) (g2 dCat (g3 dDGet (gV 5) (g2 dIx (gV 2) (gV 6)) (gL gN)) (gL (gCs (gV 6) gN))))) (sRet (gCall dSortD (gCs (gDvals 5 7) gN)))))))
def g_joined_lists : List D → Option D := fnG 8 2 m_joined_lists
def m_ties_within : Sm := (sRet (gLc [2] (tN 2) (iR1 (gCall dLen (gCs (gV 0) gN))) (gAnd (g2 dIn (g2 dIx (g2 dIx (gV 0) (gV 2)) (gC (.int 0))) (gV 1)) (g2 dIn (g2 dIx (g2 dIx (gV 0) (gV 2)) (gC (.int 1))) (gV 1))) (gV 2)))
def g_ties_within : List D → Option D := fnG 3 2 m_ties_within
def m_crowded_places : Sm := (sSeq (sSet 4 (gCall g_chosen_ties (gCs (gV 1) (gCs (gV 3) gN)))) (sSeq (sFor (tN 5) (iL (gCall g_joined_lists (gCs (gV 0) (gCs (gV 4) gN)))) (sIf (g2 dGt (gCall dLen (gCs (gCall g_ties_within (gCs (gV 4) (gCs (gV 5) gN))) gN)) (g2 dMul (gV 2) (g2 dSub (gCall dLen (gCs (gV 5) gN)) (gC (.int 1))))) (sRet (gV 5)) sNx)) (sRet (gC .none))))
def g_crowded_places : List D → Option D := fnG 6 4 m_crowded_places
def m_woods : Sm := (sSeq (sAsg (gCall g_greatest_parts (gCs (gCall g_net_rules (gCs (gV 0) (gCs (gV 1) (gCs (gV 2) gN)))) gN)) (tTup (tgC (tN 3) (tgC (tN 4) tgN)))) (sSeq (sIf (g2 dEq (gCall g_number_held (gCs (gV 3) gN)) (gCall dLen (gCs (gV 1) gN))) (sRet (gT (gCs (gC (.str "woods")) (gCs (gV 3) gN)))) sNx) (sRet (gT (gCs (gC (.str "places")) (gCs (gCall g_crowded_places (gCs (gV 0) (gCs (gV 1) (gCs (gV 2) (gCs (gV 4) gN))))) gN))))))
def g_woods : List D → Option D := fnG 5 3 m_woods
def m_law_is_number : Sm := (sRet (gAnd (g1 (dIsa "int") (gV 0)) (g1 dNot (g1 (dIsa "bool") (gV 0)))))
def g_law_is_number : List D → Option D := fnG 1 1 m_law_is_number
def m_law_is_numbers : Sm := (sSeq (sIf (g1 dNot (g1 (dIsa "list") (gV 0))) (sRet (gC (.bool false))) sNx) (sSeq (sFor (tN 1) (iL (gV 0)) (sIf (g1 dNot (gCall g_law_is_number (gCs (gV 1) gN))) (sRet (gC (.bool false))) sNx)) (sRet (gC (.bool true)))))
def g_law_is_numbers : List D → Option D := fnG 2 1 m_law_is_numbers
def m_law_is_set : Sm := (sRet (gAnd (gCall g_law_is_numbers (gCs (gV 0) gN)) (gAnd (g2 dEq (gV 0) (gCall dSortSet (gCs (gV 0) gN))) (g2 dEq (gLc [2] (tN 2) (iL (gV 0)) (gOr (g2 dLt (gV 2) (gC (.int 0))) (g2 dGe (gV 2) (gV 1))) (gV 2)) (gL gN)))))
def g_law_is_set : List D → Option D := fnG 3 2 m_law_is_set
def m_law_net_free : Sm := (sSeq (sSet 3 (g2 dRng (gC (.int 0)) (gV 0))) (sSeq (sFor (tN 4) (iL (gV 2)) (sSeq (sAsg (gCall dSortI (gCs (gL (gCs (g2 dIx (gV 3) (g2 dIx (g2 dIx (gV 1) (gV 4)) (gC (.int 0)))) (gCs (g2 dIx (gV 3) (g2 dIx (g2 dIx (gV 1) (gV 4)) (gC (.int 1)))) gN))) gN)) (tUnl (tgC (tN 5) (tgC (tN 6) tgN)))) (sSeq (sIf (g2 dEq (gV 5) (gV 6)) (sRet (gC (.bool false))) sNx) (sSet 3 (gLc [7] (tN 7) (iL (gV 3)) (gC (.bool true)) (g2 dIx (gL (gCs (gV 7) (gCs (gV 5) gN))) (gCall dInt (gCs (g2 dEq (gV 7) (gV 6)) gN)))))))) (sRet (gC (.bool true)))))
def g_law_net_free : List D → Option D := fnG 8 3 m_law_net_free
def m_law_are_woods : Sm := (sSeq (sIf (gOr (g1 dNot (g1 (dIsa "list") (gV 3))) (g2 dNe (gCall dLen (gCs (gV 3) gN)) (gV 2))) (sRet (gC (.bool false))) sNx) (sSeq (sSet 4 (gL gN)) (sSeq (sFor (tN 5) (iL (gV 3)) (sSeq (sIf (gOr (g1 dNot (gCall g_law_is_set (gCs (gV 5) (gCs (gCall dLen (gCs (gV 1) gN)) gN)))) (g1 dNot (gCall g_law_net_free (gCs (gV 0) (gCs (gV 1) (gCs (gV 5) gN)))))) (sRet (gC (.bool false))) sNx) (sSet 4 (g2 dAdd (gV 4) (gV 5))))) (sRet (g2 dEq (gCall dLenSet (gCs (gV 4) gN)) (gCall dLen (gCs (gV 4) gN)))))))
def g_law_are_woods : List D → Option D := fnG 6 4 m_law_are_woods
def m_law_with : Sm := (sRet (g2 dCat (g2 dCat (gSl (gV 0) gO0 (gO (gV 1))) (gL (gCs (gV 2) gN))) (gSl (gV 0) (gO (g2 dAdd (gV 1) (gC (.int 1)))) gO0)))
def g_law_with : List D → Option D := fnG 3 3 m_law_with
def m_law_dealt : Sm := (sSeq (sSet 3 (gL (gCs (gLc [7] (tN 7) (iR1 (gV 2)) (gC (.bool true)) (gL gN)) gN))) (sSeq (sFor (tN 4) (iR1 (gCall dLen (gCs (gV 1) gN))) (sSeq (sSet 5 (gL gN)) (sSeq (sFor (tN 6) (iL (gV 3)) (sFor (tN 7) (iR1 (gV 2)) (sSeq (sSet 8 (g2 dCat (g2 dIx (gV 6) (gV 7)) (gL (gCs (gV 4) gN)))) (sIf (gCall g_law_net_free (gCs (gV 0) (gCs (gV 1) (gCs (gV 8) gN)))) (sApp 5 (gCall g_law_with (gCs (gV 6) (gCs (gV 7) (gCs (gV 8) gN))))) sNx)))) (sSet 3 (gV 5))))) (sRet (g2 dNe (gV 3) (gL gN)))))
def g_law_dealt : List D → Option D := fnG 9 3 m_law_dealt
def m_law_decided : Sm := (sSeq (sSet 2 (gCall g_law_need (gCs (gV 0) (gCs (gV 1) gN)))) (sSeq (sFor (tN 3) (iL (gL (gCs (gC (.int 1)) (gCs (gC (.int 2)) (gCs (gC (.int 3)) (gCs (gC (.int 4)) gN)))))) (sSeq (sSet 4 (gCall g_woods (gCs (gV 0) (gCs (gCall dLst (gCs (gV 1) gN)) (gCs (gV 3) gN))))) (sSeq (sIf (g2 dNe (g2 dEq (g2 dIx (gV 4) (gC (.int 0))) (gC (.str "woods"))) (g2 dGe (gV 3) (gV 2))) (sRet (gC (.bool false))) sNx) (sSeq (sIf (gAnd (g2 dEq (g2 dIx (gV 4) (gC (.int 0))) (gC (.str "woods"))) (gOr (g1 dNot (gCall g_law_are_woods (gCs (gV 0) (gCs (gV 1) (gCs (gV 3) (gCs (g2 dIx (gV 4) (gC (.int 1))) gN)))))) (g2 dNe (gCall dSum (gCs (gLc [5] (tN 5) (iL (g2 dIx (gV 4) (gC (.int 1)))) (gC (.bool true)) (gCall dLen (gCs (gV 5) gN))) gN)) (gCall dLen (gCs (gV 1) gN))))) (sRet (gC (.bool false))) sNx) (sIf (gAnd (g2 dNe (g2 dIx (gV 4) (gC (.int 0))) (gC (.str "woods"))) (g2 dLe (gCall g_law_within (gCs (gV 1) (gCs (g2 dIx (gV 4) (gC (.int 1))) gN))) (g2 dMul (gV 3) (g2 dSub (gCall dLen (gCs (g2 dIx (gV 4) (gC (.int 1))) gN)) (gC (.int 1)))))) (sRet (gC (.bool false))) sNx))))) (sSeq (sIf (gAnd (g2 dLe (gCall dLen (gCs (gV 1) gN)) (gC (.int 6))) (g2 dNe (gCall g_law_dealt (gCs (gV 0) (gCs (gV 1) (gCs (gC (.int 2)) gN)))) (g2 dLe (gV 2) (gC (.int 2))))) (sRet (gC (.bool false))) sNx) (sRet (g2 dLe (gCall g_law_need (gCs (gV 0) (gCs (gSl (gV 1) (gO (gC (.int 1))) gO0) gN))) (gV 2))))))
def g_law_decided : List D → Option D := fnG 6 2 m_law_decided
def m_law_cell : Sm := (sSeq (sIf (g2 dLt (gV 1) (gCall dLen (gCs (gV 0) gN))) (sRet (g2 dIx (gV 0) (gV 1))) sNx) (sRet (g2 dMod (g2 dAdd (g2 dAdd (g2 dMul (g2 dIx (gV 0) (g2 dMod (gV 1) (gCall dLen (gCs (gV 0) gN)))) (gC (.int 31))) (g2 dMul (g2 dIx (gV 0) (g2 dMod (g2 dMul (gC (.int 7)) (gV 1)) (gCall dLen (gCs (gV 0) gN)))) (gC (.int 17)))) (g2 dMul (gC (.int 101)) (gV 1))) (gC (.int 1000003)))))
def g_law_cell : List D → Option D := fnG 2 2 m_law_cell
def m_law_net : Sm := (sSeq (sSet 4 (gL gN)) (sSeq (sIf (g2 dLt (gV 2) (gC (.int 2))) (sRet (gV 4)) sNx) (sSeq (sFor (tN 5) (iR1 (gV 3)) (sSeq (sSet 6 (g2 dAdd (g2 dMul (gCall g_law_cell (gCs (gV 0) (gCs (g2 dAdd (gV 1) (g2 dMod (gV 5) (gC (.int 13)))) gN))) (g2 dAdd (gC (.int 1)) (g2 dDiv (gV 5) (gC (.int 13))))) (g2 dMul (gC (.int 29)) (gV 5)))) (sSeq (sPar 7 8 (g2 dMod (gV 6) (gV 2)) (g2 dMod (g2 dDiv (g2 dDiv (gV 6) (gV 2)) (gC (.int 3))) (g2 dSub (gV 2) (gC (.int 1))))) (sApp 4 (gT (gCs (gV 7) (gCs (g2 dAdd (gV 8) (gCall dInt (gCs (g2 dGe (gV 8) (gV 7)) gN))) gN))))))) (sRet (gV 4)))))
def g_law_net : List D → Option D := fnG 9 4 m_law_net
def m_law_tree_net : Sm := (sSeq (sSet 4 (gL gN)) (sSeq (sFor (tN 5) (iR1 (gV 3)) (sSeq (sSet 6 (gL (gCs (gC (.int 0)) gN))) (sSeq (sFor (tN 7) (iR2 (gC (.int 1)) (gV 2)) (sIns 6 (g2 dMod (g2 dDiv (gCall g_law_cell (gCs (gV 0) (gCs (g2 dAdd (g2 dAdd (gV 1) (gV 7)) (g2 dMul (gC (.int 5)) (gV 5))) gN))) (gC (.int 3))) (g2 dAdd (gV 7) (gC (.int 1)))) (gV 7))) (sSeq (sFor (tN 8) (iR2 (gC (.int 1)) (gV 2)) (sApp 4 (gT (gCs (g2 dIxL (gV 6) (g2 dMod (g2 dDiv (gCall g_law_cell (gCs (gV 0) (gCs (g2 dAdd (g2 dAdd (gV 1) (gV 8)) (g2 dMul (gC (.int 7)) (gV 5))) gN))) (gC (.int 5))) (gV 8))) (gCs (g2 dIxL (gV 6) (gV 8)) gN))))) sNx)))) (sRet (gV 4))))
def g_law_tree_net : List D → Option D := fnG 9 4 m_law_tree_net
def m_law : Sm := (sSeq (sSet 1 (gCall g_law_draws (gCs (gV 0) (gCs (gC (.int 60)) gN)))) (sSeq (sPar 2 3 (g2 dAdd (gC (.int 1)) (g2 dMod (g2 dIx (gV 1) (gC (.int 0))) (gC (.int 5)))) (g2 dMod (g2 dIx (gV 1) (gC (.int 1))) (gC (.int 10)))) (sSeq (sIf (g2 dEq (g2 dMod (g2 dIx (gV 1) (gC (.int 2))) (gC (.int 8))) (gC (.int 5))) (sPar 2 3 (gC (.int 6)) (g2 dMod (g2 dIx (gV 1) (gC (.int 1))) (gC (.int 13)))) sNx) (sSeq (sIf (g1 dNot (gCall g_law_decided (gCs (gV 2) (gCs (gCall g_law_net (gCs (gV 1) (gCs (gC (.int 8)) (gCs (gV 2) (gCs (gV 3) gN))))) gN)))) (sRet (gC (.bool false))) sNx) (sSeq (sSet 4 (g2 dAdd (gC (.int 1)) (g2 dMod (g2 dIx (gV 1) (gC (.int 3))) (gC (.int 4))))) (sSeq (sSet 5 (gCall g_law_tree_net (gCs (gV 1) (gCs (gC (.int 20)) (gCs (gV 4) (gCs (gC (.int 2)) gN)))))) (sSeq (sIf (gOr (g1 dNot (gCall g_law_decided (gCs (gV 4) (gCs (gV 5) gN)))) (g1 dNot (gCall g_law_decided (gCs (gV 4) (gCs (g2 dAdd (gV 5) (gCall g_law_net (gCs (gV 1) (gCs (gC (.int 40)) (gCs (gV 4) (gCs (gC (.int 2)) gN)))))) gN))))) (sRet (gC (.bool false))) sNx) (sRet (gAnd (gCall g_law_decided (gCs (gC (.int 4)) (gCs (gL (gCs (gT (gCs (gC (.int 0)) (gCs (gC (.int 1)) gN))) (gCs (gT (gCs (gC (.int 0)) (gCs (gC (.int 2)) gN))) (gCs (gT (gCs (gC (.int 0)) (gCs (gC (.int 3)) gN))) (gCs (gT (gCs (gC (.int 1)) (gCs (gC (.int 2)) gN))) (gCs (gT (gCs (gC (.int 1)) (gCs (gC (.int 3)) gN))) (gCs (gT (gCs (gC (.int 2)) (gCs (gC (.int 3)) gN))) gN))))))) gN))) (gAnd (gCall g_law_decided (gCs (gC (.int 3)) (gCs (gL (gCs (gT (gCs (gC (.int 0)) (gCs (gC (.int 1)) gN))) (gCs (gT (gCs (gC (.int 0)) (gCs (gC (.int 1)) gN))) (gCs (gT (gCs (gC (.int 0)) (gCs (gC (.int 1)) gN))) (gCs (gT (gCs (gC (.int 1)) (gCs (gC (.int 2)) gN))) gN))))) gN))) (gCall g_law_decided (gCs (gC (.int 2)) (gCs (gL gN) gN)))))))))))))
def g_law : List D → Option D := fnG 6 1 m_law
end K72

namespace K72
open PySem PySem.Spec PyProof.Rows L2 Pu Mt
abbrev inP (P : List Nat) (t : Nat × Nat) : Bool := decide (t.1 ∈ P) && decide (t.2 ∈ P)
theorem r_with_thing {l : List Nat} {x : Nat} (h : l.length < 1000) : g_with_thing [LN l, N x] = some (LN (sortN (l ++ [x]))) := by
  refine fn_ret [some (LN l), some (N x)] rfl rfl ?_
  have e1 : (l.map N ++ [N x]) = (l ++ [x]).map N := by simp
  have e2 : dCat (.list (l.map N)) (.list [N x]) = some (.list ((l ++ [x]).map N)) := by rw [← e1]; exact dCat_ok (by simp; omega)
  simp only [x_gV, x_gC, x_g1, x_g2, x_g3, x_gN, x_gCs, x_gL, x_gT, x_gCall, x_gAnd, x_gOr, x_gIf, x_iL, x_iT, x_tN, x_tgN, x_tgC, x_tTup, x_tUnl, x_gO0, x_gO, x_gSl, x_wipe0, x_wipe1, x_bind, x_map, x_join, List.getElem?_cons_zero, List.getElem?_cons_succ, List.set_cons_zero, List.set_cons_succ, dEq_N, dNe_N, dIn_N, dNotIn_N, dLt_N, dLe_N, dGt_N, dGe_N, dAdd_N, dIx_t0, dIx_t1, dIx_t2, dIx_l0, dIx_l1, dLen_l, dInt_b, dSortI_N, gd, List.length_cons, List.length_nil, Nat.zero_add, Nat.reduceAdd, Nat.reduceLeDiff, if_true, List.length_map, List.length_range, e2]
theorem r_without_thing {l : List Nat} {x : Nat} (h : l.length < 1000) : g_without_thing [LN l, N x] = some (LN (l.filter (· ≠ x))) := by
  refine fn_ret [some (LN l), some (N x), none] rfl rfl ?_
  refine v_lc rfl (lcL_map (f := N) (p := fun y => decide (y ≠ x)) l fun y hy => ⟨_, rfl, by simp only [x_gV, x_gC, x_g1, x_g2, x_g3, x_gN, x_gCs, x_gL, x_gT, x_gCall, x_gAnd, x_gOr, x_gIf, x_iL, x_iT, x_tN, x_tgN, x_tgC, x_tTup, x_tUnl, x_gO0, x_gO, x_gSl, x_wipe0, x_wipe1, x_bind, x_map, x_join, List.getElem?_cons_zero, List.getElem?_cons_succ, List.set_cons_zero, List.set_cons_succ, dEq_N, dNe_N, dIn_N, dNotIn_N, dLt_N, dLe_N, dGt_N, dGe_N, dAdd_N, dIx_t0, dIx_t1, dIx_t2, dIx_l0, dIx_l1, dLen_l, dInt_b, dSortI_N, gd, List.length_cons, List.length_nil, Nat.zero_add, Nat.reduceAdd, Nat.reduceLeDiff, if_true, List.length_map, List.length_range], fun _ => by simp only [x_gV, x_gC, x_g1, x_g2, x_g3, x_gN, x_gCs, x_gL, x_gT, x_gCall, x_gAnd, x_gOr, x_gIf, x_iL, x_iT, x_tN, x_tgN, x_tgC, x_tTup, x_tUnl, x_gO0, x_gO, x_gSl, x_wipe0, x_wipe1, x_bind, x_map, x_join, List.getElem?_cons_zero, List.getElem?_cons_succ, List.set_cons_zero, List.set_cons_succ, dEq_N, dNe_N, dIn_N, dNotIn_N, dLt_N, dLe_N, dGt_N, dGe_N, dAdd_N, dIx_t0, dIx_t1, dIx_t2, dIx_l0, dIx_l1, dLen_l, dInt_b, dSortI_N, gd, List.length_cons, List.length_nil, Nat.zero_add, Nat.reduceAdd, Nat.reduceLeDiff, if_true, List.length_map, List.length_range]⟩) (by simp; omega)
theorem r_exchanged {l : List Nat} {x y : Nat} (h : l.length < 1000) : g_exchanged [LN l, N x, N y] = some (LN (sortN (l.filter (· ≠ y) ++ [x]))) := by
  have h1 : (l.filter (· ≠ y)).length < 1000 := Nat.lt_of_le_of_lt (List.length_filter_le ..) h
  refine fn_ret [some (LN l), some (N x), some (N y)] rfl rfl ?_
  simp only [x_gV, x_gC, x_g1, x_g2, x_g3, x_gN, x_gCs, x_gL, x_gT, x_gCall, x_gAnd, x_gOr, x_gIf, x_iL, x_iT, x_tN, x_tgN, x_tgC, x_tTup, x_tUnl, x_gO0, x_gO, x_gSl, x_wipe0, x_wipe1, x_bind, x_map, x_join, List.getElem?_cons_zero, List.getElem?_cons_succ, List.set_cons_zero, List.set_cons_succ, dEq_N, dNe_N, dIn_N, dNotIn_N, dLt_N, dLe_N, dGt_N, dGe_N, dAdd_N, dIx_t0, dIx_t1, dIx_t2, dIx_l0, dIx_l1, dLen_l, dInt_b, dSortI_N, gd, List.length_cons, List.length_nil, Nat.zero_add, Nat.reduceAdd, Nat.reduceLeDiff, if_true, List.length_map, List.length_range, r_without_thing h, r_with_thing (x := x) h1]
/-- names -/
theorem r_have_no_ring {n : Nat} {e : Nat → Nat × Nat} {xs : List Nat} (hn : n ≤ 1000) (hx : xs.length < 1000) (hE : ∀ x ∈ xs, (e x).1 < n ∧ (e x).2 < n) :
    ∃ b, g_have_no_ring [N n, .list (xs.map fun x => TT (e x))] = some (.bool b) ∧ (b = true ↔ FreeL (gcl e) xs) := by
  have key : ∃ d, g_have_no_ring [N n, .list (xs.map fun x => TT (e x))] = some d ∧ ∃ b, d = .bool b ∧ (b = true ↔ FreeL (gcl e) xs) := by
    refine fn_wp [some (N n), some (.list (xs.map fun x => TT (e x))), none, none, none, none] rfl rfl ?_
    refine wp_seq (wp_set (d := LN (List.range n)) (by simp only [x_gV, x_gC, x_g1, x_g2, x_g3, x_gN, x_gCs, x_gL, x_gT, x_gCall, x_gAnd, x_gOr, x_gIf, x_iL, x_iT, x_tN, x_tgN, x_tgC, x_tTup, x_tUnl, x_gO0, x_gO, x_gSl, x_wipe0, x_wipe1, x_bind, x_map, x_join, List.getElem?_cons_zero, List.getElem?_cons_succ, List.set_cons_zero, List.set_cons_succ, dEq_N, dNe_N, dIn_N, dNotIn_N, dLt_N, dLe_N, dGt_N, dGe_N, dAdd_N, dIx_t0, dIx_t1, dIx_t2, dIx_l0, dIx_l1, dLen_l, dInt_b, dSortI_N, gd, List.length_cons, List.length_nil, Nat.zero_add, Nat.reduceAdd, Nat.reduceLeDiff, if_true, List.length_map, List.length_range]; exact dRng_N (by omega)) ?_)
    refine wp_seq (wp_for (e := fun x => TT (e x)) xs (fun pre E => ∃ nm a b c, E = [some (N n), some (.list (xs.map fun x => TT (e x))), some (LN ((List.range n).map nm)), a, b, c] ∧ Names e (· ∈ pre) nm n ∧ FreeL (gcl e) pre) rfl ⟨id, none, none, none, by simp, names_start_nil n, freeL_nil⟩ ?_ ?_)
    · rintro p x q E hp ⟨nm, a, b, c, rfl, hN, hF⟩
      obtain ⟨h1, h2⟩ := hE x (by rw [hp]; simp)
      have k1 : ((List.range n).map nm)[(e x).1]? = some (nm (e x).1) := by simp [h1]
      have k2 : ((List.range n).map nm)[(e x).2]? = some (nm (e x).2) := by simp [h2]
      refine ⟨_, rfl, ?_⟩
      refine wp_seq (wp_if (t := decide (nm (e x).1 = nm (e x).2)) (by simp only [x_gV, x_gC, x_g1, x_g2, x_g3, x_gN, x_gCs, x_gL, x_gT, x_gCall, x_gAnd, x_gOr, x_gIf, x_iL, x_iT, x_tN, x_tgN, x_tgC, x_tTup, x_tUnl, x_gO0, x_gO, x_gSl, x_wipe0, x_wipe1, x_bind, x_map, x_join, List.getElem?_cons_zero, List.getElem?_cons_succ, List.set_cons_zero, List.set_cons_succ, dEq_N, dNe_N, dIn_N, dNotIn_N, dLt_N, dLe_N, dGt_N, dGe_N, dAdd_N, dIx_t0, dIx_t1, dIx_t2, dIx_l0, dIx_l1, dLen_l, dInt_b, dSortI_N, gd, List.length_cons, List.length_nil, Nat.zero_add, Nat.reduceAdd, Nat.reduceLeDiff, if_true, List.length_map, List.length_range, dIx_some k1, dIx_some k2]) (fun ht => ?_) fun hf => ?_)
      · refine wp_ret rfl ⟨false, rfl, ⟨fun h => Bool.noConfusion h, fun h => ?_⟩⟩
        have h3 := (hN _ _ h1 h2).mp (of_decide_eq_true ht)
        exact absurd h3 (freeL_snoc.mp (h.sublist (by rw [hp]; simp))).2
      · have hne : ¬ nm (e x).1 = nm (e x).2 := of_decide_eq_false hf
        refine wp_nx (wp_set (d := LN ((List.range n).map fun i => if nm i = nm (e x).2 then nm (e x).1 else nm i)) ?_ ?_)
        · have := lcL_all (tg := tN 5) (c := gC (.bool true)) (g := g2 dIx (gL (gCs (gV 5) (gCs (g2 dIx (gV 2) (gV 3)) gN))) (gCall dInt (gCs (g2 dEq (gV 5) (g2 dIx (gV 2) (gV 4))) gN))) (E := [some (N n), some (.list (xs.map fun x => TT (e x))), some (LN ((List.range n).map nm)), some (N (e x).1), some (N (e x).2), none]) (e := N) (f := fun v => N (if v = nm (e x).2 then nm (e x).1 else v)) ((List.range n).map nm) fun v hv => ⟨_, rfl, rfl, by
            simp only [x_gV, x_gC, x_g1, x_g2, x_g3, x_gN, x_gCs, x_gL, x_gT, x_gCall, x_gAnd, x_gOr, x_gIf, x_iL, x_iT, x_tN, x_tgN, x_tgC, x_tTup, x_tUnl, x_gO0, x_gO, x_gSl, x_wipe0, x_wipe1, x_bind, x_map, x_join, List.getElem?_cons_zero, List.getElem?_cons_succ, List.set_cons_zero, List.set_cons_succ, dEq_N, dNe_N, dIn_N, dNotIn_N, dLt_N, dLe_N, dGt_N, dGe_N, dAdd_N, dIx_t0, dIx_t1, dIx_t2, dIx_l0, dIx_l1, dLen_l, dInt_b, dSortI_N, gd, List.length_cons, List.length_nil, Nat.zero_add, Nat.reduceAdd, Nat.reduceLeDiff, if_true, List.length_map, List.length_range, dIx_some k1, dIx_some k2]
            by_cases hv : v = nm (e x).2
            · simp only [hv, decide_true, if_true]
              exact dIx_l1
            · simp only [hv, decide_false, if_false]
              exact dIx_l0⟩
          exact (v_lc rfl this (by simp; omega)).trans (by simp [Function.comp_def])
        · refine ⟨_, some (N (e x).1), some (N (e x).2), c, rfl, ?_, freeL_snoc.mpr ⟨hF, fun k => hne ((hN _ _ h1 h2).mpr k)⟩⟩
          exact (hN.merge h1 h2 (.inr ⟨rfl, rfl⟩)).congr fun y => by simp
    · rintro E ⟨nm, a, b, c, rfl, hN, hF⟩
      exact wp_ret rfl ⟨true, rfl, fun _ => hF, fun _ => rfl⟩
  obtain ⟨d, h1, b, rfl, h2⟩ := key
  exact ⟨b, h1, h2⟩
end K72

namespace K72
open PySem PySem.Spec PyProof.Rows L2 Pu Mt
theorem s_net : dEq (.str "net") (.str "net") = some (.bool true) := by
  have h1 : okD (.str "net") = true := by decide +kernel
  simp only [dEq, h1, Bool.and_self, if_true]
  simp [PyData.eqv]
theorem s_plain : dInT (.str "net") (.tuple [.str "net", .str "table", .str "rooms", .str "lists", .str "linked", .str "frame", .str "told"]) = some (.bool true) := by rfl
abbrev RU (n : Nat) (ts : List (Nat × Nat)) : D := .tuple [.str "net", N n, LTs ts]
def ev (ts : List (Nat × Nat)) (x : Nat) : Nat × Nat := ts.getD x (0, 0)
structure Net (n : Nat) (ts : List (Nat × Nat)) : Prop where
  sz : n ≤ 12
  m : ts.length ≤ 60
  lt : ∀ t ∈ ts, t.1 < n ∧ t.2 < n
theorem ev_get {ts : List (Nat × Nat)} {x : Nat} (h : x < ts.length) : ts[x]? = some (ev ts x) := by simp [ev, h, List.getD_eq_getElem?_getD]
theorem ev_mem {ts : List (Nat × Nat)} {x : Nat} (h : x < ts.length) : ev ts x ∈ ts := List.mem_of_getElem? (ev_get h)
variable {n : Nat} {ts : List (Nat × Nat)}
theorem Net.ev (h : Net n ts) {x : Nat} (hx : x < ts.length) : (ev ts x).1 < n ∧ (ev ts x).2 < n := h.lt _ (ev_mem hx)
theorem r_is_plain : g_is_plain [RU n ts] = some (.bool true) := by
  refine fn_ret [some (RU n ts)] rfl rfl ?_
  simp only [x_gV, x_gC, x_g1, x_g2, x_g3, x_gN, x_gCs, x_gL, x_gT, x_gCall, x_gAnd, x_gOr, x_gIf, x_iL, x_iT, x_tN, x_tgN, x_tgC, x_tTup, x_tUnl, x_gO0, x_gO, x_gSl, x_wipe0, x_wipe1, x_bind, x_map, x_join, List.getElem?_cons_zero, List.getElem?_cons_succ, List.set_cons_zero, List.set_cons_succ, dEq_N, dNe_N, dIn_N, dNotIn_N, dLt_N, dLe_N, dGt_N, dGe_N, dAdd_N, dIx_t0, dIx_t1, dIx_t2, dIx_l0, dIx_l1, dLen_l, dInt_b, dSortI_N, gd, List.length_cons, List.length_nil, Nat.zero_add, Nat.reduceAdd, Nat.reduceLeDiff, if_true, List.length_map, List.length_range, s_plain]
theorem r_is_free_plain (h : Net n ts) {xs : List Nat} (hl : xs.length < 1000) (hx : ∀ x ∈ xs, x < ts.length) : ∃ b, g_is_free_plain [RU n ts, LN xs] = some (.bool b) ∧ (b = true ↔ FreeL (gcl (ev ts)) xs) := by
  obtain ⟨b, h1, h2⟩ := r_have_no_ring (n := n) (e := ev ts) (xs := xs) (by have := h.sz; omega) hl fun x hx' => h.ev (hx x hx')
  refine ⟨b, ?_, h2⟩
  obtain ⟨d, h3, h4⟩ := fn_wp (n := 3) (np := 2) (m := m_is_free_plain) (ds := [RU n ts, LN xs]) (R := fun d => d = .bool b) [some (RU n ts), some (LN xs), none] rfl rfl (by
    refine wp_seq (wp_if (t := true) (by simp only [x_gV, x_gC, x_g1, x_g2, x_g3, x_gN, x_gCs, x_gL, x_gT, x_gCall, x_gAnd, x_gOr, x_gIf, x_iL, x_iT, x_tN, x_tgN, x_tgC, x_tTup, x_tUnl, x_gO0, x_gO, x_gSl, x_wipe0, x_wipe1, x_bind, x_map, x_join, List.getElem?_cons_zero, List.getElem?_cons_succ, List.set_cons_zero, List.set_cons_succ, dEq_N, dNe_N, dIn_N, dNotIn_N, dLt_N, dLe_N, dGt_N, dGe_N, dAdd_N, dIx_t0, dIx_t1, dIx_t2, dIx_l0, dIx_l1, dLen_l, dInt_b, dSortI_N, gd, List.length_cons, List.length_nil, Nat.zero_add, Nat.reduceAdd, Nat.reduceLeDiff, if_true, List.length_map, List.length_range, s_net]) (fun _ => ?_) fun k => Bool.noConfusion k)
    refine wp_ret (d := .bool b) ?_ rfl
    have h5 := v_lc (own := [2]) (E := [some (RU n ts), some (LN xs), none]) (src := iL (gV 1)) (tg := tN 2) (c := gC (.bool true)) (g := g2 dIx (g2 dIx (gV 0) (gC (.int 2))) (gV 2)) rfl (lcL_all (f := fun x => TT (ev ts x)) (e := N) xs fun x hx' => ⟨_, rfl, rfl, by
      simp only [x_gV, x_gC, x_g1, x_g2, x_g3, x_gN, x_gCs, x_gL, x_gT, x_gCall, x_gAnd, x_gOr, x_gIf, x_iL, x_iT, x_tN, x_tgN, x_tgC, x_tTup, x_tUnl, x_gO0, x_gO, x_gSl, x_wipe0, x_wipe1, x_bind, x_map, x_join, List.getElem?_cons_zero, List.getElem?_cons_succ, List.set_cons_zero, List.set_cons_succ, dEq_N, dNe_N, dIn_N, dNotIn_N, dLt_N, dLe_N, dGt_N, dGe_N, dAdd_N, dIx_t0, dIx_t1, dIx_t2, dIx_l0, dIx_l1, dLen_l, dInt_b, dSortI_N, gd, List.length_cons, List.length_nil, Nat.zero_add, Nat.reduceAdd, Nat.reduceLeDiff, if_true, List.length_map, List.length_range]
      exact dIx_some (f := TT) (ev_get (hx x hx'))⟩) (by simp; omega)
    simp only [x_gCall, x_gCs, h5]
    simp only [x_gV, x_gC, x_g1, x_g2, x_g3, x_gN, x_gCs, x_gL, x_gT, x_gCall, x_gAnd, x_gOr, x_gIf, x_iL, x_iT, x_tN, x_tgN, x_tgC, x_tTup, x_tUnl, x_gO0, x_gO, x_gSl, x_wipe0, x_wipe1, x_bind, x_map, x_join, List.getElem?_cons_zero, List.getElem?_cons_succ, List.set_cons_zero, List.set_cons_succ, dEq_N, dNe_N, dIn_N, dNotIn_N, dLt_N, dLe_N, dGt_N, dGe_N, dAdd_N, dIx_t0, dIx_t1, dIx_t2, dIx_l0, dIx_l1, dLen_l, dInt_b, dSortI_N, gd, List.length_cons, List.length_nil, Nat.zero_add, Nat.reduceAdd, Nat.reduceLeDiff, if_true, List.length_map, List.length_range, h1])
  rw [g_is_free_plain, h3, h4]
theorem r_is_free (h : Net n ts) {xs : List Nat} (hl : xs.length < 1000) (hx : ∀ x ∈ xs, x < ts.length) : ∃ b, g_is_free [RU n ts, LN xs] = some (.bool b) ∧ (b = true ↔ FreeL (gcl (ev ts)) xs) := by
  obtain ⟨b, h1, h2⟩ := r_is_free_plain h hl hx
  refine ⟨b, ?_, h2⟩
  obtain ⟨d, h3, h4⟩ := fn_wp (n := 2) (np := 2) (m := m_is_free) (ds := [RU n ts, LN xs]) (R := fun d => d = .bool b) [some (RU n ts), some (LN xs)] rfl rfl (by
    refine wp_seq (wp_if (t := true) (by simp only [x_gV, x_gC, x_g1, x_g2, x_g3, x_gN, x_gCs, x_gL, x_gT, x_gCall, x_gAnd, x_gOr, x_gIf, x_iL, x_iT, x_tN, x_tgN, x_tgC, x_tTup, x_tUnl, x_gO0, x_gO, x_gSl, x_wipe0, x_wipe1, x_bind, x_map, x_join, List.getElem?_cons_zero, List.getElem?_cons_succ, List.set_cons_zero, List.set_cons_succ, dEq_N, dNe_N, dIn_N, dNotIn_N, dLt_N, dLe_N, dGt_N, dGe_N, dAdd_N, dIx_t0, dIx_t1, dIx_t2, dIx_l0, dIx_l1, dLen_l, dInt_b, dSortI_N, gd, List.length_cons, List.length_nil, Nat.zero_add, Nat.reduceAdd, Nat.reduceLeDiff, if_true, List.length_map, List.length_range, r_is_plain]) (fun _ => ?_) fun k => Bool.noConfusion k)
    exact wp_ret (d := .bool b) (by simp only [x_gV, x_gC, x_g1, x_g2, x_g3, x_gN, x_gCs, x_gL, x_gT, x_gCall, x_gAnd, x_gOr, x_gIf, x_iL, x_iT, x_tN, x_tgN, x_tgC, x_tTup, x_tUnl, x_gO0, x_gO, x_gSl, x_wipe0, x_wipe1, x_bind, x_map, x_join, List.getElem?_cons_zero, List.getElem?_cons_succ, List.set_cons_zero, List.set_cons_succ, dEq_N, dNe_N, dIn_N, dNotIn_N, dLt_N, dLe_N, dGt_N, dGe_N, dAdd_N, dIx_t0, dIx_t1, dIx_t2, dIx_l0, dIx_l1, dLen_l, dInt_b, dSortI_N, gd, List.length_cons, List.length_nil, Nat.zero_add, Nat.reduceAdd, Nat.reduceLeDiff, if_true, List.length_map, List.length_range, h1]) rfl)
  rw [g_is_free, h3, h4]
theorem r_count_of : g_count_of [RU n ts] = some (N ts.length) := by
  obtain ⟨d, h3, h4⟩ := fn_wp (n := 1) (np := 1) (m := m_count_of) (ds := [RU n ts]) (R := fun d => d = N ts.length) [some (RU n ts)] rfl rfl (by
    refine wp_seq (wp_if (t := true) (by simp only [x_gV, x_gC, x_g1, x_g2, x_g3, x_gN, x_gCs, x_gL, x_gT, x_gCall, x_gAnd, x_gOr, x_gIf, x_iL, x_iT, x_tN, x_tgN, x_tgC, x_tTup, x_tUnl, x_gO0, x_gO, x_gSl, x_wipe0, x_wipe1, x_bind, x_map, x_join, List.getElem?_cons_zero, List.getElem?_cons_succ, List.set_cons_zero, List.set_cons_succ, dEq_N, dNe_N, dIn_N, dNotIn_N, dLt_N, dLe_N, dGt_N, dGe_N, dAdd_N, dIx_t0, dIx_t1, dIx_t2, dIx_l0, dIx_l1, dLen_l, dInt_b, dSortI_N, gd, List.length_cons, List.length_nil, Nat.zero_add, Nat.reduceAdd, Nat.reduceLeDiff, if_true, List.length_map, List.length_range, s_net]) (fun _ => ?_) fun k => Bool.noConfusion k)
    exact wp_ret (d := N ts.length) (by simp only [x_gV, x_gC, x_g1, x_g2, x_g3, x_gN, x_gCs, x_gL, x_gT, x_gCall, x_gAnd, x_gOr, x_gIf, x_iL, x_iT, x_tN, x_tgN, x_tgC, x_tTup, x_tUnl, x_gO0, x_gO, x_gSl, x_wipe0, x_wipe1, x_bind, x_map, x_join, List.getElem?_cons_zero, List.getElem?_cons_succ, List.set_cons_zero, List.set_cons_succ, dEq_N, dNe_N, dIn_N, dNotIn_N, dLt_N, dLe_N, dGt_N, dGe_N, dAdd_N, dIx_t0, dIx_t1, dIx_t2, dIx_l0, dIx_l1, dLen_l, dInt_b, dSortI_N, gd, List.length_cons, List.length_nil, Nat.zero_add, Nat.reduceAdd, Nat.reduceLeDiff, if_true, List.length_map, List.length_range]) rfl)
  rw [g_count_of, h3, h4]
/-- lists of parts -/
structure Parts (ts : List (Nat × Nat)) (k : Nat) (parts : List (List Nat)) : Prop where
  len : parts.length = k
  free : ∀ (p : Nat) (P : List Nat), parts[p]? = some P → FreeL (gcl (ev ts)) P
  lt : ∀ P ∈ parts, ∀ x ∈ P, x < ts.length
  sort : ∀ P ∈ parts, P.Pairwise (· ≤ ·)
theorem nodup_lt_len {l : List Nat} {m : Nat} (h : l.Nodup) (hl : ∀ x ∈ l, x < m) : l.length ≤ m := by
  have := nodup_len (m := List.range m) h fun x hx => List.mem_range.mpr (hl x hx)
  simpa using this
abbrev RUS (n : Nat) (ts : List (Nat × Nat)) (k : Nat) : D := .list ((List.range k).map fun _ => RU n ts)
theorem free_ins {c : Cl Nat} {P : List Nat} {x : Nat} (hP : P.Nodup) (hx : x ∉ P) : FreeL c (sortN (P ++ [x])) ↔ Free c (fun w => w ∈ P ∨ w = x) := by
  have p := sortN_perm (P ++ [x])
  have nd : (P ++ [x]).Nodup := List.nodup_append.mpr ⟨hP, by simp, fun a ha b hb e => by simp at hb; subst e; subst hb; exact hx ha⟩
  constructor
  · intro h
    exact (h.perm p).2.congr fun w => by simp
  · intro h
    exact FreeL.perm ⟨nd, h.congr fun w => by simp⟩ p.symm
theorem free_exc {c : Cl Nat} {P : List Nat} {x y : Nat} (hP : P.Nodup) (hx : x ∉ P) : FreeL c (sortN (P.filter (· ≠ y) ++ [x])) ↔ Free c (fun w => (w ∈ P ∧ w ≠ y) ∨ w = x) := by
  rw [free_ins (hP.sublist List.filter_sublist) fun k => hx (List.mem_filter.mp k).1]
  constructor
  · intro h; exact h.congr fun w => by simp [List.mem_filter]
  · intro h; exact h.congr fun w => by simp [List.mem_filter]
variable {k : Nat} {parts : List (List Nat)}
theorem Parts.small (h : Parts ts k parts) (hN : Net n ts) {p : Nat} {P : List Nat} (hp : parts[p]? = some P) : P.length ≤ 60 := by
  have := nodup_lt_len (h.free p P hp).1 (h.lt P (List.mem_of_getElem? hp))
  have := hN.m
  omega
def eO (o : Option Nat) : D := match o with | none => .none | some p => N p
end K72

namespace K72
open PySem PySem.Spec PyProof.Rows L2 Pu Mt
variable {n : Nat} {ts : List (Nat × Nat)} {k : Nat} {parts : List (List Nat)}
def Took (ts : List (Nat × Nat)) (parts : List (List Nat)) (x : Nat) : Option Nat → Prop
  | none => ∀ (p : Nat) (P : List Nat), parts[p]? = some P → x ∉ P → ¬ Free (gcl (ev ts)) (fun w => w ∈ P ∨ w = x)
  | some p => ∃ P : List Nat, parts[p]? = some P ∧ x ∉ P ∧ Free (gcl (ev ts)) (fun w => w ∈ P ∨ w = x)
theorem r_part_that_takes (hN : Net n ts) (hk : k ≤ 1000) (hP : Parts ts k parts) {x : Nat} (hx : x < ts.length) : ∃ o, g_part_that_takes [RUS n ts k, LL parts, N x] = some (eO o) ∧ Took ts parts x o := by
  have key : ∃ d, g_part_that_takes [RUS n ts k, LL parts, N x] = some d ∧ ∃ o, d = eO o ∧ Took ts parts x o := by
    refine fn_wp [some (RUS n ts k), some (LL parts), some (N x), none] rfl rfl ?_
    have hsrc : iR1 (gCall dLen (gCs (gV 0) gN)) [some (RUS n ts k), some (LL parts), some (N x), none] = some ((List.range k).map N) := iR1_N (by simp only [x_gV, x_gC, x_g1, x_g2, x_g3, x_gN, x_gCs, x_gL, x_gT, x_gCall, x_gAnd, x_gOr, x_gIf, x_iL, x_iT, x_tN, x_tgN, x_tgC, x_tTup, x_tUnl, x_gO0, x_gO, x_gSl, x_wipe0, x_wipe1, x_bind, x_map, x_join, List.getElem?_cons_zero, List.getElem?_cons_succ, List.set_cons_zero, List.set_cons_succ, dEq_N, dNe_N, dIn_N, dNotIn_N, dLt_N, dLe_N, dGt_N, dGe_N, dAdd_N, dIx_t0, dIx_t1, dIx_t2, dIx_l0, dIx_l1, dLen_l, dInt_b, dSortI_N, gd, List.length_cons, List.length_nil, Nat.zero_add, Nat.reduceAdd, Nat.reduceLeDiff, if_true, List.length_map, List.length_range]) (Nat.lt_of_le_of_lt hk (by decide))
    refine wp_seq (wp_for (e := N) (List.range k) (fun pre E => ∃ a, E = [some (RUS n ts k), some (LL parts), some (N x), a] ∧ ∀ p ∈ pre, ∀ P : List Nat, parts[p]? = some P → x ∉ P → ¬ Free (gcl (ev ts)) (fun w => w ∈ P ∨ w = x)) hsrc ⟨none, rfl, fun p hp => by cases hp⟩ ?_ ?_)
    · rintro pr p q E hp ⟨a, rfl, hI⟩
      have hpk : p < k := List.mem_range.mp (by rw [hp]; simp)
      obtain ⟨P, hPp⟩ : ∃ P : List Nat, parts[p]? = some P := ⟨_, List.getElem?_eq_getElem (by rw [hP.len]; exact hpk)⟩
      have k1 : dIx (.list (parts.map LN)) (N p) = some (LN P) := dIx_some hPp
      have k2 : dIx (RUS n ts k) (N p) = some (RU n ts) := dIx_some (f := fun _ => RU n ts) (x := p) (by simp [hpk])
      have hnd := (hP.free p P hPp).1
      have hsm := hP.small hN hPp
      refine ⟨_, rfl, ?_⟩
      by_cases hm : x ∈ P
      · refine wp_if (t := false) (by simp only [x_gV, x_gC, x_g1, x_g2, x_g3, x_gN, x_gCs, x_gL, x_gT, x_gCall, x_gAnd, x_gOr, x_gIf, x_iL, x_iT, x_tN, x_tgN, x_tgC, x_tTup, x_tUnl, x_gO0, x_gO, x_gSl, x_wipe0, x_wipe1, x_bind, x_map, x_join, List.getElem?_cons_zero, List.getElem?_cons_succ, List.set_cons_zero, List.set_cons_succ, dEq_N, dNe_N, dIn_N, dNotIn_N, dLt_N, dLe_N, dGt_N, dGe_N, dAdd_N, dIx_t0, dIx_t1, dIx_t2, dIx_l0, dIx_l1, dLen_l, dInt_b, dSortI_N, gd, List.length_cons, List.length_nil, Nat.zero_add, Nat.reduceAdd, Nat.reduceLeDiff, if_true, List.length_map, List.length_range, k1, hm, not_true, decide_false]) (fun k => Bool.noConfusion k) fun _ => wp_nx ⟨some (N p), rfl, fun p' hp' P' hP' hx' => ?_⟩
        rcases List.mem_append.mp hp' with h1 | h1
        · exact hI p' h1 P' hP' hx'
        · simp at h1
          subst h1
          rw [hPp] at hP'
          cases hP'
          exact absurd hm hx'
      · obtain ⟨b, h1, h2⟩ := r_is_free hN (xs := sortN (P ++ [x])) (by rw [(sortN_perm _).length_eq]; simp; omega) fun y hy => by
          rcases List.mem_append.mp ((sortN_perm _).mem_iff.mp hy) with h | h
          · exact hP.lt P (List.mem_of_getElem? hPp) y h
          · simp at h; subst h; exact hx
        rw [free_ins hnd hm] at h2
        refine wp_if (t := b) (by simp only [x_gV, x_gC, x_g1, x_g2, x_g3, x_gN, x_gCs, x_gL, x_gT, x_gCall, x_gAnd, x_gOr, x_gIf, x_iL, x_iT, x_tN, x_tgN, x_tgC, x_tTup, x_tUnl, x_gO0, x_gO, x_gSl, x_wipe0, x_wipe1, x_bind, x_map, x_join, List.getElem?_cons_zero, List.getElem?_cons_succ, List.set_cons_zero, List.set_cons_succ, dEq_N, dNe_N, dIn_N, dNotIn_N, dLt_N, dLe_N, dGt_N, dGe_N, dAdd_N, dIx_t0, dIx_t1, dIx_t2, dIx_l0, dIx_l1, dLen_l, dInt_b, dSortI_N, gd, List.length_cons, List.length_nil, Nat.zero_add, Nat.reduceAdd, Nat.reduceLeDiff, if_true, List.length_map, List.length_range, k1, k2, hm, not_false_iff, decide_true, r_with_thing (l := P) (x := x) (by omega), h1]) (fun hb => ?_) fun hb => wp_nx ⟨some (N p), rfl, fun p' hp' P' hP' hx' => ?_⟩
        · exact wp_ret (d := N p) rfl ⟨some p, rfl, P, hPp, hm, h2.mp hb⟩
        · rcases List.mem_append.mp hp' with h1 | h1
          · exact hI p' h1 P' hP' hx'
          · simp at h1
            subst h1
            rw [hPp] at hP'
            cases hP'
            exact fun h => by rw [h2.mpr h] at hb; cases hb
    · rintro E ⟨a, rfl, hI⟩
      exact wp_ret rfl ⟨none, rfl, fun p P hp => hI p (List.mem_range.mpr (by rw [← hP.len]; exact (List.getElem?_eq_some_iff.mp hp).1)) P hp⟩
  obtain ⟨d, h1, o, rfl, h2⟩ := key
  exact ⟨o, h1, h2⟩
end K72

namespace K72
open PySem PySem.Spec PyProof.Rows L2 Pu Mt
variable {n : Nat} {ts : List (Nat × Nat)} {k : Nat} {parts : List (List Nat)}
def StepTo (ts : List (Nat × Nat)) (parts : List (List Nat)) (x y p : Nat) : Prop := ∃ P : List Nat, parts[p]? = some P ∧ x ∉ P ∧ y ∈ P ∧ Free (gcl (ev ts)) (fun w => (w ∈ P ∧ w ≠ y) ∨ w = x)
theorem wp_lapp {Q : En → Prop} {R : D → Prop} {E : En} {g : Gx} {i : Nat} {α : Type} {f : α → D} {xs : List α} {x : α} (e1 : gV i E = some (.list (xs.map f))) (e : g E = some (f x)) (hl : xs.length < 16000000) (h : Q (E.set i (some (.list ((xs ++ [x]).map f))))) : wp (sApp i g) Q R E := by
  refine wp_app e1 e (by simpa using hl) ?_
  rw [List.map_append] at h
  exact h
theorem r_steps_from (hN : Net n ts) (hk : k ≤ 1000) (hP : Parts ts k parts) {x : Nat} (hx : x < ts.length) : ∃ L, g_steps_from [RUS n ts k, LL parts, N x] = some (LTs L) ∧ ∀ y p, (y, p) ∈ L ↔ StepTo ts parts x y p := by
  have key : ∃ d, g_steps_from [RUS n ts k, LL parts, N x] = some d ∧ ∃ L, d = LTs L ∧ ∀ y p, (y, p) ∈ L ↔ StepTo ts parts x y p := by
    refine fn_wp [some (RUS n ts k), some (LL parts), some (N x), none, none, none] rfl rfl ?_
    refine wp_seq (wp_set (d := LTs []) rfl ?_)
    have hsrc : iR1 (gCall dLen (gCs (gV 0) gN)) [some (RUS n ts k), some (LL parts), some (N x), some (LTs []), none, none] = some ((List.range k).map N) := iR1_N (by simp only [x_gV, x_gC, x_g1, x_g2, x_g3, x_gN, x_gCs, x_gL, x_gT, x_gCall, x_gAnd, x_gOr, x_gIf, x_iL, x_iT, x_tN, x_tgN, x_tgC, x_tTup, x_tUnl, x_gO0, x_gO, x_gSl, x_wipe0, x_wipe1, x_bind, x_map, x_join, List.getElem?_cons_zero, List.getElem?_cons_succ, List.set_cons_zero, List.set_cons_succ, dEq_N, dNe_N, dIn_N, dNotIn_N, dLt_N, dLe_N, dGt_N, dGe_N, dAdd_N, dIx_t0, dIx_t1, dIx_t2, dIx_l0, dIx_l1, dLen_l, dInt_b, dSortI_N, gd, List.length_cons, List.length_nil, Nat.zero_add, Nat.reduceAdd, Nat.reduceLeDiff, if_true, List.length_map, List.length_range]) (Nat.lt_of_le_of_lt hk (by decide))
    refine wp_seq (wp_for (e := N) (List.range k) (fun pre E => ∃ L a b, E = [some (RUS n ts k), some (LL parts), some (N x), some (LTs L), a, b] ∧ L.length ≤ 60 * pre.length ∧ ∀ y p, (y, p) ∈ L ↔ p ∈ pre ∧ StepTo ts parts x y p) hsrc ⟨[], none, none, rfl, by simp, fun y p => by simp⟩ ?_ ?_)
    · rintro pr p q E hp ⟨L, a, b, rfl, hL, hI⟩
      have hpk : p < k := List.mem_range.mp (by rw [hp]; simp)
      have hprk : pr.length ≤ 1000 := by
        have := congrArg List.length hp
        simp at this
        omega
      obtain ⟨P, hPp⟩ : ∃ P : List Nat, parts[p]? = some P := ⟨_, List.getElem?_eq_getElem (by rw [hP.len]; exact hpk)⟩
      have k1 : dIx (.list (parts.map LN)) (N p) = some (LN P) := dIx_some hPp
      have k2 : dIx (RUS n ts k) (N p) = some (RU n ts) := dIx_some (f := fun _ => RU n ts) (x := p) (by simp [hpk])
      have hnd := (hP.free p P hPp).1
      have hsm := hP.small hN hPp
      refine ⟨_, rfl, ?_⟩
      by_cases hm : x ∈ P
      · refine wp_if (t := false) (by simp only [x_gV, x_gC, x_g1, x_g2, x_g3, x_gN, x_gCs, x_gL, x_gT, x_gCall, x_gAnd, x_gOr, x_gIf, x_iL, x_iT, x_tN, x_tgN, x_tgC, x_tTup, x_tUnl, x_gO0, x_gO, x_gSl, x_wipe0, x_wipe1, x_bind, x_map, x_join, List.getElem?_cons_zero, List.getElem?_cons_succ, List.set_cons_zero, List.set_cons_succ, dEq_N, dNe_N, dIn_N, dNotIn_N, dLt_N, dLe_N, dGt_N, dGe_N, dAdd_N, dIx_t0, dIx_t1, dIx_t2, dIx_l0, dIx_l1, dLen_l, dInt_b, dSortI_N, gd, List.length_cons, List.length_nil, Nat.zero_add, Nat.reduceAdd, Nat.reduceLeDiff, if_true, List.length_map, List.length_range, k1, hm, not_true, decide_false]) (fun k => Bool.noConfusion k) fun _ => wp_nx ⟨L, some (N p), b, rfl, by simp; omega, fun y p' => ?_⟩
        rw [hI]
        constructor
        · rintro ⟨h1, h2⟩; exact ⟨by simp [h1], h2⟩
        · rintro ⟨h1, h2⟩
          refine ⟨?_, h2⟩
          rcases List.mem_append.mp h1 with h1 | h1
          · exact h1
          · simp at h1
            subst h1
            obtain ⟨P', e1, e2, _⟩ := h2
            rw [hPp] at e1
            cases e1
            exact absurd hm e2
      · refine wp_if (t := true) (by simp only [x_gV, x_gC, x_g1, x_g2, x_g3, x_gN, x_gCs, x_gL, x_gT, x_gCall, x_gAnd, x_gOr, x_gIf, x_iL, x_iT, x_tN, x_tgN, x_tgC, x_tTup, x_tUnl, x_gO0, x_gO, x_gSl, x_wipe0, x_wipe1, x_bind, x_map, x_join, List.getElem?_cons_zero, List.getElem?_cons_succ, List.set_cons_zero, List.set_cons_succ, dEq_N, dNe_N, dIn_N, dNotIn_N, dLt_N, dLe_N, dGt_N, dGe_N, dAdd_N, dIx_t0, dIx_t1, dIx_t2, dIx_l0, dIx_l1, dLen_l, dInt_b, dSortI_N, gd, List.length_cons, List.length_nil, Nat.zero_add, Nat.reduceAdd, Nat.reduceLeDiff, if_true, List.length_map, List.length_range, k1, hm, not_false_iff, decide_true]) (fun _ => ?_) fun k => Bool.noConfusion k
        refine wp_for (e := N) P (fun pre2 E => ∃ L' b, E = [some (RUS n ts k), some (LL parts), some (N x), some (LTs L'), some (N p), b] ∧ L'.length ≤ L.length + pre2.length ∧ ∀ y q, (y, q) ∈ L' ↔ (y, q) ∈ L ∨ (q = p ∧ y ∈ pre2 ∧ Free (gcl (ev ts)) (fun w => (w ∈ P ∧ w ≠ y) ∨ w = x))) (by simp only [x_gV, x_gC, x_g1, x_g2, x_g3, x_gN, x_gCs, x_gL, x_gT, x_gCall, x_gAnd, x_gOr, x_gIf, x_iL, x_iT, x_tN, x_tgN, x_tgC, x_tTup, x_tUnl, x_gO0, x_gO, x_gSl, x_wipe0, x_wipe1, x_bind, x_map, x_join, List.getElem?_cons_zero, List.getElem?_cons_succ, List.set_cons_zero, List.set_cons_succ, dEq_N, dNe_N, dIn_N, dNotIn_N, dLt_N, dLe_N, dGt_N, dGe_N, dAdd_N, dIx_t0, dIx_t1, dIx_t2, dIx_l0, dIx_l1, dLen_l, dInt_b, dSortI_N, gd, List.length_cons, List.length_nil, Nat.zero_add, Nat.reduceAdd, Nat.reduceLeDiff, if_true, List.length_map, List.length_range, k1]) ⟨L, b, rfl, by simp, fun y q => by simp⟩ ?_ ?_
        · rintro p2 y q2 E hp2 ⟨L', b', rfl, hL', hI'⟩
          have hyP : y ∈ P := by rw [hp2]; simp
          have hp2l : p2.length ≤ 60 := by
            have := congrArg List.length hp2
            simp at this
            omega
          obtain ⟨b2, h1, h2⟩ := r_is_free hN (xs := sortN (P.filter (· ≠ y) ++ [x])) (by
            rw [(sortN_perm _).length_eq]
            have := List.length_filter_le (fun z => decide (z ≠ y)) P
            simp only [List.length_append, List.length_singleton]
            omega) fun z hz => by
              rcases List.mem_append.mp ((sortN_perm _).mem_iff.mp hz) with h | h
              · exact hP.lt P (List.mem_of_getElem? hPp) z (List.mem_filter.mp h).1
              · simp at h; subst h; exact hx
          rw [free_exc hnd hm] at h2
          refine ⟨_, rfl, ?_⟩
          refine wp_if (t := b2) (by simp only [x_gV, x_gC, x_g1, x_g2, x_g3, x_gN, x_gCs, x_gL, x_gT, x_gCall, x_gAnd, x_gOr, x_gIf, x_iL, x_iT, x_tN, x_tgN, x_tgC, x_tTup, x_tUnl, x_gO0, x_gO, x_gSl, x_wipe0, x_wipe1, x_bind, x_map, x_join, List.getElem?_cons_zero, List.getElem?_cons_succ, List.set_cons_zero, List.set_cons_succ, dEq_N, dNe_N, dIn_N, dNotIn_N, dLt_N, dLe_N, dGt_N, dGe_N, dAdd_N, dIx_t0, dIx_t1, dIx_t2, dIx_l0, dIx_l1, dLen_l, dInt_b, dSortI_N, gd, List.length_cons, List.length_nil, Nat.zero_add, Nat.reduceAdd, Nat.reduceLeDiff, if_true, List.length_map, List.length_range, k1, k2, r_exchanged (l := P) (x := x) (y := y) (by omega), h1]) (fun hb => ?_) fun hb => wp_nx ⟨L', some (N y), rfl, by simp; omega, fun y' q' => ?_⟩
          · refine wp_lapp (f := TT) (xs := L') (x := (y, p)) rfl (by simp only [x_gV, x_gC, x_g1, x_g2, x_g3, x_gN, x_gCs, x_gL, x_gT, x_gCall, x_gAnd, x_gOr, x_gIf, x_iL, x_iT, x_tN, x_tgN, x_tgC, x_tTup, x_tUnl, x_gO0, x_gO, x_gSl, x_wipe0, x_wipe1, x_bind, x_map, x_join, List.getElem?_cons_zero, List.getElem?_cons_succ, List.set_cons_zero, List.set_cons_succ, dEq_N, dNe_N, dIn_N, dNotIn_N, dLt_N, dLe_N, dGt_N, dGe_N, dAdd_N, dIx_t0, dIx_t1, dIx_t2, dIx_l0, dIx_l1, dLen_l, dInt_b, dSortI_N, gd, List.length_cons, List.length_nil, Nat.zero_add, Nat.reduceAdd, Nat.reduceLeDiff, if_true, List.length_map, List.length_range]) (by omega) ⟨L' ++ [(y, p)], some (N y), rfl, by simp; omega, fun y' q' => ?_⟩
            rw [List.mem_append, hI' y' q']
            constructor
            · rintro ((h | ⟨h3, h4, h5⟩) | h)
              · exact .inl h
              · exact .inr ⟨h3, by simp [h4], h5⟩
              · simp at h
                obtain ⟨rfl, rfl⟩ := h
                exact .inr ⟨rfl, by simp, h2.mp hb⟩
            · rintro (h | ⟨h3, h4, h5⟩)
              · exact .inl (.inl h)
              · rcases List.mem_append.mp h4 with h4 | h4
                · exact .inl (.inr ⟨h3, h4, h5⟩)
                · simp at h4
                  exact .inr (by simp [h3, h4])
          · rw [hI' y' q']
            constructor
            · rintro (h | ⟨h3, h4, h5⟩)
              · exact .inl h
              · exact .inr ⟨h3, by simp [h4], h5⟩
            · rintro (h | ⟨h3, h4, h5⟩)
              · exact .inl h
              · rcases List.mem_append.mp h4 with h4 | h4
                · exact .inr ⟨h3, h4, h5⟩
                · simp at h4
                  subst h4
                  rw [h2.mpr h5] at hb
                  cases hb
        · rintro E ⟨L', b', rfl, hL', hI'⟩
          refine ⟨L', some (N p), b', rfl, by simp; omega, fun y q => ?_⟩
          rw [hI', hI]
          constructor
          · rintro (⟨h1, h2⟩ | ⟨h1, h2, h3⟩)
            · exact ⟨by simp [h1], h2⟩
            · subst h1
              exact ⟨by simp, P, hPp, hm, h2, h3⟩
          · rintro ⟨h1, h2⟩
            rcases List.mem_append.mp h1 with h1 | h1
            · exact .inl ⟨h1, h2⟩
            · simp at h1
              obtain ⟨P', e1, e2, e3, e4⟩ := h2
              subst h1
              rw [hPp] at e1
              cases e1
              exact .inr ⟨rfl, e3, e4⟩
    · rintro E ⟨L, a, b, rfl, hL, hI⟩
      refine wp_ret rfl ⟨L, rfl, fun y p => ?_⟩
      rw [hI]
      constructor
      · exact fun h => h.2
      · intro h
        obtain ⟨P, e1, _⟩ := id h
        exact ⟨List.mem_range.mpr (by rw [← hP.len]; exact (List.getElem?_eq_some_iff.mp e1).1), h⟩
  obtain ⟨d, h1, L, rfl, h2⟩ := key
  exact ⟨L, h1, h2⟩
theorem lc2_flat {E : En} (h5 : E.length = 5) : ∀ parts : List (List Nat), lcL2 [4] (tN 3) (gC (.bool true)) (iL (gV 3)) (tN 4) (gC (.bool true)) (gV 4) E (parts.map LN) = some (parts.flatten.map N)
  | [] => rfl
  | P :: parts => by
    match E, h5 with
    | [a, b, c, d, f], _ =>
    have ih := lc2_flat (E := [a, b, c, d, f]) rfl parts
    have h1 : lcL (tN 4) (gC (.bool true)) (gV 4) (wipeE ([a, b, c, some (LN P), f] : En) [4]) (P.map N) = some (P.map N) := lcL_all (f := N) P fun x hx => ⟨_, rfl, rfl, by simp only [x_gV, x_gC, x_g1, x_g2, x_g3, x_gN, x_gCs, x_gL, x_gT, x_gCall, x_gAnd, x_gOr, x_gIf, x_iL, x_iT, x_tN, x_tgN, x_tgC, x_tTup, x_tUnl, x_gO0, x_gO, x_gSl, x_wipe0, x_wipe1, x_bind, x_map, x_join, List.getElem?_cons_zero, List.getElem?_cons_succ, List.set_cons_zero, List.set_cons_succ, dEq_N, dNe_N, dIn_N, dNotIn_N, dLt_N, dLe_N, dGt_N, dGe_N, dAdd_N, dIx_t0, dIx_t1, dIx_t2, dIx_l0, dIx_l1, dLen_l, dInt_b, dSortI_N, gd, List.length_cons, List.length_nil, Nat.zero_add, Nat.reduceAdd, Nat.reduceLeDiff, if_true, List.length_map, List.length_range]⟩
    simp only [List.map_cons, lcL2, x_tN, Option.bind_some, x_gC, List.set_cons_succ, List.set_cons_zero, x_iL, x_gV, List.getElem?_cons_succ, List.getElem?_cons_zero, Option.join_some, h1, ih, Option.map_some, List.flatten_cons, List.map_append]
theorem r_outside_of {m : Nat} (hm : m ≤ 1000) (hl : parts.flatten.length ≤ 1000) : g_outside_of [N m, LL parts] = some (LN ((List.range m).filter (· ∉ parts.flatten))) := by
  obtain ⟨d, h3, h4⟩ := fn_wp (n := 5) (np := 2) (m := m_outside_of) (ds := [N m, LL parts]) (R := fun d => d = LN ((List.range m).filter (· ∉ parts.flatten))) [some (N m), some (LL parts), none, none, none] rfl rfl (by
    have h1 := lc2_flat (E := [some (N m), some (LL parts), none, none, none]) rfl parts
    refine wp_seq (wp_set (d := LN parts.flatten) ?_ ?_)
    · simp only [gLc2, x_gV, x_gC, x_g1, x_g2, x_g3, x_gN, x_gCs, x_gL, x_gT, x_gCall, x_gAnd, x_gOr, x_gIf, x_iL, x_iT, x_tN, x_tgN, x_tgC, x_tTup, x_tUnl, x_gO0, x_gO, x_gSl, x_wipe0, x_wipe1, x_bind, x_map, x_join, List.getElem?_cons_zero, List.getElem?_cons_succ, List.set_cons_zero, List.set_cons_succ, dEq_N, dNe_N, dIn_N, dNotIn_N, dLt_N, dLe_N, dGt_N, dGe_N, dAdd_N, dIx_t0, dIx_t1, dIx_t2, dIx_l0, dIx_l1, dLen_l, dInt_b, dSortI_N, gd, List.length_cons, List.length_nil, Nat.zero_add, Nat.reduceAdd, Nat.reduceLeDiff, if_true, List.length_map, List.length_range]
      rw [h1]
      simp only [Option.bind_some]
      exact gd_pos (by simp only [List.length_map]; omega)
    · refine wp_ret (d := LN ((List.range m).filter (· ∉ parts.flatten))) ?_ rfl
      refine v_lc (xs := (List.range m).map N) (iR1_N rfl (Nat.lt_of_le_of_lt hm (by decide))) (lcL_map (f := N) (p := fun y => decide (y ∉ parts.flatten)) (List.range m) fun y hy => ⟨_, rfl, by simp only [x_gV, x_gC, x_g1, x_g2, x_g3, x_gN, x_gCs, x_gL, x_gT, x_gCall, x_gAnd, x_gOr, x_gIf, x_iL, x_iT, x_tN, x_tgN, x_tgC, x_tTup, x_tUnl, x_gO0, x_gO, x_gSl, x_wipe0, x_wipe1, x_bind, x_map, x_join, List.getElem?_cons_zero, List.getElem?_cons_succ, List.set_cons_zero, List.set_cons_succ, dEq_N, dNe_N, dIn_N, dNotIn_N, dLt_N, dLe_N, dGt_N, dGe_N, dAdd_N, dIx_t0, dIx_t1, dIx_t2, dIx_l0, dIx_l1, dLen_l, dInt_b, dSortI_N, gd, List.length_cons, List.length_nil, Nat.zero_add, Nat.reduceAdd, Nat.reduceLeDiff, if_true, List.length_map, List.length_range], fun _ => by simp only [x_gV, x_gC, x_g1, x_g2, x_g3, x_gN, x_gCs, x_gL, x_gT, x_gCall, x_gAnd, x_gOr, x_gIf, x_iL, x_iT, x_tN, x_tgN, x_tgC, x_tTup, x_tUnl, x_gO0, x_gO, x_gSl, x_wipe0, x_wipe1, x_bind, x_map, x_join, List.getElem?_cons_zero, List.getElem?_cons_succ, List.set_cons_zero, List.set_cons_succ, dEq_N, dNe_N, dIn_N, dNotIn_N, dLt_N, dLe_N, dGt_N, dGe_N, dAdd_N, dIx_t0, dIx_t1, dIx_t2, dIx_l0, dIx_l1, dLen_l, dInt_b, dSortI_N, gd, List.length_cons, List.length_nil, Nat.zero_add, Nat.reduceAdd, Nat.reduceLeDiff, if_true, List.length_map, List.length_range]⟩) (by simp; omega))
  rw [g_outside_of, h3, h4]
end K72

namespace K72
open PySem PySem.Spec PyProof.Rows L2 Pu Mt
variable {n : Nat} {ts : List (Nat × Nat)} {k : Nat} {parts : List (List Nat)}
/-! ### the dict of what is reached -/
def eB (o : Option (Nat × Nat)) : D := match o with | none => .none | some b => TT b
def eE (p : Nat × Option (Nat × Nat)) : D × D := (N p.1, eB p.2)
abbrev eR (r : Rc) : D := .dict (r.map eE)
theorem keyEq_N {a b : Nat} : keyEq (N a) (.inl (b : Int)) = decide (a = b) := by
  show decide ((a : Int) = (b : Int)) = _
  by_cases h : a = b
  · simp [h]
  · have : ¬ (a : Int) = b := by omega
    simp [h, this]
theorem look_none {r : Rc} {y : Nat} (h : y ∉ keys r) : lookK (r.map eE) (.inl (y : Int)) = none := by
  induction r with
  | nil => rfl
  | cons e r ih =>
    have h1 : e.1 ≠ y := fun k => h (by simp [keys, k])
    have h2 : y ∉ keys r := fun k => h (by simp [keys] at k ⊢; exact .inr k)
    have := ih h2
    unfold lookK at this ⊢
    rw [List.map_cons, List.find?_cons, show keyEq (eE e).1 (.inl (y : Int)) = decide (e.1 = y) from keyEq_N]
    simp only [h1, decide_false]
    exact this
theorem look_some {r : Rc} {y : Nat} {o : Option (Nat × Nat)} (hn : (keys r).Nodup) (h : (y, o) ∈ r) : lookK (r.map eE) (.inl (y : Int)) = some (eB o) := by
  induction r with
  | nil => cases h
  | cons e r ih =>
    have hn' := List.nodup_cons.mp (show (e.1 :: keys r).Nodup from hn)
    unfold lookK at ih ⊢
    rw [List.map_cons, List.find?_cons, show keyEq (eE e).1 (.inl (y : Int)) = decide (e.1 = y) from keyEq_N]
    rcases List.mem_cons.mp h with h | h
    · subst h
      simp [eE]
    · have h1 : e.1 ≠ y := fun k => hn'.1 (k ▸ List.mem_map.mpr ⟨(y, o), h, rfl⟩)
      simp only [h1, decide_false]
      exact ih hn'.2 h
theorem mem_keys {r : Rc} {y : Nat} : y ∈ keys r ↔ ∃ o, (y, o) ∈ r := by
  constructor
  · intro h
    obtain ⟨⟨a, o⟩, h1, rfl⟩ := List.mem_map.mp h
    exact ⟨o, h1⟩
  · rintro ⟨o, h⟩
    exact List.mem_map.mpr ⟨_, h, rfl⟩
theorem look_isSome {r : Rc} {y : Nat} (hn : (keys r).Nodup) : (lookK (r.map eE) (.inl (y : Int))).isSome = decide (y ∈ keys r) := by
  by_cases h : y ∈ keys r
  · obtain ⟨o, h1⟩ := mem_keys.mp h
    rw [look_some hn h1]
    simp [h]
  · rw [look_none h]
    simp [h]
theorem dDNotIn_R {r : Rc} {y : Nat} (hn : (keys r).Nodup) : dDNotIn (N y) (eR r) = some (.bool (decide (y ∉ keys r))) := by
  show some (PyData.bool (!(lookK (r.map eE) (.inl (y : Int))).isSome)) = _
  rw [look_isSome hn]
  simp
theorem dDIx_R {r : Rc} {y : Nat} {o : Option (Nat × Nat)} (hn : (keys r).Nodup) (h : (y, o) ∈ r) : dDIx (eR r) (N y) = some (eB o) := look_some hn h
theorem putD_R {r : Rc} {y : Nat} {o : Option (Nat × Nat)} (h : y ∉ keys r) : putD (r.map eE) (N y) (eB o) = (r ++ [(y, o)]).map eE := by
  show (if (lookK (r.map eE) (.inl (y : Int))).isSome then _ else _) = _
  rw [look_none h]
  simp [eE]
theorem dcL_R {E : En} {tg : Tg} {c ke ve : Gx} : ∀ (xs : List Nat) (r : Rc), (keys r ++ xs).Nodup → (∀ x ∈ xs, ∃ E1, tg (N x) E = some E1 ∧ c E1 = some (.bool true) ∧ ke E1 = some (N x) ∧ ve E1 = some .none) →
    dcL tg c ke ve E (xs.map N) (r.map eE) = some ((r ++ xs.map fun x => (x, none)).map eE)
  | [], r, _, _ => by simp [dcL]
  | x :: xs, r, hn, h => by
    obtain ⟨E1, h1, h2, h3, h4⟩ := h x (by simp)
    have hx : x ∉ keys r := fun k => (List.nodup_append.mp hn).2.2 x k x (by simp) rfl
    have ih := dcL_R xs (r ++ [(x, none)]) (by simp only [keys, List.map_append, List.map_cons, List.map_nil, List.append_assoc, List.singleton_append]; exact hn) fun y hy => h y (by simp [hy])
    simp only [List.map_cons, dcL, h1, Option.bind_some, h2, h3, h4]
    rw [show keyOf (N x) = some (.inl (x : Int)) from rfl, Option.bind_some, show (PyData.none : D) = eB none from rfl, putD_R hx, ih]
    simp
theorem idxOf_app_mem {y : Nat} {l m : List Nat} (h : y ∈ l) : (l ++ m).idxOf y = l.idxOf y := by rw [List.idxOf_append, if_pos h]
theorem idxOf_app_not {y : Nat} {l m : List Nat} (h : y ∉ l) : (l ++ m).idxOf y = l.length + m.idxOf y := by rw [List.idxOf_append, if_neg h]; omega
theorem idx_app {r r' : Rc} {y : Nat} (h : y ∈ keys r) : idx (r ++ r') y = idx r y := by
  unfold idx
  rw [keys, List.map_append]
  exact idxOf_app_mem h
theorem keys_app {r r' : Rc} : keys (r ++ r') = keys r ++ keys r' := by simp [keys]
theorem idx_lt {r : Rc} {y : Nat} (h : y ∈ keys r) : idx r y < r.length := by
  have := List.idxOf_lt_length_of_mem h
  simpa [keys, idx] using this
theorem idx_at {r : Rc} {i x : Nat} (hn : (keys r).Nodup) (h : (keys r)[i]? = some x) : idx r x = i := by
  obtain ⟨hi, e⟩ := List.getElem?_eq_some_iff.mp h
  have := hn.idxOf_getElem i hi
  rw [e] at this
  exact this
/-- what holds before place a is asked -/
structure Srch (ts : List (Nat × Nat)) (parts : List (List Nat)) (starts : List Nat) (r : Rc) (a : Nat) : Prop where
  ok : RchOk (fun _ => gcl (ev ts)) parts r
  asked : Asked (fun _ => gcl (ev ts)) parts r a
  lt : ∀ y ∈ keys r, y < ts.length
  st : ∀ y ∈ starts, (y, none) ∈ r
  par : ∀ y b p, (y, some (b, p)) ∈ r → idx r b < a
theorem Srch.len {starts : List Nat} {r : Rc} {a : Nat} (h : Srch ts parts starts r a) : r.length ≤ ts.length := by
  have := nodup_lt_len h.ok.nd h.lt
  simpa [keys] using this
/-- a step's target is reached -/
theorem rch_add {r : Rc} {x y p : Nat} (h : RchOk (fun _ => gcl (ev ts)) parts r) (hx : x ∈ keys r) (hy : y ∉ keys r) (hs : StepTo ts parts x y p) : RchOk (fun _ => gcl (ev ts)) parts (r ++ [(y, some (x, p))]) := by
  obtain ⟨P, e1, e2, e3, e4⟩ := hs
  refine ⟨?_, fun z hz => ?_, fun z b q hz => ?_⟩
  · rw [keys_app]
    exact List.nodup_append.mpr ⟨h.nd, by simp [keys], fun a ha b hb e => by simp [keys] at hb; subst hb; subst e; exact hy ha⟩
  · rcases List.mem_append.mp hz with hz | hz
    · exact h.st z hz
    · simp at hz
  · rcases List.mem_append.mp hz with hz | hz
    · obtain ⟨P', k1, k2, k3, k4, k5, k6⟩ := h.en z b q hz
      have hzk : z ∈ keys r := mem_keys.mpr ⟨_, hz⟩
      exact ⟨P', k1, k2, k3, by rw [keys_app]; simp [k4], by rw [idx_app k4, idx_app hzk]; exact k5, k6⟩
    · simp at hz
      obtain ⟨rfl, rfl, rfl⟩ := hz
      refine ⟨P, e1, e3, e2, by rw [keys_app]; simp [hx], ?_, e4⟩
      rw [idx_app hx]
      refine Nat.lt_of_lt_of_le (idx_lt hx) ?_
      unfold idx
      rw [keys_app, idxOf_app_not hy]
      simp [keys]
theorem asked_add {r r' : Rc} {a : Nat} (h : Asked (fun _ => gcl (ev ts)) parts r a) (ha : a ≤ r.length) (hn : (keys (r ++ r')).Nodup) (hp : ∀ y b p, (y, some (b, p)) ∈ r → b ∈ keys r) : Asked (fun _ => gcl (ev ts)) parts (r ++ r') a := by
  intro b hb hlt p P hP hbP
  have hbr : b ∈ keys r := by
    rw [keys_app] at hb
    rcases List.mem_append.mp hb with hb | hb
    · exact hb
    · exfalso
      have hbn : b ∉ keys r := fun k => by
        rw [keys_app] at hn
        exact (List.nodup_append.mp hn).2.2 b k b hb rfl
      unfold idx at hlt
      rw [keys_app, idxOf_app_not hbn] at hlt
      simp [keys] at hlt
      omega
  rw [idx_app hbr] at hlt
  obtain ⟨h1, h2⟩ := h b hbr hlt p P hP hbP
  refine ⟨h1, fun y hy hf => ?_⟩
  obtain ⟨o, k1, k2⟩ := h2 y hy hf
  refine ⟨o, List.mem_append_left _ k1, k2.imp id fun ⟨b', p', k3, k4⟩ => ⟨b', p', k3, ?_⟩⟩
  subst k3
  rw [idx_app hbr, idx_app (hp _ _ _ k1)]
  exact k4
end K72

namespace K72
open PySem PySem.Spec PyProof.Rows L2 Pu Mt
variable {n : Nat} {ts : List (Nat × Nat)} {k : Nat} {parts : List (List Nat)}
theorem oF_N {a : Nat} : oF (N a) = some (N a) := rfl
theorem dNotN_O {o : Option Nat} : dNotN (eO o) .none = some (.bool o.isSome) := by cases o <;> rfl
theorem wp_put {Q : En → Prop} {R : D → Prop} {E : En} {gk g : Gx} {i : Nat} {r : Rc} {y : Nat} {o : Option (Nat × Nat)} (h1 : g E = some (eB o)) (h2 : gV i E = some (eR r)) (h3 : gk E = some (N y)) (hy : y ∉ keys r) (hl : r.length < 16000000) (h : Q (E.set i (some (eR (r ++ [(y, o)]))))) : wp (sPut i gk g) Q R E := by
  unfold wp sPut
  rw [h1, h2, h3]
  dsimp only
  rw [show keyOf (N y) = some (.inl (y : Int)) from rfl, Option.bind_some, gd_pos (by rw [List.length_map]; omega), putD_R hy]
  exact h
structure Found (ts : List (Nat × Nat)) (parts : List (List Nat)) (starts : List Nat) (r : Rc) (o : Option Nat) : Prop where
  ex : ∃ a, Srch ts parts starts r a ∧ (match o with
    | none => r.length ≤ a
    | some x => x ∈ keys r ∧ idx r x = a ∧ ∃ p, Took ts parts x (some p))
theorem r_searched (hN : Net n ts) (hk : k ≤ 1000) (hP : Parts ts k parts) {starts : List Nat} (hs : starts.Nodup) (hst : ∀ y ∈ starts, y < ts.length ∧ y ∉ parts.flatten) :
    ∃ r o, g_searched [RUS n ts k, LL parts, LN starts] = some (.tuple [eR r, eO o]) ∧ Found ts parts starts r o := by
  have hsl : starts.length ≤ 60 := Nat.le_trans (nodup_lt_len hs fun x hx => (hst x hx).1) hN.m
  have key : ∃ d, g_searched [RUS n ts k, LL parts, LN starts] = some d ∧ ∃ r o, d = .tuple [eR r, eO o] ∧ Found ts parts starts r o := by
    refine fn_wp [some (RUS n ts k), some (LL parts), some (LN starts), none, none, none, none, none, none] rfl rfl ?_
    have hk0 : keys (starts.map fun x => (x, none)) = starts := by simp [keys, Function.comp_def]
    refine wp_seq (wp_set (d := eR (starts.map fun x => (x, none))) ?_ ?_)
    · have := dcL_R (E := wipeE [some (RUS n ts k), some (LL parts), some (LN starts), none, none, none, none, none, none] [8]) (tg := tN 8) (c := gC (.bool true)) (ke := gV 8) (ve := gC .none) starts [] (by simpa [keys] using hs) fun x hx => ⟨_, rfl, rfl, by simp only [x_gV, x_gC, x_g1, x_g2, x_g3, x_gN, x_gCs, x_gL, x_gT, x_gCall, x_gAnd, x_gOr, x_gIf, x_iL, x_iT, x_tN, x_tgN, x_tgC, x_tTup, x_tUnl, x_gO0, x_gO, x_gSl, x_wipe0, x_wipe1, x_bind, x_map, x_join, List.getElem?_cons_zero, List.getElem?_cons_succ, List.set_cons_zero, List.set_cons_succ, dEq_N, dNe_N, dIn_N, dNotIn_N, dLt_N, dLe_N, dGt_N, dGe_N, dAdd_N, dIx_t0, dIx_t1, dIx_t2, dIx_l0, dIx_l1, dLen_l, dInt_b, dSortI_N, gd, List.length_cons, List.length_nil, Nat.zero_add, Nat.reduceAdd, Nat.reduceLeDiff, if_true, List.length_map, List.length_range], rfl⟩
      simp only [gDc, x_gV, x_gC, x_g1, x_g2, x_g3, x_gN, x_gCs, x_gL, x_gT, x_gCall, x_gAnd, x_gOr, x_gIf, x_iL, x_iT, x_tN, x_tgN, x_tgC, x_tTup, x_tUnl, x_gO0, x_gO, x_gSl, x_wipe0, x_wipe1, x_bind, x_map, x_join, List.getElem?_cons_zero, List.getElem?_cons_succ, List.set_cons_zero, List.set_cons_succ, dEq_N, dNe_N, dIn_N, dNotIn_N, dLt_N, dLe_N, dGt_N, dGe_N, dAdd_N, dIx_t0, dIx_t1, dIx_t2, dIx_l0, dIx_l1, dLen_l, dInt_b, dSortI_N, gd, List.length_cons, List.length_nil, Nat.zero_add, Nat.reduceAdd, Nat.reduceLeDiff, if_true, List.length_map, List.length_range]
      rw [show ([] : List (D × D)) = ([] : Rc).map eE from rfl]
      simp only [x_gV, x_gC, x_g1, x_g2, x_g3, x_gN, x_gCs, x_gL, x_gT, x_gCall, x_gAnd, x_gOr, x_gIf, x_iL, x_iT, x_tN, x_tgN, x_tgC, x_tTup, x_tUnl, x_gO0, x_gO, x_gSl, x_wipe0, x_wipe1, x_bind, x_map, x_join, List.getElem?_cons_zero, List.getElem?_cons_succ, List.set_cons_zero, List.set_cons_succ, dEq_N, dNe_N, dIn_N, dNotIn_N, dLt_N, dLe_N, dGt_N, dGe_N, dAdd_N, dIx_t0, dIx_t1, dIx_t2, dIx_l0, dIx_l1, dLen_l, dInt_b, dSortI_N, gd, List.length_cons, List.length_nil, Nat.zero_add, Nat.reduceAdd, Nat.reduceLeDiff, if_true, List.length_map, List.length_range] at this
      rw [this]
      simp only [Option.bind_some]
      rw [if_pos (by omega)]
      rfl
    refine wp_seq (wp_set (d := LN (keys (starts.map fun x => (x, none)))) (by simp only [x_gV, x_gC, x_g1, x_g2, x_g3, x_gN, x_gCs, x_gL, x_gT, x_gCall, x_gAnd, x_gOr, x_gIf, x_iL, x_iT, x_tN, x_tgN, x_tgC, x_tTup, x_tUnl, x_gO0, x_gO, x_gSl, x_wipe0, x_wipe1, x_bind, x_map, x_join, List.getElem?_cons_zero, List.getElem?_cons_succ, List.set_cons_zero, List.set_cons_succ, dEq_N, dNe_N, dIn_N, dNotIn_N, dLt_N, dLe_N, dGt_N, dGe_N, dAdd_N, dIx_t0, dIx_t1, dIx_t2, dIx_l0, dIx_l1, dLen_l, dInt_b, dSortI_N, gd, List.length_cons, List.length_nil, Nat.zero_add, Nat.reduceAdd, Nat.reduceLeDiff, if_true, List.length_map, List.length_range, hk0]; exact dLst_l (by simp; omega)) ?_)
    refine wp_seq (wp_set (d := N 0) rfl ?_)
    refine wp_seq (wp_while (fun m E => ∃ r a c d, E = [some (RUS n ts k), some (LL parts), some (LN starts), some (eR r), some (LN (keys r)), some (N a), c, d, none] ∧ Srch ts parts starts r a ∧ m = 1000 - a) 1000 (by decide) ⟨starts.map fun x => (x, none), 0, none, none, rfl, ?_, rfl⟩ ?_)
    · refine ⟨⟨by rw [hk0]; exact hs, fun y hy => ?_, fun y b p hy => ?_⟩, fun b _ h => absurd h (Nat.not_lt_zero _), fun y hy => ?_, fun y hy => List.mem_map.mpr ⟨y, hy, rfl⟩, fun y b p hy => ?_⟩
      · obtain ⟨z, h1, h2⟩ := List.mem_map.mp hy
        cases h2
        exact (hst _ h1).2
      · obtain ⟨z, h1, h2⟩ := List.mem_map.mp hy
        cases h2
      · rw [hk0] at hy; exact (hst y hy).1
      · obtain ⟨z, h1, h2⟩ := List.mem_map.mp hy
        cases h2
    · rintro m E ⟨r, a, c, d, rfl, S, rfl⟩
      have hrl := S.len
      have hm60 := hN.m
      refine ⟨decide (a < (keys r).length), by simp only [x_gV, x_gC, x_g1, x_g2, x_g3, x_gN, x_gCs, x_gL, x_gT, x_gCall, x_gAnd, x_gOr, x_gIf, x_iL, x_iT, x_tN, x_tgN, x_tgC, x_tTup, x_tUnl, x_gO0, x_gO, x_gSl, x_wipe0, x_wipe1, x_bind, x_map, x_join, List.getElem?_cons_zero, List.getElem?_cons_succ, List.set_cons_zero, List.set_cons_succ, dEq_N, dNe_N, dIn_N, dNotIn_N, dLt_N, dLe_N, dGt_N, dGe_N, dAdd_N, dIx_t0, dIx_t1, dIx_t2, dIx_l0, dIx_l1, dLen_l, dInt_b, dSortI_N, gd, List.length_cons, List.length_nil, Nat.zero_add, Nat.reduceAdd, Nat.reduceLeDiff, if_true, List.length_map, List.length_range, oF_N], fun hf => ?_, fun ht => ?_⟩
      · -- the end
        have hge : r.length ≤ a := by simpa [keys] using of_decide_eq_false hf
        exact wp_ret (d := .tuple [eR r, eO none]) (by simp only [x_gV, x_gC, x_g1, x_g2, x_g3, x_gN, x_gCs, x_gL, x_gT, x_gCall, x_gAnd, x_gOr, x_gIf, x_iL, x_iT, x_tN, x_tgN, x_tgC, x_tTup, x_tUnl, x_gO0, x_gO, x_gSl, x_wipe0, x_wipe1, x_bind, x_map, x_join, List.getElem?_cons_zero, List.getElem?_cons_succ, List.set_cons_zero, List.set_cons_succ, dEq_N, dNe_N, dIn_N, dNotIn_N, dLt_N, dLe_N, dGt_N, dGe_N, dAdd_N, dIx_t0, dIx_t1, dIx_t2, dIx_l0, dIx_l1, dLen_l, dInt_b, dSortI_N, gd, List.length_cons, List.length_nil, Nat.zero_add, Nat.reduceAdd, Nat.reduceLeDiff, if_true, List.length_map, List.length_range]; rfl) ⟨r, none, rfl, a, S, hge⟩
      · have hlt : a < (keys r).length := of_decide_eq_true ht
        have har : a < r.length := by simpa [keys] using hlt
        obtain ⟨x, hx⟩ : ∃ x, (keys r)[a]? = some x := ⟨_, List.getElem?_eq_getElem hlt⟩
        have hxk : x ∈ keys r := List.mem_of_getElem? hx
        have hxm := S.lt x hxk
        have hia := idx_at S.ok.nd hx
        have k1 : dIxL (.list ((keys r).map N)) (N a) = some (N x) := dIxL_some hx
        obtain ⟨o, q1, q2⟩ := r_part_that_takes hN hk hP hxm
        refine wp_seq (wp_if (t := o.isSome) (by simp only [x_gV, x_gC, x_g1, x_g2, x_g3, x_gN, x_gCs, x_gL, x_gT, x_gCall, x_gAnd, x_gOr, x_gIf, x_iL, x_iT, x_tN, x_tgN, x_tgC, x_tTup, x_tUnl, x_gO0, x_gO, x_gSl, x_wipe0, x_wipe1, x_bind, x_map, x_join, List.getElem?_cons_zero, List.getElem?_cons_succ, List.set_cons_zero, List.set_cons_succ, dEq_N, dNe_N, dIn_N, dNotIn_N, dLt_N, dLe_N, dGt_N, dGe_N, dAdd_N, dIx_t0, dIx_t1, dIx_t2, dIx_l0, dIx_l1, dLen_l, dInt_b, dSortI_N, gd, List.length_cons, List.length_nil, Nat.zero_add, Nat.reduceAdd, Nat.reduceLeDiff, if_true, List.length_map, List.length_range, k1, q1, dNotN_O]) (fun ho => ?_) fun ho => wp_nx ?_)
        · obtain ⟨p, rfl⟩ := Option.isSome_iff_exists.mp ho
          exact wp_ret (d := .tuple [eR r, N x]) (by simp only [x_gV, x_gC, x_g1, x_g2, x_g3, x_gN, x_gCs, x_gL, x_gT, x_gCall, x_gAnd, x_gOr, x_gIf, x_iL, x_iT, x_tN, x_tgN, x_tgC, x_tTup, x_tUnl, x_gO0, x_gO, x_gSl, x_wipe0, x_wipe1, x_bind, x_map, x_join, List.getElem?_cons_zero, List.getElem?_cons_succ, List.set_cons_zero, List.set_cons_succ, dEq_N, dNe_N, dIn_N, dNotIn_N, dLt_N, dLe_N, dGt_N, dGe_N, dAdd_N, dIx_t0, dIx_t1, dIx_t2, dIx_l0, dIx_l1, dLen_l, dInt_b, dSortI_N, gd, List.length_cons, List.length_nil, Nat.zero_add, Nat.reduceAdd, Nat.reduceLeDiff, if_true, List.length_map, List.length_range, k1]) ⟨r, some x, rfl, a, S, hxk, hia, p, q2⟩
        · have ho' : o = none := by cases o with
            | none => rfl
            | some p => cases ho
          subst ho'
          obtain ⟨L, q3, q4⟩ := r_steps_from hN hk hP hxm
          refine wp_seq (wp_for (e := TT) L (fun pre E => ∃ r' c d, E = [some (RUS n ts k), some (LL parts), some (LN starts), some (eR r'), some (LN (keys r')), some (N a), c, d, none] ∧ (∃ ex, r' = r ++ ex) ∧ RchOk (fun _ => gcl (ev ts)) parts r' ∧ (∀ y ∈ keys r', y < ts.length) ∧ (∀ y b p, (y, some (b, p)) ∈ r' → idx r' b ≤ a) ∧ ∀ y p, (y, p) ∈ pre → y ∈ keys r') (by simp only [x_gV, x_gC, x_g1, x_g2, x_g3, x_gN, x_gCs, x_gL, x_gT, x_gCall, x_gAnd, x_gOr, x_gIf, x_iL, x_iT, x_tN, x_tgN, x_tgC, x_tTup, x_tUnl, x_gO0, x_gO, x_gSl, x_wipe0, x_wipe1, x_bind, x_map, x_join, List.getElem?_cons_zero, List.getElem?_cons_succ, List.set_cons_zero, List.set_cons_succ, dEq_N, dNe_N, dIn_N, dNotIn_N, dLt_N, dLe_N, dGt_N, dGe_N, dAdd_N, dIx_t0, dIx_t1, dIx_t2, dIx_l0, dIx_l1, dLen_l, dInt_b, dSortI_N, gd, List.length_cons, List.length_nil, Nat.zero_add, Nat.reduceAdd, Nat.reduceLeDiff, if_true, List.length_map, List.length_range, k1, q3]) ⟨r, c, d, rfl, ⟨[], by simp⟩, S.ok, S.lt, fun y b p h => Nat.le_of_lt (S.par y b p h), fun y p h => by cases h⟩ ?_ ?_)
          · rintro pr ⟨y, p⟩ q E hp ⟨r', c', d', rfl, ⟨ex, rfl⟩, ok, lt, par, done'⟩
            have hmem : (y, p) ∈ L := by rw [hp]; simp
            have hst' := (q4 y p).mp hmem
            have hx' : (keys (r ++ ex))[a]? = some x := by rw [keys_app, List.getElem?_append_left hlt]; exact hx
            have k2 : dIxL (.list ((keys (r ++ ex)).map N)) (N a) = some (N x) := dIxL_some hx'
            have hxk' : x ∈ keys (r ++ ex) := List.mem_of_getElem? hx'
            have hidx := idx_at ok.nd hx'
            have hlen' : (r ++ ex).length ≤ 60 := by
              have := nodup_lt_len ok.nd lt
              simp only [keys, List.length_map] at this
              omega
            refine ⟨_, rfl, ?_⟩
            refine wp_if (t := decide (y ∉ keys (r ++ ex))) (by simp only [x_gV, x_gC, x_g1, x_g2, x_g3, x_gN, x_gCs, x_gL, x_gT, x_gCall, x_gAnd, x_gOr, x_gIf, x_iL, x_iT, x_tN, x_tgN, x_tgC, x_tTup, x_tUnl, x_gO0, x_gO, x_gSl, x_wipe0, x_wipe1, x_bind, x_map, x_join, List.getElem?_cons_zero, List.getElem?_cons_succ, List.set_cons_zero, List.set_cons_succ, dEq_N, dNe_N, dIn_N, dNotIn_N, dLt_N, dLe_N, dGt_N, dGe_N, dAdd_N, dIx_t0, dIx_t1, dIx_t2, dIx_l0, dIx_l1, dLen_l, dInt_b, dSortI_N, gd, List.length_cons, List.length_nil, Nat.zero_add, Nat.reduceAdd, Nat.reduceLeDiff, if_true, List.length_map, List.length_range]; exact dDNotIn_R ok.nd) (fun hy => ?_) fun hy => wp_nx ⟨r ++ ex, some (N y), some (N p), rfl, ⟨ex, rfl⟩, ok, lt, par, fun y' p' h => ?_⟩
            · have hy := of_decide_eq_true hy
              refine wp_seq (wp_put (r := r ++ ex) (y := y) (o := some (x, p)) (by simp only [x_gV, x_gC, x_g1, x_g2, x_g3, x_gN, x_gCs, x_gL, x_gT, x_gCall, x_gAnd, x_gOr, x_gIf, x_iL, x_iT, x_tN, x_tgN, x_tgC, x_tTup, x_tUnl, x_gO0, x_gO, x_gSl, x_wipe0, x_wipe1, x_bind, x_map, x_join, List.getElem?_cons_zero, List.getElem?_cons_succ, List.set_cons_zero, List.set_cons_succ, dEq_N, dNe_N, dIn_N, dNotIn_N, dLt_N, dLe_N, dGt_N, dGe_N, dAdd_N, dIx_t0, dIx_t1, dIx_t2, dIx_l0, dIx_l1, dLen_l, dInt_b, dSortI_N, gd, List.length_cons, List.length_nil, Nat.zero_add, Nat.reduceAdd, Nat.reduceLeDiff, if_true, List.length_map, List.length_range, k2]; rfl) rfl rfl hy (by omega) ?_)
              refine wp_lapp (f := N) (xs := keys (r ++ ex)) (x := y) rfl rfl (by simp only [keys, List.length_map]; omega) ⟨r ++ ex ++ [(y, some (x, p))], some (N y), some (N p), ?_, ⟨ex ++ [(y, some (x, p))], by simp⟩, rch_add ok hxk' hy hst', fun z hz => ?_, fun z b q' hz => ?_, fun z q' hz => ?_⟩
              · rw [show keys (r ++ ex ++ [(y, some (x, p))]) = keys (r ++ ex) ++ [y] from keys_app]
                rfl
              · rw [keys_app] at hz
                rcases List.mem_append.mp hz with hz | hz
                · exact lt z hz
                · simp [keys] at hz
                  subst hz
                  obtain ⟨P, e1, _, e3, _⟩ := hst'
                  exact hP.lt P (List.mem_of_getElem? e1) _ e3
              · rcases List.mem_append.mp hz with hz | hz
                · obtain ⟨_, _, _, _, h4, _⟩ := ok.en z b q' hz
                  rw [idx_app h4]
                  exact par z b q' hz
                · simp at hz
                  obtain ⟨rfl, rfl, rfl⟩ := hz
                  rw [idx_app hxk', hidx]
                  exact Nat.le_refl _
              · rw [keys_app]
                rcases List.mem_append.mp hz with hz | hz
                · exact List.mem_append_left _ (done' z q' hz)
                · simp at hz
                  simp [keys, hz.1]
            · rcases List.mem_append.mp h with h | h
              · exact done' y' p' h
              · simp at h
                rw [h.1]
                exact Decidable.not_not.mp (of_decide_eq_false hy)
          · rintro E ⟨r', c', d', rfl, ⟨ex, rfl⟩, ok, lt, par, done'⟩
            refine wp_set (d := N (a + 1)) (by simp only [x_gV, x_gC, x_g1, x_g2, x_g3, x_gN, x_gCs, x_gL, x_gT, x_gCall, x_gAnd, x_gOr, x_gIf, x_iL, x_iT, x_tN, x_tgN, x_tgC, x_tTup, x_tUnl, x_gO0, x_gO, x_gSl, x_wipe0, x_wipe1, x_bind, x_map, x_join, List.getElem?_cons_zero, List.getElem?_cons_succ, List.set_cons_zero, List.set_cons_succ, dEq_N, dNe_N, dIn_N, dNotIn_N, dLt_N, dLe_N, dGt_N, dGe_N, dAdd_N, dIx_t0, dIx_t1, dIx_t2, dIx_l0, dIx_l1, dLen_l, dInt_b, dSortI_N, gd, List.length_cons, List.length_nil, Nat.zero_add, Nat.reduceAdd, Nat.reduceLeDiff, if_true, List.length_map, List.length_range]; exact dAdd_N) ⟨1000 - (a + 1), by omega, r ++ ex, a + 1, c', d', rfl, ?_, rfl⟩
            have as0 : Asked (fun _ => gcl (ev ts)) parts (r ++ ex) a := asked_add S.asked (Nat.le_of_lt har) ok.nd fun y b p h => by
              obtain ⟨_, _, _, _, h4, _⟩ := S.ok.en y b p h
              exact h4
            refine ⟨ok, fun b hb hlt' p P hPp hbP => ?_, lt, fun y hy => List.mem_append_left _ (S.st y hy), fun y b p h => Nat.lt_succ_of_le (par y b p h)⟩
            by_cases hba : idx (r ++ ex) b < a
            · exact as0 b hb hba p P hPp hbP
            · have hba' : idx (r ++ ex) b = a := by omega
              have hbx : b = x := by
                have h1 : (keys (r ++ ex))[idx (r ++ ex) b]? = some b := by
                  have hlt2 : idx (r ++ ex) b < (keys (r ++ ex)).length := List.idxOf_lt_length_of_mem hb
                  rw [List.getElem?_eq_getElem hlt2]
                  exact congrArg some (List.getElem_idxOf hlt2)
                rw [hba'] at h1
                have hx' : (keys (r ++ ex))[a]? = some x := by rw [keys_app, List.getElem?_append_left hlt]; exact hx
                rw [hx'] at h1
                exact (Option.some.inj h1).symm
              subst hbx
              refine ⟨q2 p P hPp hbP, fun y hy hf => ?_⟩
              have hmem := (q4 y p).mpr ⟨P, hPp, hbP, hy, hf⟩
              obtain ⟨o, ho⟩ := mem_keys.mp (done' y p hmem)
              refine ⟨o, ho, ?_⟩
              cases o with
              | none => exact .inl rfl
              | some bp => exact .inr ⟨bp.1, bp.2, rfl, by rw [hba']; exact par y bp.1 bp.2 ho⟩
  obtain ⟨d, h1, r, o, rfl, h2⟩ := key
  exact ⟨r, o, h1, h2⟩
end K72

namespace K72
open PySem PySem.Spec PyProof.Rows L2 Pu Mt
variable {n : Nat} {ts : List (Nat × Nat)} {k : Nat} {parts : List (List Nat)}
theorem wp_setIx {Q : En → Prop} {R : D → Prop} {E : En} {gk g : Gx} {i p : Nat} {α : Type} {f : α → D} {xs : List α} {x : α} (h1 : gV i E = some (.list (xs.map f))) (h2 : gk E = some (N p)) (h3 : g E = some (f x)) (hp : p < xs.length) (h : Q (E.set i (some (.list ((xs.set p x).map f))))) : wp (sSetIx i gk g) Q R E := by
  unfold wp sSetIx
  rw [h1, h2, h3]
  dsimp only
  have : ixN (xs.map f).length (p : Int) = some p := by
    unfold ixN
    rw [if_pos (by omega), if_pos (by simpa using hp), Int.toNat_natCast]
  rw [this, x_map]
  dsimp only
  rw [List.map_set] at h
  exact h
theorem dNotN_B {o : Option (Nat × Nat)} : dNotN (eB o) .none = some (.bool o.isSome) := by cases o <;> rfl
structure Better (ts : List (Nat × Nat)) (k : Nat) (parts made : List (List Nat)) : Prop where
  ok : Parts ts k made
  ex : ∃ y, y ∉ parts.flatten ∧ y < ts.length ∧ made.flatten.Perm (y :: parts.flatten)
theorem r_changed_along (hN : Net n ts) (hk : k ≤ 1000) (hP : Parts ts k parts) {starts : List Nat} {r : Rc} {x : Nat} (hF : Found ts parts starts r (some x)) :
    ∃ made, g_changed_along [RUS n ts k, LL parts, eR r, N x] = some (LL made) ∧ Better ts k parts made := by
  obtain ⟨a, S, hxk, hxa, p0, hp0⟩ := hF.ex
  have hxm := S.lt x hxk
  have key : ∃ d, g_changed_along [RUS n ts k, LL parts, eR r, N x] = some d ∧ ∃ made, d = LL made ∧ Better ts k parts made := by
    refine fn_wp [some (RUS n ts k), some (LL parts), some (eR r), some (N x), none, none, none, none, none, none] rfl rfl ?_
    refine wp_seq (wp_set (d := LL parts) (v_lc rfl (lcL_all (f := LN) (e := LN) parts fun P hP' => ⟨_, rfl, rfl, by
      simp only [x_gV, x_gC, x_g1, x_g2, x_g3, x_gN, x_gCs, x_gL, x_gT, x_gCall, x_gAnd, x_gOr, x_gIf, x_iL, x_iT, x_tN, x_tgN, x_tgC, x_tTup, x_tUnl, x_gO0, x_gO, x_gSl, x_wipe0, x_wipe1, x_bind, x_map, x_join, List.getElem?_cons_zero, List.getElem?_cons_succ, List.set_cons_zero, List.set_cons_succ, dEq_N, dNe_N, dIn_N, dNotIn_N, dLt_N, dLe_N, dGt_N, dGe_N, dAdd_N, dIx_t0, dIx_t1, dIx_t2, dIx_l0, dIx_l1, dLen_l, dInt_b, dSortI_N, gd, List.length_cons, List.length_nil, Nat.zero_add, Nat.reduceAdd, Nat.reduceLeDiff, if_true, List.length_map, List.length_range]
      obtain ⟨p, hp⟩ := List.getElem?_of_mem hP'
      have := hP.small hN hp
      exact dLst_l (by rw [List.length_map]; omega)⟩) (by rw [List.length_map, hP.len]; omega)) ?_)
    obtain ⟨o, q1, q2⟩ := r_part_that_takes hN hk hP hxm
    obtain ⟨p, rfl⟩ : ∃ p, o = some p := by
      cases o with
      | some p => exact ⟨p, rfl⟩
      | none =>
        obtain ⟨P, e1, e2, e3⟩ := hp0
        exact absurd e3 (q2 p0 P e1 e2)
    obtain ⟨P, e1, e2, e3⟩ := q2
    have hpl := (List.getElem?_eq_some_iff.mp e1).1
    refine wp_seq (wp_set (d := N p) (by simp only [x_gV, x_gC, x_g1, x_g2, x_g3, x_gN, x_gCs, x_gL, x_gT, x_gCall, x_gAnd, x_gOr, x_gIf, x_iL, x_iT, x_tN, x_tgN, x_tgC, x_tTup, x_tUnl, x_gO0, x_gO, x_gSl, x_wipe0, x_wipe1, x_bind, x_map, x_join, List.getElem?_cons_zero, List.getElem?_cons_succ, List.set_cons_zero, List.set_cons_succ, dEq_N, dNe_N, dIn_N, dNotIn_N, dLt_N, dLe_N, dGt_N, dGe_N, dAdd_N, dIx_t0, dIx_t1, dIx_t2, dIx_l0, dIx_l1, dLen_l, dInt_b, dSortI_N, gd, List.length_cons, List.length_nil, Nat.zero_add, Nat.reduceAdd, Nat.reduceLeDiff, if_true, List.length_map, List.length_range, q1]; rfl) ?_)
    have k1 : dIxL (.list (parts.map LN)) (N p) = some (LN P) := dIxL_some e1
    have hsm := hP.small hN e1
    refine wp_seq (wp_setIx (f := LN) (xs := parts) (x := sortN (P ++ [x])) (p := p) rfl rfl (by simp only [x_gV, x_gC, x_g1, x_g2, x_g3, x_gN, x_gCs, x_gL, x_gT, x_gCall, x_gAnd, x_gOr, x_gIf, x_iL, x_iT, x_tN, x_tgN, x_tgC, x_tTup, x_tUnl, x_gO0, x_gO, x_gSl, x_wipe0, x_wipe1, x_bind, x_map, x_join, List.getElem?_cons_zero, List.getElem?_cons_succ, List.set_cons_zero, List.set_cons_succ, dEq_N, dNe_N, dIn_N, dNotIn_N, dLt_N, dLe_N, dGt_N, dGe_N, dAdd_N, dIx_t0, dIx_t1, dIx_t2, dIx_l0, dIx_l1, dLen_l, dInt_b, dSortI_N, gd, List.length_cons, List.length_nil, Nat.zero_add, Nat.reduceAdd, Nat.reduceLeDiff, if_true, List.length_map, List.length_range, k1, r_with_thing (l := P) (x := x) (by omega)]) hpl ?_)
    refine wp_seq (wp_set (d := N x) rfl ?_)
    have frees : ∀ (p : Nat) (P : List Nat), parts[p]? = some P → FreeL ((fun _ => gcl (ev ts)) p) P := hP.free
    refine wp_seq (wp_while (fun m E => ∃ made thing don c d, E = [some (RUS n ts k), some (LL parts), some (eR r), some (N x), some (LL made), some (N p), some (N thing), c, d, none] ∧ Chg (fun _ => gcl (ev ts)) parts r a made thing don ∧ (∀ M ∈ made, M.Pairwise (· ≤ ·)) ∧ m = idx r thing) (idx r x) (show idx r x < fuel by
        have h1 := idx_lt hxk
        have h2 := S.len
        have h3 := hN.m
        unfold fuel
        omega) ⟨parts.set p (sortN (P ++ [x])), x, [], none, none, rfl, Chg.start frees hxk (by omega) e1 e2 e3 (sortN_perm _), fun M hM => ?_, rfl⟩ ?_)
    · rcases List.mem_or_eq_of_mem_set hM with h | h
      · exact hP.sort M h
      · rw [h]; exact sortN_sorted _
    · rintro m E ⟨made, thing, don, c, d, rfl, C, hsort, rfl⟩
      obtain ⟨o, ho⟩ := mem_keys.mp C.key
      have k2 : dDIx (.dict (r.map eE)) (N thing) = some (eB o) := dDIx_R S.ok.nd ho
      refine ⟨o.isSome, by simp only [x_gV, x_gC, x_g1, x_g2, x_g3, x_gN, x_gCs, x_gL, x_gT, x_gCall, x_gAnd, x_gOr, x_gIf, x_iL, x_iT, x_tN, x_tgN, x_tgC, x_tTup, x_tUnl, x_gO0, x_gO, x_gSl, x_wipe0, x_wipe1, x_bind, x_map, x_join, List.getElem?_cons_zero, List.getElem?_cons_succ, List.set_cons_zero, List.set_cons_succ, dEq_N, dNe_N, dIn_N, dNotIn_N, dLt_N, dLe_N, dGt_N, dGe_N, dAdd_N, dIx_t0, dIx_t1, dIx_t2, dIx_l0, dIx_l1, dLen_l, dInt_b, dSortI_N, gd, List.length_cons, List.length_nil, Nat.zero_add, Nat.reduceAdd, Nat.reduceLeDiff, if_true, List.length_map, List.length_range, k2, dNotN_B], fun hf => ?_, fun ht => ?_⟩
      · have : o = none := by cases o with
          | none => rfl
          | some _ => cases hf
        subst this
        have hst := S.ok.st thing ho
        refine wp_ret (d := LL made) rfl ⟨made, rfl, ⟨by rw [C.len, hP.len], C.free, fun M hM y hy => ?_, hsort⟩, thing, hst, S.lt thing C.key, C.perm⟩
        have := C.perm.mem_iff.mp (List.mem_flatten.mpr ⟨M, hM, hy⟩)
        rcases List.mem_cons.mp this with h | h
        · rw [h]; exact S.lt thing C.key
        · obtain ⟨P', h1, h2⟩ := List.mem_flatten.mp h
          exact hP.lt P' h1 y h2
      · obtain ⟨⟨b, q⟩, rfl⟩ := Option.isSome_iff_exists.mp ht
        obtain ⟨hlt, M, hM, tM, bM, nxt⟩ := C.step frees S.ok S.asked ho
        have hql : q < made.length := (List.getElem?_eq_some_iff.mp hM).1
        have k3 : dIxL (.list (made.map LN)) (N q) = some (LN M) := dIxL_some hM
        have hMl : M.length ≤ 60 := by
          have h1 := (C.free q M hM).1
          have h2 := nodup_lt_len h1 (m := ts.length) fun y hy => by
            have := C.perm.mem_iff.mp (List.mem_flatten.mpr ⟨M, List.mem_of_getElem? hM, hy⟩)
            rcases List.mem_cons.mp this with h | h
            · rw [h]; exact S.lt thing C.key
            · obtain ⟨P', h1, h2⟩ := List.mem_flatten.mp h
              exact hP.lt P' h1 y h2
          have := hN.m
          omega
        refine wp_seq (wp_asg (d := TT (b, q)) (by simp only [x_gV, x_gC, x_g1, x_g2, x_g3, x_gN, x_gCs, x_gL, x_gT, x_gCall, x_gAnd, x_gOr, x_gIf, x_iL, x_iT, x_tN, x_tgN, x_tgC, x_tTup, x_tUnl, x_gO0, x_gO, x_gSl, x_wipe0, x_wipe1, x_bind, x_map, x_join, List.getElem?_cons_zero, List.getElem?_cons_succ, List.set_cons_zero, List.set_cons_succ, dEq_N, dNe_N, dIn_N, dNotIn_N, dLt_N, dLe_N, dGt_N, dGe_N, dAdd_N, dIx_t0, dIx_t1, dIx_t2, dIx_l0, dIx_l1, dLen_l, dInt_b, dSortI_N, gd, List.length_cons, List.length_nil, Nat.zero_add, Nat.reduceAdd, Nat.reduceLeDiff, if_true, List.length_map, List.length_range, k2]; rfl) rfl ?_)
        refine wp_seq (wp_setIx (f := LN) (xs := made) (x := sortN (M.filter (· ≠ thing) ++ [b])) (p := q) rfl rfl (by simp only [x_gV, x_gC, x_g1, x_g2, x_g3, x_gN, x_gCs, x_gL, x_gT, x_gCall, x_gAnd, x_gOr, x_gIf, x_iL, x_iT, x_tN, x_tgN, x_tgC, x_tTup, x_tUnl, x_gO0, x_gO, x_gSl, x_wipe0, x_wipe1, x_bind, x_map, x_join, List.getElem?_cons_zero, List.getElem?_cons_succ, List.set_cons_zero, List.set_cons_succ, dEq_N, dNe_N, dIn_N, dNotIn_N, dLt_N, dLe_N, dGt_N, dGe_N, dAdd_N, dIx_t0, dIx_t1, dIx_t2, dIx_l0, dIx_l1, dLen_l, dInt_b, dSortI_N, gd, List.length_cons, List.length_nil, Nat.zero_add, Nat.reduceAdd, Nat.reduceLeDiff, if_true, List.length_map, List.length_range, k3, r_exchanged (l := M) (x := b) (y := thing) (by omega)]) hql ?_)
        refine wp_set (d := N b) rfl ⟨idx r b, hlt, made.set q (sortN (M.filter (· ≠ thing) ++ [b])), b, thing :: don, some (N b), some (N q), rfl, nxt _ (sortN_perm _), fun M' hM' => ?_, rfl⟩
        rcases List.mem_or_eq_of_mem_set hM' with h | h
        · exact hsort M' h
        · rw [h]; exact sortN_sorted _
  obtain ⟨d, h1, made, rfl, h2⟩ := key
  exact ⟨made, h1, h2⟩
end K72

namespace K72
open PySem PySem.Spec PyProof.Rows L2 Pu Mt
variable {n : Nat} {ts : List (Nat × Nat)} {k : Nat} {parts : List (List Nat)}
theorem keysI_R : ∀ r : Rc, keysI (r.map eE) = some ((keys r).map cI)
  | [] => rfl
  | e :: r => by
    show (keysI (r.map eE)).map _ = _
    rw [keysI_R r]
    rfl
theorem dSortK_R {r : Rc} (h : r.length < 64) : dSortK [.dict (r.map eE)] = some (LN (sortN (keys r))) := by
  have h2 : ((keys r).map cI).length < 64 := by simpa [keys] using h
  show (keysI (r.map eE)).bind _ = _
  rw [keysI_R]
  simp only [Option.bind_some]
  rw [if_pos h2, sortI_N, LN, map_N]
/-- the greatest parts, and the lot where the search ended -/
structure Great (ts : List (Nat × Nat)) (k : Nat) (parts : List (List Nat)) (lot : List Nat) : Prop where
  ok : Parts ts k parts
  nd : parts.flatten.Nodup
  lnd : lot.Nodup
  lt : ∀ x ∈ lot, x < ts.length
  out : ∀ x, x < ts.length → x ∉ parts.flatten → x ∈ lot
  h1 : ∀ F, F ∈ parts → ∀ x, x ∈ lot → x ∉ F → ¬ Free (gcl (ev ts)) (fun y => y ∈ F ∨ y = x)
  h2 : ∀ F, F ∈ parts → ∀ x, x ∈ lot → x ∉ F → ∀ y, y ∈ F → Free (gcl (ev ts)) (fun w => (w ∈ F ∧ w ≠ y) ∨ w = x) → y ∈ lot
theorem flat_lt (hP : Parts ts k parts) : ∀ y ∈ parts.flatten, y < ts.length := fun y hy => by
  obtain ⟨P, h1, h2⟩ := List.mem_flatten.mp hy
  exact hP.lt P h1 y h2
theorem r_search_out (hN : Net n ts) (hk : k ≤ 1000) (hP : Parts ts k parts) (hd : parts.flatten.Nodup) :
    g_outside_of [N ts.length, LL parts] = some (LN ((List.range ts.length).filter (· ∉ parts.flatten))) ∧ ∃ r o, g_searched [RUS n ts k, LL parts, LN ((List.range ts.length).filter (· ∉ parts.flatten))] = some (.tuple [eR r, eO o]) ∧ Found ts parts ((List.range ts.length).filter (· ∉ parts.flatten)) r o := by
  have hm := hN.m
  refine ⟨r_outside_of (by omega) (by have := nodup_lt_len hd (flat_lt hP); omega), r_searched hN hk hP (List.nodup_range.sublist List.filter_sublist) fun y hy => ?_⟩
  have := List.mem_filter.mp hy
  exact ⟨List.mem_range.mp this.1, by simpa using this.2⟩
theorem r_greatest_parts (hN : Net n ts) (hk : k ≤ 1000) (hk1 : 0 < k) : ∃ parts lot, g_greatest_parts [RUS n ts k] = some (.tuple [LL parts, LN lot]) ∧ Great ts k parts lot := by
  have key : ∃ d, g_greatest_parts [RUS n ts k] = some d ∧ ∃ parts lot, d = .tuple [LL parts, LN lot] ∧ Great ts k parts lot := by
    refine fn_wp [some (RUS n ts k), none, none, none, none, none] rfl rfl ?_
    have k1 : dIx (RUS n ts k) (N 0) = some (RU n ts) := dIx_some (f := fun _ => RU n ts) (x := 0) (by simp [hk1])
    have k1' : dIx (RUS n ts k) (.int 0) = some (RU n ts) := k1
    refine wp_seq (wp_set (d := N ts.length) (by simp only [x_gV, x_gC, x_g1, x_g2, x_g3, x_gN, x_gCs, x_gL, x_gT, x_gCall, x_gAnd, x_gOr, x_gIf, x_iL, x_iT, x_tN, x_tgN, x_tgC, x_tTup, x_tUnl, x_gO0, x_gO, x_gSl, x_wipe0, x_wipe1, x_bind, x_map, x_join, List.getElem?_cons_zero, List.getElem?_cons_succ, List.set_cons_zero, List.set_cons_succ, dEq_N, dNe_N, dIn_N, dNotIn_N, dLt_N, dLe_N, dGt_N, dGe_N, dAdd_N, dIx_t0, dIx_t1, dIx_t2, dIx_l0, dIx_l1, dLen_l, dInt_b, dSortI_N, gd, List.length_cons, List.length_nil, Nat.zero_add, Nat.reduceAdd, Nat.reduceLeDiff, if_true, List.length_map, List.length_range, k1', r_count_of]) ?_)
    refine wp_seq (wp_set (d := LL (List.replicate k [])) ((v_lc rfl (lcL_all (f := fun _ => LN []) (e := fun _ => RU n ts) (List.range k) fun P hP' => ⟨_, rfl, rfl, rfl⟩) (by rw [List.length_map, List.length_range]; omega)).trans (by
      simp only [LL, List.map_replicate]
      rw [List.map_const']
      simp)) ?_)
    have hP0 : Parts ts k (List.replicate k []) := ⟨by simp, fun p P h => by
      have := List.mem_of_getElem? h
      rw [(List.mem_replicate.mp this).2]
      exact freeL_nil, fun P h x hx => (by rw [(List.mem_replicate.mp h).2] at hx; exact absurd hx List.not_mem_nil), fun P h => (by rw [(List.mem_replicate.mp h).2]; exact .nil)⟩
    have hd0 : (List.replicate k ([] : List Nat)).flatten.Nodup := by simp
    obtain ⟨o1, r, o, o2, o3⟩ := r_search_out hN hk hP0 hd0
    refine wp_seq (wp_asg (d := .tuple [eR r, eO o]) (by simp only [x_gV, x_gC, x_g1, x_g2, x_g3, x_gN, x_gCs, x_gL, x_gT, x_gCall, x_gAnd, x_gOr, x_gIf, x_iL, x_iT, x_tN, x_tgN, x_tgC, x_tTup, x_tUnl, x_gO0, x_gO, x_gSl, x_wipe0, x_wipe1, x_bind, x_map, x_join, List.getElem?_cons_zero, List.getElem?_cons_succ, List.set_cons_zero, List.set_cons_succ, dEq_N, dNe_N, dIn_N, dNotIn_N, dLt_N, dLe_N, dGt_N, dGe_N, dAdd_N, dIx_t0, dIx_t1, dIx_t2, dIx_l0, dIx_l1, dLen_l, dInt_b, dSortI_N, gd, List.length_cons, List.length_nil, Nat.zero_add, Nat.reduceAdd, Nat.reduceLeDiff, if_true, List.length_map, List.length_range, o1, o2]) rfl ?_)
    refine wp_seq (wp_while (fun m E => ∃ parts r o c, E = [some (RUS n ts k), some (N ts.length), some (LL parts), some (eR r), some (eO o), c] ∧ Parts ts k parts ∧ parts.flatten.Nodup ∧ Found ts parts ((List.range ts.length).filter (· ∉ parts.flatten)) r o ∧ m = 100 - parts.flatten.length) 100 (show 100 < fuel by unfold fuel; omega) ⟨_, r, o, none, rfl, hP0, hd0, o3, by simp⟩ ?_)
    rintro m E ⟨parts, r, o, c, rfl, hP, hd, hF, rfl⟩
    refine ⟨o.isSome, by simp only [x_gV, x_gC, x_g1, x_g2, x_g3, x_gN, x_gCs, x_gL, x_gT, x_gCall, x_gAnd, x_gOr, x_gIf, x_iL, x_iT, x_tN, x_tgN, x_tgC, x_tTup, x_tUnl, x_gO0, x_gO, x_gSl, x_wipe0, x_wipe1, x_bind, x_map, x_join, List.getElem?_cons_zero, List.getElem?_cons_succ, List.set_cons_zero, List.set_cons_succ, dEq_N, dNe_N, dIn_N, dNotIn_N, dLt_N, dLe_N, dGt_N, dGe_N, dAdd_N, dIx_t0, dIx_t1, dIx_t2, dIx_l0, dIx_l1, dLen_l, dInt_b, dSortI_N, gd, List.length_cons, List.length_nil, Nat.zero_add, Nat.reduceAdd, Nat.reduceLeDiff, if_true, List.length_map, List.length_range, dNotN_O], fun hf => ?_, fun ht => ?_⟩
    · have : o = none := by cases o with
        | none => rfl
        | some _ => cases hf
      subst this
      obtain ⟨a, S, hla⟩ := hF.ex
      have hlen := S.len
      have hm := hN.m
      refine wp_ret (d := .tuple [LL parts, LN (sortN (keys r))]) (by simp only [x_gV, x_gC, x_g1, x_g2, x_g3, x_gN, x_gCs, x_gL, x_gT, x_gCall, x_gAnd, x_gOr, x_gIf, x_iL, x_iT, x_tN, x_tgN, x_tgC, x_tTup, x_tUnl, x_gO0, x_gO, x_gSl, x_wipe0, x_wipe1, x_bind, x_map, x_join, List.getElem?_cons_zero, List.getElem?_cons_succ, List.set_cons_zero, List.set_cons_succ, dEq_N, dNe_N, dIn_N, dNotIn_N, dLt_N, dLe_N, dGt_N, dGe_N, dAdd_N, dIx_t0, dIx_t1, dIx_t2, dIx_l0, dIx_l1, dLen_l, dInt_b, dSortI_N, gd, List.length_cons, List.length_nil, Nat.zero_add, Nat.reduceAdd, Nat.reduceLeDiff, if_true, List.length_map, List.length_range, dSortK_R (r := r) (by omega)]) ⟨parts, sortN (keys r), rfl, hP, hd, (sortN_perm _).symm.nodup S.ok.nd, fun x hx => S.lt x ((sortN_perm _).mem_iff.mp hx), fun x hx hxo => ?_, fun F hFm x hx hxF => ?_, fun F hFm x hx hxF y hy hf => ?_⟩
      · refine (sortN_perm _).mem_iff.mpr (mem_keys.mpr ⟨none, S.st x (List.mem_filter.mpr ⟨List.mem_range.mpr hx, by simpa using hxo⟩)⟩)
      · obtain ⟨p, hp⟩ := List.getElem?_of_mem hFm
        have hxk := (sortN_perm _).mem_iff.mp hx
        exact (S.asked x hxk (Nat.lt_of_lt_of_le (idx_lt hxk) hla) p F hp hxF).1
      · obtain ⟨p, hp⟩ := List.getElem?_of_mem hFm
        have hxk := (sortN_perm _).mem_iff.mp hx
        obtain ⟨o, ho, _⟩ := (S.asked x hxk (Nat.lt_of_lt_of_le (idx_lt hxk) hla) p F hp hxF).2 y hy hf
        exact (sortN_perm _).mem_iff.mpr (mem_keys.mpr ⟨o, ho⟩)
    · obtain ⟨x, rfl⟩ := Option.isSome_iff_exists.mp ht
      obtain ⟨made, c1, ⟨okM, y, y1, y2, y3⟩⟩ := r_changed_along hN hk hP hF
      have hdM : made.flatten.Nodup := y3.symm.nodup (List.nodup_cons.mpr ⟨y1, hd⟩)
      obtain ⟨o1, r', o', o2, o3⟩ := r_search_out hN hk okM hdM
      refine wp_seq (wp_set (d := LL made) (by simp only [x_gV, x_gC, x_g1, x_g2, x_g3, x_gN, x_gCs, x_gL, x_gT, x_gCall, x_gAnd, x_gOr, x_gIf, x_iL, x_iT, x_tN, x_tgN, x_tgC, x_tTup, x_tUnl, x_gO0, x_gO, x_gSl, x_wipe0, x_wipe1, x_bind, x_map, x_join, List.getElem?_cons_zero, List.getElem?_cons_succ, List.set_cons_zero, List.set_cons_succ, dEq_N, dNe_N, dIn_N, dNotIn_N, dLt_N, dLe_N, dGt_N, dGe_N, dAdd_N, dIx_t0, dIx_t1, dIx_t2, dIx_l0, dIx_l1, dLen_l, dInt_b, dSortI_N, gd, List.length_cons, List.length_nil, Nat.zero_add, Nat.reduceAdd, Nat.reduceLeDiff, if_true, List.length_map, List.length_range]; exact c1) ?_)
      refine wp_asg (d := .tuple [eR r', eO o']) (by simp only [x_gV, x_gC, x_g1, x_g2, x_g3, x_gN, x_gCs, x_gL, x_gT, x_gCall, x_gAnd, x_gOr, x_gIf, x_iL, x_iT, x_tN, x_tgN, x_tgC, x_tTup, x_tUnl, x_gO0, x_gO, x_gSl, x_wipe0, x_wipe1, x_bind, x_map, x_join, List.getElem?_cons_zero, List.getElem?_cons_succ, List.set_cons_zero, List.set_cons_succ, dEq_N, dNe_N, dIn_N, dNotIn_N, dLt_N, dLe_N, dGt_N, dGe_N, dAdd_N, dIx_t0, dIx_t1, dIx_t2, dIx_l0, dIx_l1, dLen_l, dInt_b, dSortI_N, gd, List.length_cons, List.length_nil, Nat.zero_add, Nat.reduceAdd, Nat.reduceLeDiff, if_true, List.length_map, List.length_range, o1, o2]) rfl ⟨100 - made.flatten.length, ?_, made, r', o', c, rfl, okM, hdM, o3, rfl⟩
      have h1 := y3.length_eq
      have h2 := nodup_lt_len hdM (flat_lt okM)
      have hm := hN.m
      simp only [List.length_cons] at h1
      omega
  obtain ⟨d, h1, parts, lot, rfl, h2⟩ := key
  exact ⟨parts, lot, h1, h2⟩
end K72

namespace K72
open PySem PySem.Spec PyProof.Rows L2 Pu Mt
variable {n : Nat} {ts : List (Nat × Nat)} {k : Nat} {parts : List (List Nat)}
theorem r_net_rules (hN : Net n ts) (hk : k ≤ 1000) : g_net_rules [N n, LTs ts, N k] = some (RUS n ts k) := by
  refine fn_ret [some (N n), some (LTs ts), some (N k), none] rfl rfl ?_
  have hm := hN.m
  have h1 : dLst [.list (ts.map TT)] = some (LTs ts) := dLst_l (by rw [List.length_map]; omega)
  exact v_lc (xs := (List.range k).map N) (iR1_N rfl (Nat.lt_of_le_of_lt hk (by decide))) (lcL_all (f := fun _ => RU n ts) (e := N) (List.range k) fun p hp => ⟨_, rfl, rfl, by simp only [x_gV, x_gC, x_g1, x_g2, x_g3, x_gN, x_gCs, x_gL, x_gT, x_gCall, x_gAnd, x_gOr, x_gIf, x_iL, x_iT, x_tN, x_tgN, x_tgC, x_tTup, x_tUnl, x_gO0, x_gO, x_gSl, x_wipe0, x_wipe1, x_bind, x_map, x_join, List.getElem?_cons_zero, List.getElem?_cons_succ, List.set_cons_zero, List.set_cons_succ, dEq_N, dNe_N, dIn_N, dNotIn_N, dLt_N, dLe_N, dGt_N, dGe_N, dAdd_N, dIx_t0, dIx_t1, dIx_t2, dIx_l0, dIx_l1, dLen_l, dInt_b, dSortI_N, gd, List.length_cons, List.length_nil, Nat.zero_add, Nat.reduceAdd, Nat.reduceLeDiff, if_true, List.length_map, List.length_range, h1]⟩) (by rw [List.length_map, List.length_range]; omega)
theorem r_number_held (hk : parts.length ≤ 1000) : g_number_held [LL parts] = some (N parts.flatten.length) := by
  refine fn_ret [some (LL parts), none] rfl rfl ?_
  have h1 : gLc [1] (tN 1) (iL (gV 0)) (gC (.bool true)) (gCall dLen (gCs (gV 1) gN)) [some (LL parts), none] = some (LN (parts.map List.length)) :=
    (v_lc rfl (lcL_all (f := fun P => N P.length) (e := LN) parts fun p hp => ⟨_, rfl, rfl, by simp only [x_gV, x_gC, x_g1, x_g2, x_g3, x_gN, x_gCs, x_gL, x_gT, x_gCall, x_gAnd, x_gOr, x_gIf, x_iL, x_iT, x_tN, x_tgN, x_tgC, x_tTup, x_tUnl, x_gO0, x_gO, x_gSl, x_wipe0, x_wipe1, x_bind, x_map, x_join, List.getElem?_cons_zero, List.getElem?_cons_succ, List.set_cons_zero, List.set_cons_succ, dEq_N, dNe_N, dIn_N, dNotIn_N, dLt_N, dLe_N, dGt_N, dGe_N, dAdd_N, dIx_t0, dIx_t1, dIx_t2, dIx_l0, dIx_l1, dLen_l, dInt_b, dSortI_N, gd, List.length_cons, List.length_nil, Nat.zero_add, Nat.reduceAdd, Nat.reduceLeDiff, if_true, List.length_map, List.length_range]⟩) (by rw [List.length_map]; omega)).trans (by simp [Function.comp_def])
  have h2 : dSum [.list ((parts.map List.length).map N)] = some (N parts.flatten.length) := by
    rw [dSum, dInts_N]
    have : ∀ l : List Nat, (l.map cI).sum = ((l.sum : Nat) : Int) := fun l => by
      induction l with
      | nil => rfl
      | cons x l ih => rw [List.map_cons, List.sum_cons, ih, List.sum_cons]; simp
    rw [this, List.length_flatten]
  simp only [x_gCall, x_gCs, h1, x_gV, x_gC, x_g1, x_g2, x_g3, x_gN, x_gCs, x_gL, x_gT, x_gCall, x_gAnd, x_gOr, x_gIf, x_iL, x_iT, x_tN, x_tgN, x_tgC, x_tTup, x_tUnl, x_gO0, x_gO, x_gSl, x_wipe0, x_wipe1, x_bind, x_map, x_join, List.getElem?_cons_zero, List.getElem?_cons_succ, List.set_cons_zero, List.set_cons_succ, dEq_N, dNe_N, dIn_N, dNotIn_N, dLt_N, dLe_N, dGt_N, dGe_N, dAdd_N, dIx_t0, dIx_t1, dIx_t2, dIx_l0, dIx_l1, dLen_l, dInt_b, dSortI_N, gd, List.length_cons, List.length_nil, Nat.zero_add, Nat.reduceAdd, Nat.reduceLeDiff, if_true, List.length_map, List.length_range, h2]
theorem r_chosen_ties {lot : List Nat} (hl : lot.length ≤ 1000) (hx : ∀ x ∈ lot, x < ts.length) : g_chosen_ties [LTs ts, LN lot] = some (.list (lot.map fun x => TT (ev ts x))) := by
  refine fn_ret [some (LTs ts), some (LN lot), none] rfl rfl ?_
  exact v_lc rfl (lcL_all (f := fun x => TT (ev ts x)) (e := N) lot fun p hp => ⟨_, rfl, rfl, by
    simp only [x_gV, x_gC, x_g1, x_g2, x_g3, x_gN, x_gCs, x_gL, x_gT, x_gCall, x_gAnd, x_gOr, x_gIf, x_iL, x_iT, x_tN, x_tgN, x_tgC, x_tTup, x_tUnl, x_gO0, x_gO, x_gSl, x_wipe0, x_wipe1, x_bind, x_map, x_join, List.getElem?_cons_zero, List.getElem?_cons_succ, List.set_cons_zero, List.set_cons_succ, dEq_N, dNe_N, dIn_N, dNotIn_N, dLt_N, dLe_N, dGt_N, dGe_N, dAdd_N, dIx_t0, dIx_t1, dIx_t2, dIx_l0, dIx_l1, dLen_l, dInt_b, dSortI_N, gd, List.length_cons, List.length_nil, Nat.zero_add, Nat.reduceAdd, Nat.reduceLeDiff, if_true, List.length_map, List.length_range]
    exact dIx_some (f := TT) (ev_get (hx p hp))⟩) (by rw [List.length_map]; omega)
theorem x_sAnd (a b : Bool) {x : Option D} (h : a = true → x = some (.bool b)) : (match some (PyData.bool a) with | some (.bool true) => x | some (.bool false) => some (.bool false) | _ => none) = some (.bool (a && b)) := by
  cases a
  · rfl
  · exact h rfl
/-- ties of the chosen within places: their number -/
theorem r_ties_within {α : Type} {e : α → Nat × Nat} {lot : List α} {ps : List Nat} (hl : lot.length ≤ 1000) : ∃ l : List Nat, g_ties_within [.list (lot.map fun x => TT (e x)), LN ps] = some (LN l) ∧ l.length = (lot.filter fun x => inP ps (e x)).length := by
  refine ⟨(List.range lot.length).filter fun i => match lot[i]? with | some x => inP ps (e x) | none => false, ?_, ?_⟩
  · refine fn_ret [some (.list (lot.map fun x => TT (e x))), some (LN ps), none] rfl rfl ?_
    refine v_lc (xs := (List.range lot.length).map N) (iR1_N (by simp only [x_gV, x_gC, x_g1, x_g2, x_g3, x_gN, x_gCs, x_gL, x_gT, x_gCall, x_gAnd, x_gOr, x_gIf, x_iL, x_iT, x_tN, x_tgN, x_tgC, x_tTup, x_tUnl, x_gO0, x_gO, x_gSl, x_wipe0, x_wipe1, x_bind, x_map, x_join, List.getElem?_cons_zero, List.getElem?_cons_succ, List.set_cons_zero, List.set_cons_succ, dEq_N, dNe_N, dIn_N, dNotIn_N, dLt_N, dLe_N, dGt_N, dGe_N, dAdd_N, dIx_t0, dIx_t1, dIx_t2, dIx_l0, dIx_l1, dLen_l, dInt_b, dSortI_N, gd, List.length_cons, List.length_nil, Nat.zero_add, Nat.reduceAdd, Nat.reduceLeDiff, if_true, List.length_map, List.length_range]) (Nat.lt_of_le_of_lt hl (by decide))) (lcL_map (f := N) (e := N) (p := fun i => match lot[i]? with | some x => inP ps (e x) | none => false) (List.range lot.length) fun i hi => ⟨_, rfl, ?_, fun _ => by simp only [x_gV, x_gC, x_g1, x_g2, x_g3, x_gN, x_gCs, x_gL, x_gT, x_gCall, x_gAnd, x_gOr, x_gIf, x_iL, x_iT, x_tN, x_tgN, x_tgC, x_tTup, x_tUnl, x_gO0, x_gO, x_gSl, x_wipe0, x_wipe1, x_bind, x_map, x_join, List.getElem?_cons_zero, List.getElem?_cons_succ, List.set_cons_zero, List.set_cons_succ, dEq_N, dNe_N, dIn_N, dNotIn_N, dLt_N, dLe_N, dGt_N, dGe_N, dAdd_N, dIx_t0, dIx_t1, dIx_t2, dIx_l0, dIx_l1, dLen_l, dInt_b, dSortI_N, gd, List.length_cons, List.length_nil, Nat.zero_add, Nat.reduceAdd, Nat.reduceLeDiff, if_true, List.length_map, List.length_range]⟩) (by rw [List.length_map, List.length_range]; omega)
    have hi' := List.mem_range.mp hi
    have k1 : dIx (.list (lot.map fun x => TT (e x))) (N i) = some (TT (e lot[i])) := dIx_some (f := fun x => TT (e x)) (List.getElem?_eq_getElem hi')
    rw [List.getElem?_eq_getElem hi']
    simp only [x_gV, x_gC, x_g1, x_g2, x_g3, x_gN, x_gCs, x_gL, x_gT, x_gCall, x_gAnd, x_gOr, x_gIf, x_iL, x_iT, x_tN, x_tgN, x_tgC, x_tTup, x_tUnl, x_gO0, x_gO, x_gSl, x_wipe0, x_wipe1, x_bind, x_map, x_join, List.getElem?_cons_zero, List.getElem?_cons_succ, List.set_cons_zero, List.set_cons_succ, dEq_N, dNe_N, dIn_N, dNotIn_N, dLt_N, dLe_N, dGt_N, dGe_N, dAdd_N, dIx_t0, dIx_t1, dIx_t2, dIx_l0, dIx_l1, dLen_l, dInt_b, dSortI_N, gd, List.length_cons, List.length_nil, Nat.zero_add, Nat.reduceAdd, Nat.reduceLeDiff, if_true, List.length_map, List.length_range, k1]
    exact x_sAnd _ _ fun _ => rfl
  · clear hl
    induction lot with
    | nil => rfl
    | cons x lot ih =>
      rw [List.length_cons, List.range_succ_eq_map, List.filter_cons, List.filter_cons, List.filter_map]
      simp only [List.getElem?_cons_zero]
      have : ((List.range lot.length).filter ((fun i => match (x :: lot)[i]? with | some x => inP ps (e x) | none => false) ∘ Nat.succ)).length = (lot.filter fun x => inP ps (e x)).length := by
        rw [← ih]
        congr 1
      split <;> simp [this]
/-- names with one put for another -/
theorem r_renamed {l : List Nat} {a b : Nat} (hl : l.length ≤ 1000) : g_renamed [LN l, N a, N b] = some (LN (l.map fun x => if x = max a b then min a b else x)) := by
  have h1 : dMin2 [N a, N b] = some (N (min a b)) := by
    show some (PyData.int _) = _
    congr 2
    omega
  have h2 : dMax2 [N a, N b] = some (N (max a b)) := by
    show some (PyData.int _) = _
    congr 2
    omega
  obtain ⟨d, h3, h4⟩ := fn_wp (n := 7) (np := 3) (m := m_renamed) (ds := [LN l, N a, N b]) (R := fun d => d = LN (l.map fun x => if x = max a b then min a b else x)) [some (LN l), some (N a), some (N b), none, none, none, none] rfl rfl (by
    refine wp_seq (wp_par (x := N (min a b)) (y := N (max a b)) (by simp only [x_gV, x_gC, x_g1, x_g2, x_g3, x_gN, x_gCs, x_gL, x_gT, x_gCall, x_gAnd, x_gOr, x_gIf, x_iL, x_iT, x_tN, x_tgN, x_tgC, x_tTup, x_tUnl, x_gO0, x_gO, x_gSl, x_wipe0, x_wipe1, x_bind, x_map, x_join, List.getElem?_cons_zero, List.getElem?_cons_succ, List.set_cons_zero, List.set_cons_succ, dEq_N, dNe_N, dIn_N, dNotIn_N, dLt_N, dLe_N, dGt_N, dGe_N, dAdd_N, dIx_t0, dIx_t1, dIx_t2, dIx_l0, dIx_l1, dLen_l, dInt_b, dSortI_N, gd, List.length_cons, List.length_nil, Nat.zero_add, Nat.reduceAdd, Nat.reduceLeDiff, if_true, List.length_map, List.length_range, h1]) (by simp only [x_gV, x_gC, x_g1, x_g2, x_g3, x_gN, x_gCs, x_gL, x_gT, x_gCall, x_gAnd, x_gOr, x_gIf, x_iL, x_iT, x_tN, x_tgN, x_tgC, x_tTup, x_tUnl, x_gO0, x_gO, x_gSl, x_wipe0, x_wipe1, x_bind, x_map, x_join, List.getElem?_cons_zero, List.getElem?_cons_succ, List.set_cons_zero, List.set_cons_succ, dEq_N, dNe_N, dIn_N, dNotIn_N, dLt_N, dLe_N, dGt_N, dGe_N, dAdd_N, dIx_t0, dIx_t1, dIx_t2, dIx_l0, dIx_l1, dLen_l, dInt_b, dSortI_N, gd, List.length_cons, List.length_nil, Nat.zero_add, Nat.reduceAdd, Nat.reduceLeDiff, if_true, List.length_map, List.length_range, h2]) ?_)
    refine wp_seq (wp_set (d := LN []) rfl ?_)
    refine wp_seq (wp_for (e := N) l (fun pre E => ∃ c, E = [some (LN l), some (N a), some (N b), some (N (min a b)), some (N (max a b)), some (LN (pre.map fun x => if x = max a b then min a b else x)), c]) rfl ⟨none, rfl⟩ ?_ ?_)
    · rintro p x q E hp ⟨c, rfl⟩
      have hpl : p.length < 16000000 := by
        have := congrArg List.length hp
        simp at this
        omega
      refine ⟨_, rfl, wp_if (t := decide (x = max a b)) (by simp only [x_gV, x_gC, x_g1, x_g2, x_g3, x_gN, x_gCs, x_gL, x_gT, x_gCall, x_gAnd, x_gOr, x_gIf, x_iL, x_iT, x_tN, x_tgN, x_tgC, x_tTup, x_tUnl, x_gO0, x_gO, x_gSl, x_wipe0, x_wipe1, x_bind, x_map, x_join, List.getElem?_cons_zero, List.getElem?_cons_succ, List.set_cons_zero, List.set_cons_succ, dEq_N, dNe_N, dIn_N, dNotIn_N, dLt_N, dLe_N, dGt_N, dGe_N, dAdd_N, dIx_t0, dIx_t1, dIx_t2, dIx_l0, dIx_l1, dLen_l, dInt_b, dSortI_N, gd, List.length_cons, List.length_nil, Nat.zero_add, Nat.reduceAdd, Nat.reduceLeDiff, if_true, List.length_map, List.length_range]) (fun h => ?_) fun h => ?_⟩
      · refine wp_lapp (f := N) (xs := p.map fun x => if x = max a b then min a b else x) (x := min a b) rfl rfl (by simpa using hpl) ⟨some (N x), ?_⟩
        have := of_decide_eq_true h
        simp [this]
      · refine wp_lapp (f := N) (xs := p.map fun x => if x = max a b then min a b else x) (x := x) rfl rfl (by simpa using hpl) ⟨some (N x), ?_⟩
        have := of_decide_eq_false h
        simp [this]
    · rintro E ⟨c, rfl⟩
      exact wp_ret rfl rfl)
  rw [g_renamed, h3, h4]
end K72

namespace K72
open PySem PySem.Spec PyProof.Rows L2 Pu Mt
variable {n : Nat} {ts : List (Nat × Nat)} {k : Nat} {parts : List (List Nat)}
/-! ### dicts of lists -/
abbrev Gp := List (Nat × List Nat)
def eG (p : Nat × List Nat) : D × D := (N p.1, LN p.2)
def gk (d : Gp) : List Nat := d.map (·.1)
theorem lookG_none {d : Gp} {y : Nat} (h : y ∉ gk d) : lookK (d.map eG) (.inl (y : Int)) = none := by
  induction d with
  | nil => rfl
  | cons e r ih =>
    have h1 : e.1 ≠ y := fun k => h (by simp [gk, k])
    have := ih fun k => h (by simp [gk] at k ⊢; exact .inr k)
    unfold lookK at this ⊢
    rw [List.map_cons, List.find?_cons, show keyEq (eG e).1 (.inl (y : Int)) = decide (e.1 = y) from keyEq_N]
    simp only [h1, decide_false]
    exact this
theorem lookG_some {d : Gp} {y : Nat} {o : List Nat} (hn : (gk d).Nodup) (h : (y, o) ∈ d) : lookK (d.map eG) (.inl (y : Int)) = some (LN o) := by
  induction d with
  | nil => cases h
  | cons e r ih =>
    have hn' := List.nodup_cons.mp (show (e.1 :: gk r).Nodup from hn)
    unfold lookK at ih ⊢
    rw [List.map_cons, List.find?_cons, show keyEq (eG e).1 (.inl (y : Int)) = decide (e.1 = y) from keyEq_N]
    rcases List.mem_cons.mp h with h | h
    · subst h
      simp [eG]
    · have h1 : e.1 ≠ y := fun k => hn'.1 (k ▸ List.mem_map.mpr ⟨(y, o), h, rfl⟩)
      simp only [h1, decide_false]
      exact ih hn'.2 h
def setG (d : Gp) (y : Nat) (v : List Nat) : Gp := if y ∈ gk d then d.map fun p => if p.1 = y then (p.1, v) else p else d ++ [(y, v)]
theorem putG {d : Gp} {y : Nat} {v : List Nat} (hn : (gk d).Nodup) : putD (d.map eG) (N y) (LN v) = (setG d y v).map eG := by
  show (if (lookK (d.map eG) (.inl (y : Int))).isSome then (d.map eG).map (fun p => if keyEq p.1 (.inl (y : Int)) then (p.1, LN v) else p) else d.map eG ++ [(N y, LN v)]) = _
  unfold setG
  by_cases h : y ∈ gk d
  · obtain ⟨⟨a, o⟩, h1, h2⟩ := List.mem_map.mp h
    simp only at h2
    subst h2
    rw [lookG_some hn h1, if_pos h]
    simp only [Option.isSome_some, if_true]
    rw [List.map_map, List.map_map]
    refine List.map_congr_left fun p _ => ?_
    have kk : keyEq (eG p).1 (.inl (a : Int)) = decide (p.1 = a) := keyEq_N
    simp only [Function.comp_apply]
    by_cases hp : p.1 = a
    · rw [if_pos (kk.trans (by simp [hp])), if_pos hp]; rfl
    · rw [if_neg (by rw [kk]; simp [hp]), if_neg hp]
  · rw [lookG_none h, if_neg h]
    simp [eG]
theorem gk_setG {d : Gp} {y : Nat} {v : List Nat} (hn : (gk d).Nodup) : (gk (setG d y v)).Nodup ∧ ∀ z, z ∈ gk (setG d y v) ↔ z ∈ gk d ∨ z = y := by
  unfold setG
  split
  · rename_i h
    have : gk (d.map fun p => if p.1 = y then (p.1, v) else p) = gk d := by
      unfold gk
      rw [List.map_map]
      refine List.map_congr_left fun p _ => ?_
      simp only [Function.comp_apply]
      split <;> rfl
    rw [this]
    exact ⟨hn, fun z => ⟨.inl, fun k => k.elim id fun e => e ▸ h⟩⟩
  · rename_i h
    have : gk (d ++ [(y, v)]) = gk d ++ [y] := by simp [gk]
    rw [this]
    exact ⟨List.nodup_append.mpr ⟨hn, by simp, fun a ha b hb e => by simp at hb; subst hb; subst e; exact h ha⟩, fun z => by simp⟩
theorem mem_setG {d : Gp} {y : Nat} {v : List Nat} {z : Nat} {o : List Nat} (h : (z, o) ∈ setG d y v) : (z = y ∧ o = v) ∨ (z ≠ y ∧ (z, o) ∈ d) := by
  unfold setG at h
  split at h
  · obtain ⟨p, h1, h2⟩ := List.mem_map.mp h
    by_cases hp : p.1 = y
    · rw [if_pos hp] at h2
      cases h2
      exact .inl ⟨hp, rfl⟩
    · rw [if_neg hp] at h2
      subst h2
      exact .inr ⟨hp, h1⟩
  · rename_i hn
    rcases List.mem_append.mp h with h | h
    · exact .inr ⟨fun e => hn (List.mem_map.mpr ⟨_, h, e⟩), h⟩
    · simp at h
      exact .inl h
theorem vals_G {d : Gp} (hn : (gk d).Nodup) : valsD (d.map eG) = some (LL (d.map (·.2)) |> fun x => match x with | .list l => l | _ => []) := by
  show (d.map eG).mapM _ = some ((d.map (·.2)).map LN)
  have : ∀ l : Gp, (∀ p ∈ l, p ∈ d) → (l.map eG).mapM (fun p : D × D => (keyOf p.1).bind (lookK (d.map eG))) = some ((l.map (·.2)).map LN) := by
    intro l
    induction l with
    | nil => intro _; rfl
    | cons p l ih =>
      intro h
      rw [List.map_cons, List.mapM_cons, ih fun q hq => h q (by simp [hq])]
      have := lookG_some hn (h p (by simp))
      rw [show keyOf (eG p).1 = some (.inl (p.1 : Int)) from rfl]
      simp only [Option.bind_some, this]
      rfl
  exact this d fun _ h => h
theorem alikeLL (a b : List Nat) : PySem.W.alike (LN a) (LN b) = true := by
  show PySem.W.alikeAll (a.map N) (b.map N) = true
  induction a generalizing b with
  | nil => cases b <;> rfl
  | cons x a ih =>
    cases b with
    | nil => rfl
    | cons y b =>
      show (PySem.W.alike (N x) (N y) && PySem.W.alikeAll (a.map N) (b.map N)) = true
      rw [ih b]
      rfl
theorem okSort_LL (Ls : List (List Nat)) : okSort (Ls.map LN) = true := by
  have h1 : noDs (Ls.map LN) = true := by
    induction Ls with
    | nil => rfl
    | cons a Ls ih => simp [noDs, noD, noDs_N, ih]
  have h2 : ((Ls.map LN).all fun d => (Ls.map LN).all fun e => PySem.W.alike d e) = true := by
    simp only [List.all_eq_true, List.mem_map]
    rintro _ ⟨a, _, rfl⟩ _ ⟨b, _, rfl⟩
    exact alikeLL a b
  have h3 : (Ls.map LN).all isPlainS = true := by
    simp only [List.all_eq_true, List.mem_map]
    rintro _ ⟨a, _, rfl⟩
    rfl
  have h4 : (Ls.map LN).all (fun d => decide (d.depth ≤ 60)) = true := by
    simp only [List.all_eq_true, List.mem_map]
    rintro _ ⟨a, _, rfl⟩
    simp [PyData.depth, dep_N]
  unfold okSort
  rw [h1, h2, h3, h4]
  simp
theorem dSortD_LL (Ls : List (List Nat)) : ∃ Ls' : List (List Nat), dSortD [.list (Ls.map LN)] = some (LL Ls') ∧ ∀ C, C ∈ Ls' ↔ C ∈ Ls := by
  have hp : (sortD (Ls.map LN)).Perm (Ls.map LN) := List.mergeSort_perm _ _
  have key : ∀ (l : List D), (∀ d ∈ l, ∃ C ∈ Ls, d = LN C) → ∃ Ls' : List (List Nat), l = Ls'.map LN := by
    intro l
    induction l with
    | nil => intro _; exact ⟨[], rfl⟩
    | cons d l ih =>
      intro h
      obtain ⟨C, _, rfl⟩ := h d (by simp)
      obtain ⟨Ls', rfl⟩ := ih fun e he => h e (by simp [he])
      exact ⟨C :: Ls', rfl⟩
  obtain ⟨Ls', h⟩ := key (sortD (Ls.map LN)) fun d hd => by
    obtain ⟨C, h1, h2⟩ := List.mem_map.mp (hp.mem_iff.mp hd)
    exact ⟨C, h1, h2.symm⟩
  have inj : ∀ a b : List Nat, LN a = LN b → a = b := fun a b h => by
    have := PyData.list.inj h
    exact List.map_inj_right (fun x y e => by have := PyData.int.inj e; omega) |>.mp this
  refine ⟨Ls', ?_, fun C => ?_⟩
  · simp only [dSortD]
    rw [if_pos (okSort_LL Ls), h]
  · have : LN C ∈ Ls'.map LN ↔ LN C ∈ Ls.map LN := by rw [← h]; exact hp.mem_iff
    constructor
    · intro hC
      obtain ⟨C', h1, h2⟩ := List.mem_map.mp (this.mp (List.mem_map.mpr ⟨C, hC, rfl⟩))
      exact inj _ _ h2 ▸ h1
    · intro hC
      obtain ⟨C', h1, h2⟩ := List.mem_map.mp (this.mpr (List.mem_map.mpr ⟨C, hC, rfl⟩))
      exact inj _ _ h2 ▸ h1
theorem wp_putG {Q : En → Prop} {R : D → Prop} {E : En} {gkx g : Gx} {i : Nat} {d : Gp} {y : Nat} {v : List Nat} (h1 : g E = some (LN v)) (h2 : gV i E = some (.dict (d.map eG))) (h3 : gkx E = some (N y)) (hn : (gk d).Nodup) (hl : d.length < 16000000) (h : Q (E.set i (some (.dict ((setG d y v).map eG))))) : wp (sPut i gkx g) Q R E := by
  unfold wp sPut
  rw [h1, h2, h3]
  dsimp only
  rw [show keyOf (N y) = some (.inl (y : Int)) from rfl, Option.bind_some, gd_pos (by rw [List.length_map]; omega), putG hn]
  exact h
end K72

namespace K72
open PySem PySem.Spec PyProof.Rows L2 Pu Mt
variable {n : Nat} {ts : List (Nat × Nat)} {k : Nat} {parts : List (List Nat)}
structure Joined (n : Nat) (e : Nat → Nat × Nat) (lot : List Nat) (Ls : List (List Nat)) : Prop where
  cl : ∀ C ∈ Ls, C.Nodup ∧ (∀ v ∈ C, v < n) ∧ C ≠ [] ∧ ∀ u ∈ C, ∀ v, v < n → (v ∈ C ↔ Conn e (· ∈ lot) u v)
  all : ∀ u, u < n → ∃ C ∈ Ls, u ∈ C
theorem len_setG {d : Gp} {y : Nat} {v : List Nat} : (setG d y v).length ≤ d.length + 1 := by
  unfold setG
  split <;> simp
theorem mem_setG_self {d : Gp} {y : Nat} {v : List Nat} : (y, v) ∈ setG d y v := by
  unfold setG
  split
  · rename_i h
    obtain ⟨p, h1, h2⟩ := List.mem_map.mp h
    exact List.mem_map.mpr ⟨p, h1, by rw [if_pos h2, h2]⟩
  · simp
theorem r_joined_lists {e : Nat → Nat × Nat} {lot : List Nat} (hn : n ≤ 1000) (hl : lot.length ≤ 1000) (hE : ∀ x ∈ lot, (e x).1 < n ∧ (e x).2 < n) :
    ∃ Ls, g_joined_lists [N n, .list (lot.map fun x => TT (e x))] = some (LL Ls) ∧ Joined n e lot Ls := by
  have key : ∃ d, g_joined_lists [N n, .list (lot.map fun x => TT (e x))] = some d ∧ ∃ Ls, d = LL Ls ∧ Joined n e lot Ls := by
    refine fn_wp [some (N n), some (.list (lot.map fun x => TT (e x))), none, none, none, none, none, none] rfl rfl ?_
    refine wp_seq (wp_set (d := LN (List.range n)) (by simp only [x_gV, x_gC, x_g1, x_g2, x_g3, x_gN, x_gCs, x_gL, x_gT, x_gCall, x_gAnd, x_gOr, x_gIf, x_iL, x_iT, x_tN, x_tgN, x_tgC, x_tTup, x_tUnl, x_gO0, x_gO, x_gSl, x_wipe0, x_wipe1, x_bind, x_map, x_join, List.getElem?_cons_zero, List.getElem?_cons_succ, List.set_cons_zero, List.set_cons_succ, dEq_N, dNe_N, dIn_N, dNotIn_N, dLt_N, dLe_N, dGt_N, dGe_N, dAdd_N, dIx_t0, dIx_t1, dIx_t2, dIx_l0, dIx_l1, dLen_l, dInt_b, dSortI_N, gd, List.length_cons, List.length_nil, Nat.zero_add, Nat.reduceAdd, Nat.reduceLeDiff, if_true, List.length_map, List.length_range]; exact dRng_N (by omega)) ?_)
    refine wp_seq (wp_for (e := fun x => TT (e x)) lot (fun pre E => ∃ nm a b, E = [some (N n), some (.list (lot.map fun x => TT (e x))), some (LN ((List.range n).map nm)), a, b, none, none, none] ∧ Names e (· ∈ pre) nm n) rfl ⟨id, none, none, by simp, names_start_nil n⟩ ?_ ?_)
    · rintro p x q E hp ⟨nm, a, b, rfl, hN⟩
      obtain ⟨h1, h2⟩ := hE x (by rw [hp]; simp)
      have k1 : dIx (.list (((List.range n).map nm).map N)) (N (e x).1) = some (N (nm (e x).1)) := dIx_some (by simp [h1])
      have k2 : dIx (.list (((List.range n).map nm).map N)) (N (e x).2) = some (N (nm (e x).2)) := dIx_some (by simp [h2])
      have k3 := r_renamed (l := (List.range n).map nm) (a := nm (e x).1) (b := nm (e x).2) (by simpa using hn)
      refine ⟨_, rfl, wp_set (d := LN ((List.range n).map fun i => if nm i = max (nm (e x).1) (nm (e x).2) then min (nm (e x).1) (nm (e x).2) else nm i)) (by
        simp only [x_gV, x_gC, x_g1, x_g2, x_g3, x_gN, x_gCs, x_gL, x_gT, x_gCall, x_gAnd, x_gOr, x_gIf, x_iL, x_iT, x_tN, x_tgN, x_tgC, x_tTup, x_tUnl, x_gO0, x_gO, x_gSl, x_wipe0, x_wipe1, x_bind, x_map, x_join, List.getElem?_cons_zero, List.getElem?_cons_succ, List.set_cons_zero, List.set_cons_succ, dEq_N, dNe_N, dIn_N, dNotIn_N, dLt_N, dLe_N, dGt_N, dGe_N, dAdd_N, dIx_t0, dIx_t1, dIx_t2, dIx_l0, dIx_l1, dLen_l, dInt_b, dSortI_N, gd, List.length_cons, List.length_nil, Nat.zero_add, Nat.reduceAdd, Nat.reduceLeDiff, if_true, List.length_map, List.length_range, k1, k2, k3]
        rw [List.map_map]
        rfl) ⟨fun i => if nm i = max (nm (e x).1) (nm (e x).2) then min (nm (e x).1) (nm (e x).2) else nm i, some (N (e x).1), some (N (e x).2), rfl, ?_⟩⟩
      refine (hN.merge h1 h2 ?_).congr fun y => by simp
      rcases Nat.le_total (nm (e x).1) (nm (e x).2) with h | h
      · exact .inr ⟨by omega, by omega⟩
      · exact .inl ⟨by omega, by omega⟩
    · rintro E ⟨nm, a, b, rfl, hN⟩
      refine wp_seq (wp_set (d := .dict []) rfl ?_)
      have hsrc : iR1 (gV 0) [some (N n), some (.list (lot.map fun x => TT (e x))), some (LN ((List.range n).map nm)), a, b, some (.dict []), none, none] = some ((List.range n).map N) := iR1_N rfl (Nat.lt_of_le_of_lt hn (by decide))
      refine wp_seq (wp_for (e := N) (List.range n) (fun pre E => ∃ d c, E = [some (N n), some (.list (lot.map fun x => TT (e x))), some (LN ((List.range n).map nm)), a, b, some (.dict (d.map eG)), c, none] ∧ (gk d).Nodup ∧ d.length ≤ pre.length ∧ (∀ l ps, (l, ps) ∈ d → ps ≠ [] ∧ ps = pre.filter fun v => decide (nm v = l)) ∧ ∀ v ∈ pre, nm v ∈ gk d) hsrc ⟨[], none, rfl, .nil, Nat.le_refl _, fun l ps h => absurd h List.not_mem_nil, fun v h => absurd h List.not_mem_nil⟩ ?_ ?_)
      · rintro pr v q E hp ⟨d, c, rfl, hnd, hdl, hI, hI2⟩
        have hv : v < n := List.mem_range.mp (by rw [hp]; simp)
        have hprl : pr.length < n := by
          have := congrArg List.length hp
          simp at this
          omega
        have k1 : dIx (.list (((List.range n).map nm).map N)) (N v) = some (N (nm v)) := dIx_some (by simp [hv])
        have hgot : ∃ ps, dDGet (.dict (d.map eG)) (N (nm v)) (.list []) = some (LN ps) ∧ ps = pr.filter fun w => decide (nm w = nm v) := by
          by_cases h : nm v ∈ gk d
          · obtain ⟨⟨l, ps⟩, h1, h2⟩ := List.mem_map.mp h
            simp only at h2
            subst h2
            refine ⟨ps, ?_, (hI _ _ h1).2⟩
            show some ((lookK (d.map eG) (.inl ((nm v : Nat) : Int))).getD (.list [])) = _
            rw [lookG_some hnd h1]
            rfl
          · refine ⟨[], ?_, ?_⟩
            · show some ((lookK (d.map eG) (.inl ((nm v : Nat) : Int))).getD (.list [])) = _
              rw [lookG_none h]
              rfl
            · refine (List.filter_eq_nil_iff.mpr fun w hw => ?_).symm
              simp only [decide_eq_true_eq]
              exact fun e => h (e ▸ hI2 w hw)
        obtain ⟨ps, k2, hps⟩ := hgot
        have hpsl : ps.length ≤ 1000 := by
          rw [hps]
          exact Nat.le_trans (List.length_filter_le ..) (by omega)
        have k3 : dCat (.list (ps.map N)) (.list [N v]) = some (LN (ps ++ [v])) := by
          rw [dCat_ok (by rw [List.length_map]; simp; omega)]
          simp
        refine ⟨_, rfl, wp_putG (d := d) (y := nm v) (v := ps ++ [v]) ?_ rfl (by simp only [x_gV, x_gC, x_g1, x_g2, x_g3, x_gN, x_gCs, x_gL, x_gT, x_gCall, x_gAnd, x_gOr, x_gIf, x_iL, x_iT, x_tN, x_tgN, x_tgC, x_tTup, x_tUnl, x_gO0, x_gO, x_gSl, x_wipe0, x_wipe1, x_bind, x_map, x_join, List.getElem?_cons_zero, List.getElem?_cons_succ, List.set_cons_zero, List.set_cons_succ, dEq_N, dNe_N, dIn_N, dNotIn_N, dLt_N, dLe_N, dGt_N, dGe_N, dAdd_N, dIx_t0, dIx_t1, dIx_t2, dIx_l0, dIx_l1, dLen_l, dInt_b, dSortI_N, gd, List.length_cons, List.length_nil, Nat.zero_add, Nat.reduceAdd, Nat.reduceLeDiff, if_true, List.length_map, List.length_range, k1]) hnd (by omega) ⟨setG d (nm v) (ps ++ [v]), some (N v), rfl, (gk_setG hnd).1, by have := len_setG (d := d) (y := nm v) (v := ps ++ [v]); simp; omega, fun l ps' h => ?_, fun w hw => ?_⟩⟩
        · simp only [x_gV, x_gC, x_g1, x_g2, x_g3, x_gN, x_gCs, x_gL, x_gT, x_gCall, x_gAnd, x_gOr, x_gIf, x_iL, x_iT, x_tN, x_tgN, x_tgC, x_tTup, x_tUnl, x_gO0, x_gO, x_gSl, x_wipe0, x_wipe1, x_bind, x_map, x_join, List.getElem?_cons_zero, List.getElem?_cons_succ, List.set_cons_zero, List.set_cons_succ, dEq_N, dNe_N, dIn_N, dNotIn_N, dLt_N, dLe_N, dGt_N, dGe_N, dAdd_N, dIx_t0, dIx_t1, dIx_t2, dIx_l0, dIx_l1, dLen_l, dInt_b, dSortI_N, gd, List.length_cons, List.length_nil, Nat.zero_add, Nat.reduceAdd, Nat.reduceLeDiff, if_true, List.length_map, List.length_range, k1, k2]
          exact k3
        · rcases mem_setG h with ⟨h1, h2⟩ | ⟨h1, h2⟩
          · subst h1; subst h2
            exact ⟨by simp, by rw [List.filter_append, ← hps]; simp⟩
          · obtain ⟨h3, h4⟩ := hI l ps' h2
            refine ⟨h3, ?_⟩
            rw [List.filter_append, ← h4]
            have : ¬ nm v = l := fun e => h1 e.symm
            simp [this]
        · rw [(gk_setG hnd).2]
          rcases List.mem_append.mp hw with hw | hw
          · exact .inl (hI2 w hw)
          · simp at hw
            exact .inr (by rw [hw])
      · rintro E ⟨d, c, rfl, hnd, hdl, hI, hI2⟩
        have hdl' : d.length ≤ n := by simpa using hdl
        obtain ⟨Ls, q1, q2⟩ := dSortD_LL (d.map (·.2))
        have k1 : gDvals 5 7 [some (N n), some (.list (lot.map fun x => TT (e x))), some (LN ((List.range n).map nm)), a, b, some (.dict (d.map eG)), c, none] = some (LL (d.map (·.2))) := by
          show (if (d.map eG).length ≤ 16000000 ∧ 7 < 8 then (valsD (d.map eG)).map PyData.list else none) = _
          rw [if_pos ⟨by rw [List.length_map]; omega, by decide⟩, vals_G hnd]
          rfl
        refine wp_ret (d := LL Ls) (by simp only [x_gCall, x_gCs, k1, x_gV, x_gC, x_g1, x_g2, x_g3, x_gN, x_gCs, x_gL, x_gT, x_gCall, x_gAnd, x_gOr, x_gIf, x_iL, x_iT, x_tN, x_tgN, x_tgC, x_tTup, x_tUnl, x_gO0, x_gO, x_gSl, x_wipe0, x_wipe1, x_bind, x_map, x_join, List.getElem?_cons_zero, List.getElem?_cons_succ, List.set_cons_zero, List.set_cons_succ, dEq_N, dNe_N, dIn_N, dNotIn_N, dLt_N, dLe_N, dGt_N, dGe_N, dAdd_N, dIx_t0, dIx_t1, dIx_t2, dIx_l0, dIx_l1, dLen_l, dInt_b, dSortI_N, gd, List.length_cons, List.length_nil, Nat.zero_add, Nat.reduceAdd, Nat.reduceLeDiff, if_true, List.length_map, List.length_range, q1]) ⟨Ls, rfl, fun C hC => ?_, fun u hu => ?_⟩
        · obtain ⟨⟨l, ps⟩, h1, rfl⟩ := List.mem_map.mp ((q2 C).mp hC)
          obtain ⟨h2, h3⟩ := hI l ps h1
          have hmem : ∀ v, v ∈ ps ↔ v < n ∧ nm v = l := fun v => by rw [h3]; simp [List.mem_filter]
          refine ⟨by simp only; rw [h3]; exact List.nodup_range.sublist List.filter_sublist, fun v hv => ((hmem v).mp hv).1, h2, fun u hu v hv => ?_⟩
          have hu' := (hmem u).mp hu
          rw [hmem v, ← hN u v hu'.1 hv, hu'.2]
          exact ⟨fun h => h.2.symm, fun h => ⟨hv, h.symm⟩⟩
        · obtain ⟨⟨l, ps⟩, h1, h2⟩ := List.mem_map.mp (hI2 u (List.mem_range.mpr hu))
          simp only at h2
          refine ⟨ps, (q2 ps).mpr (List.mem_map.mpr ⟨_, h1, rfl⟩), ?_⟩
          rw [(hI l ps h1).2]
          exact List.mem_filter.mpr ⟨List.mem_range.mpr hu, by simp [h2]⟩
  obtain ⟨d, h1, Ls, rfl, h2⟩ := key
  exact ⟨Ls, h1, h2⟩
theorem r_crowded_places (hN : Net n ts) (hk : k ≤ 1000) {lot : List Nat} (G : Great ts k parts lot) {x0 : Nat} (h0 : x0 ∈ lot) (h0' : x0 ∉ parts.flatten) :
    ∃ C, g_crowded_places [N n, LTs ts, N k, LN lot] = some (LN C) ∧ C.Nodup ∧ (∀ v ∈ C, v < n) ∧ C ≠ [] ∧ k * (C.length - 1) + 1 ≤ (lot.filter fun x => inP C (ev ts x)).length := by
  have hm := hN.m
  have hsz := hN.sz
  have hll : lot.length ≤ 60 := by have := nodup_lt_len G.lnd G.lt; omega
  have key : ∃ d, g_crowded_places [N n, LTs ts, N k, LN lot] = some d ∧ ∃ C, d = LN C ∧ C.Nodup ∧ (∀ v ∈ C, v < n) ∧ C ≠ [] ∧ k * (C.length - 1) + 1 ≤ (lot.filter fun x => inP C (ev ts x)).length := by
    refine fn_wp [some (N n), some (LTs ts), some (N k), some (LN lot), none, none] rfl rfl ?_
    refine wp_seq (wp_set (d := .list (lot.map fun x => TT (ev ts x))) (by simp only [x_gV, x_gC, x_g1, x_g2, x_g3, x_gN, x_gCs, x_gL, x_gT, x_gCall, x_gAnd, x_gOr, x_gIf, x_iL, x_iT, x_tN, x_tgN, x_tgC, x_tTup, x_tUnl, x_gO0, x_gO, x_gSl, x_wipe0, x_wipe1, x_bind, x_map, x_join, List.getElem?_cons_zero, List.getElem?_cons_succ, List.set_cons_zero, List.set_cons_succ, dEq_N, dNe_N, dIn_N, dNotIn_N, dLt_N, dLe_N, dGt_N, dGe_N, dAdd_N, dIx_t0, dIx_t1, dIx_t2, dIx_l0, dIx_l1, dLen_l, dInt_b, dSortI_N, gd, List.length_cons, List.length_nil, Nat.zero_add, Nat.reduceAdd, Nat.reduceLeDiff, if_true, List.length_map, List.length_range, r_chosen_ties (ts := ts) (lot := lot) (by omega) G.lt]) ?_)
    obtain ⟨Ls, q1, q2⟩ := r_joined_lists (n := n) (e := ev ts) (lot := lot) (by omega) (by omega) fun x hx => hN.ev (G.lt x hx)
    refine wp_seq (wp_for (e := LN) Ls (fun pre E => (∃ c, E = [some (N n), some (LTs ts), some (N k), some (LN lot), some (.list (lot.map fun x => TT (ev ts x))), c]) ∧ ∀ C ∈ pre, (lot.filter fun x => inP C (ev ts x)).length ≤ k * (C.length - 1)) (by simp only [x_gV, x_gC, x_g1, x_g2, x_g3, x_gN, x_gCs, x_gL, x_gT, x_gCall, x_gAnd, x_gOr, x_gIf, x_iL, x_iT, x_tN, x_tgN, x_tgC, x_tTup, x_tUnl, x_gO0, x_gO, x_gSl, x_wipe0, x_wipe1, x_bind, x_map, x_join, List.getElem?_cons_zero, List.getElem?_cons_succ, List.set_cons_zero, List.set_cons_succ, dEq_N, dNe_N, dIn_N, dNotIn_N, dLt_N, dLe_N, dGt_N, dGe_N, dAdd_N, dIx_t0, dIx_t1, dIx_t2, dIx_l0, dIx_l1, dLen_l, dInt_b, dSortI_N, gd, List.length_cons, List.length_nil, Nat.zero_add, Nat.reduceAdd, Nat.reduceLeDiff, if_true, List.length_map, List.length_range, q1]) ⟨⟨none, rfl⟩, fun C h => by cases h⟩ ?_ ?_)
    · rintro pr C q E hp ⟨⟨c, rfl⟩, hI⟩
      have hCm : C ∈ Ls := by rw [hp]; simp
      obtain ⟨c1, c2, c3, c4⟩ := q2.cl C hCm
      have hC1 : 0 < C.length := List.length_pos_iff.mpr c3
      have hCl : C.length ≤ n := nodup_lt_len c1 c2
      obtain ⟨l, w1, w2⟩ := r_ties_within (e := ev ts) (lot := lot) (ps := C) (by omega)
      have k1 : dSub (N C.length) (.int 1) = some (N (C.length - 1)) := dSub_N (b := 1) (by omega)
      have k2 : dMul (N k) (N (C.length - 1)) = some (N (k * (C.length - 1))) := dMul_N (.inl (by omega))
      refine ⟨_, rfl, wp_if (t := decide (k * (C.length - 1) < l.length)) (by simp only [x_gV, x_gC, x_g1, x_g2, x_g3, x_gN, x_gCs, x_gL, x_gT, x_gCall, x_gAnd, x_gOr, x_gIf, x_iL, x_iT, x_tN, x_tgN, x_tgC, x_tTup, x_tUnl, x_gO0, x_gO, x_gSl, x_wipe0, x_wipe1, x_bind, x_map, x_join, List.getElem?_cons_zero, List.getElem?_cons_succ, List.set_cons_zero, List.set_cons_succ, dEq_N, dNe_N, dIn_N, dNotIn_N, dLt_N, dLe_N, dGt_N, dGe_N, dAdd_N, dIx_t0, dIx_t1, dIx_t2, dIx_l0, dIx_l1, dLen_l, dInt_b, dSortI_N, gd, List.length_cons, List.length_nil, Nat.zero_add, Nat.reduceAdd, Nat.reduceLeDiff, if_true, List.length_map, List.length_range, w1, k1, k2]) (fun h => ?_) fun h => wp_nx ⟨⟨some (LN C), rfl⟩, fun C' hC' => ?_⟩⟩
      · have := of_decide_eq_true h
        exact wp_ret (d := LN C) rfl ⟨C, rfl, c1, c2, c3, by omega⟩
      · have := of_decide_eq_false h
        rcases List.mem_append.mp hC' with h1 | h1
        · exact hI C' h1
        · simp at h1
          subst h1
          omega
    · rintro E ⟨_, hI⟩
      exfalso
      have hx := hN.ev (G.lt x0 h0)
      obtain ⟨C, hC, hu⟩ := q2.all (ev ts x0).1 hx.1
      obtain ⟨c1, c2, c3, c4⟩ := q2.cl C hC
      have cr := crowd (e := ev ts) (n := n) (parts := parts) (lot := lot) (x0 := x0) (C := C) (fun F hF => by
        obtain ⟨p, hp⟩ := List.getElem?_of_mem hF
        exact G.ok.free p F hp) G.nd G.lnd (fun x hx => hN.ev (G.lt x hx)) G.h1 G.h2 h0 h0' c1 c2 (c4 _ hu)
      have := hI C hC
      rw [G.ok.len] at cr
      change k * (C.length - 1) + 1 ≤ (lot.filter fun x => inP C (ev ts x)).length at cr
      omega
  obtain ⟨d, h1, C, rfl, h2⟩ := key
  exact ⟨C, h1, h2⟩
theorem filter_ev (C : List Nat) : ((List.range ts.length).filter fun x => inP C (ev ts x)).length = (ts.filter (inP C)).length := by
  have : ts = (List.range ts.length).map (ev ts) := by
    apply List.ext_getElem?
    intro i
    by_cases h : i < ts.length
    · rw [ev_get h]; simp [h]
    · simp [h]
  conv => rhs; rw [this, List.filter_map, List.length_map]
  rfl
inductive WoodsRes (n : Nat) (ts : List (Nat × Nat)) (k : Nat) : D → Prop
  | woods (parts : List (List Nat)) : Parts ts k parts → parts.flatten.Nodup → parts.flatten.length = ts.length → WoodsRes n ts k (.tuple [.str "woods", LL parts])
  | places (C : List Nat) : C.Nodup → (∀ v ∈ C, v < n) → C ≠ [] → k * (C.length - 1) + 1 ≤ (ts.filter (inP C)).length → WoodsRes n ts k (.tuple [.str "places", LN C])
theorem r_woods (hN : Net n ts) (hk : k ≤ 1000) (hk1 : 0 < k) : ∃ d, g_woods [N n, LTs ts, N k] = some d ∧ WoodsRes n ts k d := by
  refine fn_wp [some (N n), some (LTs ts), some (N k), none, none] rfl rfl ?_
  obtain ⟨parts, lot, q1, G⟩ := r_greatest_parts hN hk hk1
  have hm := hN.m
  refine wp_seq (wp_asg (d := .tuple [LL parts, LN lot]) (by simp only [x_gV, x_gC, x_g1, x_g2, x_g3, x_gN, x_gCs, x_gL, x_gT, x_gCall, x_gAnd, x_gOr, x_gIf, x_iL, x_iT, x_tN, x_tgN, x_tgC, x_tTup, x_tUnl, x_gO0, x_gO, x_gSl, x_wipe0, x_wipe1, x_bind, x_map, x_join, List.getElem?_cons_zero, List.getElem?_cons_succ, List.set_cons_zero, List.set_cons_succ, dEq_N, dNe_N, dIn_N, dNotIn_N, dLt_N, dLe_N, dGt_N, dGe_N, dAdd_N, dIx_t0, dIx_t1, dIx_t2, dIx_l0, dIx_l1, dLen_l, dInt_b, dSortI_N, gd, List.length_cons, List.length_nil, Nat.zero_add, Nat.reduceAdd, Nat.reduceLeDiff, if_true, List.length_map, List.length_range, r_net_rules hN hk, q1]) rfl ?_)
  have hnh := r_number_held (parts := parts) (by rw [G.ok.len]; exact hk)
  refine wp_seq (wp_if (t := decide (parts.flatten.length = ts.length)) (by simp only [x_gV, x_gC, x_g1, x_g2, x_g3, x_gN, x_gCs, x_gL, x_gT, x_gCall, x_gAnd, x_gOr, x_gIf, x_iL, x_iT, x_tN, x_tgN, x_tgC, x_tTup, x_tUnl, x_gO0, x_gO, x_gSl, x_wipe0, x_wipe1, x_bind, x_map, x_join, List.getElem?_cons_zero, List.getElem?_cons_succ, List.set_cons_zero, List.set_cons_succ, dEq_N, dNe_N, dIn_N, dNotIn_N, dLt_N, dLe_N, dGt_N, dGe_N, dAdd_N, dIx_t0, dIx_t1, dIx_t2, dIx_l0, dIx_l1, dLen_l, dInt_b, dSortI_N, gd, List.length_cons, List.length_nil, Nat.zero_add, Nat.reduceAdd, Nat.reduceLeDiff, if_true, List.length_map, List.length_range, hnh]) (fun h => ?_) fun h => wp_nx ?_)
  · exact wp_ret (d := .tuple [.str "woods", LL parts]) (by simp only [x_gV, x_gC, x_g1, x_g2, x_g3, x_gN, x_gCs, x_gL, x_gT, x_gCall, x_gAnd, x_gOr, x_gIf, x_iL, x_iT, x_tN, x_tgN, x_tgC, x_tTup, x_tUnl, x_gO0, x_gO, x_gSl, x_wipe0, x_wipe1, x_bind, x_map, x_join, List.getElem?_cons_zero, List.getElem?_cons_succ, List.set_cons_zero, List.set_cons_succ, dEq_N, dNe_N, dIn_N, dNotIn_N, dLt_N, dLe_N, dGt_N, dGe_N, dAdd_N, dIx_t0, dIx_t1, dIx_t2, dIx_l0, dIx_l1, dLen_l, dInt_b, dSortI_N, gd, List.length_cons, List.length_nil, Nat.zero_add, Nat.reduceAdd, Nat.reduceLeDiff, if_true, List.length_map, List.length_range]) (.woods parts G.ok G.nd (of_decide_eq_true h))
  · have hne := of_decide_eq_false h
    have hle := nodup_lt_len G.nd (flat_lt G.ok)
    obtain ⟨x0, hx0, hx0'⟩ : ∃ x, x < ts.length ∧ x ∉ parts.flatten := by
      refine Classical.byContradiction fun hno => hne (Nat.le_antisymm hle ?_)
      have := nodup_len (l := List.range ts.length) (m := parts.flatten) List.nodup_range fun x hx => Classical.byContradiction fun k => hno ⟨x, List.mem_range.mp hx, k⟩
      simpa using this
    obtain ⟨C, c1, c2, c3, c4, c5⟩ := r_crowded_places hN hk G (G.out x0 hx0 hx0') hx0'
    refine wp_ret (d := .tuple [.str "places", LN C]) (by simp only [x_gV, x_gC, x_g1, x_g2, x_g3, x_gN, x_gCs, x_gL, x_gT, x_gCall, x_gAnd, x_gOr, x_gIf, x_iL, x_iT, x_tN, x_tgN, x_tgC, x_tTup, x_tUnl, x_gO0, x_gO, x_gSl, x_wipe0, x_wipe1, x_bind, x_map, x_join, List.getElem?_cons_zero, List.getElem?_cons_succ, List.set_cons_zero, List.set_cons_succ, dEq_N, dNe_N, dIn_N, dNotIn_N, dLt_N, dLe_N, dGt_N, dGe_N, dAdd_N, dIx_t0, dIx_t1, dIx_t2, dIx_l0, dIx_l1, dLen_l, dInt_b, dSortI_N, gd, List.length_cons, List.length_nil, Nat.zero_add, Nat.reduceAdd, Nat.reduceLeDiff, if_true, List.length_map, List.length_range, c1]) (.places C c2 c3 c4 (Nat.le_trans c5 ?_))
    rw [← filter_ev]
    exact nodup_len (G.lnd.sublist List.filter_sublist) fun x hx => by
      have := List.mem_filter.mp hx
      exact List.mem_filter.mpr ⟨List.mem_range.mpr (G.lt x this.1), this.2⟩
end K72

namespace K72
open PySem PySem.Spec PyProof.Rows L2 Pu Mt
variable {n : Nat} {ts : List (Nat × Nat)} {k : Nat} {parts : List (List Nat)}
/-! ### the law's own: sets of places -/
def bitN (m i : Nat) : Bool := decide (m / 2 ^ i % 2 = 1)
def things (m : Nat) : List Nat := (List.range 12).filter (bitN m)
theorem dShr_N {a b : Nat} : dShr (N a) (N b) = some (N (a / 2 ^ b)) := by
  have : (0 : Int) ≤ b := by omega
  simp only [dShr]
  rw [if_pos this, Int.toNat_natCast]
  congr 2
theorem dBand_1 {a : Nat} : dBand (N a) (.int 1) = some (N (a % 2)) := by
  simp only [dBand]
  congr 2
  unfold Builtin.bitAnd
  have h1 : decide (0 ≤ (a : Int)) = true := by simp
  have h2 : decide (0 ≤ (1 : Int)) = true := by decide
  rw [h1, h2]
  show (((a : Int).toNat &&& (1 : Int).toNat : Nat) : Int) = _
  rw [Int.toNat_natCast, show (1 : Int).toNat = 1 from rfl, Nat.and_one_is_mod]
theorem dEq_1 {a : Nat} : dEq (N a) (.int 1) = some (.bool (decide (a = 1))) := dEq_N (b := 1)
theorem r_law_things {m : Nat} : g_law_things [N m] = some (LN (things m)) := by
  refine fn_ret [some (N m), none] rfl rfl ?_
  refine v_lc (xs := (List.range 12).map N) (iR1_N (n := 12) rfl (by decide)) (lcL_map (f := N) (e := N) (p := bitN m) (List.range 12) fun i hi => ⟨_, rfl, by simp only [x_gV, x_gC, x_g1, x_g2, x_g3, x_gN, x_gCs, x_gL, x_gT, x_gCall, x_gAnd, x_gOr, x_gIf, x_iL, x_iT, x_tN, x_tgN, x_tgC, x_tTup, x_tUnl, x_gO0, x_gO, x_gSl, x_wipe0, x_wipe1, x_bind, x_map, x_join, List.getElem?_cons_zero, List.getElem?_cons_succ, List.set_cons_zero, List.set_cons_succ, dEq_N, dNe_N, dIn_N, dNotIn_N, dLt_N, dLe_N, dGt_N, dGe_N, dAdd_N, dIx_t0, dIx_t1, dIx_t2, dIx_l0, dIx_l1, dLen_l, dInt_b, dSortI_N, gd, List.length_cons, List.length_nil, Nat.zero_add, Nat.reduceAdd, Nat.reduceLeDiff, if_true, List.length_map, List.length_range, dShr_N, dBand_1, dEq_1]; rfl, fun _ => by simp only [x_gV, x_gC, x_g1, x_g2, x_g3, x_gN, x_gCs, x_gL, x_gT, x_gCall, x_gAnd, x_gOr, x_gIf, x_iL, x_iT, x_tN, x_tgN, x_tgC, x_tTup, x_tUnl, x_gO0, x_gO, x_gSl, x_wipe0, x_wipe1, x_bind, x_map, x_join, List.getElem?_cons_zero, List.getElem?_cons_succ, List.set_cons_zero, List.set_cons_succ, dEq_N, dNe_N, dIn_N, dNotIn_N, dLt_N, dLe_N, dGt_N, dGe_N, dAdd_N, dIx_t0, dIx_t1, dIx_t2, dIx_l0, dIx_l1, dLen_l, dInt_b, dSortI_N, gd, List.length_cons, List.length_nil, Nat.zero_add, Nat.reduceAdd, Nat.reduceLeDiff, if_true, List.length_map, List.length_range]⟩) (by rw [List.length_map, List.length_range]; decide)
theorem r_law_within (hm : ts.length ≤ 1000) {ps : List Nat} : g_law_within [LTs ts, LN ps] = some (N (ts.filter (inP ps)).length) := by
  refine fn_ret [some (LTs ts), some (LN ps), none] rfl rfl ?_
  have h1 := v_lc (own := [2]) (E := [some (LTs ts), some (LN ps), none]) (src := iL (gV 0)) (tg := tN 2) (c := (gAnd (g2 dIn (g2 dIx (gV 2) (gC (.int 0))) (gV 1)) (g2 dIn (g2 dIx (gV 2) (gC (.int 1))) (gV 1)))) (g := gV 2) rfl (lcL_map (f := TT) (e := TT) (p := inP ps) ts fun t ht => ⟨_, rfl, by
    simp only [x_gV, x_gC, x_g1, x_g2, x_g3, x_gN, x_gCs, x_gL, x_gT, x_gCall, x_gAnd, x_gOr, x_gIf, x_iL, x_iT, x_tN, x_tgN, x_tgC, x_tTup, x_tUnl, x_gO0, x_gO, x_gSl, x_wipe0, x_wipe1, x_bind, x_map, x_join, List.getElem?_cons_zero, List.getElem?_cons_succ, List.set_cons_zero, List.set_cons_succ, dEq_N, dNe_N, dIn_N, dNotIn_N, dLt_N, dLe_N, dGt_N, dGe_N, dAdd_N, dIx_t0, dIx_t1, dIx_t2, dIx_l0, dIx_l1, dLen_l, dInt_b, dSortI_N, gd, List.length_cons, List.length_nil, Nat.zero_add, Nat.reduceAdd, Nat.reduceLeDiff, if_true, List.length_map, List.length_range]
    exact x_sAnd _ _ fun _ => rfl, fun _ => by simp only [x_gV, x_gC, x_g1, x_g2, x_g3, x_gN, x_gCs, x_gL, x_gT, x_gCall, x_gAnd, x_gOr, x_gIf, x_iL, x_iT, x_tN, x_tgN, x_tgC, x_tTup, x_tUnl, x_gO0, x_gO, x_gSl, x_wipe0, x_wipe1, x_bind, x_map, x_join, List.getElem?_cons_zero, List.getElem?_cons_succ, List.set_cons_zero, List.set_cons_succ, dEq_N, dNe_N, dIn_N, dNotIn_N, dLt_N, dLe_N, dGt_N, dGe_N, dAdd_N, dIx_t0, dIx_t1, dIx_t2, dIx_l0, dIx_l1, dLen_l, dInt_b, dSortI_N, gd, List.length_cons, List.length_nil, Nat.zero_add, Nat.reduceAdd, Nat.reduceLeDiff, if_true, List.length_map, List.length_range]⟩) (by rw [List.length_map]; omega)
  simp only [x_gCall, x_gCs, h1, x_gV, x_gC, x_g1, x_g2, x_g3, x_gN, x_gCs, x_gL, x_gT, x_gCall, x_gAnd, x_gOr, x_gIf, x_iL, x_iT, x_tN, x_tgN, x_tgC, x_tTup, x_tUnl, x_gO0, x_gO, x_gSl, x_wipe0, x_wipe1, x_bind, x_map, x_join, List.getElem?_cons_zero, List.getElem?_cons_succ, List.set_cons_zero, List.set_cons_succ, dEq_N, dNe_N, dIn_N, dNotIn_N, dLt_N, dLe_N, dGt_N, dGe_N, dAdd_N, dIx_t0, dIx_t1, dIx_t2, dIx_l0, dIx_l1, dLen_l, dInt_b, dSortI_N, gd, List.length_cons, List.length_nil, Nat.zero_add, Nat.reduceAdd, Nat.reduceLeDiff, if_true, List.length_map, List.length_range]
/-- so many parts are needed -/
def Fits (n : Nat) (ts : List (Nat × Nat)) (k : Nat) : Prop := ∀ m, m < 2 ^ n → 1 < (things m).length → (ts.filter (inP (things m))).length ≤ k * ((things m).length - 1)
theorem dMax1_N {l : List Nat} (h : l ≠ []) : ∃ m, dMax1 [.list (l.map N)] = some (N m) ∧ ∀ k, m ≤ k ↔ ∀ x ∈ l, x ≤ k := by
  have hne : l.map cI ≠ [] := fun e => h (List.map_eq_nil_iff.mp e)
  obtain ⟨m1, m2⟩ := maxI_spec hne
  obtain ⟨x, hx, e⟩ := List.mem_map.mp m1
  refine ⟨x, ?_, fun k => ⟨fun hk y hy => ?_, fun hk => hk x hx⟩⟩
  · rw [dMax1, dInts_N]
    have : (l.map cI).isEmpty = false := by cases l with
      | nil => exact absurd rfl h
      | cons _ _ => rfl
    rw [this, ← e]
    rfl
  · have := m2 (cI y) (List.mem_map.mpr ⟨y, hy, rfl⟩)
    rw [← e] at this
    simp only [cI] at this
    omega
theorem dShl_1 {n : Nat} (h : n ≤ 12) : dShl (.int 1) (N n) = some (N (2 ^ n)) := by
  have : (0 : Int) ≤ n ∧ (n : Int) ≤ 1000000 ∧ (1 : Int).natAbs < 2 ^ 64 := ⟨by omega, by omega, by decide⟩
  simp only [dShl]
  rw [if_pos this, Int.toNat_natCast, Int.one_mul]
  congr 2
theorem r_law_need (hn : n ≤ 12) (hm : ts.length ≤ 60) : ∃ d, g_law_need [N n, LTs ts] = some (N d) ∧ ∀ k, d ≤ k ↔ Fits n ts k := by
  have hpow : 2 ^ n ≤ 4096 := by
    have := Nat.pow_le_pow_right (n := 2) (by decide) hn
    exact this
  have key : ∃ x, g_law_need [N n, LTs ts] = some x ∧ ∃ d, x = N d ∧ ∀ k, d ≤ k ↔ Fits n ts k := by
    refine fn_wp [some (N n), some (LTs ts), none, none, none] rfl rfl ?_
    refine wp_seq (wp_set (d := LN [0]) rfl ?_)
    have hsrc : iR1 (g2 dShl (gC (.int 1)) (gV 0)) [some (N n), some (LTs ts), some (LN [0]), none, none] = some ((List.range (2 ^ n)).map N) := iR1_N (by simp only [x_gV, x_gC, x_g1, x_g2, x_g3, x_gN, x_gCs, x_gL, x_gT, x_gCall, x_gAnd, x_gOr, x_gIf, x_iL, x_iT, x_tN, x_tgN, x_tgC, x_tTup, x_tUnl, x_gO0, x_gO, x_gSl, x_wipe0, x_wipe1, x_bind, x_map, x_join, List.getElem?_cons_zero, List.getElem?_cons_succ, List.set_cons_zero, List.set_cons_succ, dEq_N, dNe_N, dIn_N, dNotIn_N, dLt_N, dLe_N, dGt_N, dGe_N, dAdd_N, dIx_t0, dIx_t1, dIx_t2, dIx_l0, dIx_l1, dLen_l, dInt_b, dSortI_N, gd, List.length_cons, List.length_nil, Nat.zero_add, Nat.reduceAdd, Nat.reduceLeDiff, if_true, List.length_map, List.length_range, dShl_1 hn]) (Nat.lt_of_le_of_lt hpow (by decide))
    refine wp_seq (wp_for (e := N) (List.range (2 ^ n)) (fun pre E => ∃ L a b, E = [some (N n), some (LTs ts), some (LN L), a, b] ∧ L ≠ [] ∧ L.length ≤ pre.length + 1 ∧ ∀ k, (∀ x ∈ L, x ≤ k) ↔ ∀ m ∈ pre, 1 < (things m).length → (ts.filter (inP (things m))).length ≤ k * ((things m).length - 1)) hsrc ⟨[0], none, none, rfl, by simp, by simp, fun k => by simp⟩ ?_ ?_)
    · rintro pr m q E hp ⟨L, a, b, rfl, hne, hL, hI⟩
      have hprl : pr.length < 2 ^ n := by
        have := congrArg List.length hp
        simp at this
        omega
      have hthl : (things m).length ≤ 12 := by
        have := List.length_filter_le (bitN m) (List.range 12)
        simpa [things] using this
      refine ⟨_, rfl, ?_⟩
      refine wp_seq (wp_set (d := LN (things m)) (by simp only [x_gV, x_gC, x_g1, x_g2, x_g3, x_gN, x_gCs, x_gL, x_gT, x_gCall, x_gAnd, x_gOr, x_gIf, x_iL, x_iT, x_tN, x_tgN, x_tgC, x_tTup, x_tUnl, x_gO0, x_gO, x_gSl, x_wipe0, x_wipe1, x_bind, x_map, x_join, List.getElem?_cons_zero, List.getElem?_cons_succ, List.set_cons_zero, List.set_cons_succ, dEq_N, dNe_N, dIn_N, dNotIn_N, dLt_N, dLe_N, dGt_N, dGe_N, dAdd_N, dIx_t0, dIx_t1, dIx_t2, dIx_l0, dIx_l1, dLen_l, dInt_b, dSortI_N, gd, List.length_cons, List.length_nil, Nat.zero_add, Nat.reduceAdd, Nat.reduceLeDiff, if_true, List.length_map, List.length_range, r_law_things]) ?_)
      have ext : ∀ k v, (∀ x ∈ L ++ [v], x ≤ k) ↔ (∀ x ∈ L, x ≤ k) ∧ v ≤ k := fun k v => by
        constructor
        · intro h; exact ⟨fun x hx => h x (by simp [hx]), h v (by simp)⟩
        · rintro ⟨h1, h2⟩ x hx
          rcases List.mem_append.mp hx with hx | hx
          · exact h1 x hx
          · simp at hx; rw [hx]; exact h2
      have ext2 : ∀ k, (∀ m' ∈ pr ++ [m], 1 < (things m').length → (ts.filter (inP (things m'))).length ≤ k * ((things m').length - 1)) ↔ (∀ m' ∈ pr, 1 < (things m').length → (ts.filter (inP (things m'))).length ≤ k * ((things m').length - 1)) ∧ (1 < (things m).length → (ts.filter (inP (things m))).length ≤ k * ((things m).length - 1)) := fun k => by
        constructor
        · intro h; exact ⟨fun x hx => h x (by simp [hx]), h m (by simp)⟩
        · rintro ⟨h1, h2⟩ x hx
          rcases List.mem_append.mp hx with hx | hx
          · exact h1 x hx
          · simp at hx; rw [hx]; exact h2
      have hgt : dGt (N (things m).length) (.int 1) = some (.bool (decide (1 < (things m).length))) := dGt_N (b := 1)
      refine wp_if (t := decide (1 < (things m).length)) (by simp only [x_gV, x_gC, x_g1, x_g2, x_g3, x_gN, x_gCs, x_gL, x_gT, x_gCall, x_gAnd, x_gOr, x_gIf, x_iL, x_iT, x_tN, x_tgN, x_tgC, x_tTup, x_tUnl, x_gO0, x_gO, x_gSl, x_wipe0, x_wipe1, x_bind, x_map, x_join, List.getElem?_cons_zero, List.getElem?_cons_succ, List.set_cons_zero, List.set_cons_succ, dEq_N, dNe_N, dIn_N, dNotIn_N, dLt_N, dLe_N, dGt_N, dGe_N, dAdd_N, dIx_t0, dIx_t1, dIx_t2, dIx_l0, dIx_l1, dLen_l, dInt_b, dSortI_N, gd, List.length_cons, List.length_nil, Nat.zero_add, Nat.reduceAdd, Nat.reduceLeDiff, if_true, List.length_map, List.length_range, hgt]) (fun h => ?_) fun h => wp_nx ⟨L, some (N m), some (LN (things m)), rfl, hne, by simp; omega, fun k => ?_⟩
      · have h1 := of_decide_eq_true h
        have s1 : dSub (N ((ts.filter (inP (things m))).length + (things m).length)) (.int 2) = some (N ((ts.filter (inP (things m))).length + (things m).length - 2)) := dSub_N (b := 2) (by omega)
        have s2 : dSub (N (things m).length) (.int 1) = some (N ((things m).length - 1)) := dSub_N (b := 1) (by omega)
        have s3 : dDiv (N ((ts.filter (inP (things m))).length + (things m).length - 2)) (N ((things m).length - 1)) = some (N (((ts.filter (inP (things m))).length + (things m).length - 2) / ((things m).length - 1))) := dDiv_N (by omega) (by omega)
        refine wp_lapp (f := N) (xs := L) (x := ((ts.filter (inP (things m))).length + (things m).length - 2) / ((things m).length - 1)) rfl (by simp only [x_gV, x_gC, x_g1, x_g2, x_g3, x_gN, x_gCs, x_gL, x_gT, x_gCall, x_gAnd, x_gOr, x_gIf, x_iL, x_iT, x_tN, x_tgN, x_tgC, x_tTup, x_tUnl, x_gO0, x_gO, x_gSl, x_wipe0, x_wipe1, x_bind, x_map, x_join, List.getElem?_cons_zero, List.getElem?_cons_succ, List.set_cons_zero, List.set_cons_succ, dEq_N, dNe_N, dIn_N, dNotIn_N, dLt_N, dLe_N, dGt_N, dGe_N, dAdd_N, dIx_t0, dIx_t1, dIx_t2, dIx_l0, dIx_l1, dLen_l, dInt_b, dSortI_N, gd, List.length_cons, List.length_nil, Nat.zero_add, Nat.reduceAdd, Nat.reduceLeDiff, if_true, List.length_map, List.length_range, r_law_within (ts := ts) (ps := things m) (by omega), s1, s2, s3]) (by omega) ⟨L ++ [((ts.filter (inP (things m))).length + (things m).length - 2) / ((things m).length - 1)], some (N m), some (LN (things m)), rfl, by simp, by simp; omega, fun k => ?_⟩
        rw [ext, ext2, hI k]
        refine and_congr_right fun _ => ?_
        rw [← Nat.lt_succ_iff, Nat.div_lt_iff_lt_mul (by omega), Nat.succ_mul]
        constructor
        · intro h2 _; omega
        · intro h2; have := h2 h1; omega
      · have h1 := of_decide_eq_false h
        rw [ext2, hI k]
        exact ⟨fun h2 => ⟨h2, fun h3 => absurd h3 h1⟩, fun h2 => h2.1⟩
    · rintro E ⟨L, a, b, rfl, hne, hL, hI⟩
      obtain ⟨d, q1, q2⟩ := dMax1_N hne
      refine wp_ret (d := N d) (by simp only [x_gV, x_gC, x_g1, x_g2, x_g3, x_gN, x_gCs, x_gL, x_gT, x_gCall, x_gAnd, x_gOr, x_gIf, x_iL, x_iT, x_tN, x_tgN, x_tgC, x_tTup, x_tUnl, x_gO0, x_gO, x_gSl, x_wipe0, x_wipe1, x_bind, x_map, x_join, List.getElem?_cons_zero, List.getElem?_cons_succ, List.set_cons_zero, List.set_cons_succ, dEq_N, dNe_N, dIn_N, dNotIn_N, dLt_N, dLe_N, dGt_N, dGe_N, dAdd_N, dIx_t0, dIx_t1, dIx_t2, dIx_l0, dIx_l1, dLen_l, dInt_b, dSortI_N, gd, List.length_cons, List.length_nil, Nat.zero_add, Nat.reduceAdd, Nat.reduceLeDiff, if_true, List.length_map, List.length_range, q1]; rfl) ⟨d, rfl, fun k => ?_⟩
      rw [q2 k, hI k]
      unfold Fits
      exact ⟨fun h m hm => h m (List.mem_range.mpr hm), fun h m hm => h m (List.mem_range.mp hm)⟩
  obtain ⟨x, h1, d, rfl, h2⟩ := key
  exact ⟨d, h1, h2⟩
/-- any set of places has its mark -/
theorem mark_of (p : Nat → Bool) : ∀ n, ∃ m, m < 2 ^ n ∧ ∀ i, bitN m i = (decide (i < n) && p i)
  | 0 => ⟨0, by decide, fun i => by simp [bitN]⟩
  | n + 1 => by
    obtain ⟨m, h1, h2⟩ := mark_of p n
    have bn : ∀ m i, bitN m i = m.testBit i := fun m i => by
      unfold bitN
      rw [Nat.testBit_eq_decide_div_mod_eq]
    cases hp : p n with
    | false =>
      refine ⟨m, by rw [Nat.pow_succ]; omega, fun i => ?_⟩
      rw [h2 i]
      by_cases hi : i = n
      · subst hi; simp [hp]
      · have : i < n + 1 ↔ i < n := by omega
        simp [this]
    | true =>
      refine ⟨2 ^ n + m, by rw [Nat.pow_succ]; omega, fun i => ?_⟩
      rw [bn]
      by_cases hi : i = n
      · subst hi
        rw [Nat.testBit_two_pow_add_eq]
        have := h2 i
        rw [bn] at this
        simp [this, hp]
      · by_cases hlt : i < n
        · rw [Nat.testBit_two_pow_add_gt hlt, ← bn, h2 i]
          simp [hlt, show i < n + 1 by omega]
        · have hgt : n < i := by omega
          have : 2 ^ n + m < 2 ^ i := by
            have := Nat.pow_le_pow_right (n := 2) (by decide) (show n + 1 ≤ i from hgt)
            rw [Nat.pow_succ] at this
            omega
          rw [Nat.testBit_lt_two_pow this]
          simp [show ¬ i < n + 1 by omega]
theorem mem_things {m i : Nat} : i ∈ things m ↔ i < 12 ∧ bitN m i = true := by simp [things, List.mem_filter]
theorem nodup_things {m : Nat} : (things m).Nodup := List.nodup_range.sublist List.filter_sublist
theorem things_of {C : List Nat} (hn : n ≤ 12) (hC : C.Nodup) (hlt : ∀ v ∈ C, v < n) : ∃ m, m < 2 ^ n ∧ (things m).length = C.length ∧ ∀ v, v ∈ things m ↔ v ∈ C := by
  obtain ⟨m, h1, h2⟩ := mark_of (fun i => decide (i ∈ C)) n
  have hm : ∀ v, v ∈ things m ↔ v ∈ C := fun v => by
    rw [mem_things, h2]
    simp only [Bool.and_eq_true, decide_eq_true_eq]
    exact ⟨fun h => h.2.2, fun h => ⟨by have := hlt v h; omega, hlt v h, h⟩⟩
  refine ⟨m, h1, Nat.le_antisymm (nodup_len nodup_things fun v => (hm v).mp) (nodup_len hC fun v => (hm v).mpr), hm⟩
theorem inP_congr {A B : List Nat} (h : ∀ v, v ∈ A ↔ v ∈ B) : inP A = inP B := by
  funext t
  simp [inP, h]
/-- what the answers mean -/
theorem woods_fits (hN : Net n ts) {parts : List (List Nat)} (hP : Parts ts k parts) (hd : parts.flatten.Nodup) (hl : parts.flatten.length = ts.length) : Fits n ts k := by
  intro m hm h1
  have hn := hN.sz
  have hlt : ∀ v ∈ things m, v < n := fun v hv => by
    obtain ⟨_, hb⟩ := mem_things.mp hv
    refine Classical.byContradiction fun hno => ?_
    have h2 : m < 2 ^ v := Nat.lt_of_lt_of_le hm (Nat.pow_le_pow_right (by decide) (by omega))
    unfold bitN at hb
    rw [Nat.div_eq_of_lt h2] at hb
    simp at hb
  have hne : things m ≠ [] := fun e => by rw [e] at h1; simp at h1
  have w := woods_le (e := ev ts) (P := things m) hlt hne (parts := parts) fun F hF => by
    obtain ⟨p, hp⟩ := List.getElem?_of_mem hF
    exact hP.free p F hp
  rw [hP.len] at w
  refine Nat.le_trans ?_ w
  rw [← filter_ev]
  refine nodup_len (List.nodup_range.sublist List.filter_sublist) fun x hx => ?_
  have hx' := List.mem_filter.mp hx
  refine List.mem_filter.mpr ⟨?_, hx'.2⟩
  refine Classical.byContradiction fun hno => ?_
  have := nodup_len (l := x :: parts.flatten) (m := List.range ts.length) (List.nodup_cons.mpr ⟨hno, hd⟩) fun y hy => by
    rcases List.mem_cons.mp hy with rfl | hy
    · exact hx'.1
    · exact List.mem_range.mpr (flat_lt hP y hy)
  simp [hl] at this
  omega
theorem places_not_fits (hN : Net n ts) {C : List Nat} (hC : C.Nodup) (hlt : ∀ v ∈ C, v < n) (h0 : C ≠ []) (h : k * (C.length - 1) + 1 ≤ (ts.filter (inP C)).length) (hloop : ∀ t ∈ ts, t.1 ≠ t.2) : ¬ Fits n ts k := by
  intro hf
  obtain ⟨m, h1, h2, h3⟩ := things_of hN.sz hC hlt
  have hc1 : 0 < C.length := List.length_pos_iff.mpr h0
  by_cases hc : 1 < C.length
  · have := hf m h1 (by omega)
    rw [inP_congr h3, h2] at this
    omega
  · -- one place holds no tie
    have hlen : C.length = 1 := by omega
    obtain ⟨v, rfl⟩ := List.length_eq_one_iff.mp hlen
    have : ts.filter (inP [v]) = [] := List.filter_eq_nil_iff.mpr fun t ht => by
      have := hloop t ht
      simp only [inP, List.mem_singleton, Bool.and_eq_true, decide_eq_true_eq]
      rintro ⟨e1, e2⟩
      exact this (e1.trans e2.symm)
    rw [this] at h
    simp at h
end K72

namespace K72
open PySem PySem.Spec PyProof.Rows L2 Pu Mt
variable {n : Nat} {ts : List (Nat × Nat)} {k : Nat} {parts : List (List Nat)}
theorem r_law_is_number {a : Nat} : g_law_is_number [N a] = some (.bool true) := by
  refine fn_ret [some (N a)] rfl rfl ?_
  have h1 : dIsa "int" (N a) = some (.bool true) := by
    unfold dIsa isaB tyName
    rfl
  have h2 : dIsa "bool" (N a) = some (.bool false) := by
    unfold dIsa isaB tyName
    simp
  simp only [x_gV, x_gC, x_g1, x_g2, x_g3, x_gN, x_gCs, x_gL, x_gT, x_gCall, x_gAnd, x_gOr, x_gIf, x_iL, x_iT, x_tN, x_tgN, x_tgC, x_tTup, x_tUnl, x_gO0, x_gO, x_gSl, x_wipe0, x_wipe1, x_bind, x_map, x_join, List.getElem?_cons_zero, List.getElem?_cons_succ, List.set_cons_zero, List.set_cons_succ, dEq_N, dNe_N, dIn_N, dNotIn_N, dLt_N, dLe_N, dGt_N, dGe_N, dAdd_N, dIx_t0, dIx_t1, dIx_t2, dIx_l0, dIx_l1, dLen_l, dInt_b, dSortI_N, gd, List.length_cons, List.length_nil, Nat.zero_add, Nat.reduceAdd, Nat.reduceLeDiff, if_true, List.length_map, List.length_range, h1, h2]
  rfl
theorem isa_list {l : List D} : dIsa "list" (.list l) = some (.bool true) := by
  unfold dIsa isaB tyName
  rfl
theorem r_law_is_numbers {l : List Nat} : g_law_is_numbers [LN l] = some (.bool true) := by
  obtain ⟨d, h3, h4⟩ := fn_wp (n := 2) (np := 1) (m := m_law_is_numbers) (ds := [LN l]) (R := fun d => d = .bool true) [some (LN l), none] rfl rfl (by
    refine wp_seq (wp_if (t := false) (by simp only [x_gV, x_gC, x_g1, x_g2, x_g3, x_gN, x_gCs, x_gL, x_gT, x_gCall, x_gAnd, x_gOr, x_gIf, x_iL, x_iT, x_tN, x_tgN, x_tgC, x_tTup, x_tUnl, x_gO0, x_gO, x_gSl, x_wipe0, x_wipe1, x_bind, x_map, x_join, List.getElem?_cons_zero, List.getElem?_cons_succ, List.set_cons_zero, List.set_cons_succ, dEq_N, dNe_N, dIn_N, dNotIn_N, dLt_N, dLe_N, dGt_N, dGe_N, dAdd_N, dIx_t0, dIx_t1, dIx_t2, dIx_l0, dIx_l1, dLen_l, dInt_b, dSortI_N, gd, List.length_cons, List.length_nil, Nat.zero_add, Nat.reduceAdd, Nat.reduceLeDiff, if_true, List.length_map, List.length_range, isa_list]; rfl) (fun k => Bool.noConfusion k) fun _ => wp_nx ?_)
    refine wp_seq (wp_for (e := N) l (fun pre E => ∃ c, E = [some (LN l), c]) rfl ⟨none, rfl⟩ ?_ ?_)
    · rintro p x q E hp ⟨c, rfl⟩
      exact ⟨_, rfl, wp_if (t := false) (by simp only [x_gV, x_gC, x_g1, x_g2, x_g3, x_gN, x_gCs, x_gL, x_gT, x_gCall, x_gAnd, x_gOr, x_gIf, x_iL, x_iT, x_tN, x_tgN, x_tgC, x_tTup, x_tUnl, x_gO0, x_gO, x_gSl, x_wipe0, x_wipe1, x_bind, x_map, x_join, List.getElem?_cons_zero, List.getElem?_cons_succ, List.set_cons_zero, List.set_cons_succ, dEq_N, dNe_N, dIn_N, dNotIn_N, dLt_N, dLe_N, dGt_N, dGe_N, dAdd_N, dIx_t0, dIx_t1, dIx_t2, dIx_l0, dIx_l1, dLen_l, dInt_b, dSortI_N, gd, List.length_cons, List.length_nil, Nat.zero_add, Nat.reduceAdd, Nat.reduceLeDiff, if_true, List.length_map, List.length_range, r_law_is_number]; rfl) (fun k => Bool.noConfusion k) fun _ => wp_nx ⟨some (N x), rfl⟩⟩
    · rintro E ⟨c, rfl⟩
      exact wp_ret rfl rfl)
  rw [g_law_is_numbers, h3, h4]
theorem insN_id {x : Nat} {l : List Nat} (h : ∀ y ∈ l, x ≤ y) : insN x l = x :: l := by
  cases l with
  | nil => rfl
  | cons y l => unfold insN; rw [if_pos (h y (by simp))]
theorem sortN_id : ∀ {l : List Nat}, l.Pairwise (· ≤ ·) → sortN l = l
  | [], _ => rfl
  | x :: l, h => by
    rw [List.pairwise_cons] at h
    show insN x (sortN l) = _
    rw [sortN_id h.2, insN_id h.1]
theorem setI_id {l : List Nat} (h : l.Pairwise (· ≤ ·)) (hn : l.Nodup) : setI (l.map cI) = l.map cI := by
  unfold setI
  rw [sortI_N, sortN_id h]
  clear h
  induction l with
  | nil => rfl
  | cons x l ih =>
    have hn' := List.nodup_cons.mp hn
    rw [List.map_cons, List.foldr_cons, ih hn'.2]
    cases l with
    | nil => rfl
    | cons y l =>
      have : ¬ cI x = cI y := fun e => hn'.1 (by
        simp only [cI] at e
        have : x = y := by omega
        simp [this])
      rw [List.map_cons]
      dsimp only
      rw [if_neg this]
theorem eqvAll_refl : ∀ l : List Nat, PyData.eqvAll (l.map N) (l.map N) = true
  | [] => rfl
  | x :: l => by
    show (PyData.eqv (N x) (N x) && PyData.eqvAll (l.map N) (l.map N)) = true
    rw [eqv_N, eqvAll_refl l]
    simp
theorem dEq_LN {l : List Nat} : dEq (.list (l.map N)) (.list (l.map N)) = some (.bool true) := by
  simp only [dEq, okLN, Bool.and_self, if_true]
  exact congrArg (fun b => some (PyData.bool b)) (eqvAll_refl l)
theorem r_law_is_set {l : List Nat} {m : Nat} (h : l.Pairwise (· ≤ ·)) (hn : l.Nodup) (hl : l.length < 64) (hm : ∀ x ∈ l, x < m) : g_law_is_set [LN l, N m] = some (.bool true) := by
  refine fn_ret [some (LN l), some (N m), none] rfl rfl ?_
  have h1 : dSortSet [.list (l.map N)] = some (LN l) := by
    rw [dSortSet, dInts_N, if_pos (by simpa using hl), setI_id h hn, LN, map_N]
  have h2 : gLc [2] (tN 2) (iL (gV 0)) (gOr (g2 dLt (gV 2) (gC (.int 0))) (g2 dGe (gV 2) (gV 1))) (gV 2) [some (LN l), some (N m), none] = some (LN []) := by
    refine (v_lc rfl (lcL_map (f := N) (e := N) (p := fun _ => false) l fun x hx => ⟨_, rfl, ?_, fun k => Bool.noConfusion k⟩) (by rw [List.length_map]; omega)).trans (by simp)
    have q1 : dLt (N x) (.int 0) = some (.bool false) := (dLt_N (b := 0)).trans (by simp)
    have q2 : decide (m ≤ x) = false := decide_eq_false (by have := hm x hx; omega)
    simp only [x_gV, x_gC, x_g1, x_g2, x_g3, x_gN, x_gCs, x_gL, x_gT, x_gCall, x_gAnd, x_gOr, x_gIf, x_iL, x_iT, x_tN, x_tgN, x_tgC, x_tTup, x_tUnl, x_gO0, x_gO, x_gSl, x_wipe0, x_wipe1, x_bind, x_map, x_join, List.getElem?_cons_zero, List.getElem?_cons_succ, List.set_cons_zero, List.set_cons_succ, dEq_N, dNe_N, dIn_N, dNotIn_N, dLt_N, dLe_N, dGt_N, dGe_N, dAdd_N, dIx_t0, dIx_t1, dIx_t2, dIx_l0, dIx_l1, dLen_l, dInt_b, dSortI_N, gd, List.length_cons, List.length_nil, Nat.zero_add, Nat.reduceAdd, Nat.reduceLeDiff, if_true, List.length_map, List.length_range, q1, q2]
  have h3 : dEq (LN []) (.list []) = some (.bool true) := dEq_LN (l := [])
  simp only [x_gAnd, x_g2, h2, x_gV, x_gC, x_g1, x_g2, x_g3, x_gN, x_gCs, x_gL, x_gT, x_gCall, x_gAnd, x_gOr, x_gIf, x_iL, x_iT, x_tN, x_tgN, x_tgC, x_tTup, x_tUnl, x_gO0, x_gO, x_gSl, x_wipe0, x_wipe1, x_bind, x_map, x_join, List.getElem?_cons_zero, List.getElem?_cons_succ, List.set_cons_zero, List.set_cons_succ, dEq_N, dNe_N, dIn_N, dNotIn_N, dLt_N, dLe_N, dGt_N, dGe_N, dAdd_N, dIx_t0, dIx_t1, dIx_t2, dIx_l0, dIx_l1, dLen_l, dInt_b, dSortI_N, gd, List.length_cons, List.length_nil, Nat.zero_add, Nat.reduceAdd, Nat.reduceLeDiff, if_true, List.length_map, List.length_range, r_law_is_numbers, h1, dEq_LN, h3]
theorem dEq_sorted2 {a b : Nat} : sortN [a, b] = [min a b, max a b] := by
  show insN a [b] = _
  unfold insN
  by_cases h : a ≤ b
  · rw [if_pos h, Nat.min_eq_left h, Nat.max_eq_right h]
  · rw [if_neg h, Nat.min_eq_right (by omega), Nat.max_eq_left (by omega)]
    rfl
theorem r_law_net_free (hN : Net n ts) {xs : List Nat} (hl : xs.length < 1000) (hx : ∀ x ∈ xs, x < ts.length) : ∃ b, g_law_net_free [N n, LTs ts, LN xs] = some (.bool b) ∧ (b = true ↔ FreeL (gcl (ev ts)) xs) := by
  have key : ∃ d, g_law_net_free [N n, LTs ts, LN xs] = some d ∧ ∃ b, d = .bool b ∧ (b = true ↔ FreeL (gcl (ev ts)) xs) := by
    have hsz := hN.sz
    refine fn_wp [some (N n), some (LTs ts), some (LN xs), none, none, none, none, none] rfl rfl ?_
    refine wp_seq (wp_set (d := LN (List.range n)) (by simp only [x_gV, x_gC, x_g1, x_g2, x_g3, x_gN, x_gCs, x_gL, x_gT, x_gCall, x_gAnd, x_gOr, x_gIf, x_iL, x_iT, x_tN, x_tgN, x_tgC, x_tTup, x_tUnl, x_gO0, x_gO, x_gSl, x_wipe0, x_wipe1, x_bind, x_map, x_join, List.getElem?_cons_zero, List.getElem?_cons_succ, List.set_cons_zero, List.set_cons_succ, dEq_N, dNe_N, dIn_N, dNotIn_N, dLt_N, dLe_N, dGt_N, dGe_N, dAdd_N, dIx_t0, dIx_t1, dIx_t2, dIx_l0, dIx_l1, dLen_l, dInt_b, dSortI_N, gd, List.length_cons, List.length_nil, Nat.zero_add, Nat.reduceAdd, Nat.reduceLeDiff, if_true, List.length_map, List.length_range]; exact dRng_N (by omega)) ?_)
    refine wp_seq (wp_for (e := N) xs (fun pre E => ∃ nm a b c, E = [some (N n), some (LTs ts), some (LN xs), some (LN ((List.range n).map nm)), a, b, c, none] ∧ Names (ev ts) (· ∈ pre) nm n ∧ FreeL (gcl (ev ts)) pre) rfl ⟨id, none, none, none, by simp, names_start_nil n, freeL_nil⟩ ?_ ?_)
    · rintro p x q E hp ⟨nm, a, b, c, rfl, hNm, hF⟩
      have hxm := hx x (by rw [hp]; simp)
      obtain ⟨h1, h2⟩ := hN.ev hxm
      have k0 : dIx (.list (ts.map TT)) (N x) = some (TT (ev ts x)) := dIx_some (ev_get hxm)
      have k1 : dIx (.list (((List.range n).map nm).map N)) (N (ev ts x).1) = some (N (nm (ev ts x).1)) := dIx_some (by simp [h1])
      have k2 : dIx (.list (((List.range n).map nm).map N)) (N (ev ts x).2) = some (N (nm (ev ts x).2)) := dIx_some (by simp [h2])
      have k3 : dSortI [.list [N (nm (ev ts x).1), N (nm (ev ts x).2)]] = some (.list [N (min (nm (ev ts x).1) (nm (ev ts x).2)), N (max (nm (ev ts x).1) (nm (ev ts x).2))]) := (dSortI_N (l := [nm (ev ts x).1, nm (ev ts x).2])).trans (by rw [dEq_sorted2]; rfl)
      refine ⟨_, rfl, ?_⟩
      refine wp_seq (wp_asg (d := .list [N (min (nm (ev ts x).1) (nm (ev ts x).2)), N (max (nm (ev ts x).1) (nm (ev ts x).2))]) (by simp only [x_gV, x_gC, x_g1, x_g2, x_g3, x_gN, x_gCs, x_gL, x_gT, x_gCall, x_gAnd, x_gOr, x_gIf, x_iL, x_iT, x_tN, x_tgN, x_tgC, x_tTup, x_tUnl, x_gO0, x_gO, x_gSl, x_wipe0, x_wipe1, x_bind, x_map, x_join, List.getElem?_cons_zero, List.getElem?_cons_succ, List.set_cons_zero, List.set_cons_succ, dEq_N, dNe_N, dIn_N, dNotIn_N, dLt_N, dLe_N, dGt_N, dGe_N, dAdd_N, dIx_t0, dIx_t1, dIx_t2, dIx_l0, dIx_l1, dLen_l, dInt_b, dSortI_N, gd, List.length_cons, List.length_nil, Nat.zero_add, Nat.reduceAdd, Nat.reduceLeDiff, if_true, List.length_map, List.length_range, k0, k1, k2, k3]) rfl ?_)
      refine wp_seq (wp_if (t := decide (min (nm (ev ts x).1) (nm (ev ts x).2) = max (nm (ev ts x).1) (nm (ev ts x).2))) (by simp only [x_gV, x_gC, x_g1, x_g2, x_g3, x_gN, x_gCs, x_gL, x_gT, x_gCall, x_gAnd, x_gOr, x_gIf, x_iL, x_iT, x_tN, x_tgN, x_tgC, x_tTup, x_tUnl, x_gO0, x_gO, x_gSl, x_wipe0, x_wipe1, x_bind, x_map, x_join, List.getElem?_cons_zero, List.getElem?_cons_succ, List.set_cons_zero, List.set_cons_succ, dEq_N, dNe_N, dIn_N, dNotIn_N, dLt_N, dLe_N, dGt_N, dGe_N, dAdd_N, dIx_t0, dIx_t1, dIx_t2, dIx_l0, dIx_l1, dLen_l, dInt_b, dSortI_N, gd, List.length_cons, List.length_nil, Nat.zero_add, Nat.reduceAdd, Nat.reduceLeDiff, if_true, List.length_map, List.length_range]) (fun ht => ?_) fun hf => ?_)
      · have heq : nm (ev ts x).1 = nm (ev ts x).2 := by have := of_decide_eq_true ht; omega
        refine wp_ret rfl ⟨false, rfl, ⟨fun h => Bool.noConfusion h, fun h => ?_⟩⟩
        exact absurd ((hNm _ _ h1 h2).mp heq) (freeL_snoc.mp (h.sublist (by rw [hp]; simp))).2
      · have hne : ¬ nm (ev ts x).1 = nm (ev ts x).2 := by have := of_decide_eq_false hf; omega
        refine wp_nx (wp_set (d := LN ((List.range n).map fun i => if nm i = max (nm (ev ts x).1) (nm (ev ts x).2) then min (nm (ev ts x).1) (nm (ev ts x).2) else nm i)) ?_ ?_)
        · have := lcL_all (tg := tN 7) (c := gC (.bool true)) (g := g2 dIx (gL (gCs (gV 7) (gCs (gV 5) gN))) (gCall dInt (gCs (g2 dEq (gV 7) (gV 6)) gN))) (E := [some (N n), some (LTs ts), some (LN xs), some (LN ((List.range n).map nm)), some (N x), some (N (min (nm (ev ts x).1) (nm (ev ts x).2))), some (N (max (nm (ev ts x).1) (nm (ev ts x).2))), none]) (e := N) (f := fun v => N (if v = max (nm (ev ts x).1) (nm (ev ts x).2) then min (nm (ev ts x).1) (nm (ev ts x).2) else v)) ((List.range n).map nm) fun v hv => ⟨_, rfl, rfl, by
            simp only [x_gV, x_gC, x_g1, x_g2, x_g3, x_gN, x_gCs, x_gL, x_gT, x_gCall, x_gAnd, x_gOr, x_gIf, x_iL, x_iT, x_tN, x_tgN, x_tgC, x_tTup, x_tUnl, x_gO0, x_gO, x_gSl, x_wipe0, x_wipe1, x_bind, x_map, x_join, List.getElem?_cons_zero, List.getElem?_cons_succ, List.set_cons_zero, List.set_cons_succ, dEq_N, dNe_N, dIn_N, dNotIn_N, dLt_N, dLe_N, dGt_N, dGe_N, dAdd_N, dIx_t0, dIx_t1, dIx_t2, dIx_l0, dIx_l1, dLen_l, dInt_b, dSortI_N, gd, List.length_cons, List.length_nil, Nat.zero_add, Nat.reduceAdd, Nat.reduceLeDiff, if_true, List.length_map, List.length_range]
            by_cases hv : v = max (nm (ev ts x).1) (nm (ev ts x).2)
            · simp only [hv, decide_true, if_true]
              exact dIx_l1
            · simp only [hv, decide_false, if_false]
              exact dIx_l0⟩
          exact (v_lc rfl this (by simp; omega)).trans (by simp [Function.comp_def])
        · refine ⟨_, some (N x), some (N (min (nm (ev ts x).1) (nm (ev ts x).2))), some (N (max (nm (ev ts x).1) (nm (ev ts x).2))), rfl, ?_, freeL_snoc.mpr ⟨hF, fun k => hne ((hNm _ _ h1 h2).mpr k)⟩⟩
          refine (hNm.merge h1 h2 ?_).congr fun y => by simp
          rcases Nat.le_total (nm (ev ts x).1) (nm (ev ts x).2) with h | h
          · exact .inr ⟨by omega, by omega⟩
          · exact .inl ⟨by omega, by omega⟩
    · rintro E ⟨nm, a, b, c, rfl, hNm, hF⟩
      exact wp_ret rfl ⟨true, rfl, fun _ => hF, fun _ => rfl⟩
  obtain ⟨d, h1, b, rfl, h2⟩ := key
  exact ⟨b, h1, h2⟩
theorem lenSet_N {l : List Nat} (h : l.Nodup) (hl : l.length ≤ 4000) : dLenSet [.list (l.map N)] = some (N l.length) := by
  have hn : (l.map cI).Nodup := by
    refine List.pairwise_map.mpr (h.imp fun {a b} hab e => hab ?_)
    simp only [cI] at e
    omega
  rw [dLenSet, dInts_N, if_pos (by simpa using hl)]
  have : cntI (l.map cI) = l.length := by
    unfold cntI
    rw [RZ.firstMet_nodup hn _ (Nat.le_refl _)]
    simp
  rw [this]
theorem r_law_are_woods (hN : Net n ts) (hk : k ≤ 1000) (hP : Parts ts k parts) (hd : parts.flatten.Nodup) : g_law_are_woods [N n, LTs ts, N k, LL parts] = some (.bool true) := by
  have hm := hN.m
  have hfl := nodup_lt_len hd (flat_lt hP)
  obtain ⟨d, h3, h4⟩ := fn_wp (n := 6) (np := 4) (m := m_law_are_woods) (ds := [N n, LTs ts, N k, LL parts]) (R := fun d => d = .bool true) [some (N n), some (LTs ts), some (N k), some (LL parts), none, none] rfl rfl (by
    have hne : decide (parts.length ≠ k) = false := decide_eq_false (fun h => h hP.len)
    refine wp_seq (wp_if (t := false) (by simp only [x_gV, x_gC, x_g1, x_g2, x_g3, x_gN, x_gCs, x_gL, x_gT, x_gCall, x_gAnd, x_gOr, x_gIf, x_iL, x_iT, x_tN, x_tgN, x_tgC, x_tTup, x_tUnl, x_gO0, x_gO, x_gSl, x_wipe0, x_wipe1, x_bind, x_map, x_join, List.getElem?_cons_zero, List.getElem?_cons_succ, List.set_cons_zero, List.set_cons_succ, dEq_N, dNe_N, dIn_N, dNotIn_N, dLt_N, dLe_N, dGt_N, dGe_N, dAdd_N, dIx_t0, dIx_t1, dIx_t2, dIx_l0, dIx_l1, dLen_l, dInt_b, dSortI_N, gd, List.length_cons, List.length_nil, Nat.zero_add, Nat.reduceAdd, Nat.reduceLeDiff, if_true, List.length_map, List.length_range, isa_list]; simp only [dNot, x_gV, x_gC, x_g1, x_g2, x_g3, x_gN, x_gCs, x_gL, x_gT, x_gCall, x_gAnd, x_gOr, x_gIf, x_iL, x_iT, x_tN, x_tgN, x_tgC, x_tTup, x_tUnl, x_gO0, x_gO, x_gSl, x_wipe0, x_wipe1, x_bind, x_map, x_join, List.getElem?_cons_zero, List.getElem?_cons_succ, List.set_cons_zero, List.set_cons_succ, dEq_N, dNe_N, dIn_N, dNotIn_N, dLt_N, dLe_N, dGt_N, dGe_N, dAdd_N, dIx_t0, dIx_t1, dIx_t2, dIx_l0, dIx_l1, dLen_l, dInt_b, dSortI_N, gd, List.length_cons, List.length_nil, Nat.zero_add, Nat.reduceAdd, Nat.reduceLeDiff, if_true, List.length_map, List.length_range, hne, Bool.not_true, Bool.not_false]) (fun k => Bool.noConfusion k) fun _ => wp_nx ?_)
    refine wp_seq (wp_set (d := LN []) rfl ?_)
    refine wp_seq (wp_for (e := LN) parts (fun pre E => ∃ c, E = [some (N n), some (LTs ts), some (N k), some (LL parts), some (LN pre.flatten), c]) rfl ⟨none, rfl⟩ ?_ ?_)
    · rintro p P q E hp ⟨c, rfl⟩
      have hPm : P ∈ parts := by rw [hp]; simp
      obtain ⟨i, hi⟩ := List.getElem?_of_mem hPm
      have hfr := hP.free i P hi
      have hsm := hP.small hN hi
      have k1 := r_law_is_set (l := P) (m := ts.length) (hP.sort P hPm) hfr.1 (by omega) (hP.lt P hPm)
      obtain ⟨b, k2, k3⟩ := r_law_net_free hN (xs := P) (by omega) (hP.lt P hPm)
      rw [k3.mpr hfr] at k2
      have hlen : p.flatten.length + P.length ≤ parts.flatten.length := by
        rw [hp]; simp
      have k4 : dAdd (.list (p.flatten.map N)) (.list (P.map N)) = some (LN (p ++ [P]).flatten) := by
        rw [dAdd_ok (by simp only [List.length_map]; omega)]
        simp
      refine ⟨_, rfl, ?_⟩
      refine wp_seq (wp_if (t := false) (by simp only [x_gV, x_gC, x_g1, x_g2, x_g3, x_gN, x_gCs, x_gL, x_gT, x_gCall, x_gAnd, x_gOr, x_gIf, x_iL, x_iT, x_tN, x_tgN, x_tgC, x_tTup, x_tUnl, x_gO0, x_gO, x_gSl, x_wipe0, x_wipe1, x_bind, x_map, x_join, List.getElem?_cons_zero, List.getElem?_cons_succ, List.set_cons_zero, List.set_cons_succ, dEq_N, dNe_N, dIn_N, dNotIn_N, dLt_N, dLe_N, dGt_N, dGe_N, dAdd_N, dIx_t0, dIx_t1, dIx_t2, dIx_l0, dIx_l1, dLen_l, dInt_b, dSortI_N, gd, List.length_cons, List.length_nil, Nat.zero_add, Nat.reduceAdd, Nat.reduceLeDiff, if_true, List.length_map, List.length_range, k1, k2]; simp only [dNot, x_gV, x_gC, x_g1, x_g2, x_g3, x_gN, x_gCs, x_gL, x_gT, x_gCall, x_gAnd, x_gOr, x_gIf, x_iL, x_iT, x_tN, x_tgN, x_tgC, x_tTup, x_tUnl, x_gO0, x_gO, x_gSl, x_wipe0, x_wipe1, x_bind, x_map, x_join, List.getElem?_cons_zero, List.getElem?_cons_succ, List.set_cons_zero, List.set_cons_succ, dEq_N, dNe_N, dIn_N, dNotIn_N, dLt_N, dLe_N, dGt_N, dGe_N, dAdd_N, dIx_t0, dIx_t1, dIx_t2, dIx_l0, dIx_l1, dLen_l, dInt_b, dSortI_N, gd, List.length_cons, List.length_nil, Nat.zero_add, Nat.reduceAdd, Nat.reduceLeDiff, if_true, List.length_map, List.length_range, Bool.not_true, Bool.not_false]) (fun k => Bool.noConfusion k) fun _ => wp_nx ?_)
      exact wp_set (d := LN (p ++ [P]).flatten) (by simp only [x_gV, x_gC, x_g1, x_g2, x_g3, x_gN, x_gCs, x_gL, x_gT, x_gCall, x_gAnd, x_gOr, x_gIf, x_iL, x_iT, x_tN, x_tgN, x_tgC, x_tTup, x_tUnl, x_gO0, x_gO, x_gSl, x_wipe0, x_wipe1, x_bind, x_map, x_join, List.getElem?_cons_zero, List.getElem?_cons_succ, List.set_cons_zero, List.set_cons_succ, dEq_N, dNe_N, dIn_N, dNotIn_N, dLt_N, dLe_N, dGt_N, dGe_N, dAdd_N, dIx_t0, dIx_t1, dIx_t2, dIx_l0, dIx_l1, dLen_l, dInt_b, dSortI_N, gd, List.length_cons, List.length_nil, Nat.zero_add, Nat.reduceAdd, Nat.reduceLeDiff, if_true, List.length_map, List.length_range, k4]) ⟨some (LN P), rfl⟩
    · rintro E ⟨c, rfl⟩
      refine wp_ret (d := .bool true) (by simp only [x_gV, x_gC, x_g1, x_g2, x_g3, x_gN, x_gCs, x_gL, x_gT, x_gCall, x_gAnd, x_gOr, x_gIf, x_iL, x_iT, x_tN, x_tgN, x_tgC, x_tTup, x_tUnl, x_gO0, x_gO, x_gSl, x_wipe0, x_wipe1, x_bind, x_map, x_join, List.getElem?_cons_zero, List.getElem?_cons_succ, List.set_cons_zero, List.set_cons_succ, dEq_N, dNe_N, dIn_N, dNotIn_N, dLt_N, dLe_N, dGt_N, dGe_N, dAdd_N, dIx_t0, dIx_t1, dIx_t2, dIx_l0, dIx_l1, dLen_l, dInt_b, dSortI_N, gd, List.length_cons, List.length_nil, Nat.zero_add, Nat.reduceAdd, Nat.reduceLeDiff, if_true, List.length_map, List.length_range, lenSet_N hd (by omega)]; simp only [decide_true]) rfl)
  rw [g_law_are_woods, h3, h4]
theorem cutD_take {α : Type} {f : α → D} {xs : List α} {j : Nat} : Pu.cutD (xs.map f) none (some (j : Int)) = (xs.take j).map f := by
  unfold Pu.cutD
  rw [HT.sIx_none, HT.sIx_nat, List.length_map]
  simp [List.map_take]
theorem cutD_drop {α : Type} {f : α → D} {xs : List α} {j : Nat} : Pu.cutD (xs.map f) (some (j : Int)) none = (xs.drop j).map f := by
  unfold Pu.cutD
  rw [HT.sIx_none, HT.sIx_nat, List.length_map]
  rcases Nat.le_total j xs.length with h | h
  · rw [Nat.min_eq_left h, List.take_of_length_le (by simp), List.map_drop]
  · rw [Nat.min_eq_right h]
    simp [List.drop_eq_nil_of_le h]
theorem r_law_with {ls : List (List Nat)} {j : Nat} {l : List Nat} (hl : ls.length ≤ 1000) : g_law_with [LL ls, N j, LN l] = some (LL (ls.take j ++ [l] ++ ls.drop (j + 1))) := by
  refine fn_ret [some (LL ls), some (N j), some (LN l)] rfl rfl ?_
  have a1 : dAdd (N j) (.int 1) = some (N (j + 1)) := dAdd_N (b := 1)
  have l1 : (ls.take j).length ≤ 1000 := Nat.le_trans (List.length_take_le' ..) hl
  have l2 : (ls.drop (j + 1)).length ≤ 1000 := by rw [List.length_drop]; omega
  have c1 : dCat (.list ((ls.take j).map LN)) (.list [LN l]) = some (.list ((ls.take j ++ [l]).map LN)) := by
    rw [dCat_ok (by rw [List.length_map]; simp; omega)]
    simp
  have c2 : dCat (.list ((ls.take j ++ [l]).map LN)) (.list ((ls.drop (j + 1)).map LN)) = some (LL (ls.take j ++ [l] ++ ls.drop (j + 1))) := by
    rw [dCat_ok (by simp only [List.length_map, List.length_append]; simp; omega)]
    simp
  have t1 : Pu.cutD (ls.map LN) none (some (j : Int)) = (ls.take j).map LN := cutD_take
  have t2 : Pu.cutD (ls.map LN) (some ((j + 1 : Nat) : Int)) none = (ls.drop (j + 1)).map LN := cutD_drop
  simp only [x_gV, x_gC, x_g1, x_g2, x_g3, x_gN, x_gCs, x_gL, x_gT, x_gCall, x_gAnd, x_gOr, x_gIf, x_iL, x_iT, x_tN, x_tgN, x_tgC, x_tTup, x_tUnl, x_gO0, x_gO, x_gSl, x_wipe0, x_wipe1, x_bind, x_map, x_join, List.getElem?_cons_zero, List.getElem?_cons_succ, List.set_cons_zero, List.set_cons_succ, dEq_N, dNe_N, dIn_N, dNotIn_N, dLt_N, dLe_N, dGt_N, dGe_N, dAdd_N, dIx_t0, dIx_t1, dIx_t2, dIx_l0, dIx_l1, dLen_l, dInt_b, dSortI_N, gd, List.length_cons, List.length_nil, Nat.zero_add, Nat.reduceAdd, Nat.reduceLeDiff, if_true, List.length_map, List.length_range, a1, t1, t2, c1]
  exact c2
end K72

namespace K72
open PySem PySem.Spec PyProof.Rows L2 Pu Mt
variable {n : Nat} {ts : List (Nat × Nat)} {k : Nat} {parts : List (List Nat)}
theorem filter_in {t : Nat} : ∀ {l : List Nat}, l.Pairwise (· ≤ ·) → l.Nodup → t ∈ l → l.filter (fun x => decide (x < t + 1)) = l.filter (fun x => decide (x < t)) ++ [t]
  | [], _, _, h => by cases h
  | x :: l, hs, hn, h => by
    rw [List.pairwise_cons] at hs
    rw [List.nodup_cons] at hn
    by_cases e : x = t
    · subst e
      have h1 : l.filter (fun y => decide (y < x + 1)) = [] := List.filter_eq_nil_iff.mpr fun y hy => by
        have a := hs.1 y hy
        have b : y ≠ x := fun e => hn.1 (e ▸ hy)
        simp; omega
      have h2 : l.filter (fun y => decide (y < x)) = [] := List.filter_eq_nil_iff.mpr fun y hy => by
        have a := hs.1 y hy
        simp; omega
      simp [List.filter_cons, h1, h2]
    · have ht : t ∈ l := (List.mem_cons.mp h).elim (fun k => absurd k.symm e) id
      have hx : x < t := Nat.lt_of_le_of_ne (hs.1 t ht) e
      have ih := filter_in hs.2 hn.2 ht
      simp [List.filter_cons, show x < t + 1 by omega, hx, ih]
theorem filter_out {t : Nat} {l : List Nat} (h : t ∉ l) : l.filter (fun x => decide (x < t + 1)) = l.filter (fun x => decide (x < t)) :=
  List.filter_congr fun x hx => by
    have : x ≠ t := fun e => h (e ▸ hx)
    by_cases k : x < t
    · simp [k]; omega
    · have : ¬ x < t + 1 := by omega
      simp [k, this]
structure Dl (ts : List (Nat × Nat)) (t : Nat) (ls : List (List Nat)) : Prop where
  ok : Parts ts 2 ls
  nd : ls.flatten.Nodup
  len : ls.flatten.length = t
  lt : ∀ x ∈ ls.flatten, x < t
def cutAt (parts : List (List Nat)) (t : Nat) : List (List Nat) := parts.map fun P => P.filter fun x => decide (x < t)
theorem set_take {α : Type} {l : List α} {j : Nat} {x : α} (h : j < l.length) : l.take j ++ [x] ++ l.drop (j + 1) = l.set j x := by
  rw [List.set_eq_take_append_cons_drop, if_pos h]
  simp
theorem cut_step (hP : Parts ts 2 parts) (hd : parts.flatten.Nodup) {t j : Nat} {P : List Nat} (hj : parts[j]? = some P) (ht : t ∈ P) : cutAt parts (t + 1) = (cutAt parts t).set j (P.filter (fun x => decide (x < t)) ++ [t]) := by
  have hjl := (List.getElem?_eq_some_iff.mp hj).1
  apply List.ext_getElem?
  intro i
  by_cases hi : j = i
  · subst hi
    rw [List.getElem?_set_self (by simpa [cutAt] using hjl)]
    simp only [cutAt, List.getElem?_map, hj, Option.map_some]
    rw [filter_in (hP.sort P (List.mem_of_getElem? hj)) (hP.free j P hj).1 ht]
  · rw [List.getElem?_set_ne hi]
    simp only [cutAt, List.getElem?_map]
    cases hQ : parts[i]? with
    | none => rfl
    | some Q =>
      have hn : t ∉ Q := fun hq => by
        have h1 := (flatten_at hj).nodup hd
        have h2 := (List.nodup_append.mp h1).2.2
        refine h2 t ht t (List.mem_flatten.mpr ⟨Q, ?_, hq⟩) rfl
        rw [List.mem_iff_getElem?]
        rcases Nat.lt_or_gt_of_ne hi with hlt | hgt
        · refine ⟨i - 1, ?_⟩
          rw [List.getElem?_eraseIdx_of_ge (by omega), Nat.sub_add_cancel (by omega)]
          exact hQ
        · exact ⟨i, by rw [List.getElem?_eraseIdx_of_lt hgt]; exact hQ⟩
      simp only [Option.map_some]
      rw [filter_out hn]
theorem okD_LLL (l : List (List (List Nat))) : okD (.list (l.map LL)) = true := by
  have h1 : ∀ ls : List (List Nat), noDs (ls.map LN) = true := fun ls => by
    induction ls with
    | nil => rfl
    | cons a Ls ih => simp [noDs, noD, noDs_N, ih]
  have h2 : ∀ l : List (List (List Nat)), noDs (l.map LL) = true := fun l => by
    induction l with
    | nil => rfl
    | cons a Ls ih => simp [noDs, noD, h1, ih]
  have c1 : ∀ ls : List (List Nat), PyData.canLayAll0 (ls.map LN) = true := fun ls => by
    induction ls with
    | nil => rfl
    | cons a Ls ih => simp [PyData.canLayAll0, PyData.canLay0, lay_N, ih]
  have c2 : ∀ l : List (List (List Nat)), PyData.canLayAll0 (l.map LL) = true := fun l => by
    induction l with
    | nil => rfl
    | cons a Ls ih => simp [PyData.canLayAll0, PyData.canLay0, c1, ih]
  have d1 : ∀ ls : List (List Nat), PyData.depthAll (ls.map LN) ≤ 1 := fun ls => by
    induction ls with
    | nil => simp [PyData.depthAll]
    | cons a Ls ih => simp only [List.map_cons, PyData.depthAll, PyData.depth, dep_N]; omega
  have d2 : ∀ l : List (List (List Nat)), PyData.depthAll (l.map LL) ≤ 2 := fun l => by
    induction l with
    | nil => simp [PyData.depthAll]
    | cons a Ls ih =>
      have := d1 a
      simp only [List.map_cons, PyData.depthAll, PyData.depth]
      omega
  have d3 : (PyData.list (l.map LL)).depth ≤ 64 := by
    have := d2 l
    simp only [PyData.depth]; omega
  simp only [okD, noD, h2 l, SeqAt.shaped, PyData.canLay0, c2 l, d3, decide_true, Bool.and_self]
theorem dNe_nil {l : List (List (List Nat))} : dNe (.list (l.map LL)) (.list []) = some (.bool (decide (l ≠ []))) := by
  simp only [dNe, okD_LLL l, okD_LLL [], show okD (.list []) = true from okD_LLL [], Bool.and_self, if_true]
  cases l with
  | nil => rfl
  | cons a l => rfl
theorem r_law_dealt (hN : Net n ts) (hl6 : ts.length ≤ 6) (hloop : ∀ t ∈ ts, t.1 ≠ t.2) : ∃ b, g_law_dealt [N n, LTs ts, N 2] = some (.bool b) ∧ (b = true ↔ Fits n ts 2) := by
  have key : ∃ d, g_law_dealt [N n, LTs ts, N 2] = some d ∧ ∃ b, d = .bool b ∧ (b = true ↔ Fits n ts 2) := by
    refine fn_wp [some (N n), some (LTs ts), some (N 2), none, none, none, none, none, none] rfl rfl ?_
    have h0 : gLc [7] (tN 7) (iR1 (gV 2)) (gC (.bool true)) (gL gN) [some (N n), some (LTs ts), some (N 2), none, none, none, none, none, none] = some (LL [[], []]) :=
      (v_lc (xs := (List.range 2).map N) (iR1_N (n := 2) rfl (by decide)) (lcL_all (f := fun _ => LN []) (e := N) (List.range 2) fun p hp => ⟨_, rfl, rfl, rfl⟩) (by simp)).trans rfl
    refine wp_seq (wp_set (d := .list ([[[], []]].map LL)) (by simp only [x_gL, x_gCs, h0, x_gV, x_gC, x_g1, x_g2, x_g3, x_gN, x_gCs, x_gL, x_gT, x_gCall, x_gAnd, x_gOr, x_gIf, x_iL, x_iT, x_tN, x_tgN, x_tgC, x_tTup, x_tUnl, x_gO0, x_gO, x_gSl, x_wipe0, x_wipe1, x_bind, x_map, x_join, List.getElem?_cons_zero, List.getElem?_cons_succ, List.set_cons_zero, List.set_cons_succ, dEq_N, dNe_N, dIn_N, dNotIn_N, dLt_N, dLe_N, dGt_N, dGe_N, dAdd_N, dIx_t0, dIx_t1, dIx_t2, dIx_l0, dIx_l1, dLen_l, dInt_b, dSortI_N, gd, List.length_cons, List.length_nil, Nat.zero_add, Nat.reduceAdd, Nat.reduceLeDiff, if_true, List.length_map, List.length_range]; rfl) ?_)
    have allnil : ∀ P ∈ ([[], []] : List (List Nat)), P = [] := fun P h => by simpa using h
    have start : Dl ts 0 [[], []] := by
      refine ⟨⟨rfl, fun p P h => ?_, fun P h x hx => ?_, fun P h => ?_⟩, by simp, rfl, fun x hx => by simp at hx⟩
      · rw [allnil P (List.mem_of_getElem? h)]; exact freeL_nil
      · rw [allnil P h] at hx; cases hx
      · rw [allnil P h]; exact .nil
    have hsrc : iR1 (gCall dLen (gCs (gV 1) gN)) [some (N n), some (LTs ts), some (N 2), some (.list ([[[], []]].map LL)), none, none, none, none, none] = some ((List.range ts.length).map N) := iR1_N (by simp only [x_gV, x_gC, x_g1, x_g2, x_g3, x_gN, x_gCs, x_gL, x_gT, x_gCall, x_gAnd, x_gOr, x_gIf, x_iL, x_iT, x_tN, x_tgN, x_tgC, x_tTup, x_tUnl, x_gO0, x_gO, x_gSl, x_wipe0, x_wipe1, x_bind, x_map, x_join, List.getElem?_cons_zero, List.getElem?_cons_succ, List.set_cons_zero, List.set_cons_succ, dEq_N, dNe_N, dIn_N, dNotIn_N, dLt_N, dLe_N, dGt_N, dGe_N, dAdd_N, dIx_t0, dIx_t1, dIx_t2, dIx_l0, dIx_l1, dLen_l, dInt_b, dSortI_N, gd, List.length_cons, List.length_nil, Nat.zero_add, Nat.reduceAdd, Nat.reduceLeDiff, if_true, List.length_map, List.length_range]) (Nat.lt_of_le_of_lt hl6 (by decide))
    refine wp_seq (wp_for (e := N) (List.range ts.length) (fun pre E => ∃ deals a b c d f, E = [some (N n), some (LTs ts), some (N 2), some (.list (deals.map LL)), a, b, c, d, f] ∧ deals.length ≤ 2 ^ pre.length ∧ (∀ ls ∈ deals, Dl ts pre.length ls) ∧ ∀ parts, Parts ts 2 parts → parts.flatten.Nodup → parts.flatten.length = ts.length → cutAt parts pre.length ∈ deals) hsrc ⟨[[[], []]], none, none, none, none, none, rfl, by simp, fun ls h => by simp at h; rw [h]; exact start, fun parts h1 _ _ => ?_⟩ ?_ ?_)
    · have : cutAt parts 0 = [[], []] := by
        clear hsrc
        have hl2 := h1.len
        match parts, hl2 with
        | [A, B], _ => simp [cutAt]
      simp [this]
    · rintro pr t q E hp ⟨deals, a, b, c, d, f, rfl, hD, hS, hC⟩
      have htl : t = pr.length := by
        have h1 : (List.range ts.length)[pr.length]? = some t := by rw [hp]; simp
        obtain ⟨h2, h3⟩ := List.getElem?_eq_some_iff.mp h1
        rw [← h3]; simp
      have htm : t < ts.length := List.mem_range.mp (by rw [hp]; simp)
      subst htl
      have hp6 : pr.length < 6 := by omega
      have hpw : 2 ^ pr.length ≤ 32 := Nat.le_trans (Nat.pow_le_pow_right (by decide) (show pr.length ≤ 5 by omega)) (by decide)
      refine ⟨_, rfl, ?_⟩
      refine wp_seq (wp_set (d := .list (([] : List (List (List Nat))).map LL)) rfl ?_)
      refine wp_seq (wp_for (e := LL) deals (fun pre2 E => ∃ longer c d f, E = [some (N n), some (LTs ts), some (N 2), some (.list (deals.map LL)), some (N pr.length), some (.list (longer.map LL)), c, d, f] ∧ longer.length ≤ 2 * pre2.length ∧ (∀ ls ∈ longer, Dl ts (pr.length + 1) ls) ∧ ∀ ls ∈ pre2, ∀ j l, ls[j]? = some l → FreeL (gcl (ev ts)) (l ++ [pr.length]) → ls.set j (l ++ [pr.length]) ∈ longer) rfl ⟨[], c, d, f, rfl, by simp, fun ls h => absurd h List.not_mem_nil, fun ls h => absurd h List.not_mem_nil⟩ ?_ ?_)
      · rintro p2 ls q2 E hp2 ⟨longer, c, d, f, rfl, hL, hS2, hC2⟩
        have hlsm : ls ∈ deals := by rw [hp2]; simp
        have D := hS ls hlsm
        have hp2l : p2.length < 32 := by
          have := congrArg List.length hp2
          simp at this
          omega
        refine ⟨_, rfl, ?_⟩
        have hsrc2 : iR1 (gV 2) [some (N n), some (LTs ts), some (N 2), some (.list (deals.map LL)), some (N pr.length), some (.list (longer.map LL)), some (LL ls), d, f] = some ((List.range 2).map N) := iR1_N (n := 2) rfl (by decide)
        refine wp_for (e := N) (List.range 2) (fun pre3 E => ∃ longer' d f, E = [some (N n), some (LTs ts), some (N 2), some (.list (deals.map LL)), some (N pr.length), some (.list (longer'.map LL)), some (LL ls), d, f] ∧ longer'.length ≤ longer.length + pre3.length ∧ (∀ ls ∈ longer, ls ∈ longer') ∧ (∀ ls ∈ longer', Dl ts (pr.length + 1) ls) ∧ ∀ j ∈ pre3, ∀ l, ls[j]? = some l → FreeL (gcl (ev ts)) (l ++ [pr.length]) → ls.set j (l ++ [pr.length]) ∈ longer') hsrc2 ⟨longer, d, f, rfl, by simp, fun _ h => h, hS2, fun j h => absurd h List.not_mem_nil⟩ ?_ ?_
        · rintro p3 j q3 E hp3 ⟨longer', d, f, rfl, hL3, hsub, hS3, hC3⟩
          have hj2 : j < 2 := List.mem_range.mp (by rw [hp3]; simp)
          have hp3l : p3.length < 2 := by
            have := congrArg List.length hp3
            simp at this
            omega
          have hjl : j < ls.length := by rw [D.ok.len]; exact hj2
          obtain ⟨l, hl⟩ : ∃ l, ls[j]? = some l := ⟨_, List.getElem?_eq_getElem hjl⟩
          have hsm := D.ok.small hN hl
          have k1 : dIx (.list (ls.map LN)) (N j) = some (LN l) := dIx_some hl
          have k2 : dCat (.list (l.map N)) (.list [N pr.length]) = some (LN (l ++ [pr.length])) := by
            rw [dCat_ok (by rw [List.length_map]; simp; omega)]
            simp
          have hltl : ∀ x ∈ l ++ [pr.length], x < ts.length := fun x hx => by
            rcases List.mem_append.mp hx with h | h
            · exact D.ok.lt l (List.mem_of_getElem? hl) x h
            · simp at h; rw [h]; exact htm
          obtain ⟨b2, k3, k4⟩ := r_law_net_free hN (xs := l ++ [pr.length]) (by simp; omega) hltl
          have k5 := r_law_with (ls := ls) (j := j) (l := l ++ [pr.length]) (by rw [D.ok.len]; decide)
          rw [set_take hjl] at k5
          refine ⟨_, rfl, ?_⟩
          refine wp_seq (wp_set (d := LN (l ++ [pr.length])) (by simp only [x_gV, x_gC, x_g1, x_g2, x_g3, x_gN, x_gCs, x_gL, x_gT, x_gCall, x_gAnd, x_gOr, x_gIf, x_iL, x_iT, x_tN, x_tgN, x_tgC, x_tTup, x_tUnl, x_gO0, x_gO, x_gSl, x_wipe0, x_wipe1, x_bind, x_map, x_join, List.getElem?_cons_zero, List.getElem?_cons_succ, List.set_cons_zero, List.set_cons_succ, dEq_N, dNe_N, dIn_N, dNotIn_N, dLt_N, dLe_N, dGt_N, dGe_N, dAdd_N, dIx_t0, dIx_t1, dIx_t2, dIx_l0, dIx_l1, dLen_l, dInt_b, dSortI_N, gd, List.length_cons, List.length_nil, Nat.zero_add, Nat.reduceAdd, Nat.reduceLeDiff, if_true, List.length_map, List.length_range, k1, k2]) ?_)
          refine wp_if (t := b2) (by simp only [x_gV, x_gC, x_g1, x_g2, x_g3, x_gN, x_gCs, x_gL, x_gT, x_gCall, x_gAnd, x_gOr, x_gIf, x_iL, x_iT, x_tN, x_tgN, x_tgC, x_tTup, x_tUnl, x_gO0, x_gO, x_gSl, x_wipe0, x_wipe1, x_bind, x_map, x_join, List.getElem?_cons_zero, List.getElem?_cons_succ, List.set_cons_zero, List.set_cons_succ, dEq_N, dNe_N, dIn_N, dNotIn_N, dLt_N, dLe_N, dGt_N, dGe_N, dAdd_N, dIx_t0, dIx_t1, dIx_t2, dIx_l0, dIx_l1, dLen_l, dInt_b, dSortI_N, gd, List.length_cons, List.length_nil, Nat.zero_add, Nat.reduceAdd, Nat.reduceLeDiff, if_true, List.length_map, List.length_range, k3]) (fun hb => ?_) fun hb => wp_nx ⟨longer', some (N j), some (LN (l ++ [pr.length])), rfl, by simp; omega, hsub, hS3, fun j' hj' l' hl' hf => ?_⟩
          · have fr := k4.mp hb
            have new : Dl ts (pr.length + 1) (ls.set j (l ++ [pr.length])) := by
              have pm : (ls.set j (l ++ [pr.length])).flatten.Perm (pr.length :: ls.flatten) := by
                refine (flatten_set _ hjl).trans ?_
                refine (List.perm_append_comm.append_right _).trans ?_
                exact ((flatten_at hl).symm.cons pr.length)
              refine ⟨⟨by rw [List.length_set]; exact D.ok.len, fun p P hP => ?_, fun P hP x hx => ?_, fun P hP => ?_⟩, pm.symm.nodup (List.nodup_cons.mpr ⟨fun h => Nat.lt_irrefl _ (D.lt _ h), D.nd⟩), by rw [pm.length_eq, List.length_cons, D.len], fun x hx => ?_⟩
              · by_cases hjp : j = p
                · subst hjp
                  rw [List.getElem?_set_self hjl] at hP
                  cases hP
                  exact fr
                · rw [List.getElem?_set_ne hjp] at hP
                  exact D.ok.free p P hP
              · rcases List.mem_or_eq_of_mem_set hP with h | h
                · exact D.ok.lt P h x hx
                · subst h; exact hltl x hx
              · rcases List.mem_or_eq_of_mem_set hP with h | h
                · exact D.ok.sort P h
                · subst h
                  refine List.pairwise_append.mpr ⟨D.ok.sort l (List.mem_of_getElem? hl), List.pairwise_singleton .., fun x hx y hy => ?_⟩
                  simp at hy
                  subst hy
                  exact Nat.le_of_lt (D.lt x (List.mem_flatten.mpr ⟨l, List.mem_of_getElem? hl, hx⟩))
              · rcases List.mem_cons.mp (pm.mem_iff.mp hx) with h | h
                · omega
                · have := D.lt x h; omega
            refine wp_lapp (f := LL) (xs := longer') (x := ls.set j (l ++ [pr.length])) rfl (by simp only [x_gV, x_gC, x_g1, x_g2, x_g3, x_gN, x_gCs, x_gL, x_gT, x_gCall, x_gAnd, x_gOr, x_gIf, x_iL, x_iT, x_tN, x_tgN, x_tgC, x_tTup, x_tUnl, x_gO0, x_gO, x_gSl, x_wipe0, x_wipe1, x_bind, x_map, x_join, List.getElem?_cons_zero, List.getElem?_cons_succ, List.set_cons_zero, List.set_cons_succ, dEq_N, dNe_N, dIn_N, dNotIn_N, dLt_N, dLe_N, dGt_N, dGe_N, dAdd_N, dIx_t0, dIx_t1, dIx_t2, dIx_l0, dIx_l1, dLen_l, dInt_b, dSortI_N, gd, List.length_cons, List.length_nil, Nat.zero_add, Nat.reduceAdd, Nat.reduceLeDiff, if_true, List.length_map, List.length_range, k5]) (by omega) ⟨longer' ++ [ls.set j (l ++ [pr.length])], some (N j), some (LN (l ++ [pr.length])), rfl, by simp; omega, fun ls' h => List.mem_append_left _ (hsub ls' h), fun ls' h => ?_, fun j' hj' l' hl' hf => ?_⟩
            · rcases List.mem_append.mp h with h | h
              · exact hS3 ls' h
              · simp at h; rw [h]; exact new
            · rcases List.mem_append.mp hj' with h | h
              · exact List.mem_append_left _ (hC3 j' h l' hl' hf)
              · simp at h
                subst h
                rw [hl] at hl'
                cases hl'
                simp
          · rcases List.mem_append.mp hj' with h | h
            · exact hC3 j' h l' hl' hf
            · simp at h
              subst h
              rw [hl] at hl'
              cases hl'
              rw [k4.mpr hf] at hb
              cases hb
        · rintro E ⟨longer', d, f, rfl, hL3, hsub, hS3, hC3⟩
          refine ⟨longer', some (LL ls), d, f, rfl, by simp at hL3 ⊢; omega, hS3, fun ls' hls' j l hl hf => ?_⟩
          rcases List.mem_append.mp hls' with h | h
          · exact hsub _ (hC2 ls' h j l hl hf)
          · simp at h
            subst h
            exact hC3 j (List.mem_range.mpr (by rw [← D.ok.len]; exact (List.getElem?_eq_some_iff.mp hl).1)) l hl hf
      · rintro E ⟨longer, c, d, f, rfl, hL, hS2, hC2⟩
        refine wp_set (d := .list (longer.map LL)) rfl ⟨longer, some (N pr.length), some (.list (longer.map LL)), c, d, f, rfl, ?_, by rw [List.length_append]; exact hS2, fun parts h1 h2 h3 => ?_⟩
        · rw [List.length_append, List.length_singleton, Nat.pow_succ]
          omega
        · have hmem := hC parts h1 h2 h3
          obtain ⟨x, hx⟩ : ∃ P ∈ parts, pr.length ∈ P := by
            have : pr.length ∈ parts.flatten := Classical.byContradiction fun hno => by
              have := nodup_len (l := pr.length :: parts.flatten) (m := List.range ts.length) (List.nodup_cons.mpr ⟨hno, h2⟩) fun y hy => by
                rcases List.mem_cons.mp hy with rfl | hy
                · exact List.mem_range.mpr htm
                · exact List.mem_range.mpr (flat_lt h1 y hy)
              simp [h3] at this
              omega
            obtain ⟨P, a, b⟩ := List.mem_flatten.mp this
            exact ⟨P, a, b⟩
          obtain ⟨j, hj⟩ := List.getElem?_of_mem hx.1
          rw [List.length_append, List.length_singleton, cut_step h1 h2 hj hx.2]
          refine hC2 _ hmem j _ (by simp [cutAt, hj]) ?_
          rw [← filter_in (h1.sort x hx.1) (h1.free j x hj).1 hx.2]
          exact (h1.free j x hj).sublist List.filter_sublist
    · rintro E ⟨deals, a, b, c, d, f, rfl, hD, hS, hC⟩
      simp only [List.length_range] at hS hC
      refine wp_ret (d := .bool (decide (deals ≠ []))) (by simp only [x_gV, x_gC, x_g1, x_g2, x_g3, x_gN, x_gCs, x_gL, x_gT, x_gCall, x_gAnd, x_gOr, x_gIf, x_iL, x_iT, x_tN, x_tgN, x_tgC, x_tTup, x_tUnl, x_gO0, x_gO, x_gSl, x_wipe0, x_wipe1, x_bind, x_map, x_join, List.getElem?_cons_zero, List.getElem?_cons_succ, List.set_cons_zero, List.set_cons_succ, dEq_N, dNe_N, dIn_N, dNotIn_N, dLt_N, dLe_N, dGt_N, dGe_N, dAdd_N, dIx_t0, dIx_t1, dIx_t2, dIx_l0, dIx_l1, dLen_l, dInt_b, dSortI_N, gd, List.length_cons, List.length_nil, Nat.zero_add, Nat.reduceAdd, Nat.reduceLeDiff, if_true, List.length_map, List.length_range]; exact dNe_nil) ⟨_, rfl, ?_⟩
      rw [decide_eq_true_iff]
      constructor
      · intro hne
        obtain ⟨ls, hls⟩ := List.exists_mem_of_ne_nil deals hne
        have D := hS ls hls
        exact woods_fits hN D.ok D.nd D.len
      · intro hf hnil
        obtain ⟨w, _, hw⟩ := r_woods hN (k := 2) (by decide) (by decide)
        cases hw with
        | woods parts h1 h2 h3 =>
          have := hC parts h1 h2 h3
          rw [hnil] at this
          cases this
        | places C h1 h2 h3 h4 => exact places_not_fits hN h1 h2 h3 h4 hloop hf
  obtain ⟨d, h1, b, rfl, h2⟩ := key
  exact ⟨b, h1, h2⟩
end K72

namespace K72
open PySem PySem.Spec PyProof.Rows L2 Pu Mt
variable {n : Nat} {ts : List (Nat × Nat)} {k : Nat} {parts : List (List Nat)}
theorem s_woods : dEq (.str "woods") (.str "woods") = some (.bool true) := by
  have h1 : okD (.str "woods") = true := by decide +kernel
  simp only [dEq, h1, Bool.and_self, if_true]
  simp [PyData.eqv]
theorem s_woods_ne : dNe (.str "woods") (.str "woods") = some (.bool false) := by
  have h1 : okD (.str "woods") = true := by decide +kernel
  simp only [dNe, h1, Bool.and_self, if_true]
  simp [PyData.eqv]
theorem s_neq : (Str.ofString "places" == Str.ofString "woods") = false := by decide +kernel
theorem s_pl1 : dEq (.str "places") (.str "woods") = some (.bool false) := by
  have h1 : okD (.str "woods") = true := by decide +kernel
  have h2 : okD (.str "places") = true := by decide +kernel
  simp only [dEq, h1, h2, Bool.and_self, if_true]
  exact congrArg (fun b => some (PyData.bool b)) s_neq
theorem s_pl2 : dNe (.str "places") (.str "woods") = some (.bool true) := by
  have h1 : okD (.str "woods") = true := by decide +kernel
  have h2 : okD (.str "places") = true := by decide +kernel
  simp only [dNe, h1, h2, Bool.and_self, if_true]
  exact congrArg (fun b => some (PyData.bool (!b))) s_neq
theorem dNe_b {a b : Bool} : dNe (.bool a) (.bool b) = some (.bool (a != b)) := by cases a <;> cases b <;> rfl
theorem Net.drop (hN : Net n ts) : Net n (ts.drop 1) := ⟨hN.sz, by rw [List.length_drop]; have := hN.m; omega, fun t h => hN.lt t (List.mem_of_mem_drop h)⟩
theorem r_law_decided (hN : Net n ts) (hloop : ∀ t ∈ ts, t.1 ≠ t.2) : g_law_decided [N n, LTs ts] = some (.bool true) := by
  have hm := hN.m
  have hsz := hN.sz
  obtain ⟨nd, q1, q2⟩ := r_law_need hN.sz hN.m
  obtain ⟨d, h3, h4⟩ := fn_wp (n := 6) (np := 2) (m := m_law_decided) (ds := [N n, LTs ts]) (R := fun d => d = .bool true) [some (N n), some (LTs ts), none, none, none, none] rfl rfl (by
    refine wp_seq (wp_set (d := N nd) (by simp only [x_gV, x_gC, x_g1, x_g2, x_g3, x_gN, x_gCs, x_gL, x_gT, x_gCall, x_gAnd, x_gOr, x_gIf, x_iL, x_iT, x_tN, x_tgN, x_tgC, x_tTup, x_tUnl, x_gO0, x_gO, x_gSl, x_wipe0, x_wipe1, x_bind, x_map, x_join, List.getElem?_cons_zero, List.getElem?_cons_succ, List.set_cons_zero, List.set_cons_succ, dEq_N, dNe_N, dIn_N, dNotIn_N, dLt_N, dLe_N, dGt_N, dGe_N, dAdd_N, dIx_t0, dIx_t1, dIx_t2, dIx_l0, dIx_l1, dLen_l, dInt_b, dSortI_N, gd, List.length_cons, List.length_nil, Nat.zero_add, Nat.reduceAdd, Nat.reduceLeDiff, if_true, List.length_map, List.length_range, q1]) ?_)
    refine wp_seq (wp_for (e := N) [1, 2, 3, 4] (fun pre E => ∃ a b, E = [some (N n), some (LTs ts), some (N nd), a, b, none]) rfl ⟨none, none, rfl⟩ ?_ ?_)
    · rintro p k q E hp ⟨a, b, rfl⟩
      have hk : 0 < k ∧ k ≤ 4 := by
        have : k ∈ [1, 2, 3, 4] := by rw [hp]; simp
        simp at this
        omega
      obtain ⟨w, w1, w2⟩ := r_woods hN (k := k) (by omega) hk.1
      have hlst : dLst [.list (ts.map TT)] = some (LTs ts) := dLst_l (by rw [List.length_map]; omega)
      refine ⟨_, rfl, ?_⟩
      refine wp_seq (wp_set (d := w) (by simp only [x_gV, x_gC, x_g1, x_g2, x_g3, x_gN, x_gCs, x_gL, x_gT, x_gCall, x_gAnd, x_gOr, x_gIf, x_iL, x_iT, x_tN, x_tgN, x_tgC, x_tTup, x_tUnl, x_gO0, x_gO, x_gSl, x_wipe0, x_wipe1, x_bind, x_map, x_join, List.getElem?_cons_zero, List.getElem?_cons_succ, List.set_cons_zero, List.set_cons_succ, dEq_N, dNe_N, dIn_N, dNotIn_N, dLt_N, dLe_N, dGt_N, dGe_N, dAdd_N, dIx_t0, dIx_t1, dIx_t2, dIx_l0, dIx_l1, dLen_l, dInt_b, dSortI_N, gd, List.length_cons, List.length_nil, Nat.zero_add, Nat.reduceAdd, Nat.reduceLeDiff, if_true, List.length_map, List.length_range, hlst, w1]) ?_)
      cases w2 with
      | woods parts p1 p2 p3 =>
        have hfit := woods_fits hN p1 p2 p3
        have hnk : decide (nd ≤ k) = true := decide_eq_true ((q2 k).mpr hfit)
        have hps := p1.len
        have hls : dSum [.list ((parts.map List.length).map N)] = some (N ts.length) := by
          have h1 := r_number_held (parts := parts) (by omega)
          rw [dSum, dInts_N]
          have : ∀ l : List Nat, (l.map cI).sum = ((l.sum : Nat) : Int) := fun l => by
            induction l with
            | nil => rfl
            | cons x l ih => rw [List.map_cons, List.sum_cons, ih, List.sum_cons]; simp
          rw [this, ← List.length_flatten, p3]
        have hlc : ∀ E : En, E.length = 6 → gV 4 E = some (.tuple [.str "woods", LL parts]) → gLc [5] (tN 5) (iL (g2 dIx (gV 4) (gC (.int 1)))) (gC (.bool true)) (gCall dLen (gCs (gV 5) gN)) E = some (LN (parts.map List.length)) := fun E hE hv => by
          match E, hE with
          | [e0, e1, e2, e3, e4, e5], _ =>
            refine (v_lc (xs := parts.map LN) (by simp only [x_iL, x_g2, hv, x_gV, x_gC, x_g1, x_g2, x_g3, x_gN, x_gCs, x_gL, x_gT, x_gCall, x_gAnd, x_gOr, x_gIf, x_iL, x_iT, x_tN, x_tgN, x_tgC, x_tTup, x_tUnl, x_gO0, x_gO, x_gSl, x_wipe0, x_wipe1, x_bind, x_map, x_join, List.getElem?_cons_zero, List.getElem?_cons_succ, List.set_cons_zero, List.set_cons_succ, dEq_N, dNe_N, dIn_N, dNotIn_N, dLt_N, dLe_N, dGt_N, dGe_N, dAdd_N, dIx_t0, dIx_t1, dIx_t2, dIx_l0, dIx_l1, dLen_l, dInt_b, dSortI_N, gd, List.length_cons, List.length_nil, Nat.zero_add, Nat.reduceAdd, Nat.reduceLeDiff, if_true, List.length_map, List.length_range]) (lcL_all (f := fun P => N P.length) (e := LN) parts fun p hp => ⟨_, rfl, rfl, by simp only [x_gV, x_gC, x_g1, x_g2, x_g3, x_gN, x_gCs, x_gL, x_gT, x_gCall, x_gAnd, x_gOr, x_gIf, x_iL, x_iT, x_tN, x_tgN, x_tgC, x_tTup, x_tUnl, x_gO0, x_gO, x_gSl, x_wipe0, x_wipe1, x_bind, x_map, x_join, List.getElem?_cons_zero, List.getElem?_cons_succ, List.set_cons_zero, List.set_cons_succ, dEq_N, dNe_N, dIn_N, dNotIn_N, dLt_N, dLe_N, dGt_N, dGe_N, dAdd_N, dIx_t0, dIx_t1, dIx_t2, dIx_l0, dIx_l1, dLen_l, dInt_b, dSortI_N, gd, List.length_cons, List.length_nil, Nat.zero_add, Nat.reduceAdd, Nat.reduceLeDiff, if_true, List.length_map, List.length_range]⟩) (by rw [List.length_map]; omega)).trans (by simp [Function.comp_def])
        refine wp_seq (wp_if (t := false) (by simp only [x_gV, x_gC, x_g1, x_g2, x_g3, x_gN, x_gCs, x_gL, x_gT, x_gCall, x_gAnd, x_gOr, x_gIf, x_iL, x_iT, x_tN, x_tgN, x_tgC, x_tTup, x_tUnl, x_gO0, x_gO, x_gSl, x_wipe0, x_wipe1, x_bind, x_map, x_join, List.getElem?_cons_zero, List.getElem?_cons_succ, List.set_cons_zero, List.set_cons_succ, dEq_N, dNe_N, dIn_N, dNotIn_N, dLt_N, dLe_N, dGt_N, dGe_N, dAdd_N, dIx_t0, dIx_t1, dIx_t2, dIx_l0, dIx_l1, dLen_l, dInt_b, dSortI_N, gd, List.length_cons, List.length_nil, Nat.zero_add, Nat.reduceAdd, Nat.reduceLeDiff, if_true, List.length_map, List.length_range, s_woods, hnk]; rw [dNe_b]; rfl) (fun k => Bool.noConfusion k) fun _ => wp_nx ?_)
        refine wp_seq (wp_if (t := false) ?_ (fun k => Bool.noConfusion k) fun _ => wp_nx ?_)
        · have h5 := hlc [some (N n), some (LTs ts), some (N nd), some (N k), some (.tuple [.str "woods", LL parts]), none] rfl rfl
          have h6 := r_law_are_woods hN (k := k) (by omega) p1 p2
          have h7 : decide (ts.length ≠ ts.length) = false := by simp
          simp only [x_gAnd, x_gOr, x_g2, x_gCall, x_gCs, List.set_cons_succ, List.set_cons_zero, h5]
          simp only [x_gV, x_gC, x_g1, x_g2, x_g3, x_gN, x_gCs, x_gL, x_gT, x_gCall, x_gAnd, x_gOr, x_gIf, x_iL, x_iT, x_tN, x_tgN, x_tgC, x_tTup, x_tUnl, x_gO0, x_gO, x_gSl, x_wipe0, x_wipe1, x_bind, x_map, x_join, List.getElem?_cons_zero, List.getElem?_cons_succ, List.set_cons_zero, List.set_cons_succ, dEq_N, dNe_N, dIn_N, dNotIn_N, dLt_N, dLe_N, dGt_N, dGe_N, dAdd_N, dIx_t0, dIx_t1, dIx_t2, dIx_l0, dIx_l1, dLen_l, dInt_b, dSortI_N, gd, List.length_cons, List.length_nil, Nat.zero_add, Nat.reduceAdd, Nat.reduceLeDiff, if_true, List.length_map, List.length_range, s_woods, h6, hls, dNot, h7, Bool.not_true]
        · exact wp_if (t := false) (by simp only [x_gV, x_gC, x_g1, x_g2, x_g3, x_gN, x_gCs, x_gL, x_gT, x_gCall, x_gAnd, x_gOr, x_gIf, x_iL, x_iT, x_tN, x_tgN, x_tgC, x_tTup, x_tUnl, x_gO0, x_gO, x_gSl, x_wipe0, x_wipe1, x_bind, x_map, x_join, List.getElem?_cons_zero, List.getElem?_cons_succ, List.set_cons_zero, List.set_cons_succ, dEq_N, dNe_N, dIn_N, dNotIn_N, dLt_N, dLe_N, dGt_N, dGe_N, dAdd_N, dIx_t0, dIx_t1, dIx_t2, dIx_l0, dIx_l1, dLen_l, dInt_b, dSortI_N, gd, List.length_cons, List.length_nil, Nat.zero_add, Nat.reduceAdd, Nat.reduceLeDiff, if_true, List.length_map, List.length_range, s_woods_ne]) (fun k => Bool.noConfusion k) fun _ => wp_nx ⟨some (N k), some (.tuple [.str "woods", LL parts]), rfl⟩
      | places C c1 c2 c3 c4 =>
        have hnf := places_not_fits hN c1 c2 c3 c4 hloop
        have hnk : decide (nd ≤ k) = false := decide_eq_false fun h => hnf ((q2 k).mp h)
        have hC1 : 0 < C.length := List.length_pos_iff.mpr c3
        have hCl := nodup_lt_len c1 c2
        have k1 : dSub (N C.length) (.int 1) = some (N (C.length - 1)) := dSub_N (b := 1) (by omega)
        have k2 : dMul (N k) (N (C.length - 1)) = some (N (k * (C.length - 1))) := dMul_N (.inl (by omega))
        have k3 : decide ((ts.filter (inP C)).length ≤ k * (C.length - 1)) = false := decide_eq_false (by omega)
        refine wp_seq (wp_if (t := false) (by simp only [x_gV, x_gC, x_g1, x_g2, x_g3, x_gN, x_gCs, x_gL, x_gT, x_gCall, x_gAnd, x_gOr, x_gIf, x_iL, x_iT, x_tN, x_tgN, x_tgC, x_tTup, x_tUnl, x_gO0, x_gO, x_gSl, x_wipe0, x_wipe1, x_bind, x_map, x_join, List.getElem?_cons_zero, List.getElem?_cons_succ, List.set_cons_zero, List.set_cons_succ, dEq_N, dNe_N, dIn_N, dNotIn_N, dLt_N, dLe_N, dGt_N, dGe_N, dAdd_N, dIx_t0, dIx_t1, dIx_t2, dIx_l0, dIx_l1, dLen_l, dInt_b, dSortI_N, gd, List.length_cons, List.length_nil, Nat.zero_add, Nat.reduceAdd, Nat.reduceLeDiff, if_true, List.length_map, List.length_range, s_pl1, hnk]; rw [dNe_b]; rfl) (fun k => Bool.noConfusion k) fun _ => wp_nx ?_)
        refine wp_seq (wp_if (t := false) (by simp only [x_gV, x_gC, x_g1, x_g2, x_g3, x_gN, x_gCs, x_gL, x_gT, x_gCall, x_gAnd, x_gOr, x_gIf, x_iL, x_iT, x_tN, x_tgN, x_tgC, x_tTup, x_tUnl, x_gO0, x_gO, x_gSl, x_wipe0, x_wipe1, x_bind, x_map, x_join, List.getElem?_cons_zero, List.getElem?_cons_succ, List.set_cons_zero, List.set_cons_succ, dEq_N, dNe_N, dIn_N, dNotIn_N, dLt_N, dLe_N, dGt_N, dGe_N, dAdd_N, dIx_t0, dIx_t1, dIx_t2, dIx_l0, dIx_l1, dLen_l, dInt_b, dSortI_N, gd, List.length_cons, List.length_nil, Nat.zero_add, Nat.reduceAdd, Nat.reduceLeDiff, if_true, List.length_map, List.length_range, s_pl1]) (fun k => Bool.noConfusion k) fun _ => wp_nx ?_)
        exact wp_if (t := false) (by simp only [x_gV, x_gC, x_g1, x_g2, x_g3, x_gN, x_gCs, x_gL, x_gT, x_gCall, x_gAnd, x_gOr, x_gIf, x_iL, x_iT, x_tN, x_tgN, x_tgC, x_tTup, x_tUnl, x_gO0, x_gO, x_gSl, x_wipe0, x_wipe1, x_bind, x_map, x_join, List.getElem?_cons_zero, List.getElem?_cons_succ, List.set_cons_zero, List.set_cons_succ, dEq_N, dNe_N, dIn_N, dNotIn_N, dLt_N, dLe_N, dGt_N, dGe_N, dAdd_N, dIx_t0, dIx_t1, dIx_t2, dIx_l0, dIx_l1, dLen_l, dInt_b, dSortI_N, gd, List.length_cons, List.length_nil, Nat.zero_add, Nat.reduceAdd, Nat.reduceLeDiff, if_true, List.length_map, List.length_range, s_pl2, r_law_within (ts := ts) (ps := C) (by omega), k1, k2, k3]) (fun k => Bool.noConfusion k) fun _ => wp_nx ⟨some (N k), some (.tuple [.str "places", LN C]), rfl⟩
    · rintro E ⟨a, b, rfl⟩
      obtain ⟨nd', r1, r2⟩ := r_law_need hN.sz (ts := ts.drop 1) hN.drop.m
      have hle : decide (nd' ≤ nd) = true := decide_eq_true ((r2 nd).mpr fun m h1 h2 => Nat.le_trans ((List.drop_sublist 1 ts).filter _).length_le ((q2 nd).mp (Nat.le_refl _) m h1 h2))
      have cut : Pu.cutD (ts.map TT) (some 1) none = (ts.drop 1).map TT := cutD_drop (j := 1)
      have e6 : dLe (N ts.length) (.int 6) = some (.bool (decide (ts.length ≤ 6))) := dLe_N (b := 6)
      have e2 : dLe (N nd) (.int 2) = some (.bool (decide (nd ≤ 2))) := dLe_N (b := 2)
      refine wp_seq (wp_if (t := false) ?_ (fun k => Bool.noConfusion k) fun _ => wp_nx ?_)
      · by_cases h6 : ts.length ≤ 6
        · obtain ⟨b, s1, s2⟩ := r_law_dealt hN h6 hloop
          have hb : b = decide (nd ≤ 2) := by
            rw [Bool.eq_iff_iff, s2, decide_eq_true_iff, q2 2]
          have s1' : g_law_dealt [N n, .list (ts.map TT), .int 2] = some (.bool b) := s1
          simp only [x_gV, x_gC, x_g1, x_g2, x_g3, x_gN, x_gCs, x_gL, x_gT, x_gCall, x_gAnd, x_gOr, x_gIf, x_iL, x_iT, x_tN, x_tgN, x_tgC, x_tTup, x_tUnl, x_gO0, x_gO, x_gSl, x_wipe0, x_wipe1, x_bind, x_map, x_join, List.getElem?_cons_zero, List.getElem?_cons_succ, List.set_cons_zero, List.set_cons_succ, dEq_N, dNe_N, dIn_N, dNotIn_N, dLt_N, dLe_N, dGt_N, dGe_N, dAdd_N, dIx_t0, dIx_t1, dIx_t2, dIx_l0, dIx_l1, dLen_l, dInt_b, dSortI_N, gd, List.length_cons, List.length_nil, Nat.zero_add, Nat.reduceAdd, Nat.reduceLeDiff, if_true, List.length_map, List.length_range, e6, e2, h6, decide_true, s1', dNe_b, hb, bne_self_eq_false]
        · simp only [x_gV, x_gC, x_g1, x_g2, x_g3, x_gN, x_gCs, x_gL, x_gT, x_gCall, x_gAnd, x_gOr, x_gIf, x_iL, x_iT, x_tN, x_tgN, x_tgC, x_tTup, x_tUnl, x_gO0, x_gO, x_gSl, x_wipe0, x_wipe1, x_bind, x_map, x_join, List.getElem?_cons_zero, List.getElem?_cons_succ, List.set_cons_zero, List.set_cons_succ, dEq_N, dNe_N, dIn_N, dNotIn_N, dLt_N, dLe_N, dGt_N, dGe_N, dAdd_N, dIx_t0, dIx_t1, dIx_t2, dIx_l0, dIx_l1, dLen_l, dInt_b, dSortI_N, gd, List.length_cons, List.length_nil, Nat.zero_add, Nat.reduceAdd, Nat.reduceLeDiff, if_true, List.length_map, List.length_range, e6, h6, decide_false]
      · refine wp_ret (d := .bool true) (by simp only [x_gV, x_gC, x_g1, x_g2, x_g3, x_gN, x_gCs, x_gL, x_gT, x_gCall, x_gAnd, x_gOr, x_gIf, x_iL, x_iT, x_tN, x_tgN, x_tgC, x_tTup, x_tUnl, x_gO0, x_gO, x_gSl, x_wipe0, x_wipe1, x_bind, x_map, x_join, List.getElem?_cons_zero, List.getElem?_cons_succ, List.set_cons_zero, List.set_cons_succ, dEq_N, dNe_N, dIn_N, dNotIn_N, dLt_N, dLe_N, dGt_N, dGe_N, dAdd_N, dIx_t0, dIx_t1, dIx_t2, dIx_l0, dIx_l1, dLen_l, dInt_b, dSortI_N, gd, List.length_cons, List.length_nil, Nat.zero_add, Nat.reduceAdd, Nat.reduceLeDiff, if_true, List.length_map, List.length_range, cut, r1, hle]) rfl)
  rw [g_law_decided, h3, h4]
end K72

namespace K72
open PySem PySem.Spec PyProof.Rows L2 Pu Mt
variable {n : Nat} {ts : List (Nat × Nat)} {k : Nat} {parts : List (List Nat)}
theorem addL {a b : Nat} {i : Int} (h : (b : Int) = i) : dAdd (N a) (.int i) = some (N (a + b)) := by subst h; exact dAdd_N
theorem addR {a b : Nat} {i : Int} (h : (b : Int) = i) : dAdd (.int i) (N a) = some (N (b + a)) := by subst h; exact dAdd_N
theorem mulL {a b : Nat} {i : Int} (h : (b : Int) = i) (hb : b < 2 ^ 64) : dMul (N a) (.int i) = some (N (a * b)) := by subst h; exact dMul_N (.inr hb)
theorem mulR {a b : Nat} {i : Int} (h : (b : Int) = i) (hb : b < 2 ^ 64) : dMul (.int i) (N a) = some (N (b * a)) := by subst h; exact dMul_N (.inl hb)
theorem modL {a b : Nat} {i : Int} (h : (b : Int) = i) (hb : 0 < b) : dMod (N a) (.int i) = some (N (a % b)) := by subst h; exact dMod_N hb
theorem divL {a b : Nat} {i : Int} (h : (b : Int) = i) (hb : 0 < b) (h2 : b < 1073741824) : dDiv (N a) (.int i) = some (N (a / b)) := by subst h; exact dDiv_N hb h2
theorem r_law_draws {ns : List Int} (hl : ns.length ≤ 63) : ∃ l : List Nat, g_law_draws [.list (ns.map PyData.int), N 60] = some (LN l) ∧ l.length = 60 := by
  have key : ∃ d, g_law_draws [.list (ns.map PyData.int), N 60] = some d ∧ ∃ l : List Nat, d = LN l ∧ l.length = 60 := by
    refine fn_wp [some (.list (ns.map PyData.int)), some (N 60), none, none, none, none, none, none] rfl rfl ?_
    refine wp_seq (wp_set (d := LN []) rfl ?_)
    have hcut : Pu.cutD (ns.map PyData.int) none (some 63) = (ns.take 63).map PyData.int := cutD_take (j := 63)
    have ht : (ns.take 63).length ≤ 63 := by rw [List.length_take]; omega
    refine wp_seq (wp_for (e := PyData.int) (ns.take 63) (fun pre E => ∃ L a b c d f, E = [some (.list (ns.map PyData.int)), some (N 60), some (LN L), a, b, c, d, f] ∧ L.length ≤ 60 * pre.length) (by simp only [x_iL, x_gV, x_gC, x_g1, x_g2, x_g3, x_gN, x_gCs, x_gL, x_gT, x_gCall, x_gAnd, x_gOr, x_gIf, x_iL, x_iT, x_tN, x_tgN, x_tgC, x_tTup, x_tUnl, x_gO0, x_gO, x_gSl, x_wipe0, x_wipe1, x_bind, x_map, x_join, List.getElem?_cons_zero, List.getElem?_cons_succ, List.set_cons_zero, List.set_cons_succ, dEq_N, dNe_N, dIn_N, dNotIn_N, dLt_N, dLe_N, dGt_N, dGe_N, dAdd_N, dIx_t0, dIx_t1, dIx_t2, dIx_l0, dIx_l1, dLen_l, dInt_b, dSortI_N, gd, List.length_cons, List.length_nil, Nat.zero_add, Nat.reduceAdd, Nat.reduceLeDiff, if_true, List.length_map, List.length_range, hcut]) ⟨[], none, none, none, none, none, rfl, by simp⟩ ?_ ?_)
    · rintro p x q E hp ⟨L, a, b, c, d, f, rfl, hL⟩
      have hpl : p.length < 63 := by
        have := congrArg List.length hp
        simp at this
        omega
      refine ⟨_, rfl, ?_⟩
      have i1 : dInt [.int x] = some (.int x) := rfl
      have i2 : dAbs [.int x] = some (N x.natAbs) := by
        have : (if x < 0 then -x else x) = ((x.natAbs : Nat) : Int) := by split <;> omega
        simp only [dAbs, this]
      have i3 : dPow (.int 10) (.int 18) = some (N (10 ^ 18)) := by
        simp only [dPow]
        rw [if_pos (by decide)]
        rfl
      refine wp_seq (wp_set (d := N x.natAbs) (by simp only [x_gV, x_gC, x_g1, x_g2, x_g3, x_gN, x_gCs, x_gL, x_gT, x_gCall, x_gAnd, x_gOr, x_gIf, x_iL, x_iT, x_tN, x_tgN, x_tgC, x_tTup, x_tUnl, x_gO0, x_gO, x_gSl, x_wipe0, x_wipe1, x_bind, x_map, x_join, List.getElem?_cons_zero, List.getElem?_cons_succ, List.set_cons_zero, List.set_cons_succ, dEq_N, dNe_N, dIn_N, dNotIn_N, dLt_N, dLe_N, dGt_N, dGe_N, dAdd_N, dIx_t0, dIx_t1, dIx_t2, dIx_l0, dIx_l1, dLen_l, dInt_b, dSortI_N, gd, List.length_cons, List.length_nil, Nat.zero_add, Nat.reduceAdd, Nat.reduceLeDiff, if_true, List.length_map, List.length_range, i1, i2]) ?_)
      refine wp_if (t := decide (10 ^ 18 ≤ x.natAbs)) (by simp only [x_gV, x_gC, x_g1, x_g2, x_g3, x_gN, x_gCs, x_gL, x_gT, x_gCall, x_gAnd, x_gOr, x_gIf, x_iL, x_iT, x_tN, x_tgN, x_tgC, x_tTup, x_tUnl, x_gO0, x_gO, x_gSl, x_wipe0, x_wipe1, x_bind, x_map, x_join, List.getElem?_cons_zero, List.getElem?_cons_succ, List.set_cons_zero, List.set_cons_succ, dEq_N, dNe_N, dIn_N, dNotIn_N, dLt_N, dLe_N, dGt_N, dGe_N, dAdd_N, dIx_t0, dIx_t1, dIx_t2, dIx_l0, dIx_l1, dLen_l, dInt_b, dSortI_N, gd, List.length_cons, List.length_nil, Nat.zero_add, Nat.reduceAdd, Nat.reduceLeDiff, if_true, List.length_map, List.length_range, i3]) (fun _ => ?_) fun _ => ?_
      · have hsrc : iR1 (gC (.int 60)) [some (.list (ns.map PyData.int)), some (N 60), some (LN L), some (.int x), some (N x.natAbs), c, d, f] = some ((List.range 60).map N) := iR1_N (n := 60) rfl (by decide)
        refine wp_for (e := N) (List.range 60) (fun pre E => ∃ L' b c d f, E = [some (.list (ns.map PyData.int)), some (N 60), some (LN L'), some (.int x), some (N b), c, d, f] ∧ L'.length ≤ L.length + pre.length) hsrc ⟨L, x.natAbs, c, d, f, rfl, by simp⟩ ?_ ?_
        · rintro p2 y q2 E hp2 ⟨L', b, c, d, f, rfl, hL'⟩
          have hp2l : p2.length < 60 := by
            have := congrArg List.length hp2
            simp at this
            omega
          have g0 : dGt (N b) (.int 0) = some (.bool (decide (0 < b))) := dGt_N (b := 0)
          refine ⟨_, rfl, wp_if (t := decide (0 < b)) (by simp only [x_gV, x_gC, x_g1, x_g2, x_g3, x_gN, x_gCs, x_gL, x_gT, x_gCall, x_gAnd, x_gOr, x_gIf, x_iL, x_iT, x_tN, x_tgN, x_tgC, x_tTup, x_tUnl, x_gO0, x_gO, x_gSl, x_wipe0, x_wipe1, x_bind, x_map, x_join, List.getElem?_cons_zero, List.getElem?_cons_succ, List.set_cons_zero, List.set_cons_succ, dEq_N, dNe_N, dIn_N, dNotIn_N, dLt_N, dLe_N, dGt_N, dGe_N, dAdd_N, dIx_t0, dIx_t1, dIx_t2, dIx_l0, dIx_l1, dLen_l, dInt_b, dSortI_N, gd, List.length_cons, List.length_nil, Nat.zero_add, Nat.reduceAdd, Nat.reduceLeDiff, if_true, List.length_map, List.length_range, g0]) (fun _ => ?_) fun _ => wp_nx ⟨L', b, some (N y), d, f, rfl, by simp; omega⟩⟩
          refine wp_seq (wp_lapp (f := N) (xs := L') (x := b % 1000003) rfl (by simp only [x_gV, x_gC, x_g1, x_g2, x_g3, x_gN, x_gCs, x_gL, x_gT, x_gCall, x_gAnd, x_gOr, x_gIf, x_iL, x_iT, x_tN, x_tgN, x_tgC, x_tTup, x_tUnl, x_gO0, x_gO, x_gSl, x_wipe0, x_wipe1, x_bind, x_map, x_join, List.getElem?_cons_zero, List.getElem?_cons_succ, List.set_cons_zero, List.set_cons_succ, dEq_N, dNe_N, dIn_N, dNotIn_N, dLt_N, dLe_N, dGt_N, dGe_N, dAdd_N, dIx_t0, dIx_t1, dIx_t2, dIx_l0, dIx_l1, dLen_l, dInt_b, dSortI_N, gd, List.length_cons, List.length_nil, Nat.zero_add, Nat.reduceAdd, Nat.reduceLeDiff, if_true, List.length_map, List.length_range, modL (a := b) (b := 1000003) (i := 1000003) rfl (by decide)]) (by omega) ?_)
          exact wp_set (d := N (b / 1000003)) (by simp only [x_gV, x_gC, x_g1, x_g2, x_g3, x_gN, x_gCs, x_gL, x_gT, x_gCall, x_gAnd, x_gOr, x_gIf, x_iL, x_iT, x_tN, x_tgN, x_tgC, x_tTup, x_tUnl, x_gO0, x_gO, x_gSl, x_wipe0, x_wipe1, x_bind, x_map, x_join, List.getElem?_cons_zero, List.getElem?_cons_succ, List.set_cons_zero, List.set_cons_succ, dEq_N, dNe_N, dIn_N, dNotIn_N, dLt_N, dLe_N, dGt_N, dGe_N, dAdd_N, dIx_t0, dIx_t1, dIx_t2, dIx_l0, dIx_l1, dLen_l, dInt_b, dSortI_N, gd, List.length_cons, List.length_nil, Nat.zero_add, Nat.reduceAdd, Nat.reduceLeDiff, if_true, List.length_map, List.length_range, divL (a := b) (b := 1000003) (i := 1000003) rfl (by decide) (by decide)]) ⟨L' ++ [b % 1000003], b / 1000003, some (N y), d, f, rfl, by simp; omega⟩
        · rintro E ⟨L', b, c, d, f, rfl, hL'⟩
          exact ⟨L', some (.int x), some (N b), c, d, f, rfl, by simp at hL' ⊢; omega⟩
      · refine wp_seq (wp_set (d := N ((x.natAbs * 48271 + 7 * L.length + 11) % 2147483647)) (by simp only [x_gV, x_gC, x_g1, x_g2, x_g3, x_gN, x_gCs, x_gL, x_gT, x_gCall, x_gAnd, x_gOr, x_gIf, x_iL, x_iT, x_tN, x_tgN, x_tgC, x_tTup, x_tUnl, x_gO0, x_gO, x_gSl, x_wipe0, x_wipe1, x_bind, x_map, x_join, List.getElem?_cons_zero, List.getElem?_cons_succ, List.set_cons_zero, List.set_cons_succ, dEq_N, dNe_N, dIn_N, dNotIn_N, dLt_N, dLe_N, dGt_N, dGe_N, dAdd_N, dIx_t0, dIx_t1, dIx_t2, dIx_l0, dIx_l1, dLen_l, dInt_b, dSortI_N, gd, List.length_cons, List.length_nil, Nat.zero_add, Nat.reduceAdd, Nat.reduceLeDiff, if_true, List.length_map, List.length_range, oF_N, mulL (a := x.natAbs) (b := 48271) (i := 48271) rfl (by decide), mulR (a := L.length) (b := 7) (i := 7) rfl (by decide), addL (a := x.natAbs * 48271 + 7 * L.length) (b := 11) (i := 11) rfl, modL (a := x.natAbs * 48271 + 7 * L.length + 11) (b := 2147483647) (i := 2147483647) rfl (by decide)]) ?_)
        have hsrc : iR1 (gC (.int 4)) [some (.list (ns.map PyData.int)), some (N 60), some (LN L), some (.int x), some (N x.natAbs), c, some (N ((x.natAbs * 48271 + 7 * L.length + 11) % 2147483647)), f] = some ((List.range 4).map N) := iR1_N (n := 4) rfl (by decide)
        refine wp_for (e := N) (List.range 4) (fun pre E => ∃ L' b c m f, E = [some (.list (ns.map PyData.int)), some (N 60), some (LN L'), some (.int x), b, c, some (N m), f] ∧ L'.length ≤ L.length + pre.length) hsrc ⟨L, some (N x.natAbs), c, _, f, rfl, by simp⟩ ?_ ?_
        · rintro p2 y q2 E hp2 ⟨L', b, c, m, f, rfl, hL'⟩
          have hp2l : p2.length < 4 := by
            have := congrArg List.length hp2
            simp at this
            omega
          refine ⟨_, rfl, ?_⟩
          refine wp_seq (wp_set (d := N ((m * 69621 + m / 65536 + 13 * y + 5) % 2147483629)) (by simp only [x_gV, x_gC, x_g1, x_g2, x_g3, x_gN, x_gCs, x_gL, x_gT, x_gCall, x_gAnd, x_gOr, x_gIf, x_iL, x_iT, x_tN, x_tgN, x_tgC, x_tTup, x_tUnl, x_gO0, x_gO, x_gSl, x_wipe0, x_wipe1, x_bind, x_map, x_join, List.getElem?_cons_zero, List.getElem?_cons_succ, List.set_cons_zero, List.set_cons_succ, dEq_N, dNe_N, dIn_N, dNotIn_N, dLt_N, dLe_N, dGt_N, dGe_N, dAdd_N, dIx_t0, dIx_t1, dIx_t2, dIx_l0, dIx_l1, dLen_l, dInt_b, dSortI_N, gd, List.length_cons, List.length_nil, Nat.zero_add, Nat.reduceAdd, Nat.reduceLeDiff, if_true, List.length_map, List.length_range, mulL (a := m) (b := 69621) (i := 69621) rfl (by decide), divL (a := m) (b := 65536) (i := 65536) rfl (by decide) (by decide), mulR (a := y) (b := 13) (i := 13) rfl (by decide), addL (a := m * 69621 + m / 65536 + 13 * y) (b := 5) (i := 5) rfl, modL (a := m * 69621 + m / 65536 + 13 * y + 5) (b := 2147483629) (i := 2147483629) rfl (by decide)]) ?_)
          exact wp_lapp (f := N) (xs := L') (x := (m * 69621 + m / 65536 + 13 * y + 5) % 2147483629 / 8 % 1000003) rfl (by simp only [x_gV, x_gC, x_g1, x_g2, x_g3, x_gN, x_gCs, x_gL, x_gT, x_gCall, x_gAnd, x_gOr, x_gIf, x_iL, x_iT, x_tN, x_tgN, x_tgC, x_tTup, x_tUnl, x_gO0, x_gO, x_gSl, x_wipe0, x_wipe1, x_bind, x_map, x_join, List.getElem?_cons_zero, List.getElem?_cons_succ, List.set_cons_zero, List.set_cons_succ, dEq_N, dNe_N, dIn_N, dNotIn_N, dLt_N, dLe_N, dGt_N, dGe_N, dAdd_N, dIx_t0, dIx_t1, dIx_t2, dIx_l0, dIx_l1, dLen_l, dInt_b, dSortI_N, gd, List.length_cons, List.length_nil, Nat.zero_add, Nat.reduceAdd, Nat.reduceLeDiff, if_true, List.length_map, List.length_range, divL (a := (m * 69621 + m / 65536 + 13 * y + 5) % 2147483629) (b := 8) (i := 8) rfl (by decide) (by decide), modL (a := (m * 69621 + m / 65536 + 13 * y + 5) % 2147483629 / 8) (b := 1000003) (i := 1000003) rfl (by decide)]) (by omega) ⟨L' ++ [(m * 69621 + m / 65536 + 13 * y + 5) % 2147483629 / 8 % 1000003], b, some (N y), (m * 69621 + m / 65536 + 13 * y + 5) % 2147483629, f, rfl, by simp; omega⟩
        · rintro E ⟨L', b, c, m, f, rfl, hL'⟩
          exact ⟨L', some (.int x), b, c, some (N m), f, rfl, by simp at hL' ⊢; omega⟩
    · rintro E ⟨L, a, b, c, d, f, rfl, hL⟩
      have hL2 : L.length ≤ 4000 := by omega
      have hsrc : iR1 (gV 1) [some (.list (ns.map PyData.int)), some (N 60), some (LN L), a, b, c, d, f] = some ((List.range 60).map N) := iR1_N (n := 60) rfl (by decide)
      refine wp_seq (wp_for (e := N) (List.range 60) (fun pre E => ∃ L' a b c d f, E = [some (.list (ns.map PyData.int)), some (N 60), some (LN L'), a, b, c, d, f] ∧ L'.length ≤ 4000 + pre.length ∧ pre.length ≤ L'.length) hsrc ⟨L, a, b, c, d, f, rfl, by simpa using hL2, by simp⟩ ?_ ?_)
      · rintro p2 y q2 E hp2 ⟨L', a, b, c, d, f, rfl, hL', hge⟩
        have hp2l : p2.length < 60 := by
          have := congrArg List.length hp2
          simp at this
          omega
        refine ⟨_, rfl, wp_if (t := decide (L'.length < 60)) (by simp only [x_gV, x_gC, x_g1, x_g2, x_g3, x_gN, x_gCs, x_gL, x_gT, x_gCall, x_gAnd, x_gOr, x_gIf, x_iL, x_iT, x_tN, x_tgN, x_tgC, x_tTup, x_tUnl, x_gO0, x_gO, x_gSl, x_wipe0, x_wipe1, x_bind, x_map, x_join, List.getElem?_cons_zero, List.getElem?_cons_succ, List.set_cons_zero, List.set_cons_succ, dEq_N, dNe_N, dIn_N, dNotIn_N, dLt_N, dLe_N, dGt_N, dGe_N, dAdd_N, dIx_t0, dIx_t1, dIx_t2, dIx_l0, dIx_l1, dLen_l, dInt_b, dSortI_N, gd, List.length_cons, List.length_nil, Nat.zero_add, Nat.reduceAdd, Nat.reduceLeDiff, if_true, List.length_map, List.length_range, oF_N]) (fun _ => ?_) fun h => wp_nx ⟨L', a, b, some (N y), d, f, rfl, by simp; omega, by have := of_decide_eq_false h; simp; omega⟩⟩
        have g0 : dGt (N L'.length) (.int 0) = some (.bool (decide (0 < L'.length))) := dGt_N (b := 0)
        have app : ∀ v : Nat, wp (sApp 2 (g2 dMod (g2 dAdd (g2 dAdd (g2 dMul (gV 7) (gC (.int 16807))) (g2 dMul (gC (.int 31)) (g1 oF (gCall dLen (gCs (gV 2) gN))))) (gC (.int 17))) (gC (.int 1000003)))) (fun E => ∃ L' a b c d f, E = [some (.list (ns.map PyData.int)), some (N 60), some (LN L'), a, b, c, d, f] ∧ L'.length ≤ 4000 + (p2 ++ [y]).length ∧ (p2 ++ [y]).length ≤ L'.length) (fun d => ∃ l : List Nat, d = LN l ∧ l.length = 60) [some (.list (ns.map PyData.int)), some (N 60), some (LN L'), a, b, some (N y), d, some (N v)] := fun v =>
          wp_lapp (f := N) (xs := L') (x := (v * 16807 + 31 * L'.length + 17) % 1000003) rfl (by simp only [x_gV, x_gC, x_g1, x_g2, x_g3, x_gN, x_gCs, x_gL, x_gT, x_gCall, x_gAnd, x_gOr, x_gIf, x_iL, x_iT, x_tN, x_tgN, x_tgC, x_tTup, x_tUnl, x_gO0, x_gO, x_gSl, x_wipe0, x_wipe1, x_bind, x_map, x_join, List.getElem?_cons_zero, List.getElem?_cons_succ, List.set_cons_zero, List.set_cons_succ, dEq_N, dNe_N, dIn_N, dNotIn_N, dLt_N, dLe_N, dGt_N, dGe_N, dAdd_N, dIx_t0, dIx_t1, dIx_t2, dIx_l0, dIx_l1, dLen_l, dInt_b, dSortI_N, gd, List.length_cons, List.length_nil, Nat.zero_add, Nat.reduceAdd, Nat.reduceLeDiff, if_true, List.length_map, List.length_range, oF_N, mulL (a := v) (b := 16807) (i := 16807) rfl (by decide), mulR (a := L'.length) (b := 31) (i := 31) rfl (by decide), addL (a := v * 16807 + 31 * L'.length) (b := 17) (i := 17) rfl, modL (a := v * 16807 + 31 * L'.length + 17) (b := 1000003) (i := 1000003) rfl (by decide)]) (by omega) ⟨L' ++ [(v * 16807 + 31 * L'.length + 17) % 1000003], a, b, some (N y), d, some (N v), rfl, by simp; omega, by simp; omega⟩
        refine wp_seq (wp_set (d := N 0) rfl ?_)
        refine wp_seq (wp_if (t := decide (0 < L'.length)) (by simp only [x_gV, x_gC, x_g1, x_g2, x_g3, x_gN, x_gCs, x_gL, x_gT, x_gCall, x_gAnd, x_gOr, x_gIf, x_iL, x_iT, x_tN, x_tgN, x_tgC, x_tTup, x_tUnl, x_gO0, x_gO, x_gSl, x_wipe0, x_wipe1, x_bind, x_map, x_join, List.getElem?_cons_zero, List.getElem?_cons_succ, List.set_cons_zero, List.set_cons_succ, dEq_N, dNe_N, dIn_N, dNotIn_N, dLt_N, dLe_N, dGt_N, dGe_N, dAdd_N, dIx_t0, dIx_t1, dIx_t2, dIx_l0, dIx_l1, dLen_l, dInt_b, dSortI_N, gd, List.length_cons, List.length_nil, Nat.zero_add, Nat.reduceAdd, Nat.reduceLeDiff, if_true, List.length_map, List.length_range, oF_N, g0]) (fun h => ?_) fun _ => wp_nx (app 0))
        have h0 := of_decide_eq_true h
        obtain ⟨w, hix⟩ : ∃ w, L'[y % L'.length]? = some w := ⟨_, List.getElem?_eq_getElem (Nat.mod_lt _ h0)⟩
        have k1 : dIxL (.list (L'.map N)) (N (y % L'.length)) = some (N w) := dIxL_some hix
        exact wp_set (d := N w) (by simp only [x_gV, x_gC, x_g1, x_g2, x_g3, x_gN, x_gCs, x_gL, x_gT, x_gCall, x_gAnd, x_gOr, x_gIf, x_iL, x_iT, x_tN, x_tgN, x_tgC, x_tTup, x_tUnl, x_gO0, x_gO, x_gSl, x_wipe0, x_wipe1, x_bind, x_map, x_join, List.getElem?_cons_zero, List.getElem?_cons_succ, List.set_cons_zero, List.set_cons_succ, dEq_N, dNe_N, dIn_N, dNotIn_N, dLt_N, dLe_N, dGt_N, dGe_N, dAdd_N, dIx_t0, dIx_t1, dIx_t2, dIx_l0, dIx_l1, dLen_l, dInt_b, dSortI_N, gd, List.length_cons, List.length_nil, Nat.zero_add, Nat.reduceAdd, Nat.reduceLeDiff, if_true, List.length_map, List.length_range, oF_N, dMod_N h0, k1]) (app _)
      · rintro E ⟨L', a, b, c, d, f, rfl, hL', hge⟩
        have hcut : Pu.cutD (L'.map N) none (some ((60 : Nat) : Int)) = (L'.take 60).map N := cutD_take (j := 60)
        refine wp_ret (d := LN (L'.take 60)) (by simp only [x_gV, x_gC, x_g1, x_g2, x_g3, x_gN, x_gCs, x_gL, x_gT, x_gCall, x_gAnd, x_gOr, x_gIf, x_iL, x_iT, x_tN, x_tgN, x_tgC, x_tTup, x_tUnl, x_gO0, x_gO, x_gSl, x_wipe0, x_wipe1, x_bind, x_map, x_join, List.getElem?_cons_zero, List.getElem?_cons_succ, List.set_cons_zero, List.set_cons_succ, dEq_N, dNe_N, dIn_N, dNotIn_N, dLt_N, dLe_N, dGt_N, dGe_N, dAdd_N, dIx_t0, dIx_t1, dIx_t2, dIx_l0, dIx_l1, dLen_l, dInt_b, dSortI_N, gd, List.length_cons, List.length_nil, Nat.zero_add, Nat.reduceAdd, Nat.reduceLeDiff, if_true, List.length_map, List.length_range, hcut]) ⟨L'.take 60, rfl, ?_⟩
        rw [List.length_take]
        simp at hge
        omega
  obtain ⟨d, h1, l, rfl, h2⟩ := key
  exact ⟨l, h1, h2⟩
theorem r_law_cell {dr : List Nat} (h : dr.length = 60) {j : Nat} : ∃ v, g_law_cell [LN dr, N j] = some (N v) := by
  have key : ∃ d, g_law_cell [LN dr, N j] = some d ∧ ∃ v, d = N v := by
    refine fn_wp [some (LN dr), some (N j)] rfl rfl ?_
    refine wp_seq (wp_if (t := decide (j < dr.length)) (by simp only [x_gV, x_gC, x_g1, x_g2, x_g3, x_gN, x_gCs, x_gL, x_gT, x_gCall, x_gAnd, x_gOr, x_gIf, x_iL, x_iT, x_tN, x_tgN, x_tgC, x_tTup, x_tUnl, x_gO0, x_gO, x_gSl, x_wipe0, x_wipe1, x_bind, x_map, x_join, List.getElem?_cons_zero, List.getElem?_cons_succ, List.set_cons_zero, List.set_cons_succ, dEq_N, dNe_N, dIn_N, dNotIn_N, dLt_N, dLe_N, dGt_N, dGe_N, dAdd_N, dIx_t0, dIx_t1, dIx_t2, dIx_l0, dIx_l1, dLen_l, dInt_b, dSortI_N, gd, List.length_cons, List.length_nil, Nat.zero_add, Nat.reduceAdd, Nat.reduceLeDiff, if_true, List.length_map, List.length_range]) (fun ht => ?_) fun hf => wp_nx ?_)
    · have hlt := of_decide_eq_true ht
      exact wp_ret (d := N dr[j]) (dIx_some (List.getElem?_eq_getElem hlt)) ⟨_, rfl⟩
    · have h0 : 0 < dr.length := by omega
      obtain ⟨u, hu⟩ : ∃ u, dr[j % dr.length]? = some u := ⟨_, List.getElem?_eq_getElem (Nat.mod_lt _ h0)⟩
      obtain ⟨w, hw⟩ : ∃ w, dr[7 * j % dr.length]? = some w := ⟨_, List.getElem?_eq_getElem (Nat.mod_lt _ h0)⟩
      have k1 : dIx (.list (dr.map N)) (N (j % dr.length)) = some (N u) := dIx_some hu
      have k2 : dIx (.list (dr.map N)) (N (7 * j % dr.length)) = some (N w) := dIx_some hw
      exact wp_ret (d := N ((u * 31 + w * 17 + 101 * j) % 1000003)) (by simp only [x_gV, x_gC, x_g1, x_g2, x_g3, x_gN, x_gCs, x_gL, x_gT, x_gCall, x_gAnd, x_gOr, x_gIf, x_iL, x_iT, x_tN, x_tgN, x_tgC, x_tTup, x_tUnl, x_gO0, x_gO, x_gSl, x_wipe0, x_wipe1, x_bind, x_map, x_join, List.getElem?_cons_zero, List.getElem?_cons_succ, List.set_cons_zero, List.set_cons_succ, dEq_N, dNe_N, dIn_N, dNotIn_N, dLt_N, dLe_N, dGt_N, dGe_N, dAdd_N, dIx_t0, dIx_t1, dIx_t2, dIx_l0, dIx_l1, dLen_l, dInt_b, dSortI_N, gd, List.length_cons, List.length_nil, Nat.zero_add, Nat.reduceAdd, Nat.reduceLeDiff, if_true, List.length_map, List.length_range, dMod_N h0, k1, k2, mulR (a := j) (b := 7) (i := 7) rfl (by decide), mulL (a := u) (b := 31) (i := 31) rfl (by decide), mulL (a := w) (b := 17) (i := 17) rfl (by decide), mulR (a := j) (b := 101) (i := 101) rfl (by decide), modL (a := u * 31 + w * 17 + 101 * j) (b := 1000003) (i := 1000003) rfl (by decide)]) ⟨_, rfl⟩
  obtain ⟨d, h1, v, rfl⟩ := key
  exact ⟨v, h1⟩
end K72

namespace K72
open PySem PySem.Spec PyProof.Rows L2 Pu Mt
variable {n : Nat} {ts : List (Nat × Nat)} {k : Nat} {parts : List (List Nat)}
/-- ties of a net of such size, none from a place to itself -/
def Ties (n : Nat) (ts : List (Nat × Nat)) : Prop := ∀ t ∈ ts, t.1 < n ∧ t.2 < n ∧ t.1 ≠ t.2
theorem Ties.nil : Ties n [] := fun t h => absurd h List.not_mem_nil
theorem Ties.app {a b : List (Nat × Nat)} (h1 : Ties n a) (h2 : Ties n b) : Ties n (a ++ b) := fun t h => (List.mem_append.mp h).elim (h1 t) (h2 t)
theorem Ties.one {t : Nat × Nat} (h : t.1 < n ∧ t.2 < n ∧ t.1 ≠ t.2) : Ties n [t] := fun u hu => by simp at hu; subst hu; exact h
theorem r_law_net {dr : List Nat} (h : dr.length = 60) {at' n many : Nat} (hmany : many ≤ 1000) (hnb : n < 1073741824) : ∃ ts, g_law_net [LN dr, N at', N n, N many] = some (LTs ts) ∧ Ties n ts ∧ ts.length ≤ many := by
  have key : ∃ d, g_law_net [LN dr, N at', N n, N many] = some d ∧ ∃ ts, d = LTs ts ∧ Ties n ts ∧ ts.length ≤ many := by
    refine fn_wp [some (LN dr), some (N at'), some (N n), some (N many), none, none, none, none, none] rfl rfl ?_
    refine wp_seq (wp_set (d := LTs []) rfl ?_)
    have c0 : dLt (N n) (.int 2) = some (.bool (decide (n < 2))) := dLt_N (b := 2)
    refine wp_seq (wp_if (t := decide (n < 2)) (by simp only [x_gV, x_gC, x_g1, x_g2, x_g3, x_gN, x_gCs, x_gL, x_gT, x_gCall, x_gAnd, x_gOr, x_gIf, x_iL, x_iT, x_tN, x_tgN, x_tgC, x_tTup, x_tUnl, x_gO0, x_gO, x_gSl, x_wipe0, x_wipe1, x_bind, x_map, x_join, List.getElem?_cons_zero, List.getElem?_cons_succ, List.set_cons_zero, List.set_cons_succ, dEq_N, dNe_N, dIn_N, dNotIn_N, dLt_N, dLe_N, dGt_N, dGe_N, dAdd_N, dIx_t0, dIx_t1, dIx_t2, dIx_l0, dIx_l1, dLen_l, dInt_b, dSortI_N, gd, List.length_cons, List.length_nil, Nat.zero_add, Nat.reduceAdd, Nat.reduceLeDiff, if_true, List.length_map, List.length_range, c0]) (fun _ => wp_ret rfl ⟨[], rfl, Ties.nil, by simp⟩) fun hf => wp_nx ?_)
    have hn2 := of_decide_eq_false hf
    have hsrc : iR1 (gV 3) [some (LN dr), some (N at'), some (N n), some (N many), some (LTs []), none, none, none, none] = some ((List.range many).map N) := iR1_N rfl (Nat.lt_of_le_of_lt hmany (by decide))
    refine wp_seq (wp_for (e := N) (List.range many) (fun pre E => ∃ ts a b c d, E = [some (LN dr), some (N at'), some (N n), some (N many), some (LTs ts), a, b, c, d] ∧ Ties n ts ∧ ts.length ≤ pre.length) hsrc ⟨[], none, none, none, none, rfl, Ties.nil, by simp⟩ ?_ ?_)
    · rintro p k q E hp ⟨ts, a, b, c, d, rfl, hT, hl⟩
      have hpl : p.length < many := by
        have := congrArg List.length hp
        simp at this
        omega
      have hkm : k < many := List.mem_range.mp (by rw [hp]; simp)
      obtain ⟨v, hv⟩ := r_law_cell (dr := dr) h (j := at' + k % 13)
      refine ⟨_, rfl, ?_⟩
      refine wp_seq (wp_set (d := N (v * (1 + k / 13) + 29 * k)) (by simp only [x_gV, x_gC, x_g1, x_g2, x_g3, x_gN, x_gCs, x_gL, x_gT, x_gCall, x_gAnd, x_gOr, x_gIf, x_iL, x_iT, x_tN, x_tgN, x_tgC, x_tTup, x_tUnl, x_gO0, x_gO, x_gSl, x_wipe0, x_wipe1, x_bind, x_map, x_join, List.getElem?_cons_zero, List.getElem?_cons_succ, List.set_cons_zero, List.set_cons_succ, dEq_N, dNe_N, dIn_N, dNotIn_N, dLt_N, dLe_N, dGt_N, dGe_N, dAdd_N, dIx_t0, dIx_t1, dIx_t2, dIx_l0, dIx_l1, dLen_l, dInt_b, dSortI_N, gd, List.length_cons, List.length_nil, Nat.zero_add, Nat.reduceAdd, Nat.reduceLeDiff, if_true, List.length_map, List.length_range, modL (a := k) (b := 13) (i := 13) rfl (by decide), divL (a := k) (b := 13) (i := 13) rfl (by decide) (by decide), addR (a := k / 13) (b := 1) (i := 1) rfl, mulR (a := k) (b := 29) (i := 29) rfl (by decide), hv, dMul_N (a := v) (b := 1 + k / 13) (.inr (by omega))]) ?_)
      have s1 : dSub (N n) (.int 1) = some (N (n - 1)) := dSub_N (b := 1) (by omega)
      have hlt1 : (v * (1 + k / 13) + 29 * k) % n < n := Nat.mod_lt _ (by omega)
      have hlt2 : (v * (1 + k / 13) + 29 * k) / n / 3 % (n - 1) < n - 1 := Nat.mod_lt _ (by omega)
      · refine wp_seq (wp_par (x := N ((v * (1 + k / 13) + 29 * k) % n)) (y := N ((v * (1 + k / 13) + 29 * k) / n / 3 % (n - 1))) (by simp only [x_gV, x_gC, x_g1, x_g2, x_g3, x_gN, x_gCs, x_gL, x_gT, x_gCall, x_gAnd, x_gOr, x_gIf, x_iL, x_iT, x_tN, x_tgN, x_tgC, x_tTup, x_tUnl, x_gO0, x_gO, x_gSl, x_wipe0, x_wipe1, x_bind, x_map, x_join, List.getElem?_cons_zero, List.getElem?_cons_succ, List.set_cons_zero, List.set_cons_succ, dEq_N, dNe_N, dIn_N, dNotIn_N, dLt_N, dLe_N, dGt_N, dGe_N, dAdd_N, dIx_t0, dIx_t1, dIx_t2, dIx_l0, dIx_l1, dLen_l, dInt_b, dSortI_N, gd, List.length_cons, List.length_nil, Nat.zero_add, Nat.reduceAdd, Nat.reduceLeDiff, if_true, List.length_map, List.length_range, dMod_N (a := v * (1 + k / 13) + 29 * k) (b := n) (by omega)]) (by simp only [x_gV, x_gC, x_g1, x_g2, x_g3, x_gN, x_gCs, x_gL, x_gT, x_gCall, x_gAnd, x_gOr, x_gIf, x_iL, x_iT, x_tN, x_tgN, x_tgC, x_tTup, x_tUnl, x_gO0, x_gO, x_gSl, x_wipe0, x_wipe1, x_bind, x_map, x_join, List.getElem?_cons_zero, List.getElem?_cons_succ, List.set_cons_zero, List.set_cons_succ, dEq_N, dNe_N, dIn_N, dNotIn_N, dLt_N, dLe_N, dGt_N, dGe_N, dAdd_N, dIx_t0, dIx_t1, dIx_t2, dIx_l0, dIx_l1, dLen_l, dInt_b, dSortI_N, gd, List.length_cons, List.length_nil, Nat.zero_add, Nat.reduceAdd, Nat.reduceLeDiff, if_true, List.length_map, List.length_range, dDiv_N (a := v * (1 + k / 13) + 29 * k) (b := n) (by omega) hnb, divL (a := (v * (1 + k / 13) + 29 * k) / n) (b := 3) (i := 3) rfl (by decide) (by decide), s1, dMod_N (a := (v * (1 + k / 13) + 29 * k) / n / 3) (b := n - 1) (by omega)]) ?_)
        generalize (v * (1 + k / 13) + 29 * k) % n = f at hlt1 ⊢
        generalize (v * (1 + k / 13) + 29 * k) / n / 3 % (n - 1) = g at hlt2 ⊢
        by_cases hge : f ≤ g
        · have a1 : dAdd (N g) (.int 1) = some (N (g + 1)) := dAdd_N (b := 1)
          exact wp_lapp (f := TT) (xs := ts) (x := (f, g + 1)) rfl (by simp only [x_gV, x_gC, x_g1, x_g2, x_g3, x_gN, x_gCs, x_gL, x_gT, x_gCall, x_gAnd, x_gOr, x_gIf, x_iL, x_iT, x_tN, x_tgN, x_tgC, x_tTup, x_tUnl, x_gO0, x_gO, x_gSl, x_wipe0, x_wipe1, x_bind, x_map, x_join, List.getElem?_cons_zero, List.getElem?_cons_succ, List.set_cons_zero, List.set_cons_succ, dEq_N, dNe_N, dIn_N, dNotIn_N, dLt_N, dLe_N, dGt_N, dGe_N, dAdd_N, dIx_t0, dIx_t1, dIx_t2, dIx_l0, dIx_l1, dLen_l, dInt_b, dSortI_N, gd, List.length_cons, List.length_nil, Nat.zero_add, Nat.reduceAdd, Nat.reduceLeDiff, if_true, List.length_map, List.length_range, hge, decide_true, a1]) (by omega) ⟨ts ++ [(f, g + 1)], some (N k), some (N _), some (N f), some (N g), rfl, hT.app (Ties.one ⟨hlt1, by simp only; omega, by simp only; omega⟩), by simp; omega⟩
        · have a1 : dAdd (N g) (.int 0) = some (N (g + 0)) := dAdd_N (b := 0)
          exact wp_lapp (f := TT) (xs := ts) (x := (f, g + 0)) rfl (by simp only [x_gV, x_gC, x_g1, x_g2, x_g3, x_gN, x_gCs, x_gL, x_gT, x_gCall, x_gAnd, x_gOr, x_gIf, x_iL, x_iT, x_tN, x_tgN, x_tgC, x_tTup, x_tUnl, x_gO0, x_gO, x_gSl, x_wipe0, x_wipe1, x_bind, x_map, x_join, List.getElem?_cons_zero, List.getElem?_cons_succ, List.set_cons_zero, List.set_cons_succ, dEq_N, dNe_N, dIn_N, dNotIn_N, dLt_N, dLe_N, dGt_N, dGe_N, dAdd_N, dIx_t0, dIx_t1, dIx_t2, dIx_l0, dIx_l1, dLen_l, dInt_b, dSortI_N, gd, List.length_cons, List.length_nil, Nat.zero_add, Nat.reduceAdd, Nat.reduceLeDiff, if_true, List.length_map, List.length_range, hge, decide_false, Bool.false_eq_true, if_false, a1]) (by omega) ⟨ts ++ [(f, g + 0)], some (N k), some (N _), some (N f), some (N g), rfl, hT.app (Ties.one ⟨hlt1, by simp only; omega, by simp only; omega⟩), by simp; omega⟩
    · rintro E ⟨ts, a, b, c, d, rfl, hT, hl⟩
      exact wp_ret rfl ⟨ts, rfl, hT, by simpa using hl⟩
  obtain ⟨d, h1, ts, rfl, h2⟩ := key
  exact ⟨ts, h1, h2⟩
theorem iR2_N {E : En} {g : Gx} {n : Nat} (h : g E = some (N n)) (hn : n < 2 ^ 62) : iR2 (gC (.int 1)) g E = some ((List.range (n - 1)).map fun i => N (1 + i)) := by
  have : -(2 ^ 62 : Int) ≤ 1 ∧ (1 : Int) < 2 ^ 62 ∧ -(2 ^ 62 : Int) ≤ n ∧ (n : Int) < 2 ^ 62 := by omega
  simp only [iR2, x_gC, h]
  rw [if_pos this]
  have e : ((n : Int) - 1).toNat = n - 1 := by omega
  rw [e]
  refine congrArg some (List.map_congr_left fun i _ => ?_)
  show PyData.int _ = PyData.int _
  congr 1
theorem sIns_eq {E : En} {gk g : Gx} {i : Nat} {xs : List D} {k : Int} {d : D} (h1 : gV i E = some (.list xs)) (h2 : gk E = some (.int k)) (h3 : g E = some d) (hk : 0 ≤ k ∧ k < 16000000 ∧ xs.length + 1 ≤ 16000000) : sIns i gk g E = some (E.set i (some (.list (insD xs k.toNat d))), .nx) := by
  simp only [sIns, h1, h2, h3]
  exact if_pos hk
theorem wp_eq {Q : En → Prop} {R : D → Prop} {E E' : En} {S : Sm} (e : S E = some (E', .nx)) (h : Q E') : wp S Q R E := by
  unfold wp
  rw [e]
  exact h
theorem insD_N {xs : List Nat} {p x : Nat} : insD (xs.map N) p (N x) = (xs.take p ++ [x] ++ xs.drop p).map N := by
  unfold insD
  simp [List.map_take, List.map_drop]
theorem wp_insN {Q : En → Prop} {R : D → Prop} {E : En} {gk g : Gx} {i p x : Nat} {xs : List Nat} (h1 : gV i E = some (LN xs)) (h2 : gk E = some (N p)) (h3 : g E = some (N x)) (hp : p < 16000000) (hl : xs.length + 1 ≤ 16000000) (h : Q (E.set i (some (LN (xs.take p ++ [x] ++ xs.drop p))))) : wp (sIns i gk g) Q R E := by
  have a1 : (0 : Int) ≤ p := by omega
  have a2 : (p : Int) < 16000000 := by omega
  have a3 : (xs.map N).length + 1 ≤ 16000000 := by rw [List.length_map]; exact hl
  refine wp_eq (sIns_eq h1 h2 h3 ⟨a1, a2, a3⟩) ?_
  rw [Int.toNat_natCast, insD_N]
  exact h
theorem pre_idx {m p0 : Nat} {p q : List Nat} (hp : List.range m = p ++ p0 :: q) : p0 = p.length ∧ p0 < m := by
  have h1 : (List.range m)[p.length]? = some p0 := by rw [hp]; simp
  obtain ⟨h2, h3⟩ := List.getElem?_eq_some_iff.mp h1
  have : p0 = p.length := by rw [← h3]; simp
  exact ⟨this, by rw [this]; simpa using h2⟩
theorem r_law_tree_net {dr : List Nat} (h : dr.length = 60) {at' n k : Nat} (hn : n ≤ 1000) (hn1 : 0 < n) (hk : k ≤ 1000) : ∃ ts, g_law_tree_net [LN dr, N at', N n, N k] = some (LTs ts) ∧ Ties n ts ∧ ts.length ≤ k * (n - 1) := by
  have key : ∃ d, g_law_tree_net [LN dr, N at', N n, N k] = some d ∧ ∃ ts, d = LTs ts ∧ Ties n ts ∧ ts.length ≤ k * (n - 1) := by
    refine fn_wp [some (LN dr), some (N at'), some (N n), some (N k), none, none, none, none, none] rfl rfl ?_
    refine wp_seq (wp_set (d := LTs []) rfl ?_)
    have hsrc : iR1 (gV 3) [some (LN dr), some (N at'), some (N n), some (N k), some (LTs []), none, none, none, none] = some ((List.range k).map N) := iR1_N rfl (Nat.lt_of_le_of_lt hk (by decide))
    refine wp_seq (wp_for (e := N) (List.range k) (fun pre E => ∃ ts a b c d, E = [some (LN dr), some (N at'), some (N n), some (N k), some (LTs ts), a, b, c, d] ∧ Ties n ts ∧ ts.length ≤ pre.length * (n - 1)) hsrc ⟨[], none, none, none, none, rfl, Ties.nil, by simp⟩ ?_ ?_)
    · rintro p tree q E hp ⟨ts, a, b, c, d, rfl, hT, hl⟩
      obtain ⟨ht1, ht2⟩ := pre_idx hp
      have hbig : p.length * (n - 1) ≤ 1000 * 1000 := Nat.mul_le_mul (by omega) (by omega)
      refine ⟨_, rfl, ?_⟩
      refine wp_seq (wp_set (d := LN [0]) rfl ?_)
      have hsrc2 : iR2 (gC (.int 1)) (gV 2) [some (LN dr), some (N at'), some (N n), some (N k), some (LTs ts), some (N tree), some (LN [0]), c, d] = some ((List.range (n - 1)).map fun i => N (1 + i)) := iR2_N rfl (Nat.lt_of_le_of_lt hn (by decide))
      refine wp_seq (wp_for (e := fun i => N (1 + i)) (List.range (n - 1)) (fun pre E => ∃ order c, E = [some (LN dr), some (N at'), some (N n), some (N k), some (LTs ts), some (N tree), some (LN order), c, d] ∧ order.length = pre.length + 1 ∧ order.Nodup ∧ ∀ x ∈ order, x < pre.length + 1) hsrc2 ⟨[0], c, rfl, rfl, by simp, fun x hx => by simp at hx; omega⟩ ?_ ?_)
      · rintro p2 i q2 E hp2 ⟨order, c, rfl, ho1, ho2, ho3⟩
        obtain ⟨hi1, hi2⟩ := pre_idx hp2
        subst hi1
        obtain ⟨v, hv⟩ := r_law_cell (dr := dr) h (j := at' + (1 + p2.length) + 5 * tree)
        refine ⟨_, rfl, ?_⟩
        have hm : v / 3 % (1 + p2.length + 1) < 1 + p2.length + 1 := Nat.mod_lt _ (by omega)
        have pm : (order.take (v / 3 % (1 + p2.length + 1)) ++ [1 + p2.length] ++ order.drop (v / 3 % (1 + p2.length + 1))).Perm ((1 + p2.length) :: order) := by
          refine (List.perm_append_comm.append_right _).trans ?_
          rw [List.append_assoc, List.take_append_drop]
          exact .refl _
        refine wp_insN (xs := order) (p := v / 3 % (1 + p2.length + 1)) (x := 1 + p2.length) rfl (by simp only [x_gV, x_gC, x_g1, x_g2, x_g3, x_gN, x_gCs, x_gL, x_gT, x_gCall, x_gAnd, x_gOr, x_gIf, x_iL, x_iT, x_tN, x_tgN, x_tgC, x_tTup, x_tUnl, x_gO0, x_gO, x_gSl, x_wipe0, x_wipe1, x_bind, x_map, x_join, List.getElem?_cons_zero, List.getElem?_cons_succ, List.set_cons_zero, List.set_cons_succ, dEq_N, dNe_N, dIn_N, dNotIn_N, dLt_N, dLe_N, dGt_N, dGe_N, dAdd_N, dIx_t0, dIx_t1, dIx_t2, dIx_l0, dIx_l1, dLen_l, dInt_b, dSortI_N, gd, List.length_cons, List.length_nil, Nat.zero_add, Nat.reduceAdd, Nat.reduceLeDiff, if_true, List.length_map, List.length_range, mulR (a := tree) (b := 5) (i := 5) rfl (by decide), hv, divL (a := v) (b := 3) (i := 3) rfl (by decide) (by decide), addL (a := 1 + p2.length) (b := 1) (i := 1) rfl, dMod_N (a := v / 3) (b := 1 + p2.length + 1) (by omega)]) rfl (by omega) (by omega) ⟨_, some (N (1 + p2.length)), rfl, by rw [pm.length_eq]; simp [ho1], pm.symm.nodup (List.nodup_cons.mpr ⟨fun hx => by have := ho3 _ hx; omega, ho2⟩), fun x hx => ?_⟩
        rcases List.mem_cons.mp (pm.mem_iff.mp hx) with hx | hx
        · simp; omega
        · have := ho3 x hx; simp; omega
      · rintro E ⟨order, c, rfl, ho1, ho2, ho3⟩
        simp only [List.length_range] at ho1 ho3
        have hsrc3 : iR2 (gC (.int 1)) (gV 2) [some (LN dr), some (N at'), some (N n), some (N k), some (LTs ts), some (N tree), some (LN order), c, d] = some ((List.range (n - 1)).map fun i => N (1 + i)) := iR2_N rfl (Nat.lt_of_le_of_lt hn (by decide))
        refine wp_seq (wp_for (e := fun i => N (1 + i)) (List.range (n - 1)) (fun pre E => ∃ ts' d, E = [some (LN dr), some (N at'), some (N n), some (N k), some (LTs ts'), some (N tree), some (LN order), c, d] ∧ Ties n ts' ∧ ts'.length ≤ ts.length + pre.length) hsrc3 ⟨ts, d, rfl, hT, by simp⟩ ?_ ?_)
        · rintro p2 i q2 E hp2 ⟨ts', d, rfl, hT', hl'⟩
          obtain ⟨hi1, hi2⟩ := pre_idx hp2
          subst hi1
          obtain ⟨v, hv⟩ := r_law_cell (dr := dr) h (j := at' + (1 + p2.length) + 7 * tree)
          have hm : v / 5 % (1 + p2.length) < 1 + p2.length := Nat.mod_lt _ (by omega)
          have hlt1 : v / 5 % (1 + p2.length) < order.length := by omega
          have hlt2 : 1 + p2.length < order.length := by omega
          obtain ⟨u, hu⟩ : ∃ u, order[v / 5 % (1 + p2.length)]? = some u := ⟨_, List.getElem?_eq_getElem hlt1⟩
          obtain ⟨w, hw⟩ : ∃ w, order[1 + p2.length]? = some w := ⟨_, List.getElem?_eq_getElem hlt2⟩
          have k1 : dIxL (.list (order.map N)) (N (v / 5 % (1 + p2.length))) = some (N u) := dIxL_some hu
          have k2 : dIxL (.list (order.map N)) (N (1 + p2.length)) = some (N w) := dIxL_some hw
          have hu' := ho3 u (List.mem_of_getElem? hu)
          have hw' := ho3 w (List.mem_of_getElem? hw)
          have hne : u ≠ w := fun e => by
            subst e
            have := (List.getElem?_inj hlt1 ho2).mp (hu.trans hw.symm)
            omega
          refine ⟨_, rfl, ?_⟩
          exact wp_lapp (f := TT) (xs := ts') (x := (u, w)) rfl (by simp only [x_gV, x_gC, x_g1, x_g2, x_g3, x_gN, x_gCs, x_gL, x_gT, x_gCall, x_gAnd, x_gOr, x_gIf, x_iL, x_iT, x_tN, x_tgN, x_tgC, x_tTup, x_tUnl, x_gO0, x_gO, x_gSl, x_wipe0, x_wipe1, x_bind, x_map, x_join, List.getElem?_cons_zero, List.getElem?_cons_succ, List.set_cons_zero, List.set_cons_succ, dEq_N, dNe_N, dIn_N, dNotIn_N, dLt_N, dLe_N, dGt_N, dGe_N, dAdd_N, dIx_t0, dIx_t1, dIx_t2, dIx_l0, dIx_l1, dLen_l, dInt_b, dSortI_N, gd, List.length_cons, List.length_nil, Nat.zero_add, Nat.reduceAdd, Nat.reduceLeDiff, if_true, List.length_map, List.length_range, mulR (a := tree) (b := 7) (i := 7) rfl (by decide), hv, divL (a := v) (b := 5) (i := 5) rfl (by decide) (by decide), dMod_N (a := v / 5) (b := 1 + p2.length) (by omega), k1, k2]) (by omega) ⟨ts' ++ [(u, w)], some (N (1 + p2.length)), rfl, hT'.app (Ties.one ⟨by simp only; omega, by simp only; omega, hne⟩), by simp; omega⟩
        · rintro E ⟨ts', d, rfl, hT', hl'⟩
          refine wp_nx ⟨ts', some (N tree), some (LN order), c, d, rfl, hT', ?_⟩
          simp only [List.length_range] at hl'
          rw [List.length_append, List.length_singleton, Nat.add_mul]
          omega
    · rintro E ⟨ts, a, b, c, d, rfl, hT, hl⟩
      exact wp_ret rfl ⟨ts, rfl, hT, by simpa using hl⟩
  obtain ⟨d, h1, ts, rfl, h2⟩ := key
  exact ⟨ts, h1, h2⟩
theorem Ties.net (h : Ties n ts) (hn : n ≤ 12) (hm : ts.length ≤ 60) : g_law_decided [N n, LTs ts] = some (.bool true) :=
  r_law_decided ⟨hn, hm, fun t ht => ⟨(h t ht).1, (h t ht).2.1⟩⟩ fun t ht => (h t ht).2.2
theorem pure_law (ns : List Int) (hl : ns.length ≤ 63) : g_law [.list (ns.map PyData.int)] = some (.bool true) := by
  obtain ⟨dr, q1, q2⟩ := r_law_draws hl
  have q1' : g_law_draws [.list (ns.map PyData.int), .int 60] = some (LN dr) := q1
  have at0 : ∀ i, i < 60 → ∃ v, dr[i]? = some v := fun i hi => ⟨_, List.getElem?_eq_getElem (by rw [q2]; exact hi)⟩
  obtain ⟨d0, e0⟩ := at0 0 (by decide)
  obtain ⟨d1, e1⟩ := at0 1 (by decide)
  obtain ⟨d2, e2⟩ := at0 2 (by decide)
  obtain ⟨d3, e3⟩ := at0 3 (by decide)
  have k0 : dIx (.list (dr.map N)) (.int 0) = some (N d0) := dIx_some (i := 0) e0
  have k1 : dIx (.list (dr.map N)) (.int 1) = some (N d1) := dIx_some (i := 1) e1
  have k2 : dIx (.list (dr.map N)) (.int 2) = some (N d2) := dIx_some (i := 2) e2
  have k3 : dIx (.list (dr.map N)) (.int 3) = some (N d3) := dIx_some (i := 3) e3
  obtain ⟨d, h3, h4⟩ := fn_wp (n := 6) (np := 1) (m := m_law) (ds := [.list (ns.map PyData.int)]) (R := fun d => d = .bool true) [some (.list (ns.map PyData.int)), none, none, none, none, none] rfl rfl (by
    refine wp_seq (wp_set (d := LN dr) (by simp only [x_gV, x_gC, x_g1, x_g2, x_g3, x_gN, x_gCs, x_gL, x_gT, x_gCall, x_gAnd, x_gOr, x_gIf, x_iL, x_iT, x_tN, x_tgN, x_tgC, x_tTup, x_tUnl, x_gO0, x_gO, x_gSl, x_wipe0, x_wipe1, x_bind, x_map, x_join, List.getElem?_cons_zero, List.getElem?_cons_succ, List.set_cons_zero, List.set_cons_succ, dEq_N, dNe_N, dIn_N, dNotIn_N, dLt_N, dLe_N, dGt_N, dGe_N, dAdd_N, dIx_t0, dIx_t1, dIx_t2, dIx_l0, dIx_l1, dLen_l, dInt_b, dSortI_N, gd, List.length_cons, List.length_nil, Nat.zero_add, Nat.reduceAdd, Nat.reduceLeDiff, if_true, List.length_map, List.length_range, q1']) ?_)
    refine wp_seq (wp_par (x := N (1 + d0 % 5)) (y := N (d1 % 10)) (by simp only [x_gV, x_gC, x_g1, x_g2, x_g3, x_gN, x_gCs, x_gL, x_gT, x_gCall, x_gAnd, x_gOr, x_gIf, x_iL, x_iT, x_tN, x_tgN, x_tgC, x_tTup, x_tUnl, x_gO0, x_gO, x_gSl, x_wipe0, x_wipe1, x_bind, x_map, x_join, List.getElem?_cons_zero, List.getElem?_cons_succ, List.set_cons_zero, List.set_cons_succ, dEq_N, dNe_N, dIn_N, dNotIn_N, dLt_N, dLe_N, dGt_N, dGe_N, dAdd_N, dIx_t0, dIx_t1, dIx_t2, dIx_l0, dIx_l1, dLen_l, dInt_b, dSortI_N, gd, List.length_cons, List.length_nil, Nat.zero_add, Nat.reduceAdd, Nat.reduceLeDiff, if_true, List.length_map, List.length_range, k0, modL (a := d0) (b := 5) (i := 5) rfl (by decide), addR (a := d0 % 5) (b := 1) (i := 1) rfl]) (by simp only [x_gV, x_gC, x_g1, x_g2, x_g3, x_gN, x_gCs, x_gL, x_gT, x_gCall, x_gAnd, x_gOr, x_gIf, x_iL, x_iT, x_tN, x_tgN, x_tgC, x_tTup, x_tUnl, x_gO0, x_gO, x_gSl, x_wipe0, x_wipe1, x_bind, x_map, x_join, List.getElem?_cons_zero, List.getElem?_cons_succ, List.set_cons_zero, List.set_cons_succ, dEq_N, dNe_N, dIn_N, dNotIn_N, dLt_N, dLe_N, dGt_N, dGe_N, dAdd_N, dIx_t0, dIx_t1, dIx_t2, dIx_l0, dIx_l1, dLen_l, dInt_b, dSortI_N, gd, List.length_cons, List.length_nil, Nat.zero_add, Nat.reduceAdd, Nat.reduceLeDiff, if_true, List.length_map, List.length_range, k1, modL (a := d1) (b := 10) (i := 10) rfl (by decide)]) ?_)
    have c5 : dEq (N (d2 % 8)) (.int 5) = some (.bool (decide (d2 % 8 = 5))) := dEq_N (b := 5)
    -- what follows, for any size and number of ties
    have rest : ∀ n many : Nat, 0 < n → n ≤ 6 → many ≤ 12 → wp (sSeq (sIf (g1 dNot (gCall g_law_decided (gCs (gV 2) (gCs (gCall g_law_net (gCs (gV 1) (gCs (gC (.int 8)) (gCs (gV 2) (gCs (gV 3) gN))))) gN)))) (sRet (gC (.bool false))) sNx) (sSeq (sSet 4 (g2 dAdd (gC (.int 1)) (g2 dMod (g2 dIx (gV 1) (gC (.int 3))) (gC (.int 4))))) (sSeq (sSet 5 (gCall g_law_tree_net (gCs (gV 1) (gCs (gC (.int 20)) (gCs (gV 4) (gCs (gC (.int 2)) gN)))))) (sSeq (sIf (gOr (g1 dNot (gCall g_law_decided (gCs (gV 4) (gCs (gV 5) gN)))) (g1 dNot (gCall g_law_decided (gCs (gV 4) (gCs (g2 dAdd (gV 5) (gCall g_law_net (gCs (gV 1) (gCs (gC (.int 40)) (gCs (gV 4) (gCs (gC (.int 2)) gN)))))) gN))))) (sRet (gC (.bool false))) sNx) (sRet (gAnd (gCall g_law_decided (gCs (gC (.int 4)) (gCs (gL (gCs (gT (gCs (gC (.int 0)) (gCs (gC (.int 1)) gN))) (gCs (gT (gCs (gC (.int 0)) (gCs (gC (.int 2)) gN))) (gCs (gT (gCs (gC (.int 0)) (gCs (gC (.int 3)) gN))) (gCs (gT (gCs (gC (.int 1)) (gCs (gC (.int 2)) gN))) (gCs (gT (gCs (gC (.int 1)) (gCs (gC (.int 3)) gN))) (gCs (gT (gCs (gC (.int 2)) (gCs (gC (.int 3)) gN))) gN))))))) gN))) (gAnd (gCall g_law_decided (gCs (gC (.int 3)) (gCs (gL (gCs (gT (gCs (gC (.int 0)) (gCs (gC (.int 1)) gN))) (gCs (gT (gCs (gC (.int 0)) (gCs (gC (.int 1)) gN))) (gCs (gT (gCs (gC (.int 0)) (gCs (gC (.int 1)) gN))) (gCs (gT (gCs (gC (.int 1)) (gCs (gC (.int 2)) gN))) gN))))) gN))) (gCall g_law_decided (gCs (gC (.int 2)) (gCs (gL gN) gN)))))))))) (fun _ => False) (fun d => d = .bool true) [some (.list (ns.map PyData.int)), some (LN dr), some (N n), some (N many), none, none] := fun n many hn1 hn hmany => by
      obtain ⟨t1, w1, w2, w3⟩ := r_law_net q2 (at' := 8) (n := n) (many := many) (by omega) (by omega)
      have w1' : g_law_net [LN dr, .int 8, N n, N many] = some (LTs t1) := w1
      refine wp_seq (wp_if (t := false) (by simp only [x_gV, x_gC, x_g1, x_g2, x_g3, x_gN, x_gCs, x_gL, x_gT, x_gCall, x_gAnd, x_gOr, x_gIf, x_iL, x_iT, x_tN, x_tgN, x_tgC, x_tTup, x_tUnl, x_gO0, x_gO, x_gSl, x_wipe0, x_wipe1, x_bind, x_map, x_join, List.getElem?_cons_zero, List.getElem?_cons_succ, List.set_cons_zero, List.set_cons_succ, dEq_N, dNe_N, dIn_N, dNotIn_N, dLt_N, dLe_N, dGt_N, dGe_N, dAdd_N, dIx_t0, dIx_t1, dIx_t2, dIx_l0, dIx_l1, dLen_l, dInt_b, dSortI_N, gd, List.length_cons, List.length_nil, Nat.zero_add, Nat.reduceAdd, Nat.reduceLeDiff, if_true, List.length_map, List.length_range, w1', w2.net (by omega) (by omega), dNot, Bool.not_true]) (fun k => Bool.noConfusion k) fun _ => wp_nx ?_)
      refine wp_seq (wp_set (d := N (1 + d3 % 4)) (by simp only [x_gV, x_gC, x_g1, x_g2, x_g3, x_gN, x_gCs, x_gL, x_gT, x_gCall, x_gAnd, x_gOr, x_gIf, x_iL, x_iT, x_tN, x_tgN, x_tgC, x_tTup, x_tUnl, x_gO0, x_gO, x_gSl, x_wipe0, x_wipe1, x_bind, x_map, x_join, List.getElem?_cons_zero, List.getElem?_cons_succ, List.set_cons_zero, List.set_cons_succ, dEq_N, dNe_N, dIn_N, dNotIn_N, dLt_N, dLe_N, dGt_N, dGe_N, dAdd_N, dIx_t0, dIx_t1, dIx_t2, dIx_l0, dIx_l1, dLen_l, dInt_b, dSortI_N, gd, List.length_cons, List.length_nil, Nat.zero_add, Nat.reduceAdd, Nat.reduceLeDiff, if_true, List.length_map, List.length_range, k3, modL (a := d3) (b := 4) (i := 4) rfl (by decide), addR (a := d3 % 4) (b := 1) (i := 1) rfl]) ?_)
      have hf4 : d3 % 4 < 4 := Nat.mod_lt _ (by decide)
      obtain ⟨t2, x1, x2, x3⟩ := r_law_tree_net q2 (at' := 20) (n := 1 + d3 % 4) (k := 2) (by omega) (by omega) (by decide)
      have x1' : g_law_tree_net [LN dr, .int 20, N (1 + d3 % 4), .int 2] = some (LTs t2) := x1
      obtain ⟨t3, y1, y2, y3⟩ := r_law_net q2 (at' := 40) (n := 1 + d3 % 4) (many := 2) (by decide) (by omega)
      have y1' : g_law_net [LN dr, .int 40, N (1 + d3 % 4), .int 2] = some (LTs t3) := y1
      have z1 : dAdd (.list (t2.map TT)) (.list (t3.map TT)) = some (LTs (t2 ++ t3)) := by
        rw [dAdd_ok (by simp only [List.length_map]; omega)]
        simp
      refine wp_seq (wp_set (d := LTs t2) (by simp only [x_gV, x_gC, x_g1, x_g2, x_g3, x_gN, x_gCs, x_gL, x_gT, x_gCall, x_gAnd, x_gOr, x_gIf, x_iL, x_iT, x_tN, x_tgN, x_tgC, x_tTup, x_tUnl, x_gO0, x_gO, x_gSl, x_wipe0, x_wipe1, x_bind, x_map, x_join, List.getElem?_cons_zero, List.getElem?_cons_succ, List.set_cons_zero, List.set_cons_succ, dEq_N, dNe_N, dIn_N, dNotIn_N, dLt_N, dLe_N, dGt_N, dGe_N, dAdd_N, dIx_t0, dIx_t1, dIx_t2, dIx_l0, dIx_l1, dLen_l, dInt_b, dSortI_N, gd, List.length_cons, List.length_nil, Nat.zero_add, Nat.reduceAdd, Nat.reduceLeDiff, if_true, List.length_map, List.length_range, x1']) ?_)
      have zz := (x2.app y2).net (by omega) (by rw [List.length_append]; omega)
      refine wp_seq (wp_if (t := false) (by simp only [x_gV, x_gC, x_g1, x_g2, x_g3, x_gN, x_gCs, x_gL, x_gT, x_gCall, x_gAnd, x_gOr, x_gIf, x_iL, x_iT, x_tN, x_tgN, x_tgC, x_tTup, x_tUnl, x_gO0, x_gO, x_gSl, x_wipe0, x_wipe1, x_bind, x_map, x_join, List.getElem?_cons_zero, List.getElem?_cons_succ, List.set_cons_zero, List.set_cons_succ, dEq_N, dNe_N, dIn_N, dNotIn_N, dLt_N, dLe_N, dGt_N, dGe_N, dAdd_N, dIx_t0, dIx_t1, dIx_t2, dIx_l0, dIx_l1, dLen_l, dInt_b, dSortI_N, gd, List.length_cons, List.length_nil, Nat.zero_add, Nat.reduceAdd, Nat.reduceLeDiff, if_true, List.length_map, List.length_range, x2.net (by omega) (by omega), y1', z1, zz, dNot, Bool.not_true]) (fun k => Bool.noConfusion k) fun _ => wp_nx ?_)
      have f1 : g_law_decided [.int 4, .list [.tuple [.int 0, .int 1], .tuple [.int 0, .int 2], .tuple [.int 0, .int 3], .tuple [.int 1, .int 2], .tuple [.int 1, .int 3], .tuple [.int 2, .int 3]]] = some (.bool true) :=
        Ties.net (n := 4) (ts := [(0, 1), (0, 2), (0, 3), (1, 2), (1, 3), (2, 3)]) (by intro t ht; simp at ht; rcases ht with rfl | rfl | rfl | rfl | rfl | rfl <;> simp) (by decide) (by decide)
      have f2 : g_law_decided [.int 3, .list [.tuple [.int 0, .int 1], .tuple [.int 0, .int 1], .tuple [.int 0, .int 1], .tuple [.int 1, .int 2]]] = some (.bool true) :=
        Ties.net (n := 3) (ts := [(0, 1), (0, 1), (0, 1), (1, 2)]) (by intro t ht; simp at ht; rcases ht with rfl | rfl <;> simp) (by decide) (by decide)
      have f3 : g_law_decided [.int 2, .list []] = some (.bool true) := Ties.net (n := 2) (ts := []) Ties.nil (by decide) (by decide)
      exact wp_ret (d := .bool true) (by simp only [x_gV, x_gC, x_g1, x_g2, x_g3, x_gN, x_gCs, x_gL, x_gT, x_gCall, x_gAnd, x_gOr, x_gIf, x_iL, x_iT, x_tN, x_tgN, x_tgC, x_tTup, x_tUnl, x_gO0, x_gO, x_gSl, x_wipe0, x_wipe1, x_bind, x_map, x_join, List.getElem?_cons_zero, List.getElem?_cons_succ, List.set_cons_zero, List.set_cons_succ, dEq_N, dNe_N, dIn_N, dNotIn_N, dLt_N, dLe_N, dGt_N, dGe_N, dAdd_N, dIx_t0, dIx_t1, dIx_t2, dIx_l0, dIx_l1, dLen_l, dInt_b, dSortI_N, gd, List.length_cons, List.length_nil, Nat.zero_add, Nat.reduceAdd, Nat.reduceLeDiff, if_true, List.length_map, List.length_range, f1, f2, f3]) rfl
    have hd0 : d0 % 5 < 5 := Nat.mod_lt _ (by decide)
    have hd1 : d1 % 10 < 10 := Nat.mod_lt _ (by decide)
    have hd2 : d1 % 13 < 13 := Nat.mod_lt _ (by decide)
    refine wp_seq (wp_if (t := decide (d2 % 8 = 5)) (by simp only [x_gV, x_gC, x_g1, x_g2, x_g3, x_gN, x_gCs, x_gL, x_gT, x_gCall, x_gAnd, x_gOr, x_gIf, x_iL, x_iT, x_tN, x_tgN, x_tgC, x_tTup, x_tUnl, x_gO0, x_gO, x_gSl, x_wipe0, x_wipe1, x_bind, x_map, x_join, List.getElem?_cons_zero, List.getElem?_cons_succ, List.set_cons_zero, List.set_cons_succ, dEq_N, dNe_N, dIn_N, dNotIn_N, dLt_N, dLe_N, dGt_N, dGe_N, dAdd_N, dIx_t0, dIx_t1, dIx_t2, dIx_l0, dIx_l1, dLen_l, dInt_b, dSortI_N, gd, List.length_cons, List.length_nil, Nat.zero_add, Nat.reduceAdd, Nat.reduceLeDiff, if_true, List.length_map, List.length_range, k2, modL (a := d2) (b := 8) (i := 8) rfl (by decide), c5]) (fun _ => ?_) fun _ => wp_nx ?_)
    · exact wp_par (x := N 6) (y := N (d1 % 13)) rfl (by simp only [x_gV, x_gC, x_g1, x_g2, x_g3, x_gN, x_gCs, x_gL, x_gT, x_gCall, x_gAnd, x_gOr, x_gIf, x_iL, x_iT, x_tN, x_tgN, x_tgC, x_tTup, x_tUnl, x_gO0, x_gO, x_gSl, x_wipe0, x_wipe1, x_bind, x_map, x_join, List.getElem?_cons_zero, List.getElem?_cons_succ, List.set_cons_zero, List.set_cons_succ, dEq_N, dNe_N, dIn_N, dNotIn_N, dLt_N, dLe_N, dGt_N, dGe_N, dAdd_N, dIx_t0, dIx_t1, dIx_t2, dIx_l0, dIx_l1, dLen_l, dInt_b, dSortI_N, gd, List.length_cons, List.length_nil, Nat.zero_add, Nat.reduceAdd, Nat.reduceLeDiff, if_true, List.length_map, List.length_range, k1, modL (a := d1) (b := 13) (i := 13) rfl (by decide)]) (rest 6 (d1 % 13) (by decide) (by decide) (by omega))
    · exact rest (1 + d0 % 5) (d1 % 10) (by omega) (by omega) (by omega))
  rw [g_law, h3, h4]
end K72

section
set_option maxHeartbeats 0
namespace K72
open PySem PySem.Spec PyProof.Rows L2 Pu
def topS (i : Nat) : Stmt := PySem.Challenge.pw_freelots_k72_whole_woods_exactly.main.body.getD i (.Pass ⟨0, 0, 0, 0⟩)
section
variable {P : Program} {w : World} {K : PySem.W.Frag} {mg : Str → Option Value} {base : Heap}
abbrev slaw_draws : Stmt := topS 62
abbrev nlaw_draws : List Str := ["script", "many", "found", "cell", "number", "k", "mixed", "base"]
theorem sclaw_draws : FnScope nlaw_draws ["script", "many"] (defScope slaw_draws) := ⟨rfl, rfl, rfl, by decide +kernel, rfl, by decide +kernel, by decide +kernel⟩
theorem d_law_draws (hD : De K mg "_law_draws" slaw_draws ["script", "many"]) (z_int : mg "int" = none) (z_abs : mg "abs" = none) (z_range : mg "range" = none) (z_len : mg "len" = none) : Df P w K mg base "_law_draws" 1 [.sc, .fr] g_law_draws := by
  obtain ⟨f, fd, Fu, hmg, hb⟩ := hD.ex
  exact df_mk (rest := [.fr, .fr, .fr, .fr, .fr, .fr]) (M' := [.sc, .fr, .fr, .fr, .fr, .fr, .fr, .fr]) Fu sclaw_draws hmg hb rfl rfl (gb := m_law_draws) (fun cdv A outer s H E hr => ⟨_, (pb_cons (pb_setO 2 (pf_lst pax_nil) sclaw_draws.nd) (pb_cons (pb_for PassesOwn.never rfl (pix_list (PFx.x (pf_slS 0 pox_none (pox_some px_int)))) (pgx_name 3 sclaw_draws.nd) (pb_cons (pb_set 4 (px_abs z_abs (pax_cons (px_toInt z_int (pax_cons (px_v 3) pax_nil)) pax_nil)) sclaw_draws.nd) (pb_one (pb_if (pt_ge (px_v 4) (px_pow px_int px_int)) (pb_one (pb_for PassesOwn.never rfl (pix_r1 px_int z_range) (pgx_name 5 sclaw_draws.nd) (pb_one (pb_if (pt_gt (px_v 4) px_int) (pb_cons (pb_app 2 (px_mod (px_v 4) px_int)) (pb_one (pb_set 4 (px_div (px_v 4) px_int) sclaw_draws.nd))) pb_nil)))) (pb_cons (pb_set 6 (px_mod (px_add (px_add (px_mul (px_v 4) px_int) (px_mul px_int (px_bw 2 (px_len z_len (pax_cons (px_v 2) pax_nil))))) px_int) px_int) sclaw_draws.nd) (pb_one (pb_for PassesOwn.never rfl (pix_r1 px_int z_range) (pgx_name 5 sclaw_draws.nd) (pb_cons (pb_set 6 (px_mod (px_add (px_add (px_add (px_mul (px_v 6) px_int) (px_div (px_v 6) px_int)) (px_mul px_int (px_v 5))) px_int) px_int) sclaw_draws.nd) (pb_one (pb_app 2 (px_mod (px_div (px_v 6) px_int) px_int))))))))))) (pb_cons (pb_for PassesOwn.never rfl (pix_r1 (px_v 1) z_range) (pgx_name 5 sclaw_draws.nd) (pb_one (pb_if (pt_lt (px_bw 2 (px_len z_len (pax_cons (px_v 2) pax_nil))) (px_v 1)) (pb_cons (pb_set 7 px_int sclaw_draws.nd) (pb_cons (pb_if (pt_gt (px_bw 2 (px_len z_len (pax_cons (px_v 2) pax_nil))) px_int) (pb_one (pb_set 7 (pl_ix (pl_v 2) (px_mod (px_v 5) (px_bw 2 (px_len z_len (pax_cons (px_v 2) pax_nil))))) sclaw_draws.nd)) pb_nil) (pb_one (pb_app 2 (px_mod (px_add (px_add (px_mul (px_v 7) px_int) (px_mul px_int (px_bw 2 (px_len z_len (pax_cons (px_v 2) pax_nil))))) px_int) px_int))))) pb_nil))) (pb_one (pb_ret (PFx.x (pf_sl (pl_v 2) pox_none (pox_some (px_v 1)))))))))⟩)
abbrev slaw_things : Stmt := topS 68
abbrev nlaw_things : List Str := ["mark", "thing"]
theorem sclaw_things : FnScope nlaw_things ["mark"] (defScope slaw_things) := ⟨rfl, rfl, rfl, by decide +kernel, rfl, by decide +kernel, by decide +kernel⟩
theorem d_law_things (hD : De K mg "_law_things" slaw_things ["mark"]) (z_range : mg "range" = none) : Df P w K mg base "_law_things" 1 [.fr] g_law_things := by
  obtain ⟨f, fd, Fu, hmg, hb⟩ := hD.ex
  exact df_mk (rest := [.fr]) (M' := [.fr, .fr]) Fu sclaw_things hmg hb rfl rfl (gb := m_law_things) (fun cdv A outer s H E hr => ⟨_, (pb_one (pb_ret (PFx.x (pf_lc rfl sclaw_things.nd (own := [("thing", 1)]) (pix_r1 px_int z_range) (blkOk_by (N := nlaw_things) (sc := defScope slaw_things) (own := [("thing", 1)]) (by decide +kernel)) (fun _ _ _ _ _ => (pgx_name 1 sclaw_things.nd)) (fun _ _ _ _ _ => (ptsx_one (pt_eq' K hr.units (px_band (px_shr (px_v 0) (px_v 1)) px_int) px_int))) (fun _ _ _ _ _ => (px_v 1))))))⟩)
abbrev slaw_within : Stmt := topS 71
abbrev nlaw_within : List Str := ["ties", "places", "tie"]
theorem sclaw_within : FnScope nlaw_within ["ties", "places"] (defScope slaw_within) := ⟨rfl, rfl, rfl, by decide +kernel, rfl, by decide +kernel, by decide +kernel⟩
theorem d_law_within (hD : De K mg "_law_within" slaw_within ["ties", "places"]) (z_len : mg "len" = none) : Df P w K mg base "_law_within" 1 [.fr, .fr] g_law_within := by
  obtain ⟨f, fd, Fu, hmg, hb⟩ := hD.ex
  exact df_mk (rest := [.fr]) (M' := [.fr, .fr, .fr]) Fu sclaw_within hmg hb rfl rfl (gb := m_law_within) (fun cdv A outer s H E hr => ⟨_, (pb_one (pb_ret (px_len z_len (pax_cons (PFx.x (pf_lc rfl sclaw_within.nd (own := [("tie", 2)]) (pix_list (px_v 0)) (blkOk_by (N := nlaw_within) (sc := defScope slaw_within) (own := [("tie", 2)]) (by decide +kernel)) (fun _ _ _ _ _ => (pgx_name 2 sclaw_within.nd)) (fun _ _ _ _ _ => (ptsx_one (pw_ (pwx_and (pt_in' K (u65 hr) (px_ix' K (px_v 2) px_int) (px_v 1)) (pwx_and1 (pt_in' K (u65 hr) (px_ix' K (px_v 2) px_int) (px_v 1))))))) (fun _ _ _ _ _ => (px_v 2)))) pax_nil))))⟩)
abbrev slaw_need : Stmt := topS 74
abbrev nlaw_need : List Str := ["size", "ties", "found", "mark", "places"]
theorem sclaw_need : FnScope nlaw_need ["size", "ties"] (defScope slaw_need) := ⟨rfl, rfl, rfl, by decide +kernel, rfl, by decide +kernel, by decide +kernel⟩
theorem d_law_need (hD : De K mg "_law_need" slaw_need ["size", "ties"]) (z_range : mg "range" = none) (d_law_things : Df P w K mg base "_law_things" 1 [.fr] g_law_things) (z_len : mg "len" = none) (d_law_within : Df P w K mg base "_law_within" 1 [.fr, .fr] g_law_within) (z_max : mg "max" = none) : Df P w K mg base "_law_need" 2 [.fr, .fr] g_law_need := by
  obtain ⟨f, fd, Fu, hmg, hb⟩ := hD.ex
  exact df_mk (rest := [.fr, .fr, .fr]) (M' := [.fr, .fr, .fr, .fr, .fr]) Fu sclaw_need hmg hb rfl rfl (gb := m_law_need) (fun cdv A outer s H E hr => ⟨_, (pb_cons (pb_setO 2 (pf_lst (pax_cons px_int pax_nil)) sclaw_need.nd) (pb_cons (pb_for PassesOwn.never rfl (pix_r1 (px_shl px_int (px_v 0)) z_range) (pgx_name 3 sclaw_need.nd) (pb_cons (pb_set 4 (px_call d_law_things (hr.mono (by decide)) (pmx (pax_cons (px_v 3) pax_nil))) sclaw_need.nd) (pb_one (pb_if (pt_gt (px_len z_len (pax_cons (px_v 4) pax_nil)) px_int) (pb_one (pb_app 2 (px_div (px_sub (px_add (px_call d_law_within (hr.mono (by decide)) (pmx (pax_cons (px_v 1) (pax_cons (px_v 4) pax_nil)))) (px_len z_len (pax_cons (px_v 4) pax_nil))) px_int) (px_sub (px_len z_len (pax_cons (px_v 4) pax_nil)) px_int)))) pb_nil)))) (pb_one (pb_ret (px_bw 2 (px_max1 rfl z_max (pax_cons (px_v 2) pax_nil)))))))⟩)
abbrev scount_of : Stmt := topS 28
abbrev ncount_of : List Str := ["rule"]
theorem sccount_of : FnScope ncount_of ["rule"] (defScope scount_of) := ⟨rfl, rfl, rfl, by decide +kernel, rfl, by decide +kernel, by decide +kernel⟩
theorem d_count_of (hD : De K mg "count_of" scount_of ["rule"]) (z_len : mg "len" = none) : Df P w K mg base "count_of" 1 [.fr] g_count_of := by
  obtain ⟨f, fd, Fu, hmg, hb⟩ := hD.ex
  exact df_mk (rest := []) (M' := [.fr]) Fu sccount_of hmg hb rfl rfl (gb := m_count_of) (fun cdv A outer s H E hr => ⟨_, (pb_cons (pb_if (pw_ (pwx_or (pt_eq hr.units (px_ix (px_v 0) px_int) px_str) (pwx_or (pt_eq hr.units (px_ix (px_v 0) px_int) px_str) (pwx_or1 (pt_eq hr.units (px_ix (px_v 0) px_int) px_str))))) (pb_one (pb_ret (px_len z_len (pax_cons (px_ix (px_v 0) px_int) pax_nil)))) pb_nil) pb_never)⟩)
abbrev sis_plain : Stmt := topS 22
abbrev nis_plain : List Str := ["rule"]
theorem scis_plain : FnScope nis_plain ["rule"] (defScope sis_plain) := ⟨rfl, rfl, rfl, by decide +kernel, rfl, by decide +kernel, by decide +kernel⟩
theorem d_is_plain (hD : De K mg "is_plain" sis_plain ["rule"]) (gt_PLAIN : GTu K mg "PLAIN" ["net", "table", "rooms", "lists", "linked", "frame", "told"]) : Df P w K mg base "is_plain" 1 [.fr] g_is_plain := by
  obtain ⟨f, fd, Fu, hmg, hb⟩ := hD.ex
  obtain ⟨_, _, _, _, gt_PLAIN1, gt_PLAIN2, gt_PLAIN3, gt_PLAIN4, gt_PLAIN5, gt_PLAIN6⟩ := gt_PLAIN.ex
  exact df_mk (rest := []) (M' := [.fr]) Fu scis_plain hmg hb rfl rfl (gb := m_is_plain) (fun cdv A outer s H E hr => ⟨_, (pb_one (pb_ret (px_inT (px_ix (px_v 0) px_int) (px_globT ["net", "table", "rooms", "lists", "linked", "frame", "told"] gt_PLAIN1 gt_PLAIN2 gt_PLAIN3 gt_PLAIN4 gt_PLAIN5 gt_PLAIN6))))⟩)
abbrev shave_no_ring : Stmt := topS 23
abbrev nhave_no_ring : List Str := ["size", "ties", "names", "first", "second", "name"]
theorem schave_no_ring : FnScope nhave_no_ring ["size", "ties"] (defScope shave_no_ring) := ⟨rfl, rfl, rfl, by decide +kernel, rfl, by decide +kernel, by decide +kernel⟩
theorem d_have_no_ring (hD : De K mg "have_no_ring" shave_no_ring ["size", "ties"]) (z_list : mg "list" = none) (z_range : mg "range" = none) (z_int : mg "int" = none) : Df P w K mg base "have_no_ring" 1 [.fr, .fr] g_have_no_ring := by
  obtain ⟨f, fd, Fu, hmg, hb⟩ := hD.ex
  exact df_mk (rest := [.fr, .fr, .fr, .fr]) (M' := [.fr, .fr, .fr, .fr, .fr, .fr]) Fu schave_no_ring hmg hb rfl rfl (gb := m_have_no_ring) (fun cdv A outer s H E hr => ⟨_, (pb_cons (pb_set 2 (PFx.x (pf_lrng1 rfl z_list z_range (px_v 0))) schave_no_ring.nd) (pb_cons (pb_for PassesOwn.never rfl (pix_list (px_v 1)) (pgx_tup rfl (fun _ _ _ h => two_len h) (pgsx_cons (pgx_name 3 schave_no_ring.nd) (pgsx_cons (pgx_name 4 schave_no_ring.nd) pgsx_nil))) (pb_cons (pb_if (pt_eq hr.units (px_ix (px_v 2) (px_v 3)) (px_ix (px_v 2) (px_v 4))) (pb_one (pb_ret px_bl)) pb_nil) (pb_one (pb_set 2 (PFx.x (pf_lc rfl schave_no_ring.nd (own := [("name", 5)]) (pix_list (px_v 2)) (blkOk_by (N := nhave_no_ring) (sc := defScope shave_no_ring) (own := [("name", 5)]) (by decide +kernel)) (fun _ _ _ _ _ => (pgx_name 5 schave_no_ring.nd)) (fun _ _ _ _ _ => ptsx_nil) (fun _ _ _ _ _ => (px_ix' K (PFx.x (pf_lst (pax_cons (px_v 5) (pax_cons (px_ix' K (px_v 2) (px_v 3)) pax_nil)))) (px_toInt z_int (pax_cons (px_eq' K hr.units (px_v 5) (px_ix' K (px_v 2) (px_v 4))) pax_nil)))))) schave_no_ring.nd)))) (pb_one (pb_ret px_bl))))⟩)
abbrev sis_free_plain : Stmt := topS 26
abbrev nis_free_plain : List Str := ["rule", "things", "thing"]
theorem scis_free_plain : FnScope nis_free_plain ["rule", "things"] (defScope sis_free_plain) := ⟨rfl, rfl, rfl, by decide +kernel, rfl, by decide +kernel, by decide +kernel⟩
theorem d_is_free_plain (hD : De K mg "is_free_plain" sis_free_plain ["rule", "things"]) (d_have_no_ring : Df P w K mg base "have_no_ring" 1 [.fr, .fr] g_have_no_ring) : Df P w K mg base "is_free_plain" 2 [.fr, .fr] g_is_free_plain := by
  obtain ⟨f, fd, Fu, hmg, hb⟩ := hD.ex
  exact df_mk (rest := [.fr]) (M' := [.fr, .fr, .fr]) Fu scis_free_plain hmg hb rfl rfl (gb := m_is_free_plain) (fun cdv A outer s H E hr => ⟨_, (pb_cons (pb_if (pt_eq hr.units (px_ix (px_v 0) px_int) px_str) (pb_one (pb_ret (px_call d_have_no_ring (hr.mono (by decide)) (pmx (pax_cons (px_ix (px_v 0) px_int) (pax_cons (PFx.x (pf_lc rfl scis_free_plain.nd (own := [("thing", 2)]) (pix_list (px_v 1)) (blkOk_by (N := nis_free_plain) (sc := defScope sis_free_plain) (own := [("thing", 2)]) (by decide +kernel)) (fun _ _ _ _ _ => (pgx_name 2 scis_free_plain.nd)) (fun _ _ _ _ _ => ptsx_nil) (fun _ _ _ _ _ => (px_ix' K (px_ix' K (px_v 0) px_int) (px_v 2))))) pax_nil)))))) pb_nil) pb_never)⟩)
abbrev sis_free : Stmt := topS 40
abbrev nis_free : List Str := ["rule", "things"]
theorem scis_free : FnScope nis_free ["rule", "things"] (defScope sis_free) := ⟨rfl, rfl, rfl, by decide +kernel, rfl, by decide +kernel, by decide +kernel⟩
theorem d_is_free (hD : De K mg "is_free" sis_free ["rule", "things"]) (d_is_plain : Df P w K mg base "is_plain" 1 [.fr] g_is_plain) (d_is_free_plain : Df P w K mg base "is_free_plain" 2 [.fr, .fr] g_is_free_plain) : Df P w K mg base "is_free" 3 [.fr, .fr] g_is_free := by
  obtain ⟨f, fd, Fu, hmg, hb⟩ := hD.ex
  exact df_mk (rest := []) (M' := [.fr, .fr]) Fu scis_free hmg hb rfl rfl (gb := m_is_free) (fun cdv A outer s H E hr => ⟨_, (pb_cons (pb_if (pt_x (px_call d_is_plain (hr.mono (by decide)) (pmx (pax_cons (px_v 0) pax_nil)))) (pb_one (pb_ret (px_call d_is_free_plain (hr.mono (by decide)) (pmx (pax_cons (px_v 0) (pax_cons (px_v 1) pax_nil)))))) pb_nil) pb_never)⟩)
abbrev swith_thing : Stmt := topS 42
abbrev nwith_thing : List Str := ["things", "thing"]
theorem scwith_thing : FnScope nwith_thing ["things", "thing"] (defScope swith_thing) := ⟨rfl, rfl, rfl, by decide +kernel, rfl, by decide +kernel, by decide +kernel⟩
theorem d_with_thing (hD : De K mg "with_thing" swith_thing ["things", "thing"]) (z_sorted : mg "sorted" = none) : Df P w K mg base "with_thing" 1 [.fr, .fr] g_with_thing := by
  obtain ⟨f, fd, Fu, hmg, hb⟩ := hD.ex
  exact df_mk (rest := []) (M' := [.fr, .fr]) Fu scwith_thing hmg hb rfl rfl (gb := m_with_thing) (fun cdv A outer s H E hr => ⟨_, (pb_one (pb_ret (PFx.x (pf_sortI z_sorted (pax_cons (PFx.x (pf_add (PX.l (px_v 0)) (PFx.l (pf_lst (pax_cons (px_v 1) pax_nil))))) pax_nil)))))⟩)
abbrev swithout_thing : Stmt := topS 43
abbrev nwithout_thing : List Str := ["things", "thing", "other"]
theorem scwithout_thing : FnScope nwithout_thing ["things", "thing"] (defScope swithout_thing) := ⟨rfl, rfl, rfl, by decide +kernel, rfl, by decide +kernel, by decide +kernel⟩
theorem d_without_thing (hD : De K mg "without_thing" swithout_thing ["things", "thing"]) : Df P w K mg base "without_thing" 1 [.fr, .fr] g_without_thing := by
  obtain ⟨f, fd, Fu, hmg, hb⟩ := hD.ex
  exact df_mk (rest := [.fr]) (M' := [.fr, .fr, .fr]) Fu scwithout_thing hmg hb rfl rfl (gb := m_without_thing) (fun cdv A outer s H E hr => ⟨_, (pb_one (pb_ret (PFx.x (pf_lc rfl scwithout_thing.nd (own := [("other", 2)]) (pix_list (px_v 0)) (blkOk_by (N := nwithout_thing) (sc := defScope swithout_thing) (own := [("other", 2)]) (by decide +kernel)) (fun _ _ _ _ _ => (pgx_name 2 scwithout_thing.nd)) (fun _ _ _ _ _ => (ptsx_one (pt_ne' K hr.units (px_v 2) (px_v 1)))) (fun _ _ _ _ _ => (px_v 2))))))⟩)
abbrev sexchanged : Stmt := topS 44
abbrev nexchanged : List Str := ["things", "thing", "gone"]
theorem scexchanged : FnScope nexchanged ["things", "thing", "gone"] (defScope sexchanged) := ⟨rfl, rfl, rfl, by decide +kernel, rfl, by decide +kernel, by decide +kernel⟩
theorem d_exchanged (hD : De K mg "exchanged" sexchanged ["things", "thing", "gone"]) (d_with_thing : Df P w K mg base "with_thing" 1 [.fr, .fr] g_with_thing) (d_without_thing : Df P w K mg base "without_thing" 1 [.fr, .fr] g_without_thing) : Df P w K mg base "exchanged" 2 [.fr, .fr, .fr] g_exchanged := by
  obtain ⟨f, fd, Fu, hmg, hb⟩ := hD.ex
  exact df_mk (rest := []) (M' := [.fr, .fr, .fr]) Fu scexchanged hmg hb rfl rfl (gb := m_exchanged) (fun cdv A outer s H E hr => ⟨_, (pb_one (pb_ret (px_call d_with_thing (hr.mono (by decide)) (pmx (pax_cons (px_call d_without_thing (hr.mono (by decide)) (pmx (pax_cons (px_v 0) (pax_cons (px_v 2) pax_nil)))) (pax_cons (px_v 1) pax_nil))))))⟩)
abbrev ssteps_from : Stmt := topS 46
abbrev nsteps_from : List Str := ["rules", "parts", "thing", "found", "at", "other"]
theorem scsteps_from : FnScope nsteps_from ["rules", "parts", "thing"] (defScope ssteps_from) := ⟨rfl, rfl, rfl, by decide +kernel, rfl, by decide +kernel, by decide +kernel⟩
theorem d_steps_from (hD : De K mg "steps_from" ssteps_from ["rules", "parts", "thing"]) (z_len : mg "len" = none) (z_range : mg "range" = none) (d_is_free : Df P w K mg base "is_free" 3 [.fr, .fr] g_is_free) (d_exchanged : Df P w K mg base "exchanged" 2 [.fr, .fr, .fr] g_exchanged) : Df P w K mg base "steps_from" 4 [.fr, .fr, .fr] g_steps_from := by
  obtain ⟨f, fd, Fu, hmg, hb⟩ := hD.ex
  exact df_mk (rest := [.fr, .fr, .fr]) (M' := [.fr, .fr, .fr, .fr, .fr, .fr]) Fu scsteps_from hmg hb rfl rfl (gb := m_steps_from) (fun cdv A outer s H E hr => ⟨_, (pb_cons (pb_setO 3 (pf_lst pax_nil) scsteps_from.nd) (pb_cons (pb_for PassesOwn.never rfl (pix_r1 (px_len z_len (pax_cons (px_v 0) pax_nil)) z_range) (pgx_name 4 scsteps_from.nd) (pb_one (pb_if (pt_notin (u65 hr) (px_v 2) (px_ix (px_v 1) (px_v 4))) (pb_one (pb_for PassesOwn.never rfl (pix_list (px_ix (px_v 1) (px_v 4))) (pgx_name 5 scsteps_from.nd) (pb_one (pb_if (pt_x (px_call d_is_free (hr.mono (by decide)) (pmx (pax_cons (px_ix (px_v 0) (px_v 4)) (pax_cons (px_call d_exchanged (hr.mono (by decide)) (pmx (pax_cons (px_ix (px_v 1) (px_v 4)) (pax_cons (px_v 2) (pax_cons (px_v 5) pax_nil))))) pax_nil))))) (pb_one (pb_app 3 (px_tup (pax_cons (px_v 5) (pax_cons (px_v 4) pax_nil))))) pb_nil)))) pb_nil))) (pbs_frz 3 (pb_one (pb_ret (px_v 3))))))⟩)
abbrev spart_that_takes : Stmt := topS 45
abbrev npart_that_takes : List Str := ["rules", "parts", "thing", "at"]
theorem scpart_that_takes : FnScope npart_that_takes ["rules", "parts", "thing"] (defScope spart_that_takes) := ⟨rfl, rfl, rfl, by decide +kernel, rfl, by decide +kernel, by decide +kernel⟩
theorem d_part_that_takes (hD : De K mg "part_that_takes" spart_that_takes ["rules", "parts", "thing"]) (z_len : mg "len" = none) (z_range : mg "range" = none) (d_is_free : Df P w K mg base "is_free" 3 [.fr, .fr] g_is_free) (d_with_thing : Df P w K mg base "with_thing" 1 [.fr, .fr] g_with_thing) : Df P w K mg base "part_that_takes" 4 [.fr, .fr, .fr] g_part_that_takes := by
  obtain ⟨f, fd, Fu, hmg, hb⟩ := hD.ex
  exact df_mk (rest := [.fr]) (M' := [.fr, .fr, .fr, .fr]) Fu scpart_that_takes hmg hb rfl rfl (gb := m_part_that_takes) (fun cdv A outer s H E hr => ⟨_, (pb_cons (pb_for PassesOwn.never rfl (pix_r1 (px_len z_len (pax_cons (px_v 0) pax_nil)) z_range) (pgx_name 3 scpart_that_takes.nd) (pb_one (pb_if (pw_ (pwx_and (pt_notin (u65 hr) (px_v 2) (px_ix (px_v 1) (px_v 3))) (pwx_and1 (pt_x (px_call d_is_free (hr.mono (by decide)) (pmx (pax_cons (px_ix (px_v 0) (px_v 3)) (pax_cons (px_call d_with_thing (hr.mono (by decide)) (pmx (pax_cons (px_ix (px_v 1) (px_v 3)) (pax_cons (px_v 2) pax_nil)))) pax_nil)))))))) (pb_one (pb_ret (px_v 3))) pb_nil))) (pb_one (pb_ret px_non)))⟩)
abbrev ssearched : Stmt := topS 48
abbrev nsearched : List Str := ["rules", "parts", "starts", "reached", "order", "at", "other", "position", "thing"]
theorem scsearched : FnScope nsearched ["rules", "parts", "starts"] (defScope ssearched) := ⟨rfl, rfl, rfl, by decide +kernel, rfl, by decide +kernel, by decide +kernel⟩
theorem d_searched (hD : De K mg "searched" ssearched ["rules", "parts", "starts"]) (z_list : mg "list" = none) (d_part_that_takes : Df P w K mg base "part_that_takes" 4 [.fr, .fr, .fr] g_part_that_takes) (d_steps_from : Df P w K mg base "steps_from" 4 [.fr, .fr, .fr] g_steps_from) (z_len : mg "len" = none) : Df P w K mg base "searched" 5 [.fr, .fr, .fr] g_searched := by
  obtain ⟨f, fd, Fu, hmg, hb⟩ := hD.ex
  exact df_mk (rest := [.fr, .fr, .fr, .fr, .fr, .fr]) (M' := [.fr, .fr, .fr, .fr, .fr, .fr, .fr, .fr, .fr]) Fu scsearched hmg hb rfl rfl (gb := m_searched) (fun cdv A outer s H E hr => ⟨_, (pb_cons (pb_dcO 3 rfl scsearched.nd (own := [("thing", 8)]) (pix_list (px_v 2)) (blkOk_by (N := nsearched) (sc := defScope ssearched) (own := [("thing", 8)]) (by decide +kernel)) (fun _ _ _ _ _ => (pgx_name 8 scsearched.nd)) (fun _ _ _ _ _ => ptsx_nil) (fun _ _ _ _ _ => (px_v 8)) (fun _ _ _ _ _ => px_non)) (pb_cons (pb_setO 4 (pf_list z_list (pax_cons (px_v 2) pax_nil)) scsearched.nd) (pb_cons (pb_set 5 px_int scsearched.nd) (pb_cons (pb_while fuel PassesOwn.never (pt_lt (px_v 5) (px_bw 4 (px_len z_len (pax_cons (px_v 4) pax_nil)))) (pb_cons (pb_if (pt_notN (px_call d_part_that_takes (hr.mono (by decide)) (pmx (pax_cons (px_v 0) (pax_cons (px_v 1) (pax_cons (pl_ix (pl_v 4) (px_v 5)) pax_nil))))) px_non) (pbs_frz 3 (pb_one (pb_ret (px_tup (pax_cons (px_v 3) (pax_cons (pl_ix (pl_v 4) (px_v 5)) pax_nil)))))) pb_nil) (pb_cons (pb_for PassesOwn.never rfl (pix_list (px_call d_steps_from (hr.mono (by decide)) (pmx (pax_cons (px_v 0) (pax_cons (px_v 1) (pax_cons (pl_ix (pl_v 4) (px_v 5)) pax_nil)))))) (pgx_tup rfl (fun _ _ _ h => two_len h) (pgsx_cons (pgx_name 6 scsearched.nd) (pgsx_cons (pgx_name 7 scsearched.nd) pgsx_nil))) (pb_one (pb_if (pt_dnotin (hu_of hr) (px_v 6) (pd_v 3)) (pb_cons (pb_put 3 (hu_of hr) (px_tup (pax_cons (pl_ix (pl_v 4) (px_v 5)) (pax_cons (px_v 7) pax_nil))) (px_v 6)) (pb_one (pb_app 4 (px_v 6)))) pb_nil))) (pb_one (pb_set 5 (px_add (px_v 5) px_int) scsearched.nd))))) (pbs_frz 3 (pb_one (pb_ret (px_tup (pax_cons (px_v 3) (pax_cons px_non pax_nil))))))))))⟩)
abbrev soutside_of : Stmt := topS 47
abbrev noutside_of : List Str := ["count", "parts", "held", "part", "thing"]
theorem scoutside_of : FnScope noutside_of ["count", "parts"] (defScope soutside_of) := ⟨rfl, rfl, rfl, by decide +kernel, rfl, by decide +kernel, by decide +kernel⟩
theorem d_outside_of (hD : De K mg "outside_of" soutside_of ["count", "parts"]) (z_range : mg "range" = none) : Df P w K mg base "outside_of" 1 [.fr, .fr] g_outside_of := by
  obtain ⟨f, fd, Fu, hmg, hb⟩ := hD.ex
  exact df_mk (rest := [.fr, .fr, .fr]) (M' := [.fr, .fr, .fr, .fr, .fr]) Fu scoutside_of hmg hb rfl rfl (gb := m_outside_of) (fun cdv A outer s H E hr => ⟨_, (pb_cons (pb_set 2 (PFx.x (pf_lc2 rfl scoutside_of.nd [4] (own := [("part", 3), ("thing", 4)]) (pix_list (px_v 1)) (blkOk_by (N := noutside_of) (sc := defScope soutside_of) (own := [("part", 3), ("thing", 4)]) (by decide +kernel)) (fun _ _ _ _ _ => (pgx_name 3 scoutside_of.nd)) (fun _ _ _ _ _ => ptsx_nil) (fun _ _ _ _ _ => (pix_list' K (px_v 3))) (fun _ _ _ _ _ => (pgx_name 4 scoutside_of.nd)) (fun _ _ _ _ _ => ptsx_nil) (fun _ _ _ _ _ => (px_v 4)))) scoutside_of.nd) (pb_one (pb_ret (PFx.x (pf_lc rfl scoutside_of.nd (own := [("thing", 4)]) (pix_r1 (px_v 0) z_range) (blkOk_by (N := noutside_of) (sc := defScope soutside_of) (own := [("thing", 4)]) (by decide +kernel)) (fun _ _ _ _ _ => (pgx_name 4 scoutside_of.nd)) (fun _ _ _ _ _ => (ptsx_one (pt_notin' K (u65 hr) (px_v 4) (px_v 2)))) (fun _ _ _ _ _ => (px_v 4)))))))⟩)
abbrev schanged_along : Stmt := topS 49
abbrev nchanged_along : List Str := ["rules", "parts", "reached", "last", "made", "at", "thing", "before", "position", "part"]
theorem scchanged_along : FnScope nchanged_along ["rules", "parts", "reached", "last"] (defScope schanged_along) := ⟨rfl, rfl, rfl, by decide +kernel, rfl, by decide +kernel, by decide +kernel⟩
theorem d_changed_along (hD : De K mg "changed_along" schanged_along ["rules", "parts", "reached", "last"]) (z_list : mg "list" = none) (d_part_that_takes : Df P w K mg base "part_that_takes" 4 [.fr, .fr, .fr] g_part_that_takes) (d_with_thing : Df P w K mg base "with_thing" 1 [.fr, .fr] g_with_thing) (d_exchanged : Df P w K mg base "exchanged" 2 [.fr, .fr, .fr] g_exchanged) : Df P w K mg base "changed_along" 5 [.fr, .fr, .fr, .fr] g_changed_along := by
  obtain ⟨f, fd, Fu, hmg, hb⟩ := hD.ex
  exact df_mk (rest := [.fr, .fr, .fr, .fr, .fr, .fr]) (M' := [.fr, .fr, .fr, .fr, .fr, .fr, .fr, .fr, .fr, .fr]) Fu scchanged_along hmg hb rfl rfl (gb := m_changed_along) (fun cdv A outer s H E hr => ⟨_, (pb_cons (pb_lcO 4 rfl scchanged_along.nd (own := [("part", 9)]) (pix_list (px_v 1)) (blkOk_by (N := nchanged_along) (sc := defScope schanged_along) (own := [("part", 9)]) (by decide +kernel)) (fun _ _ _ _ _ => (pgx_name 9 scchanged_along.nd)) (fun _ _ _ _ _ => ptsx_nil) (fun _ _ _ _ _ => (PFx.x (pf_list' K z_list (pax_cons (px_v 9) pax_nil))))) (pb_cons (pb_set 5 (px_call d_part_that_takes (hr.mono (by decide)) (pmx (pax_cons (px_v 0) (pax_cons (px_v 1) (pax_cons (px_v 3) pax_nil))))) scchanged_along.nd) (pb_cons (pb_setIx 4 (px_call d_with_thing (hr.mono (by decide)) (pmx (pax_cons (pl_ix (pl_v 4) (px_v 5)) (pax_cons (px_v 3) pax_nil)))) (px_v 5)) (pb_cons (pb_set 6 (px_v 3) scchanged_along.nd) (pb_cons (pb_while fuel PassesOwn.never (pt_notN (pd_ix (hu_of hr) (PX.d (px_v 2)) (px_v 6)) px_non) (pb_cons (pb_asg (pd_ix (hu_of hr) (PX.d (px_v 2)) (px_v 6)) (pgx_tup rfl (fun _ _ _ h => two_len h) (pgsx_cons (pgx_name 7 scchanged_along.nd) (pgsx_cons (pgx_name 8 scchanged_along.nd) pgsx_nil)))) (pb_cons (pb_setIx 4 (px_call d_exchanged (hr.mono (by decide)) (pmx (pax_cons (pl_ix (pl_v 4) (px_v 8)) (pax_cons (px_v 7) (pax_cons (px_v 6) pax_nil))))) (px_v 8)) (pb_one (pb_set 6 (px_v 7) scchanged_along.nd))))) (pbs_frz 4 (pb_one (pb_ret (px_v 4)))))))))⟩)
abbrev sgreatest_parts : Stmt := topS 50
abbrev ngreatest_parts : List Str := ["rules", "count", "parts", "reached", "last", "_"]
theorem scgreatest_parts : FnScope ngreatest_parts ["rules"] (defScope sgreatest_parts) := ⟨rfl, rfl, rfl, by decide +kernel, rfl, by decide +kernel, by decide +kernel⟩
theorem d_greatest_parts (hD : De K mg "greatest_parts" sgreatest_parts ["rules"]) (d_count_of : Df P w K mg base "count_of" 1 [.fr] g_count_of) (d_searched : Df P w K mg base "searched" 5 [.fr, .fr, .fr] g_searched) (d_outside_of : Df P w K mg base "outside_of" 1 [.fr, .fr] g_outside_of) (d_changed_along : Df P w K mg base "changed_along" 5 [.fr, .fr, .fr, .fr] g_changed_along) (z_sorted : mg "sorted" = none) : Df P w K mg base "greatest_parts" 6 [.fr] g_greatest_parts := by
  obtain ⟨f, fd, Fu, hmg, hb⟩ := hD.ex
  exact df_mk (rest := [.fr, .fr, .fr, .fr, .fr]) (M' := [.fr, .fr, .fr, .fr, .fr, .fr]) Fu scgreatest_parts hmg hb rfl rfl (gb := m_greatest_parts) (fun cdv A outer s H E hr => ⟨_, (pb_cons (pb_set 1 (px_call d_count_of (hr.mono (by decide)) (pmx (pax_cons (px_ix (px_v 0) px_int) pax_nil))) scgreatest_parts.nd) (pb_cons (pb_lc 2 rfl scgreatest_parts.nd (own := [("_", 5)]) (pix_list (px_v 0)) (blkOk_by (N := ngreatest_parts) (sc := defScope sgreatest_parts) (own := [("_", 5)]) (by decide +kernel)) (fun _ _ _ _ _ => (pgx_name 5 scgreatest_parts.nd)) (fun _ _ _ _ _ => ptsx_nil) (fun _ _ _ _ _ => (PFx.x (pf_lst pax_nil)))) (pb_cons (pb_asg (px_call d_searched (hr.mono (by decide)) (pmx (pax_cons (px_v 0) (pax_cons (px_v 2) (pax_cons (px_call d_outside_of (hr.mono (by decide)) (pmx (pax_cons (px_v 1) (pax_cons (px_v 2) pax_nil)))) pax_nil))))) (pgx_tup rfl (fun _ _ _ h => two_len h) (pgsx_cons (pgx_name 3 scgreatest_parts.nd) (pgsx_cons (pgx_name 4 scgreatest_parts.nd) pgsx_nil)))) (pb_cons (pb_while fuel PassesOwn.never (pt_notN (px_v 4) px_non) (pb_cons (pb_set 2 (px_call d_changed_along (hr.mono (by decide)) (pmx (pax_cons (px_v 0) (pax_cons (px_v 2) (pax_cons (px_v 3) (pax_cons (px_v 4) pax_nil)))))) scgreatest_parts.nd) (pb_one (pb_asg (px_call d_searched (hr.mono (by decide)) (pmx (pax_cons (px_v 0) (pax_cons (px_v 2) (pax_cons (px_call d_outside_of (hr.mono (by decide)) (pmx (pax_cons (px_v 1) (pax_cons (px_v 2) pax_nil)))) pax_nil))))) (pgx_tup rfl (fun _ _ _ h => two_len h) (pgsx_cons (pgx_name 3 scgreatest_parts.nd) (pgsx_cons (pgx_name 4 scgreatest_parts.nd) pgsx_nil))))))) (pb_one (pb_ret (px_tup (pax_cons (px_v 2) (pax_cons (PFx.x (pf_sortK rfl z_sorted (pax_cons (px_v 3) pax_nil))) pax_nil)))))))))⟩)
abbrev snet_rules : Stmt := topS 58
abbrev nnet_rules : List Str := ["size", "ties", "k", "_"]
theorem scnet_rules : FnScope nnet_rules ["size", "ties", "k"] (defScope snet_rules) := ⟨rfl, rfl, rfl, by decide +kernel, rfl, by decide +kernel, by decide +kernel⟩
theorem d_net_rules (hD : De K mg "net_rules" snet_rules ["size", "ties", "k"]) (z_range : mg "range" = none) (z_list : mg "list" = none) : Df P w K mg base "net_rules" 1 [.fr, .fr, .fr] g_net_rules := by
  obtain ⟨f, fd, Fu, hmg, hb⟩ := hD.ex
  exact df_mk (rest := [.fr]) (M' := [.fr, .fr, .fr, .fr]) Fu scnet_rules hmg hb rfl rfl (gb := m_net_rules) (fun cdv A outer s H E hr => ⟨_, (pb_one (pb_ret (PFx.x (pf_lc rfl scnet_rules.nd (own := [("_", 3)]) (pix_r1 (px_v 2) z_range) (blkOk_by (N := nnet_rules) (sc := defScope snet_rules) (own := [("_", 3)]) (by decide +kernel)) (fun _ _ _ _ _ => (pgx_name 3 scnet_rules.nd)) (fun _ _ _ _ _ => ptsx_nil) (fun _ _ _ _ _ => (px_tup (pax_cons px_str (pax_cons (px_v 0) (pax_cons (PFx.x (pf_list' K z_list (pax_cons (px_v 1) pax_nil))) pax_nil)))))))))⟩)
abbrev snumber_held : Stmt := topS 51
abbrev nnumber_held : List Str := ["parts", "part"]
theorem scnumber_held : FnScope nnumber_held ["parts"] (defScope snumber_held) := ⟨rfl, rfl, rfl, by decide +kernel, rfl, by decide +kernel, by decide +kernel⟩
theorem d_number_held (hD : De K mg "number_held" snumber_held ["parts"]) (z_len : mg "len" = none) (z_sum : mg "sum" = none) : Df P w K mg base "number_held" 1 [.fr] g_number_held := by
  obtain ⟨f, fd, Fu, hmg, hb⟩ := hD.ex
  exact df_mk (rest := [.fr]) (M' := [.fr, .fr]) Fu scnumber_held hmg hb rfl rfl (gb := m_number_held) (fun cdv A outer s H E hr => ⟨_, (pb_one (pb_ret (px_sum rfl z_sum (pax_cons (PFx.x (pf_lc rfl scnumber_held.nd (own := [("part", 1)]) (pix_list (px_v 0)) (blkOk_by (N := nnumber_held) (sc := defScope snumber_held) (own := [("part", 1)]) (by decide +kernel)) (fun _ _ _ _ _ => (pgx_name 1 scnumber_held.nd)) (fun _ _ _ _ _ => ptsx_nil) (fun _ _ _ _ _ => (px_len' K z_len (pax_cons (px_v 1) pax_nil))))) pax_nil))))⟩)
abbrev schosen_ties : Stmt := topS 56
abbrev nchosen_ties : List Str := ["ties", "positions", "position"]
theorem scchosen_ties : FnScope nchosen_ties ["ties", "positions"] (defScope schosen_ties) := ⟨rfl, rfl, rfl, by decide +kernel, rfl, by decide +kernel, by decide +kernel⟩
theorem d_chosen_ties (hD : De K mg "chosen_ties" schosen_ties ["ties", "positions"]) : Df P w K mg base "chosen_ties" 1 [.fr, .fr] g_chosen_ties := by
  obtain ⟨f, fd, Fu, hmg, hb⟩ := hD.ex
  exact df_mk (rest := [.fr]) (M' := [.fr, .fr, .fr]) Fu scchosen_ties hmg hb rfl rfl (gb := m_chosen_ties) (fun cdv A outer s H E hr => ⟨_, (pb_one (pb_ret (PFx.x (pf_lc rfl scchosen_ties.nd (own := [("position", 2)]) (pix_list (px_v 1)) (blkOk_by (N := nchosen_ties) (sc := defScope schosen_ties) (own := [("position", 2)]) (by decide +kernel)) (fun _ _ _ _ _ => (pgx_name 2 scchosen_ties.nd)) (fun _ _ _ _ _ => ptsx_nil) (fun _ _ _ _ _ => (px_ix' K (px_v 0) (px_v 2)))))))⟩)
abbrev srenamed : Stmt := topS 53
abbrev nrenamed : List Str := ["names", "first", "second", "low", "high", "found", "name"]
theorem screnamed : FnScope nrenamed ["names", "first", "second"] (defScope srenamed) := ⟨rfl, rfl, rfl, by decide +kernel, rfl, by decide +kernel, by decide +kernel⟩
theorem d_renamed (hD : De K mg "renamed" srenamed ["names", "first", "second"]) (z_min : mg "min" = none) (z_max : mg "max" = none) : Df P w K mg base "renamed" 1 [.fr, .fr, .fr] g_renamed := by
  obtain ⟨f, fd, Fu, hmg, hb⟩ := hD.ex
  exact df_mk (rest := [.fr, .fr, .fr, .fr]) (M' := [.fr, .fr, .fr, .fr, .fr, .fr, .fr]) Fu screnamed hmg hb rfl rfl (gb := m_renamed) (fun cdv A outer s H E hr => ⟨_, (pb_cons (pb_par 3 4 rfl screnamed.nd (px_min2 rfl z_min (pax_cons (px_v 1) (pax_cons (px_v 2) pax_nil))) (px_max2 rfl z_max (pax_cons (px_v 1) (pax_cons (px_v 2) pax_nil)))) (pb_cons (pb_setO 5 (pf_lst pax_nil) screnamed.nd) (pb_cons (pb_for PassesOwn.never rfl (pix_list (px_v 0)) (pgx_name 6 screnamed.nd) (pb_one (pb_if (pt_eq hr.units (px_v 6) (px_v 4)) (pb_one (pb_app 5 (px_v 3))) (pb_one (pb_app 5 (px_v 6)))))) (pbs_frz 5 (pb_one (pb_ret (px_v 5)))))))⟩)
abbrev sjoined_lists : Stmt := topS 54
abbrev njoined_lists : List Str := ["size", "ties", "names", "first", "second", "lists", "place", "name"]
theorem scjoined_lists : FnScope njoined_lists ["size", "ties"] (defScope sjoined_lists) := ⟨rfl, rfl, rfl, by decide +kernel, rfl, by decide +kernel, by decide +kernel⟩
theorem d_joined_lists (hD : De K mg "joined_lists" sjoined_lists ["size", "ties"]) (z_list : mg "list" = none) (z_range : mg "range" = none) (d_renamed : Df P w K mg base "renamed" 1 [.fr, .fr, .fr] g_renamed) (z_sorted : mg "sorted" = none) : Df P w K mg base "joined_lists" 2 [.fr, .fr] g_joined_lists := by
  obtain ⟨f, fd, Fu, hmg, hb⟩ := hD.ex
  exact df_mk (rest := [.fr, .fr, .fr, .fr, .fr, .fr]) (M' := [.fr, .fr, .fr, .fr, .fr, .fr, .fr, .fr]) Fu scjoined_lists hmg hb rfl rfl (gb := m_joined_lists) (fun cdv A outer s H E hr => ⟨_, (pb_cons (pb_set 2 (PFx.x (pf_lrng1 rfl z_list z_range (px_v 0))) scjoined_lists.nd) (pb_cons (pb_for PassesOwn.never rfl (pix_list (px_v 1)) (pgx_tup rfl (fun _ _ _ h => two_len h) (pgsx_cons (pgx_name 3 scjoined_lists.nd) (pgsx_cons (pgx_name 4 scjoined_lists.nd) pgsx_nil))) (pb_one (pb_set 2 (px_call d_renamed (hr.mono (by decide)) (pmx (pax_cons (px_v 2) (pax_cons (px_ix (px_v 2) (px_v 3)) (pax_cons (px_ix (px_v 2) (px_v 4)) pax_nil))))) scjoined_lists.nd))) (pb_cons (pb_setD 5 ph_new scjoined_lists.nd) (pb_cons (pb_for PassesOwn.never rfl (pix_r1 (px_v 0) z_range) (pgx_name 6 scjoined_lists.nd) (pb_one (pb_put 5 (hu_of hr) (PFx.x (pf_add (PX.l (pd_get (hu_of hr) (pd_v 5) (px_ix (px_v 2) (px_v 6)) (PFx.x (pf_lst pax_nil)))) (PFx.l (pf_lst (pax_cons (px_v 6) pax_nil))))) (px_ix (px_v 2) (px_v 6))))) (pb_one (pb_ret (PFx.x (pf_sortD hr.units z_sorted (pax_cons (PFx.x (pf_dvals 5 7 rfl scjoined_lists.nd (hu_of hr) (blkOk_by (N := njoined_lists) (sc := defScope sjoined_lists) (own := [("name", 7)]) (by decide +kernel)) (hg := fun _ _ _ _ _ => pg_name scjoined_lists.nd rfl (.inl rfl) (.inr rfl)) (hbv := fun _ _ _ _ _ => ⟨.inr (.inl rfl), .inl rfl⟩))) pax_nil)))))))))⟩)
abbrev sties_within : Stmt := topS 55
abbrev nties_within : List Str := ["ties", "places", "position"]
theorem scties_within : FnScope nties_within ["ties", "places"] (defScope sties_within) := ⟨rfl, rfl, rfl, by decide +kernel, rfl, by decide +kernel, by decide +kernel⟩
theorem d_ties_within (hD : De K mg "ties_within" sties_within ["ties", "places"]) (z_len : mg "len" = none) (z_range : mg "range" = none) : Df P w K mg base "ties_within" 1 [.fr, .fr] g_ties_within := by
  obtain ⟨f, fd, Fu, hmg, hb⟩ := hD.ex
  exact df_mk (rest := [.fr]) (M' := [.fr, .fr, .fr]) Fu scties_within hmg hb rfl rfl (gb := m_ties_within) (fun cdv A outer s H E hr => ⟨_, (pb_one (pb_ret (PFx.x (pf_lc rfl scties_within.nd (own := [("position", 2)]) (pix_r1 (px_len z_len (pax_cons (px_v 0) pax_nil)) z_range) (blkOk_by (N := nties_within) (sc := defScope sties_within) (own := [("position", 2)]) (by decide +kernel)) (fun _ _ _ _ _ => (pgx_name 2 scties_within.nd)) (fun _ _ _ _ _ => (ptsx_one (pw_ (pwx_and (pt_in' K (u65 hr) (px_ix' K (px_ix' K (px_v 0) (px_v 2)) px_int) (px_v 1)) (pwx_and1 (pt_in' K (u65 hr) (px_ix' K (px_ix' K (px_v 0) (px_v 2)) px_int) (px_v 1))))))) (fun _ _ _ _ _ => (px_v 2))))))⟩)
abbrev scrowded_places : Stmt := topS 59
abbrev ncrowded_places : List Str := ["size", "ties", "k", "lot", "chosen", "places"]
theorem sccrowded_places : FnScope ncrowded_places ["size", "ties", "k", "lot"] (defScope scrowded_places) := ⟨rfl, rfl, rfl, by decide +kernel, rfl, by decide +kernel, by decide +kernel⟩
theorem d_crowded_places (hD : De K mg "crowded_places" scrowded_places ["size", "ties", "k", "lot"]) (d_chosen_ties : Df P w K mg base "chosen_ties" 1 [.fr, .fr] g_chosen_ties) (d_joined_lists : Df P w K mg base "joined_lists" 2 [.fr, .fr] g_joined_lists) (d_ties_within : Df P w K mg base "ties_within" 1 [.fr, .fr] g_ties_within) (z_len : mg "len" = none) : Df P w K mg base "crowded_places" 3 [.fr, .fr, .fr, .fr] g_crowded_places := by
  obtain ⟨f, fd, Fu, hmg, hb⟩ := hD.ex
  exact df_mk (rest := [.fr, .fr]) (M' := [.fr, .fr, .fr, .fr, .fr, .fr]) Fu sccrowded_places hmg hb rfl rfl (gb := m_crowded_places) (fun cdv A outer s H E hr => ⟨_, (pb_cons (pb_set 4 (px_call d_chosen_ties (hr.mono (by decide)) (pmx (pax_cons (px_v 1) (pax_cons (px_v 3) pax_nil)))) sccrowded_places.nd) (pb_cons (pb_for PassesOwn.never rfl (pix_list (px_call d_joined_lists (hr.mono (by decide)) (pmx (pax_cons (px_v 0) (pax_cons (px_v 4) pax_nil))))) (pgx_name 5 sccrowded_places.nd) (pb_one (pb_if (pt_gt (px_len z_len (pax_cons (px_call d_ties_within (hr.mono (by decide)) (pmx (pax_cons (px_v 4) (pax_cons (px_v 5) pax_nil)))) pax_nil)) (px_mul (px_v 2) (px_sub (px_len z_len (pax_cons (px_v 5) pax_nil)) px_int))) (pb_one (pb_ret (px_v 5))) pb_nil))) (pb_one (pb_ret px_non))))⟩)
abbrev swoods : Stmt := topS 60
abbrev nwoods : List Str := ["size", "ties", "k", "parts", "lot"]
theorem scwoods : FnScope nwoods ["size", "ties", "k"] (defScope swoods) := ⟨rfl, rfl, rfl, by decide +kernel, rfl, by decide +kernel, by decide +kernel⟩
theorem d_woods (hD : De K mg "woods" swoods ["size", "ties", "k"]) (d_greatest_parts : Df P w K mg base "greatest_parts" 6 [.fr] g_greatest_parts) (d_net_rules : Df P w K mg base "net_rules" 1 [.fr, .fr, .fr] g_net_rules) (d_number_held : Df P w K mg base "number_held" 1 [.fr] g_number_held) (z_len : mg "len" = none) (d_crowded_places : Df P w K mg base "crowded_places" 3 [.fr, .fr, .fr, .fr] g_crowded_places) : Df P w K mg base "woods" 7 [.fr, .fr, .fr] g_woods := by
  obtain ⟨f, fd, Fu, hmg, hb⟩ := hD.ex
  exact df_mk (rest := [.fr, .fr]) (M' := [.fr, .fr, .fr, .fr, .fr]) Fu scwoods hmg hb rfl rfl (gb := m_woods) (fun cdv A outer s H E hr => ⟨_, (pb_cons (pb_asg (px_call d_greatest_parts (hr.mono (by decide)) (pmx (pax_cons (px_call d_net_rules (hr.mono (by decide)) (pmx (pax_cons (px_v 0) (pax_cons (px_v 1) (pax_cons (px_v 2) pax_nil))))) pax_nil))) (pgx_tup rfl (fun _ _ _ h => two_len h) (pgsx_cons (pgx_name 3 scwoods.nd) (pgsx_cons (pgx_name 4 scwoods.nd) pgsx_nil)))) (pb_cons (pb_if (pt_eq hr.units (px_call d_number_held (hr.mono (by decide)) (pmx (pax_cons (px_v 3) pax_nil))) (px_len z_len (pax_cons (px_v 1) pax_nil))) (pb_one (pb_ret (px_tup (pax_cons px_str (pax_cons (px_v 3) pax_nil))))) pb_nil) (pb_one (pb_ret (px_tup (pax_cons px_str (pax_cons (px_call d_crowded_places (hr.mono (by decide)) (pmx (pax_cons (px_v 0) (pax_cons (px_v 1) (pax_cons (px_v 2) (pax_cons (px_v 4) pax_nil)))))) pax_nil)))))))⟩)
abbrev slaw_is_number : Stmt := topS 64
abbrev nlaw_is_number : List Str := ["value"]
theorem sclaw_is_number : FnScope nlaw_is_number ["value"] (defScope slaw_is_number) := ⟨rfl, rfl, rfl, by decide +kernel, rfl, by decide +kernel, by decide +kernel⟩
theorem d_law_is_number (hD : De K mg "_law_is_number" slaw_is_number ["value"]) (z_isinstance : mg "isinstance" = none) (z_int : mg "int" = none) (z_bool : mg "bool" = none) : Df P w K mg base "_law_is_number" 1 [.fr] g_law_is_number := by
  obtain ⟨f, fd, Fu, hmg, hb⟩ := hD.ex
  exact df_mk (rest := []) (M' := [.fr]) Fu sclaw_is_number hmg hb rfl rfl (gb := m_law_is_number) (fun cdv A outer s H E hr => ⟨_, (pb_one (pb_ret (px_and (px_isa (.inl rfl) z_isinstance z_int (by decide +kernel) (px_v 0)) (px_one (px_not (px_isa (.inr (.inl rfl)) z_isinstance z_bool (by decide +kernel) (px_v 0)))))))⟩)
abbrev slaw_is_numbers : Stmt := topS 65
abbrev nlaw_is_numbers : List Str := ["value", "item"]
theorem sclaw_is_numbers : FnScope nlaw_is_numbers ["value"] (defScope slaw_is_numbers) := ⟨rfl, rfl, rfl, by decide +kernel, rfl, by decide +kernel, by decide +kernel⟩
theorem d_law_is_numbers (hD : De K mg "_law_is_numbers" slaw_is_numbers ["value"]) (z_isinstance : mg "isinstance" = none) (z_list : mg "list" = none) (d_law_is_number : Df P w K mg base "_law_is_number" 1 [.fr] g_law_is_number) : Df P w K mg base "_law_is_numbers" 2 [.fr] g_law_is_numbers := by
  obtain ⟨f, fd, Fu, hmg, hb⟩ := hD.ex
  exact df_mk (rest := [.fr]) (M' := [.fr, .fr]) Fu sclaw_is_numbers hmg hb rfl rfl (gb := m_law_is_numbers) (fun cdv A outer s H E hr => ⟨_, (pb_cons (pb_if (ptx_not (pt_x (px_isa (.inr (.inr (.inl rfl))) z_isinstance z_list (by decide +kernel) (px_v 0)))) (pb_one (pb_ret px_bl)) pb_nil) (pb_cons (pb_for PassesOwn.never rfl (pix_list (px_v 0)) (pgx_name 1 sclaw_is_numbers.nd) (pb_one (pb_if (ptx_not (pt_x (px_call d_law_is_number (hr.mono (by decide)) (pmx (pax_cons (px_v 1) pax_nil))))) (pb_one (pb_ret px_bl)) pb_nil))) (pb_one (pb_ret px_bl))))⟩)
abbrev slaw_is_set : Stmt := topS 69
abbrev nlaw_is_set : List Str := ["value", "n", "thing"]
theorem sclaw_is_set : FnScope nlaw_is_set ["value", "n"] (defScope slaw_is_set) := ⟨rfl, rfl, rfl, by decide +kernel, rfl, by decide +kernel, by decide +kernel⟩
theorem d_law_is_set (hD : De K mg "_law_is_set" slaw_is_set ["value", "n"]) (d_law_is_numbers : Df P w K mg base "_law_is_numbers" 2 [.fr] g_law_is_numbers) (z_sorted : mg "sorted" = none) (z_set : mg "set" = none) : Df P w K mg base "_law_is_set" 3 [.fr, .fr] g_law_is_set := by
  obtain ⟨f, fd, Fu, hmg, hb⟩ := hD.ex
  exact df_mk (rest := [.fr]) (M' := [.fr, .fr, .fr]) Fu sclaw_is_set hmg hb rfl rfl (gb := m_law_is_set) (fun cdv A outer s H E hr => ⟨_, (pb_one (pb_ret (px_and (px_call d_law_is_numbers (hr.mono (by decide)) (pmx (pax_cons (px_v 0) pax_nil))) (px_and (px_eq hr.units (px_v 0) (PFx.x (pf_sortSet rfl z_sorted z_set (pax_cons (px_v 0) pax_nil)))) (px_one (px_eq hr.units (PFx.x (pf_lc rfl sclaw_is_set.nd (own := [("thing", 2)]) (pix_list (px_v 0)) (blkOk_by (N := nlaw_is_set) (sc := defScope slaw_is_set) (own := [("thing", 2)]) (by decide +kernel)) (fun _ _ _ _ _ => (pgx_name 2 sclaw_is_set.nd)) (fun _ _ _ _ _ => (ptsx_one (pw_ (pwx_or (pt_lt (px_v 2) px_int) (pwx_or1 (pt_ge (px_v 2) (px_v 1))))))) (fun _ _ _ _ _ => (px_v 2)))) (PFx.x (pf_lst pax_nil))))))))⟩)
abbrev slaw_net_free : Stmt := topS 67
abbrev nlaw_net_free : List Str := ["size", "ties", "things", "names", "thing", "low", "high", "name"]
theorem sclaw_net_free : FnScope nlaw_net_free ["size", "ties", "things"] (defScope slaw_net_free) := ⟨rfl, rfl, rfl, by decide +kernel, rfl, by decide +kernel, by decide +kernel⟩
theorem d_law_net_free (hD : De K mg "_law_net_free" slaw_net_free ["size", "ties", "things"]) (z_list : mg "list" = none) (z_range : mg "range" = none) (z_sorted : mg "sorted" = none) (z_int : mg "int" = none) : Df P w K mg base "_law_net_free" 1 [.fr, .fr, .fr] g_law_net_free := by
  obtain ⟨f, fd, Fu, hmg, hb⟩ := hD.ex
  exact df_mk (rest := [.fr, .fr, .fr, .fr, .fr]) (M' := [.fr, .fr, .fr, .fr, .fr, .fr, .fr, .fr]) Fu sclaw_net_free hmg hb rfl rfl (gb := m_law_net_free) (fun cdv A outer s H E hr => ⟨_, (pb_cons (pb_set 3 (PFx.x (pf_lrng1 rfl z_list z_range (px_v 0))) sclaw_net_free.nd) (pb_cons (pb_for PassesOwn.never rfl (pix_list (px_v 2)) (pgx_name 4 sclaw_net_free.nd) (pb_cons (pb_asg (PFx.x (pf_sortI z_sorted (pax_cons (PFx.x (pf_lst (pax_cons (px_ix (px_v 3) (px_ix (px_ix (px_v 1) (px_v 4)) px_int)) (pax_cons (px_ix (px_v 3) (px_ix (px_ix (px_v 1) (px_v 4)) px_int)) pax_nil)))) pax_nil))) (pgx_unl rfl (fun _ _ _ h => two_len h) (pgsx_cons (pgx_name 5 sclaw_net_free.nd) (pgsx_cons (pgx_name 6 sclaw_net_free.nd) pgsx_nil)))) (pb_cons (pb_if (pt_eq hr.units (px_v 5) (px_v 6)) (pb_one (pb_ret px_bl)) pb_nil) (pb_one (pb_lc 3 rfl sclaw_net_free.nd (own := [("name", 7)]) (pix_list (px_v 3)) (blkOk_by (N := nlaw_net_free) (sc := defScope slaw_net_free) (own := [("name", 7)]) (by decide +kernel)) (fun _ _ _ _ _ => (pgx_name 7 sclaw_net_free.nd)) (fun _ _ _ _ _ => ptsx_nil) (fun _ _ _ _ _ => (px_ix' K (PFx.x (pf_lst (pax_cons (px_v 7) (pax_cons (px_v 5) pax_nil)))) (px_toInt z_int (pax_cons (px_eq' K hr.units (px_v 7) (px_v 6)) pax_nil))))))))) (pb_one (pb_ret px_bl))))⟩)
abbrev slaw_are_woods : Stmt := topS 70
abbrev nlaw_are_woods : List Str := ["size", "ties", "k", "lists", "held", "line"]
theorem sclaw_are_woods : FnScope nlaw_are_woods ["size", "ties", "k", "lists"] (defScope slaw_are_woods) := ⟨rfl, rfl, rfl, by decide +kernel, rfl, by decide +kernel, by decide +kernel⟩
theorem d_law_are_woods (hD : De K mg "_law_are_woods" slaw_are_woods ["size", "ties", "k", "lists"]) (z_isinstance : mg "isinstance" = none) (z_list : mg "list" = none) (z_len : mg "len" = none) (d_law_is_set : Df P w K mg base "_law_is_set" 3 [.fr, .fr] g_law_is_set) (d_law_net_free : Df P w K mg base "_law_net_free" 1 [.fr, .fr, .fr] g_law_net_free) (z_set : mg "set" = none) : Df P w K mg base "_law_are_woods" 4 [.fr, .fr, .fr, .fr] g_law_are_woods := by
  obtain ⟨f, fd, Fu, hmg, hb⟩ := hD.ex
  exact df_mk (rest := [.fr, .fr]) (M' := [.fr, .fr, .fr, .fr, .fr, .fr]) Fu sclaw_are_woods hmg hb rfl rfl (gb := m_law_are_woods) (fun cdv A outer s H E hr => ⟨_, (pb_cons (pb_if (pw_ (pwx_or (ptx_not (pt_x (px_isa (.inr (.inr (.inl rfl))) z_isinstance z_list (by decide +kernel) (px_v 3)))) (pwx_or1 (pt_ne hr.units (px_len z_len (pax_cons (px_v 3) pax_nil)) (px_v 2))))) (pb_one (pb_ret px_bl)) pb_nil) (pb_cons (pb_set 4 (PFx.x (pf_lst pax_nil)) sclaw_are_woods.nd) (pb_cons (pb_for PassesOwn.never rfl (pix_list (px_v 3)) (pgx_name 5 sclaw_are_woods.nd) (pb_cons (pb_if (pw_ (pwx_or (ptx_not (pt_x (px_call d_law_is_set (hr.mono (by decide)) (pmx (pax_cons (px_v 5) (pax_cons (px_len z_len (pax_cons (px_v 1) pax_nil)) pax_nil)))))) (pwx_or1 (ptx_not (pt_x (px_call d_law_net_free (hr.mono (by decide)) (pmx (pax_cons (px_v 0) (pax_cons (px_v 1) (pax_cons (px_v 5) pax_nil)))))))))) (pb_one (pb_ret px_bl)) pb_nil) (pb_one (pb_set 4 (px_add (px_v 4) (px_v 5)) sclaw_are_woods.nd)))) (pb_one (pb_ret (px_eq hr.units (px_lenSet rfl z_len z_set (pax_cons (px_v 4) pax_nil)) (px_len z_len (pax_cons (px_v 4) pax_nil))))))))⟩)
abbrev slaw_with : Stmt := topS 66
abbrev nlaw_with : List Str := ["line", "at", "item"]
theorem sclaw_with : FnScope nlaw_with ["line", "at", "item"] (defScope slaw_with) := ⟨rfl, rfl, rfl, by decide +kernel, rfl, by decide +kernel, by decide +kernel⟩
theorem d_law_with (hD : De K mg "_law_with" slaw_with ["line", "at", "item"]) : Df P w K mg base "_law_with" 1 [.fr, .fr, .fr] g_law_with := by
  obtain ⟨f, fd, Fu, hmg, hb⟩ := hD.ex
  exact df_mk (rest := []) (M' := [.fr, .fr, .fr]) Fu sclaw_with hmg hb rfl rfl (gb := m_law_with) (fun cdv A outer s H E hr => ⟨_, (pb_one (pb_ret (PFx.x (pf_add (PFx.l (pf_add (PFx.l (pf_sl (PX.l (px_v 0)) pox_none (pox_some (px_v 1)))) (PFx.l (pf_lst (pax_cons (px_v 2) pax_nil))))) (PFx.l (pf_sl (PX.l (px_v 0)) (pox_some (px_add (px_v 1) px_int)) pox_none))))))⟩)
abbrev slaw_dealt : Stmt := topS 75
abbrev nlaw_dealt : List Str := ["size", "ties", "k", "deals", "thing", "longer", "lists", "j", "line"]
theorem sclaw_dealt : FnScope nlaw_dealt ["size", "ties", "k"] (defScope slaw_dealt) := ⟨rfl, rfl, rfl, by decide +kernel, rfl, by decide +kernel, by decide +kernel⟩
theorem d_law_dealt (hD : De K mg "_law_dealt" slaw_dealt ["size", "ties", "k"]) (z_range : mg "range" = none) (z_len : mg "len" = none) (d_law_net_free : Df P w K mg base "_law_net_free" 1 [.fr, .fr, .fr] g_law_net_free) (d_law_with : Df P w K mg base "_law_with" 1 [.fr, .fr, .fr] g_law_with) : Df P w K mg base "_law_dealt" 2 [.fr, .fr, .fr] g_law_dealt := by
  obtain ⟨f, fd, Fu, hmg, hb⟩ := hD.ex
  exact df_mk (rest := [.fr, .fr, .fr, .fr, .fr, .fr]) (M' := [.fr, .fr, .fr, .fr, .fr, .fr, .fr, .fr, .fr]) Fu sclaw_dealt hmg hb rfl rfl (gb := m_law_dealt) (fun cdv A outer s H E hr => ⟨_, (pb_cons (pb_set 3 (PFx.x (pf_lst (pax_cons (PFx.x (pf_lc rfl sclaw_dealt.nd (own := [("j", 7)]) (pix_r1 (px_v 2) z_range) (blkOk_by (N := nlaw_dealt) (sc := defScope slaw_dealt) (own := [("j", 7)]) (by decide +kernel)) (fun _ _ _ _ _ => (pgx_name 7 sclaw_dealt.nd)) (fun _ _ _ _ _ => ptsx_nil) (fun _ _ _ _ _ => (PFx.x (pf_lst pax_nil))))) pax_nil))) sclaw_dealt.nd) (pb_cons (pb_for PassesOwn.never rfl (pix_r1 (px_len z_len (pax_cons (px_v 1) pax_nil)) z_range) (pgx_name 4 sclaw_dealt.nd) (pb_cons (pb_setO 5 (pf_lst pax_nil) sclaw_dealt.nd) (pb_cons (pb_for PassesOwn.never rfl (pix_list (px_v 3)) (pgx_name 6 sclaw_dealt.nd) (pb_one (pb_for PassesOwn.never rfl (pix_r1 (px_v 2) z_range) (pgx_name 7 sclaw_dealt.nd) (pb_cons (pb_set 8 (PFx.x (pf_add (PX.l (px_ix (px_v 6) (px_v 7))) (PFx.l (pf_lst (pax_cons (px_v 4) pax_nil))))) sclaw_dealt.nd) (pb_one (pb_if (pt_x (px_call d_law_net_free (hr.mono (by decide)) (pmx (pax_cons (px_v 0) (pax_cons (px_v 1) (pax_cons (px_v 8) pax_nil)))))) (pb_one (pb_app 5 (px_call d_law_with (hr.mono (by decide)) (pmx (pax_cons (px_v 6) (pax_cons (px_v 7) (pax_cons (px_v 8) pax_nil))))))) pb_nil)))))) (pbs_frz 5 (pb_one (pb_set 3 (px_v 5) sclaw_dealt.nd)))))) (pb_one (pb_ret (px_ne hr.units (px_v 3) (PFx.x (pf_lst pax_nil)))))))⟩)
abbrev slaw_decided : Stmt := topS 76
abbrev nlaw_decided : List Str := ["size", "ties", "need", "k", "told", "line"]
theorem sclaw_decided : FnScope nlaw_decided ["size", "ties"] (defScope slaw_decided) := ⟨rfl, rfl, rfl, by decide +kernel, rfl, by decide +kernel, by decide +kernel⟩
theorem d_law_decided (hD : De K mg "_law_decided" slaw_decided ["size", "ties"]) (d_law_need : Df P w K mg base "_law_need" 2 [.fr, .fr] g_law_need) (d_woods : Df P w K mg base "woods" 7 [.fr, .fr, .fr] g_woods) (z_list : mg "list" = none) (d_law_are_woods : Df P w K mg base "_law_are_woods" 4 [.fr, .fr, .fr, .fr] g_law_are_woods) (z_len : mg "len" = none) (z_sum : mg "sum" = none) (d_law_within : Df P w K mg base "_law_within" 1 [.fr, .fr] g_law_within) (d_law_dealt : Df P w K mg base "_law_dealt" 2 [.fr, .fr, .fr] g_law_dealt) : Df P w K mg base "_law_decided" 8 [.fr, .fr] g_law_decided := by
  obtain ⟨f, fd, Fu, hmg, hb⟩ := hD.ex
  exact df_mk (rest := [.fr, .fr, .fr, .fr]) (M' := [.fr, .fr, .fr, .fr, .fr, .fr]) Fu sclaw_decided hmg hb rfl rfl (gb := m_law_decided) (fun cdv A outer s H E hr => ⟨_, (pb_cons (pb_set 2 (px_call d_law_need (hr.mono (by decide)) (pmx (pax_cons (px_v 0) (pax_cons (px_v 1) pax_nil)))) sclaw_decided.nd) (pb_cons (pb_for PassesOwn.never rfl (pix_list (PFx.x (pf_lst (pax_cons px_int (pax_cons px_int (pax_cons px_int (pax_cons px_int pax_nil))))))) (pgx_name 3 sclaw_decided.nd) (pb_cons (pb_set 4 (px_call d_woods (hr.mono (by decide)) (pmx (pax_cons (px_v 0) (pax_cons (PFx.x (pf_list z_list (pax_cons (px_v 1) pax_nil))) (pax_cons (px_v 3) pax_nil))))) sclaw_decided.nd) (pb_cons (pb_if (pt_ne hr.units (px_eq hr.units (px_ix (px_v 4) px_int) px_str) (px_ge (px_v 3) (px_v 2))) (pb_one (pb_ret px_bl)) pb_nil) (pb_cons (pb_if (pw_ (pwx_and (pt_eq hr.units (px_ix (px_v 4) px_int) px_str) (pwx_and1 (pw_ (pwx_or (ptx_not (pt_x (px_call d_law_are_woods (hr.mono (by decide)) (pmx (pax_cons (px_v 0) (pax_cons (px_v 1) (pax_cons (px_v 3) (pax_cons (px_ix (px_v 4) px_int) pax_nil)))))))) (pwx_or1 (pt_ne hr.units (px_sum rfl z_sum (pax_cons (PFx.x (pf_lc rfl sclaw_decided.nd (own := [("line", 5)]) (pix_list (px_ix (px_v 4) px_int)) (blkOk_by (N := nlaw_decided) (sc := defScope slaw_decided) (own := [("line", 5)]) (by decide +kernel)) (fun _ _ _ _ _ => (pgx_name 5 sclaw_decided.nd)) (fun _ _ _ _ _ => ptsx_nil) (fun _ _ _ _ _ => (px_len' K z_len (pax_cons (px_v 5) pax_nil))))) pax_nil)) (px_len z_len (pax_cons (px_v 1) pax_nil))))))))) (pb_one (pb_ret px_bl)) pb_nil) (pb_one (pb_if (pw_ (pwx_and (pt_ne hr.units (px_ix (px_v 4) px_int) px_str) (pwx_and1 (pt_le (px_call d_law_within (hr.mono (by decide)) (pmx (pax_cons (px_v 1) (pax_cons (px_ix (px_v 4) px_int) pax_nil)))) (px_mul (px_v 3) (px_sub (px_len z_len (pax_cons (px_ix (px_v 4) px_int) pax_nil)) px_int)))))) (pb_one (pb_ret px_bl)) pb_nil)))))) (pb_cons (pb_if (pw_ (pwx_and (pt_le (px_len z_len (pax_cons (px_v 1) pax_nil)) px_int) (pwx_and1 (pt_ne hr.units (px_call d_law_dealt (hr.mono (by decide)) (pmx (pax_cons (px_v 0) (pax_cons (px_v 1) (pax_cons px_int pax_nil))))) (px_le (px_v 2) px_int))))) (pb_one (pb_ret px_bl)) pb_nil) (pb_one (pb_ret (px_le (px_call d_law_need (hr.mono (by decide)) (pmx (pax_cons (px_v 0) (pax_cons (PFx.x (pf_sl (PX.l (px_v 1)) (pox_some px_int) pox_none)) pax_nil)))) (px_v 2)))))))⟩)
abbrev slaw_cell : Stmt := topS 63
abbrev nlaw_cell : List Str := ["draws", "k"]
theorem sclaw_cell : FnScope nlaw_cell ["draws", "k"] (defScope slaw_cell) := ⟨rfl, rfl, rfl, by decide +kernel, rfl, by decide +kernel, by decide +kernel⟩
theorem d_law_cell (hD : De K mg "_law_cell" slaw_cell ["draws", "k"]) (z_len : mg "len" = none) : Df P w K mg base "_law_cell" 1 [.fr, .fr] g_law_cell := by
  obtain ⟨f, fd, Fu, hmg, hb⟩ := hD.ex
  exact df_mk (rest := []) (M' := [.fr, .fr]) Fu sclaw_cell hmg hb rfl rfl (gb := m_law_cell) (fun cdv A outer s H E hr => ⟨_, (pb_cons (pb_if (pt_lt (px_v 1) (px_len z_len (pax_cons (px_v 0) pax_nil))) (pb_one (pb_ret (px_ix (px_v 0) (px_v 1)))) pb_nil) (pb_one (pb_ret (px_mod (px_add (px_add (px_mul (px_ix (px_v 0) (px_mod (px_v 1) (px_len z_len (pax_cons (px_v 0) pax_nil)))) px_int) (px_mul (px_ix (px_v 0) (px_mod (px_mul px_int (px_v 1)) (px_len z_len (pax_cons (px_v 0) pax_nil)))) px_int)) (px_mul px_int (px_v 1))) px_int))))⟩)
abbrev slaw_net : Stmt := topS 72
abbrev nlaw_net : List Str := ["draws", "at", "size", "many", "found", "k", "cell", "first", "second"]
theorem sclaw_net : FnScope nlaw_net ["draws", "at", "size", "many"] (defScope slaw_net) := ⟨rfl, rfl, rfl, by decide +kernel, rfl, by decide +kernel, by decide +kernel⟩
theorem d_law_net (hD : De K mg "_law_net" slaw_net ["draws", "at", "size", "many"]) (z_range : mg "range" = none) (d_law_cell : Df P w K mg base "_law_cell" 1 [.fr, .fr] g_law_cell) (z_int : mg "int" = none) : Df P w K mg base "_law_net" 2 [.fr, .fr, .fr, .fr] g_law_net := by
  obtain ⟨f, fd, Fu, hmg, hb⟩ := hD.ex
  exact df_mk (rest := [.fr, .fr, .fr, .fr, .fr]) (M' := [.fr, .fr, .fr, .fr, .fr, .fr, .fr, .fr, .fr]) Fu sclaw_net hmg hb rfl rfl (gb := m_law_net) (fun cdv A outer s H E hr => ⟨_, (pb_cons (pb_setO 4 (pf_lst pax_nil) sclaw_net.nd) (pb_cons (pb_if (pt_lt (px_v 2) px_int) (pbs_frz 4 (pb_one (pb_ret (px_v 4)))) pb_nil) (pb_cons (pb_for PassesOwn.never rfl (pix_r1 (px_v 3) z_range) (pgx_name 5 sclaw_net.nd) (pb_cons (pb_set 6 (px_add (px_mul (px_call d_law_cell (hr.mono (by decide)) (pmx (pax_cons (px_v 0) (pax_cons (px_add (px_v 1) (px_mod (px_v 5) px_int)) pax_nil)))) (px_add px_int (px_div (px_v 5) px_int))) (px_mul px_int (px_v 5))) sclaw_net.nd) (pb_cons (pb_par 7 8 rfl sclaw_net.nd (px_mod (px_v 6) (px_v 2)) (px_mod (px_div (px_div (px_v 6) (px_v 2)) px_int) (px_sub (px_v 2) px_int))) (pb_one (pb_app 4 (px_tup (pax_cons (px_v 7) (pax_cons (px_add (px_v 8) (px_toInt z_int (pax_cons (px_ge (px_v 8) (px_v 7)) pax_nil))) pax_nil)))))))) (pbs_frz 4 (pb_one (pb_ret (px_v 4)))))))⟩)
abbrev slaw_tree_net : Stmt := topS 73
abbrev nlaw_tree_net : List Str := ["draws", "at", "size", "k", "found", "tree", "order", "place", "j"]
theorem sclaw_tree_net : FnScope nlaw_tree_net ["draws", "at", "size", "k"] (defScope slaw_tree_net) := ⟨rfl, rfl, rfl, by decide +kernel, rfl, by decide +kernel, by decide +kernel⟩
theorem d_law_tree_net (hD : De K mg "_law_tree_net" slaw_tree_net ["draws", "at", "size", "k"]) (z_range : mg "range" = none) (d_law_cell : Df P w K mg base "_law_cell" 1 [.fr, .fr] g_law_cell) : Df P w K mg base "_law_tree_net" 2 [.fr, .fr, .fr, .fr] g_law_tree_net := by
  obtain ⟨f, fd, Fu, hmg, hb⟩ := hD.ex
  exact df_mk (rest := [.fr, .fr, .fr, .fr, .fr]) (M' := [.fr, .fr, .fr, .fr, .fr, .fr, .fr, .fr, .fr]) Fu sclaw_tree_net hmg hb rfl rfl (gb := m_law_tree_net) (fun cdv A outer s H E hr => ⟨_, (pb_cons (pb_setO 4 (pf_lst pax_nil) sclaw_tree_net.nd) (pb_cons (pb_for PassesOwn.never rfl (pix_r1 (px_v 3) z_range) (pgx_name 5 sclaw_tree_net.nd) (pb_cons (pb_setO 6 (pf_lst (pax_cons px_int pax_nil)) sclaw_tree_net.nd) (pb_cons (pb_for PassesOwn.never rfl (pix_r2 px_int (px_v 2) z_range) (pgx_name 7 sclaw_tree_net.nd) (pb_one (pb_ins 6 (px_mod (px_div (px_call d_law_cell (hr.mono (by decide)) (pmx (pax_cons (px_v 0) (pax_cons (px_add (px_add (px_v 1) (px_v 7)) (px_mul px_int (px_v 5))) pax_nil)))) px_int) (px_add (px_v 7) px_int)) (px_v 7)))) (pb_cons (pb_for PassesOwn.never rfl (pix_r2 px_int (px_v 2) z_range) (pgx_name 8 sclaw_tree_net.nd) (pb_one (pb_app 4 (px_tup (pax_cons (pl_ix (pl_v 6) (px_mod (px_div (px_call d_law_cell (hr.mono (by decide)) (pmx (pax_cons (px_v 0) (pax_cons (px_add (px_add (px_v 1) (px_v 8)) (px_mul px_int (px_v 5))) pax_nil)))) px_int) (px_v 8))) (pax_cons (pl_ix (pl_v 6) (px_v 8)) pax_nil)))))) (pbs_frz 6 pb_nil))))) (pbs_frz 4 (pb_one (pb_ret (px_v 4))))))⟩)
abbrev slaw : Stmt := topS 77
abbrev nlaw : List Str := ["script", "draws", "size", "many", "few", "ties"]
theorem sclaw : FnScope nlaw ["script"] (defScope slaw) := ⟨rfl, rfl, rfl, by decide +kernel, rfl, by decide +kernel, by decide +kernel⟩
theorem ok_law {f : Addr} {fd : FuncData} (Fu : Fun K "law" "law" slaw f fd) (d_law_draws : Df P w K mg base "_law_draws" 1 [.sc, .fr] g_law_draws) (d_law_decided : Df P w K mg base "_law_decided" 8 [.fr, .fr] g_law_decided) (d_law_net : Df P w K mg base "_law_net" 2 [.fr, .fr, .fr, .fr] g_law_net) (d_law_tree_net : Df P w K mg base "_law_tree_net" 2 [.fr, .fr, .fr, .fr] g_law_tree_net) : FnOk P w K mg base CX0 9 f fd ["script"] (spOf K [.sc] g_law) :=
  fn_mk (rest := [.fr, .fr, .fr, .fr, .fr]) (M' := [.sc, .fr, .fr, .fr, .fr, .fr]) Fu sclaw rfl rfl (gb := m_law) (fun cdv A outer s H E hr => ⟨_, (pb_cons (pb_set 1 (px_call d_law_draws (hr.mono (by decide)) (pmx_sc 0 (pmx (pax_cons px_int pax_nil)))) sclaw.nd) (pb_cons (pb_par 2 3 rfl sclaw.nd (px_add px_int (px_mod (px_ix (px_v 1) px_int) px_int)) (px_mod (px_ix (px_v 1) px_int) px_int)) (pb_cons (pb_if (pt_eq hr.units (px_mod (px_ix (px_v 1) px_int) px_int) px_int) (pb_one (pb_par 2 3 rfl sclaw.nd px_int (px_mod (px_ix (px_v 1) px_int) px_int))) pb_nil) (pb_cons (pb_if (ptx_not (pt_x (px_call d_law_decided (hr.mono (by decide)) (pmx (pax_cons (px_v 2) (pax_cons (px_call d_law_net (hr.mono (by decide)) (pmx (pax_cons (px_v 1) (pax_cons px_int (pax_cons (px_v 2) (pax_cons (px_v 3) pax_nil)))))) pax_nil)))))) (pb_one (pb_ret px_bl)) pb_nil) (pb_cons (pb_set 4 (px_add px_int (px_mod (px_ix (px_v 1) px_int) px_int)) sclaw.nd) (pb_cons (pb_set 5 (px_call d_law_tree_net (hr.mono (by decide)) (pmx (pax_cons (px_v 1) (pax_cons px_int (pax_cons (px_v 4) (pax_cons px_int pax_nil)))))) sclaw.nd) (pb_cons (pb_if (pw_ (pwx_or (ptx_not (pt_x (px_call d_law_decided (hr.mono (by decide)) (pmx (pax_cons (px_v 4) (pax_cons (px_v 5) pax_nil)))))) (pwx_or1 (ptx_not (pt_x (px_call d_law_decided (hr.mono (by decide)) (pmx (pax_cons (px_v 4) (pax_cons (px_add (px_v 5) (px_call d_law_net (hr.mono (by decide)) (pmx (pax_cons (px_v 1) (pax_cons px_int (pax_cons (px_v 4) (pax_cons px_int pax_nil))))))) pax_nil))))))))) (pb_one (pb_ret px_bl)) pb_nil) (pb_one (pb_ret (px_and (px_call d_law_decided (hr.mono (by decide)) (pmx (pax_cons px_int (pax_cons (PFx.x (pf_lst (pax_cons (px_tup (pax_cons px_int (pax_cons px_int pax_nil))) (pax_cons (px_tup (pax_cons px_int (pax_cons px_int pax_nil))) (pax_cons (px_tup (pax_cons px_int (pax_cons px_int pax_nil))) (pax_cons (px_tup (pax_cons px_int (pax_cons px_int pax_nil))) (pax_cons (px_tup (pax_cons px_int (pax_cons px_int pax_nil))) (pax_cons (px_tup (pax_cons px_int (pax_cons px_int pax_nil))) pax_nil)))))))) pax_nil)))) (px_and (px_call d_law_decided (hr.mono (by decide)) (pmx (pax_cons px_int (pax_cons (PFx.x (pf_lst (pax_cons (px_tup (pax_cons px_int (pax_cons px_int pax_nil))) (pax_cons (px_tup (pax_cons px_int (pax_cons px_int pax_nil))) (pax_cons (px_tup (pax_cons px_int (pax_cons px_int pax_nil))) (pax_cons (px_tup (pax_cons px_int (pax_cons px_int pax_nil))) pax_nil)))))) pax_nil)))) (px_one (px_call d_law_decided (hr.mono (by decide)) (pmx (pax_cons px_int (pax_cons (PFx.x (pf_lst pax_nil)) pax_nil))))))))))))))))⟩)
end
theorem all_mk {l : PySem.W.OpenLaw} {w : World} {K : PySem.W.Frag} {h : Heap} {mg : Str → Option Value} {fa f0 f1 f2 f3 f4 f5 f6 f7 f8 f9 f10 f11 f12 f13 f14 f15 f16 f17 f18 f19 f20 f21 f22 f23 f24 f25 f26 f27 f28 f29 f30 f31 f32 f33 f34 f35 f36 f37 fg_PLAIN : Addr} (X : K.In h) (G : h.Ns mainGlobals mg) (hfa : mg "law" = some (.ref fa))
{od0 an0 : Option Addr} {sl0 : Array (Option Value)} {oc0 kV0 dc0 pm0 cd0 ct0 : Value}
  (a0 : PySem.W.nsIn K mainGlobals "_law_draws" = some (some (.ref f0))) (l0 : K.lookup f0 = some ⟨oc0, od0, .func (PySem.W.fnOf "_law_draws" "_law_draws" (defArgs slaw_draws) (defBody slaw_draws) (defScope slaw_draws) .none kV0 dc0 pm0 an0 cd0 ct0), sl0⟩) (c0 : PySem.W.codeIn K cd0 "_law_draws" = true) (k0 : PySem.W.keepIn K (.ref f0) = true)
{od1 an1 : Option Addr} {sl1 : Array (Option Value)} {oc1 kV1 dc1 pm1 cd1 ct1 : Value}
  (a1 : PySem.W.nsIn K mainGlobals "_law_things" = some (some (.ref f1))) (l1 : K.lookup f1 = some ⟨oc1, od1, .func (PySem.W.fnOf "_law_things" "_law_things" (defArgs slaw_things) (defBody slaw_things) (defScope slaw_things) .none kV1 dc1 pm1 an1 cd1 ct1), sl1⟩) (c1 : PySem.W.codeIn K cd1 "_law_things" = true) (k1 : PySem.W.keepIn K (.ref f1) = true)
{od2 an2 : Option Addr} {sl2 : Array (Option Value)} {oc2 kV2 dc2 pm2 cd2 ct2 : Value}
  (a2 : PySem.W.nsIn K mainGlobals "_law_within" = some (some (.ref f2))) (l2 : K.lookup f2 = some ⟨oc2, od2, .func (PySem.W.fnOf "_law_within" "_law_within" (defArgs slaw_within) (defBody slaw_within) (defScope slaw_within) .none kV2 dc2 pm2 an2 cd2 ct2), sl2⟩) (c2 : PySem.W.codeIn K cd2 "_law_within" = true) (k2 : PySem.W.keepIn K (.ref f2) = true)
{od3 an3 : Option Addr} {sl3 : Array (Option Value)} {oc3 kV3 dc3 pm3 cd3 ct3 : Value}
  (a3 : PySem.W.nsIn K mainGlobals "_law_need" = some (some (.ref f3))) (l3 : K.lookup f3 = some ⟨oc3, od3, .func (PySem.W.fnOf "_law_need" "_law_need" (defArgs slaw_need) (defBody slaw_need) (defScope slaw_need) .none kV3 dc3 pm3 an3 cd3 ct3), sl3⟩) (c3 : PySem.W.codeIn K cd3 "_law_need" = true) (k3 : PySem.W.keepIn K (.ref f3) = true)
{od4 an4 : Option Addr} {sl4 : Array (Option Value)} {oc4 kV4 dc4 pm4 cd4 ct4 : Value}
  (a4 : PySem.W.nsIn K mainGlobals "count_of" = some (some (.ref f4))) (l4 : K.lookup f4 = some ⟨oc4, od4, .func (PySem.W.fnOf "count_of" "count_of" (defArgs scount_of) (defBody scount_of) (defScope scount_of) .none kV4 dc4 pm4 an4 cd4 ct4), sl4⟩) (c4 : PySem.W.codeIn K cd4 "count_of" = true) (k4 : PySem.W.keepIn K (.ref f4) = true)
{od5 an5 : Option Addr} {sl5 : Array (Option Value)} {oc5 kV5 dc5 pm5 cd5 ct5 : Value}
  (a5 : PySem.W.nsIn K mainGlobals "is_plain" = some (some (.ref f5))) (l5 : K.lookup f5 = some ⟨oc5, od5, .func (PySem.W.fnOf "is_plain" "is_plain" (defArgs sis_plain) (defBody sis_plain) (defScope sis_plain) .none kV5 dc5 pm5 an5 cd5 ct5), sl5⟩) (c5 : PySem.W.codeIn K cd5 "is_plain" = true) (k5 : PySem.W.keepIn K (.ref f5) = true)
{od6 an6 : Option Addr} {sl6 : Array (Option Value)} {oc6 kV6 dc6 pm6 cd6 ct6 : Value}
  (a6 : PySem.W.nsIn K mainGlobals "have_no_ring" = some (some (.ref f6))) (l6 : K.lookup f6 = some ⟨oc6, od6, .func (PySem.W.fnOf "have_no_ring" "have_no_ring" (defArgs shave_no_ring) (defBody shave_no_ring) (defScope shave_no_ring) .none kV6 dc6 pm6 an6 cd6 ct6), sl6⟩) (c6 : PySem.W.codeIn K cd6 "have_no_ring" = true) (k6 : PySem.W.keepIn K (.ref f6) = true)
{od7 an7 : Option Addr} {sl7 : Array (Option Value)} {oc7 kV7 dc7 pm7 cd7 ct7 : Value}
  (a7 : PySem.W.nsIn K mainGlobals "is_free_plain" = some (some (.ref f7))) (l7 : K.lookup f7 = some ⟨oc7, od7, .func (PySem.W.fnOf "is_free_plain" "is_free_plain" (defArgs sis_free_plain) (defBody sis_free_plain) (defScope sis_free_plain) .none kV7 dc7 pm7 an7 cd7 ct7), sl7⟩) (c7 : PySem.W.codeIn K cd7 "is_free_plain" = true) (k7 : PySem.W.keepIn K (.ref f7) = true)
{od8 an8 : Option Addr} {sl8 : Array (Option Value)} {oc8 kV8 dc8 pm8 cd8 ct8 : Value}
  (a8 : PySem.W.nsIn K mainGlobals "is_free" = some (some (.ref f8))) (l8 : K.lookup f8 = some ⟨oc8, od8, .func (PySem.W.fnOf "is_free" "is_free" (defArgs sis_free) (defBody sis_free) (defScope sis_free) .none kV8 dc8 pm8 an8 cd8 ct8), sl8⟩) (c8 : PySem.W.codeIn K cd8 "is_free" = true) (k8 : PySem.W.keepIn K (.ref f8) = true)
{od9 an9 : Option Addr} {sl9 : Array (Option Value)} {oc9 kV9 dc9 pm9 cd9 ct9 : Value}
  (a9 : PySem.W.nsIn K mainGlobals "with_thing" = some (some (.ref f9))) (l9 : K.lookup f9 = some ⟨oc9, od9, .func (PySem.W.fnOf "with_thing" "with_thing" (defArgs swith_thing) (defBody swith_thing) (defScope swith_thing) .none kV9 dc9 pm9 an9 cd9 ct9), sl9⟩) (c9 : PySem.W.codeIn K cd9 "with_thing" = true) (k9 : PySem.W.keepIn K (.ref f9) = true)
{od10 an10 : Option Addr} {sl10 : Array (Option Value)} {oc10 kV10 dc10 pm10 cd10 ct10 : Value}
  (a10 : PySem.W.nsIn K mainGlobals "without_thing" = some (some (.ref f10))) (l10 : K.lookup f10 = some ⟨oc10, od10, .func (PySem.W.fnOf "without_thing" "without_thing" (defArgs swithout_thing) (defBody swithout_thing) (defScope swithout_thing) .none kV10 dc10 pm10 an10 cd10 ct10), sl10⟩) (c10 : PySem.W.codeIn K cd10 "without_thing" = true) (k10 : PySem.W.keepIn K (.ref f10) = true)
{od11 an11 : Option Addr} {sl11 : Array (Option Value)} {oc11 kV11 dc11 pm11 cd11 ct11 : Value}
  (a11 : PySem.W.nsIn K mainGlobals "exchanged" = some (some (.ref f11))) (l11 : K.lookup f11 = some ⟨oc11, od11, .func (PySem.W.fnOf "exchanged" "exchanged" (defArgs sexchanged) (defBody sexchanged) (defScope sexchanged) .none kV11 dc11 pm11 an11 cd11 ct11), sl11⟩) (c11 : PySem.W.codeIn K cd11 "exchanged" = true) (k11 : PySem.W.keepIn K (.ref f11) = true)
{od12 an12 : Option Addr} {sl12 : Array (Option Value)} {oc12 kV12 dc12 pm12 cd12 ct12 : Value}
  (a12 : PySem.W.nsIn K mainGlobals "steps_from" = some (some (.ref f12))) (l12 : K.lookup f12 = some ⟨oc12, od12, .func (PySem.W.fnOf "steps_from" "steps_from" (defArgs ssteps_from) (defBody ssteps_from) (defScope ssteps_from) .none kV12 dc12 pm12 an12 cd12 ct12), sl12⟩) (c12 : PySem.W.codeIn K cd12 "steps_from" = true) (k12 : PySem.W.keepIn K (.ref f12) = true)
{od13 an13 : Option Addr} {sl13 : Array (Option Value)} {oc13 kV13 dc13 pm13 cd13 ct13 : Value}
  (a13 : PySem.W.nsIn K mainGlobals "part_that_takes" = some (some (.ref f13))) (l13 : K.lookup f13 = some ⟨oc13, od13, .func (PySem.W.fnOf "part_that_takes" "part_that_takes" (defArgs spart_that_takes) (defBody spart_that_takes) (defScope spart_that_takes) .none kV13 dc13 pm13 an13 cd13 ct13), sl13⟩) (c13 : PySem.W.codeIn K cd13 "part_that_takes" = true) (k13 : PySem.W.keepIn K (.ref f13) = true)
{od14 an14 : Option Addr} {sl14 : Array (Option Value)} {oc14 kV14 dc14 pm14 cd14 ct14 : Value}
  (a14 : PySem.W.nsIn K mainGlobals "searched" = some (some (.ref f14))) (l14 : K.lookup f14 = some ⟨oc14, od14, .func (PySem.W.fnOf "searched" "searched" (defArgs ssearched) (defBody ssearched) (defScope ssearched) .none kV14 dc14 pm14 an14 cd14 ct14), sl14⟩) (c14 : PySem.W.codeIn K cd14 "searched" = true) (k14 : PySem.W.keepIn K (.ref f14) = true)
{od15 an15 : Option Addr} {sl15 : Array (Option Value)} {oc15 kV15 dc15 pm15 cd15 ct15 : Value}
  (a15 : PySem.W.nsIn K mainGlobals "outside_of" = some (some (.ref f15))) (l15 : K.lookup f15 = some ⟨oc15, od15, .func (PySem.W.fnOf "outside_of" "outside_of" (defArgs soutside_of) (defBody soutside_of) (defScope soutside_of) .none kV15 dc15 pm15 an15 cd15 ct15), sl15⟩) (c15 : PySem.W.codeIn K cd15 "outside_of" = true) (k15 : PySem.W.keepIn K (.ref f15) = true)
{od16 an16 : Option Addr} {sl16 : Array (Option Value)} {oc16 kV16 dc16 pm16 cd16 ct16 : Value}
  (a16 : PySem.W.nsIn K mainGlobals "changed_along" = some (some (.ref f16))) (l16 : K.lookup f16 = some ⟨oc16, od16, .func (PySem.W.fnOf "changed_along" "changed_along" (defArgs schanged_along) (defBody schanged_along) (defScope schanged_along) .none kV16 dc16 pm16 an16 cd16 ct16), sl16⟩) (c16 : PySem.W.codeIn K cd16 "changed_along" = true) (k16 : PySem.W.keepIn K (.ref f16) = true)
{od17 an17 : Option Addr} {sl17 : Array (Option Value)} {oc17 kV17 dc17 pm17 cd17 ct17 : Value}
  (a17 : PySem.W.nsIn K mainGlobals "greatest_parts" = some (some (.ref f17))) (l17 : K.lookup f17 = some ⟨oc17, od17, .func (PySem.W.fnOf "greatest_parts" "greatest_parts" (defArgs sgreatest_parts) (defBody sgreatest_parts) (defScope sgreatest_parts) .none kV17 dc17 pm17 an17 cd17 ct17), sl17⟩) (c17 : PySem.W.codeIn K cd17 "greatest_parts" = true) (k17 : PySem.W.keepIn K (.ref f17) = true)
{od18 an18 : Option Addr} {sl18 : Array (Option Value)} {oc18 kV18 dc18 pm18 cd18 ct18 : Value}
  (a18 : PySem.W.nsIn K mainGlobals "net_rules" = some (some (.ref f18))) (l18 : K.lookup f18 = some ⟨oc18, od18, .func (PySem.W.fnOf "net_rules" "net_rules" (defArgs snet_rules) (defBody snet_rules) (defScope snet_rules) .none kV18 dc18 pm18 an18 cd18 ct18), sl18⟩) (c18 : PySem.W.codeIn K cd18 "net_rules" = true) (k18 : PySem.W.keepIn K (.ref f18) = true)
{od19 an19 : Option Addr} {sl19 : Array (Option Value)} {oc19 kV19 dc19 pm19 cd19 ct19 : Value}
  (a19 : PySem.W.nsIn K mainGlobals "number_held" = some (some (.ref f19))) (l19 : K.lookup f19 = some ⟨oc19, od19, .func (PySem.W.fnOf "number_held" "number_held" (defArgs snumber_held) (defBody snumber_held) (defScope snumber_held) .none kV19 dc19 pm19 an19 cd19 ct19), sl19⟩) (c19 : PySem.W.codeIn K cd19 "number_held" = true) (k19 : PySem.W.keepIn K (.ref f19) = true)
{od20 an20 : Option Addr} {sl20 : Array (Option Value)} {oc20 kV20 dc20 pm20 cd20 ct20 : Value}
  (a20 : PySem.W.nsIn K mainGlobals "chosen_ties" = some (some (.ref f20))) (l20 : K.lookup f20 = some ⟨oc20, od20, .func (PySem.W.fnOf "chosen_ties" "chosen_ties" (defArgs schosen_ties) (defBody schosen_ties) (defScope schosen_ties) .none kV20 dc20 pm20 an20 cd20 ct20), sl20⟩) (c20 : PySem.W.codeIn K cd20 "chosen_ties" = true) (k20 : PySem.W.keepIn K (.ref f20) = true)
{od21 an21 : Option Addr} {sl21 : Array (Option Value)} {oc21 kV21 dc21 pm21 cd21 ct21 : Value}
  (a21 : PySem.W.nsIn K mainGlobals "renamed" = some (some (.ref f21))) (l21 : K.lookup f21 = some ⟨oc21, od21, .func (PySem.W.fnOf "renamed" "renamed" (defArgs srenamed) (defBody srenamed) (defScope srenamed) .none kV21 dc21 pm21 an21 cd21 ct21), sl21⟩) (c21 : PySem.W.codeIn K cd21 "renamed" = true) (k21 : PySem.W.keepIn K (.ref f21) = true)
{od22 an22 : Option Addr} {sl22 : Array (Option Value)} {oc22 kV22 dc22 pm22 cd22 ct22 : Value}
  (a22 : PySem.W.nsIn K mainGlobals "joined_lists" = some (some (.ref f22))) (l22 : K.lookup f22 = some ⟨oc22, od22, .func (PySem.W.fnOf "joined_lists" "joined_lists" (defArgs sjoined_lists) (defBody sjoined_lists) (defScope sjoined_lists) .none kV22 dc22 pm22 an22 cd22 ct22), sl22⟩) (c22 : PySem.W.codeIn K cd22 "joined_lists" = true) (k22 : PySem.W.keepIn K (.ref f22) = true)
{od23 an23 : Option Addr} {sl23 : Array (Option Value)} {oc23 kV23 dc23 pm23 cd23 ct23 : Value}
  (a23 : PySem.W.nsIn K mainGlobals "ties_within" = some (some (.ref f23))) (l23 : K.lookup f23 = some ⟨oc23, od23, .func (PySem.W.fnOf "ties_within" "ties_within" (defArgs sties_within) (defBody sties_within) (defScope sties_within) .none kV23 dc23 pm23 an23 cd23 ct23), sl23⟩) (c23 : PySem.W.codeIn K cd23 "ties_within" = true) (k23 : PySem.W.keepIn K (.ref f23) = true)
{od24 an24 : Option Addr} {sl24 : Array (Option Value)} {oc24 kV24 dc24 pm24 cd24 ct24 : Value}
  (a24 : PySem.W.nsIn K mainGlobals "crowded_places" = some (some (.ref f24))) (l24 : K.lookup f24 = some ⟨oc24, od24, .func (PySem.W.fnOf "crowded_places" "crowded_places" (defArgs scrowded_places) (defBody scrowded_places) (defScope scrowded_places) .none kV24 dc24 pm24 an24 cd24 ct24), sl24⟩) (c24 : PySem.W.codeIn K cd24 "crowded_places" = true) (k24 : PySem.W.keepIn K (.ref f24) = true)
{od25 an25 : Option Addr} {sl25 : Array (Option Value)} {oc25 kV25 dc25 pm25 cd25 ct25 : Value}
  (a25 : PySem.W.nsIn K mainGlobals "woods" = some (some (.ref f25))) (l25 : K.lookup f25 = some ⟨oc25, od25, .func (PySem.W.fnOf "woods" "woods" (defArgs swoods) (defBody swoods) (defScope swoods) .none kV25 dc25 pm25 an25 cd25 ct25), sl25⟩) (c25 : PySem.W.codeIn K cd25 "woods" = true) (k25 : PySem.W.keepIn K (.ref f25) = true)
{od26 an26 : Option Addr} {sl26 : Array (Option Value)} {oc26 kV26 dc26 pm26 cd26 ct26 : Value}
  (a26 : PySem.W.nsIn K mainGlobals "_law_is_number" = some (some (.ref f26))) (l26 : K.lookup f26 = some ⟨oc26, od26, .func (PySem.W.fnOf "_law_is_number" "_law_is_number" (defArgs slaw_is_number) (defBody slaw_is_number) (defScope slaw_is_number) .none kV26 dc26 pm26 an26 cd26 ct26), sl26⟩) (c26 : PySem.W.codeIn K cd26 "_law_is_number" = true) (k26 : PySem.W.keepIn K (.ref f26) = true)
{od27 an27 : Option Addr} {sl27 : Array (Option Value)} {oc27 kV27 dc27 pm27 cd27 ct27 : Value}
  (a27 : PySem.W.nsIn K mainGlobals "_law_is_numbers" = some (some (.ref f27))) (l27 : K.lookup f27 = some ⟨oc27, od27, .func (PySem.W.fnOf "_law_is_numbers" "_law_is_numbers" (defArgs slaw_is_numbers) (defBody slaw_is_numbers) (defScope slaw_is_numbers) .none kV27 dc27 pm27 an27 cd27 ct27), sl27⟩) (c27 : PySem.W.codeIn K cd27 "_law_is_numbers" = true) (k27 : PySem.W.keepIn K (.ref f27) = true)
{od28 an28 : Option Addr} {sl28 : Array (Option Value)} {oc28 kV28 dc28 pm28 cd28 ct28 : Value}
  (a28 : PySem.W.nsIn K mainGlobals "_law_is_set" = some (some (.ref f28))) (l28 : K.lookup f28 = some ⟨oc28, od28, .func (PySem.W.fnOf "_law_is_set" "_law_is_set" (defArgs slaw_is_set) (defBody slaw_is_set) (defScope slaw_is_set) .none kV28 dc28 pm28 an28 cd28 ct28), sl28⟩) (c28 : PySem.W.codeIn K cd28 "_law_is_set" = true) (k28 : PySem.W.keepIn K (.ref f28) = true)
{od29 an29 : Option Addr} {sl29 : Array (Option Value)} {oc29 kV29 dc29 pm29 cd29 ct29 : Value}
  (a29 : PySem.W.nsIn K mainGlobals "_law_net_free" = some (some (.ref f29))) (l29 : K.lookup f29 = some ⟨oc29, od29, .func (PySem.W.fnOf "_law_net_free" "_law_net_free" (defArgs slaw_net_free) (defBody slaw_net_free) (defScope slaw_net_free) .none kV29 dc29 pm29 an29 cd29 ct29), sl29⟩) (c29 : PySem.W.codeIn K cd29 "_law_net_free" = true) (k29 : PySem.W.keepIn K (.ref f29) = true)
{od30 an30 : Option Addr} {sl30 : Array (Option Value)} {oc30 kV30 dc30 pm30 cd30 ct30 : Value}
  (a30 : PySem.W.nsIn K mainGlobals "_law_are_woods" = some (some (.ref f30))) (l30 : K.lookup f30 = some ⟨oc30, od30, .func (PySem.W.fnOf "_law_are_woods" "_law_are_woods" (defArgs slaw_are_woods) (defBody slaw_are_woods) (defScope slaw_are_woods) .none kV30 dc30 pm30 an30 cd30 ct30), sl30⟩) (c30 : PySem.W.codeIn K cd30 "_law_are_woods" = true) (k30 : PySem.W.keepIn K (.ref f30) = true)
{od31 an31 : Option Addr} {sl31 : Array (Option Value)} {oc31 kV31 dc31 pm31 cd31 ct31 : Value}
  (a31 : PySem.W.nsIn K mainGlobals "_law_with" = some (some (.ref f31))) (l31 : K.lookup f31 = some ⟨oc31, od31, .func (PySem.W.fnOf "_law_with" "_law_with" (defArgs slaw_with) (defBody slaw_with) (defScope slaw_with) .none kV31 dc31 pm31 an31 cd31 ct31), sl31⟩) (c31 : PySem.W.codeIn K cd31 "_law_with" = true) (k31 : PySem.W.keepIn K (.ref f31) = true)
{od32 an32 : Option Addr} {sl32 : Array (Option Value)} {oc32 kV32 dc32 pm32 cd32 ct32 : Value}
  (a32 : PySem.W.nsIn K mainGlobals "_law_dealt" = some (some (.ref f32))) (l32 : K.lookup f32 = some ⟨oc32, od32, .func (PySem.W.fnOf "_law_dealt" "_law_dealt" (defArgs slaw_dealt) (defBody slaw_dealt) (defScope slaw_dealt) .none kV32 dc32 pm32 an32 cd32 ct32), sl32⟩) (c32 : PySem.W.codeIn K cd32 "_law_dealt" = true) (k32 : PySem.W.keepIn K (.ref f32) = true)
{od33 an33 : Option Addr} {sl33 : Array (Option Value)} {oc33 kV33 dc33 pm33 cd33 ct33 : Value}
  (a33 : PySem.W.nsIn K mainGlobals "_law_decided" = some (some (.ref f33))) (l33 : K.lookup f33 = some ⟨oc33, od33, .func (PySem.W.fnOf "_law_decided" "_law_decided" (defArgs slaw_decided) (defBody slaw_decided) (defScope slaw_decided) .none kV33 dc33 pm33 an33 cd33 ct33), sl33⟩) (c33 : PySem.W.codeIn K cd33 "_law_decided" = true) (k33 : PySem.W.keepIn K (.ref f33) = true)
{od34 an34 : Option Addr} {sl34 : Array (Option Value)} {oc34 kV34 dc34 pm34 cd34 ct34 : Value}
  (a34 : PySem.W.nsIn K mainGlobals "_law_cell" = some (some (.ref f34))) (l34 : K.lookup f34 = some ⟨oc34, od34, .func (PySem.W.fnOf "_law_cell" "_law_cell" (defArgs slaw_cell) (defBody slaw_cell) (defScope slaw_cell) .none kV34 dc34 pm34 an34 cd34 ct34), sl34⟩) (c34 : PySem.W.codeIn K cd34 "_law_cell" = true) (k34 : PySem.W.keepIn K (.ref f34) = true)
{od35 an35 : Option Addr} {sl35 : Array (Option Value)} {oc35 kV35 dc35 pm35 cd35 ct35 : Value}
  (a35 : PySem.W.nsIn K mainGlobals "_law_net" = some (some (.ref f35))) (l35 : K.lookup f35 = some ⟨oc35, od35, .func (PySem.W.fnOf "_law_net" "_law_net" (defArgs slaw_net) (defBody slaw_net) (defScope slaw_net) .none kV35 dc35 pm35 an35 cd35 ct35), sl35⟩) (c35 : PySem.W.codeIn K cd35 "_law_net" = true) (k35 : PySem.W.keepIn K (.ref f35) = true)
{od36 an36 : Option Addr} {sl36 : Array (Option Value)} {oc36 kV36 dc36 pm36 cd36 ct36 : Value}
  (a36 : PySem.W.nsIn K mainGlobals "_law_tree_net" = some (some (.ref f36))) (l36 : K.lookup f36 = some ⟨oc36, od36, .func (PySem.W.fnOf "_law_tree_net" "_law_tree_net" (defArgs slaw_tree_net) (defBody slaw_tree_net) (defScope slaw_tree_net) .none kV36 dc36 pm36 an36 cd36 ct36), sl36⟩) (c36 : PySem.W.codeIn K cd36 "_law_tree_net" = true) (k36 : PySem.W.keepIn K (.ref f36) = true)
{od37 an37 : Option Addr} {sl37 : Array (Option Value)} {oc37 kV37 dc37 pm37 cd37 ct37 : Value}
  (a37 : PySem.W.nsIn K mainGlobals "law" = some (some (.ref f37))) (l37 : K.lookup f37 = some ⟨oc37, od37, .func (PySem.W.fnOf "law" "law" (defArgs slaw) (defBody slaw) (defScope slaw) .none kV37 dc37 pm37 an37 cd37 ct37), sl37⟩) (c37 : PySem.W.codeIn K cd37 "law" = true) (k37 : PySem.W.keepIn K (.ref f37) = true)
  (z_int : PySem.W.nsIn K mainGlobals "int" = some none)
  (z_abs : PySem.W.nsIn K mainGlobals "abs" = some none)
  (z_range : PySem.W.nsIn K mainGlobals "range" = some none)
  (z_len : PySem.W.nsIn K mainGlobals "len" = some none)
  (z_max : PySem.W.nsIn K mainGlobals "max" = some none)
  (z_list : PySem.W.nsIn K mainGlobals "list" = some none)
  (z_sorted : PySem.W.nsIn K mainGlobals "sorted" = some none)
  (z_sum : PySem.W.nsIn K mainGlobals "sum" = some none)
  (z_min : PySem.W.nsIn K mainGlobals "min" = some none)
  (z_isinstance : PySem.W.nsIn K mainGlobals "isinstance" = some none)
  (z_bool : PySem.W.nsIn K mainGlobals "bool" = some none)
  (z_set : PySem.W.nsIn K mainGlobals "set" = some none)
  {og_PLAIN : Obj} {it_PLAIN : Array Value} {nn_PLAIN : Nat} (ag_PLAIN : PySem.W.nsIn K mainGlobals "PLAIN" = some (some (.ref fg_PLAIN))) (lg_PLAIN : K.lookup fg_PLAIN = some og_PLAIN) (tg_PLAIN : og_PLAIN.cls = .type "tuple" ∧ og_PLAIN.data = .seq it_PLAIN nn_PLAIN ∧ it_PLAIN.size ≤ sizeLine ∧ Vals ((["net", "table", "rooms", "lists", "linked", "frame", "told"] : List Str).map V.str) it_PLAIN.toList) :
    ∃ fd : FuncData, (∀ (s : Shared) (v : Value), BindsTo s fd ⟨[v], []⟩ [("script", v)]) ∧ ∀ base : Heap, K.In base → base.Ns mainGlobals mg → FnOk l.prog w K mg base CX0 9 fa fd ["script"] (spOf K [.sc] g_law) := by
  have e := hfa.symm.trans (PySem.W.mg_of X G a37)
  cases e
  refine ⟨PySem.W.fnOf "law" "law" (defArgs slaw) (defBody slaw) (defScope slaw) .none kV37 dc37 pm37 an37 cd37 ct37, fun s v => .of_eq rfl, fun base _ _ => ?_⟩
  · skip
    have D0 : De K mg "_law_draws" slaw_draws ["script", "many"] := ⟨⟨_, _, fun_mk (st := slaw_draws) l0 c0 k0, PySem.W.mg_of X G a0, (fun_mk (st := slaw_draws) l0 c0 k0).binds (ps := ["script", "many"]) fun _ _ _ _ _ _ us hl => match us, hl with | [_, _], _ => rfl⟩⟩
    have D1 : De K mg "_law_things" slaw_things ["mark"] := ⟨⟨_, _, fun_mk (st := slaw_things) l1 c1 k1, PySem.W.mg_of X G a1, (fun_mk (st := slaw_things) l1 c1 k1).binds (ps := ["mark"]) fun _ _ _ _ _ _ us hl => match us, hl with | [_], _ => rfl⟩⟩
    have D2 : De K mg "_law_within" slaw_within ["ties", "places"] := ⟨⟨_, _, fun_mk (st := slaw_within) l2 c2 k2, PySem.W.mg_of X G a2, (fun_mk (st := slaw_within) l2 c2 k2).binds (ps := ["ties", "places"]) fun _ _ _ _ _ _ us hl => match us, hl with | [_, _], _ => rfl⟩⟩
    have D3 : De K mg "_law_need" slaw_need ["size", "ties"] := ⟨⟨_, _, fun_mk (st := slaw_need) l3 c3 k3, PySem.W.mg_of X G a3, (fun_mk (st := slaw_need) l3 c3 k3).binds (ps := ["size", "ties"]) fun _ _ _ _ _ _ us hl => match us, hl with | [_, _], _ => rfl⟩⟩
    have D4 : De K mg "count_of" scount_of ["rule"] := ⟨⟨_, _, fun_mk (st := scount_of) l4 c4 k4, PySem.W.mg_of X G a4, (fun_mk (st := scount_of) l4 c4 k4).binds (ps := ["rule"]) fun _ _ _ _ _ _ us hl => match us, hl with | [_], _ => rfl⟩⟩
    have D5 : De K mg "is_plain" sis_plain ["rule"] := ⟨⟨_, _, fun_mk (st := sis_plain) l5 c5 k5, PySem.W.mg_of X G a5, (fun_mk (st := sis_plain) l5 c5 k5).binds (ps := ["rule"]) fun _ _ _ _ _ _ us hl => match us, hl with | [_], _ => rfl⟩⟩
    have D6 : De K mg "have_no_ring" shave_no_ring ["size", "ties"] := ⟨⟨_, _, fun_mk (st := shave_no_ring) l6 c6 k6, PySem.W.mg_of X G a6, (fun_mk (st := shave_no_ring) l6 c6 k6).binds (ps := ["size", "ties"]) fun _ _ _ _ _ _ us hl => match us, hl with | [_, _], _ => rfl⟩⟩
    have D7 : De K mg "is_free_plain" sis_free_plain ["rule", "things"] := ⟨⟨_, _, fun_mk (st := sis_free_plain) l7 c7 k7, PySem.W.mg_of X G a7, (fun_mk (st := sis_free_plain) l7 c7 k7).binds (ps := ["rule", "things"]) fun _ _ _ _ _ _ us hl => match us, hl with | [_, _], _ => rfl⟩⟩
    have D8 : De K mg "is_free" sis_free ["rule", "things"] := ⟨⟨_, _, fun_mk (st := sis_free) l8 c8 k8, PySem.W.mg_of X G a8, (fun_mk (st := sis_free) l8 c8 k8).binds (ps := ["rule", "things"]) fun _ _ _ _ _ _ us hl => match us, hl with | [_, _], _ => rfl⟩⟩
    have D9 : De K mg "with_thing" swith_thing ["things", "thing"] := ⟨⟨_, _, fun_mk (st := swith_thing) l9 c9 k9, PySem.W.mg_of X G a9, (fun_mk (st := swith_thing) l9 c9 k9).binds (ps := ["things", "thing"]) fun _ _ _ _ _ _ us hl => match us, hl with | [_, _], _ => rfl⟩⟩
    have D10 : De K mg "without_thing" swithout_thing ["things", "thing"] := ⟨⟨_, _, fun_mk (st := swithout_thing) l10 c10 k10, PySem.W.mg_of X G a10, (fun_mk (st := swithout_thing) l10 c10 k10).binds (ps := ["things", "thing"]) fun _ _ _ _ _ _ us hl => match us, hl with | [_, _], _ => rfl⟩⟩
    have D11 : De K mg "exchanged" sexchanged ["things", "thing", "gone"] := ⟨⟨_, _, fun_mk (st := sexchanged) l11 c11 k11, PySem.W.mg_of X G a11, (fun_mk (st := sexchanged) l11 c11 k11).binds (ps := ["things", "thing", "gone"]) fun _ _ _ _ _ _ us hl => match us, hl with | [_, _, _], _ => rfl⟩⟩
    have D12 : De K mg "steps_from" ssteps_from ["rules", "parts", "thing"] := ⟨⟨_, _, fun_mk (st := ssteps_from) l12 c12 k12, PySem.W.mg_of X G a12, (fun_mk (st := ssteps_from) l12 c12 k12).binds (ps := ["rules", "parts", "thing"]) fun _ _ _ _ _ _ us hl => match us, hl with | [_, _, _], _ => rfl⟩⟩
    have D13 : De K mg "part_that_takes" spart_that_takes ["rules", "parts", "thing"] := ⟨⟨_, _, fun_mk (st := spart_that_takes) l13 c13 k13, PySem.W.mg_of X G a13, (fun_mk (st := spart_that_takes) l13 c13 k13).binds (ps := ["rules", "parts", "thing"]) fun _ _ _ _ _ _ us hl => match us, hl with | [_, _, _], _ => rfl⟩⟩
    have D14 : De K mg "searched" ssearched ["rules", "parts", "starts"] := ⟨⟨_, _, fun_mk (st := ssearched) l14 c14 k14, PySem.W.mg_of X G a14, (fun_mk (st := ssearched) l14 c14 k14).binds (ps := ["rules", "parts", "starts"]) fun _ _ _ _ _ _ us hl => match us, hl with | [_, _, _], _ => rfl⟩⟩
    have D15 : De K mg "outside_of" soutside_of ["count", "parts"] := ⟨⟨_, _, fun_mk (st := soutside_of) l15 c15 k15, PySem.W.mg_of X G a15, (fun_mk (st := soutside_of) l15 c15 k15).binds (ps := ["count", "parts"]) fun _ _ _ _ _ _ us hl => match us, hl with | [_, _], _ => rfl⟩⟩
    have D16 : De K mg "changed_along" schanged_along ["rules", "parts", "reached", "last"] := ⟨⟨_, _, fun_mk (st := schanged_along) l16 c16 k16, PySem.W.mg_of X G a16, (fun_mk (st := schanged_along) l16 c16 k16).binds (ps := ["rules", "parts", "reached", "last"]) fun _ _ _ _ _ _ us hl => match us, hl with | [_, _, _, _], _ => rfl⟩⟩
    have D17 : De K mg "greatest_parts" sgreatest_parts ["rules"] := ⟨⟨_, _, fun_mk (st := sgreatest_parts) l17 c17 k17, PySem.W.mg_of X G a17, (fun_mk (st := sgreatest_parts) l17 c17 k17).binds (ps := ["rules"]) fun _ _ _ _ _ _ us hl => match us, hl with | [_], _ => rfl⟩⟩
    have D18 : De K mg "net_rules" snet_rules ["size", "ties", "k"] := ⟨⟨_, _, fun_mk (st := snet_rules) l18 c18 k18, PySem.W.mg_of X G a18, (fun_mk (st := snet_rules) l18 c18 k18).binds (ps := ["size", "ties", "k"]) fun _ _ _ _ _ _ us hl => match us, hl with | [_, _, _], _ => rfl⟩⟩
    have D19 : De K mg "number_held" snumber_held ["parts"] := ⟨⟨_, _, fun_mk (st := snumber_held) l19 c19 k19, PySem.W.mg_of X G a19, (fun_mk (st := snumber_held) l19 c19 k19).binds (ps := ["parts"]) fun _ _ _ _ _ _ us hl => match us, hl with | [_], _ => rfl⟩⟩
    have D20 : De K mg "chosen_ties" schosen_ties ["ties", "positions"] := ⟨⟨_, _, fun_mk (st := schosen_ties) l20 c20 k20, PySem.W.mg_of X G a20, (fun_mk (st := schosen_ties) l20 c20 k20).binds (ps := ["ties", "positions"]) fun _ _ _ _ _ _ us hl => match us, hl with | [_, _], _ => rfl⟩⟩
    have D21 : De K mg "renamed" srenamed ["names", "first", "second"] := ⟨⟨_, _, fun_mk (st := srenamed) l21 c21 k21, PySem.W.mg_of X G a21, (fun_mk (st := srenamed) l21 c21 k21).binds (ps := ["names", "first", "second"]) fun _ _ _ _ _ _ us hl => match us, hl with | [_, _, _], _ => rfl⟩⟩
    have D22 : De K mg "joined_lists" sjoined_lists ["size", "ties"] := ⟨⟨_, _, fun_mk (st := sjoined_lists) l22 c22 k22, PySem.W.mg_of X G a22, (fun_mk (st := sjoined_lists) l22 c22 k22).binds (ps := ["size", "ties"]) fun _ _ _ _ _ _ us hl => match us, hl with | [_, _], _ => rfl⟩⟩
    have D23 : De K mg "ties_within" sties_within ["ties", "places"] := ⟨⟨_, _, fun_mk (st := sties_within) l23 c23 k23, PySem.W.mg_of X G a23, (fun_mk (st := sties_within) l23 c23 k23).binds (ps := ["ties", "places"]) fun _ _ _ _ _ _ us hl => match us, hl with | [_, _], _ => rfl⟩⟩
    have D24 : De K mg "crowded_places" scrowded_places ["size", "ties", "k", "lot"] := ⟨⟨_, _, fun_mk (st := scrowded_places) l24 c24 k24, PySem.W.mg_of X G a24, (fun_mk (st := scrowded_places) l24 c24 k24).binds (ps := ["size", "ties", "k", "lot"]) fun _ _ _ _ _ _ us hl => match us, hl with | [_, _, _, _], _ => rfl⟩⟩
    have D25 : De K mg "woods" swoods ["size", "ties", "k"] := ⟨⟨_, _, fun_mk (st := swoods) l25 c25 k25, PySem.W.mg_of X G a25, (fun_mk (st := swoods) l25 c25 k25).binds (ps := ["size", "ties", "k"]) fun _ _ _ _ _ _ us hl => match us, hl with | [_, _, _], _ => rfl⟩⟩
    have D26 : De K mg "_law_is_number" slaw_is_number ["value"] := ⟨⟨_, _, fun_mk (st := slaw_is_number) l26 c26 k26, PySem.W.mg_of X G a26, (fun_mk (st := slaw_is_number) l26 c26 k26).binds (ps := ["value"]) fun _ _ _ _ _ _ us hl => match us, hl with | [_], _ => rfl⟩⟩
    have D27 : De K mg "_law_is_numbers" slaw_is_numbers ["value"] := ⟨⟨_, _, fun_mk (st := slaw_is_numbers) l27 c27 k27, PySem.W.mg_of X G a27, (fun_mk (st := slaw_is_numbers) l27 c27 k27).binds (ps := ["value"]) fun _ _ _ _ _ _ us hl => match us, hl with | [_], _ => rfl⟩⟩
    have D28 : De K mg "_law_is_set" slaw_is_set ["value", "n"] := ⟨⟨_, _, fun_mk (st := slaw_is_set) l28 c28 k28, PySem.W.mg_of X G a28, (fun_mk (st := slaw_is_set) l28 c28 k28).binds (ps := ["value", "n"]) fun _ _ _ _ _ _ us hl => match us, hl with | [_, _], _ => rfl⟩⟩
    have D29 : De K mg "_law_net_free" slaw_net_free ["size", "ties", "things"] := ⟨⟨_, _, fun_mk (st := slaw_net_free) l29 c29 k29, PySem.W.mg_of X G a29, (fun_mk (st := slaw_net_free) l29 c29 k29).binds (ps := ["size", "ties", "things"]) fun _ _ _ _ _ _ us hl => match us, hl with | [_, _, _], _ => rfl⟩⟩
    have D30 : De K mg "_law_are_woods" slaw_are_woods ["size", "ties", "k", "lists"] := ⟨⟨_, _, fun_mk (st := slaw_are_woods) l30 c30 k30, PySem.W.mg_of X G a30, (fun_mk (st := slaw_are_woods) l30 c30 k30).binds (ps := ["size", "ties", "k", "lists"]) fun _ _ _ _ _ _ us hl => match us, hl with | [_, _, _, _], _ => rfl⟩⟩
    have D31 : De K mg "_law_with" slaw_with ["line", "at", "item"] := ⟨⟨_, _, fun_mk (st := slaw_with) l31 c31 k31, PySem.W.mg_of X G a31, (fun_mk (st := slaw_with) l31 c31 k31).binds (ps := ["line", "at", "item"]) fun _ _ _ _ _ _ us hl => match us, hl with | [_, _, _], _ => rfl⟩⟩
    have D32 : De K mg "_law_dealt" slaw_dealt ["size", "ties", "k"] := ⟨⟨_, _, fun_mk (st := slaw_dealt) l32 c32 k32, PySem.W.mg_of X G a32, (fun_mk (st := slaw_dealt) l32 c32 k32).binds (ps := ["size", "ties", "k"]) fun _ _ _ _ _ _ us hl => match us, hl with | [_, _, _], _ => rfl⟩⟩
    have D33 : De K mg "_law_decided" slaw_decided ["size", "ties"] := ⟨⟨_, _, fun_mk (st := slaw_decided) l33 c33 k33, PySem.W.mg_of X G a33, (fun_mk (st := slaw_decided) l33 c33 k33).binds (ps := ["size", "ties"]) fun _ _ _ _ _ _ us hl => match us, hl with | [_, _], _ => rfl⟩⟩
    have D34 : De K mg "_law_cell" slaw_cell ["draws", "k"] := ⟨⟨_, _, fun_mk (st := slaw_cell) l34 c34 k34, PySem.W.mg_of X G a34, (fun_mk (st := slaw_cell) l34 c34 k34).binds (ps := ["draws", "k"]) fun _ _ _ _ _ _ us hl => match us, hl with | [_, _], _ => rfl⟩⟩
    have D35 : De K mg "_law_net" slaw_net ["draws", "at", "size", "many"] := ⟨⟨_, _, fun_mk (st := slaw_net) l35 c35 k35, PySem.W.mg_of X G a35, (fun_mk (st := slaw_net) l35 c35 k35).binds (ps := ["draws", "at", "size", "many"]) fun _ _ _ _ _ _ us hl => match us, hl with | [_, _, _, _], _ => rfl⟩⟩
    have D36 : De K mg "_law_tree_net" slaw_tree_net ["draws", "at", "size", "k"] := ⟨⟨_, _, fun_mk (st := slaw_tree_net) l36 c36 k36, PySem.W.mg_of X G a36, (fun_mk (st := slaw_tree_net) l36 c36 k36).binds (ps := ["draws", "at", "size", "k"]) fun _ _ _ _ _ _ us hl => match us, hl with | [_, _, _, _], _ => rfl⟩⟩
    have gt_PLAIN : GTu K mg "PLAIN" ["net", "table", "rooms", "lists", "linked", "frame", "told"] := ⟨⟨_, _, _, _, PySem.W.mg_of X G ag_PLAIN, lg_PLAIN, tg_PLAIN.1, tg_PLAIN.2.1, tg_PLAIN.2.2.1, tg_PLAIN.2.2.2⟩⟩
    have G0 := d_law_draws (P := l.prog) (w := w) (base := base) D0 (PySem.W.mg_none_of X G z_int) (PySem.W.mg_none_of X G z_abs) (PySem.W.mg_none_of X G z_range) (PySem.W.mg_none_of X G z_len)
    have G1 := d_law_things (P := l.prog) (w := w) (base := base) D1 (PySem.W.mg_none_of X G z_range)
    have G2 := d_law_within (P := l.prog) (w := w) (base := base) D2 (PySem.W.mg_none_of X G z_len)
    have G3 := d_law_need (P := l.prog) (w := w) (base := base) D3 (PySem.W.mg_none_of X G z_range) G1 (PySem.W.mg_none_of X G z_len) G2 (PySem.W.mg_none_of X G z_max)
    have G4 := d_count_of (P := l.prog) (w := w) (base := base) D4 (PySem.W.mg_none_of X G z_len)
    have G5 := d_is_plain (P := l.prog) (w := w) (base := base) D5 gt_PLAIN
    have G6 := d_have_no_ring (P := l.prog) (w := w) (base := base) D6 (PySem.W.mg_none_of X G z_list) (PySem.W.mg_none_of X G z_range) (PySem.W.mg_none_of X G z_int)
    have G7 := d_is_free_plain (P := l.prog) (w := w) (base := base) D7 G6
    have G8 := d_is_free (P := l.prog) (w := w) (base := base) D8 G5 G7
    have G9 := d_with_thing (P := l.prog) (w := w) (base := base) D9 (PySem.W.mg_none_of X G z_sorted)
    have G10 := d_without_thing (P := l.prog) (w := w) (base := base) D10 
    have G11 := d_exchanged (P := l.prog) (w := w) (base := base) D11 G9 G10
    have G12 := d_steps_from (P := l.prog) (w := w) (base := base) D12 (PySem.W.mg_none_of X G z_len) (PySem.W.mg_none_of X G z_range) G8 G11
    have G13 := d_part_that_takes (P := l.prog) (w := w) (base := base) D13 (PySem.W.mg_none_of X G z_len) (PySem.W.mg_none_of X G z_range) G8 G9
    have G14 := d_searched (P := l.prog) (w := w) (base := base) D14 (PySem.W.mg_none_of X G z_list) G13 G12 (PySem.W.mg_none_of X G z_len)
    have G15 := d_outside_of (P := l.prog) (w := w) (base := base) D15 (PySem.W.mg_none_of X G z_range)
    have G16 := d_changed_along (P := l.prog) (w := w) (base := base) D16 (PySem.W.mg_none_of X G z_list) G13 G9 G11
    have G17 := d_greatest_parts (P := l.prog) (w := w) (base := base) D17 G4 G14 G15 G16 (PySem.W.mg_none_of X G z_sorted)
    have G18 := d_net_rules (P := l.prog) (w := w) (base := base) D18 (PySem.W.mg_none_of X G z_range) (PySem.W.mg_none_of X G z_list)
    have G19 := d_number_held (P := l.prog) (w := w) (base := base) D19 (PySem.W.mg_none_of X G z_len) (PySem.W.mg_none_of X G z_sum)
    have G20 := d_chosen_ties (P := l.prog) (w := w) (base := base) D20 
    have G21 := d_renamed (P := l.prog) (w := w) (base := base) D21 (PySem.W.mg_none_of X G z_min) (PySem.W.mg_none_of X G z_max)
    have G22 := d_joined_lists (P := l.prog) (w := w) (base := base) D22 (PySem.W.mg_none_of X G z_list) (PySem.W.mg_none_of X G z_range) G21 (PySem.W.mg_none_of X G z_sorted)
    have G23 := d_ties_within (P := l.prog) (w := w) (base := base) D23 (PySem.W.mg_none_of X G z_len) (PySem.W.mg_none_of X G z_range)
    have G24 := d_crowded_places (P := l.prog) (w := w) (base := base) D24 G20 G22 G23 (PySem.W.mg_none_of X G z_len)
    have G25 := d_woods (P := l.prog) (w := w) (base := base) D25 G17 G18 G19 (PySem.W.mg_none_of X G z_len) G24
    have G26 := d_law_is_number (P := l.prog) (w := w) (base := base) D26 (PySem.W.mg_none_of X G z_isinstance) (PySem.W.mg_none_of X G z_int) (PySem.W.mg_none_of X G z_bool)
    have G27 := d_law_is_numbers (P := l.prog) (w := w) (base := base) D27 (PySem.W.mg_none_of X G z_isinstance) (PySem.W.mg_none_of X G z_list) G26
    have G28 := d_law_is_set (P := l.prog) (w := w) (base := base) D28 G27 (PySem.W.mg_none_of X G z_sorted) (PySem.W.mg_none_of X G z_set)
    have G29 := d_law_net_free (P := l.prog) (w := w) (base := base) D29 (PySem.W.mg_none_of X G z_list) (PySem.W.mg_none_of X G z_range) (PySem.W.mg_none_of X G z_sorted) (PySem.W.mg_none_of X G z_int)
    have G30 := d_law_are_woods (P := l.prog) (w := w) (base := base) D30 (PySem.W.mg_none_of X G z_isinstance) (PySem.W.mg_none_of X G z_list) (PySem.W.mg_none_of X G z_len) G28 G29 (PySem.W.mg_none_of X G z_set)
    have G31 := d_law_with (P := l.prog) (w := w) (base := base) D31 
    have G32 := d_law_dealt (P := l.prog) (w := w) (base := base) D32 (PySem.W.mg_none_of X G z_range) (PySem.W.mg_none_of X G z_len) G29 G31
    have G33 := d_law_decided (P := l.prog) (w := w) (base := base) D33 G3 G25 (PySem.W.mg_none_of X G z_list) G30 (PySem.W.mg_none_of X G z_len) (PySem.W.mg_none_of X G z_sum) G2 G32
    have G34 := d_law_cell (P := l.prog) (w := w) (base := base) D34 (PySem.W.mg_none_of X G z_len)
    have G35 := d_law_net (P := l.prog) (w := w) (base := base) D35 (PySem.W.mg_none_of X G z_range) G34 (PySem.W.mg_none_of X G z_int)
    have G36 := d_law_tree_net (P := l.prog) (w := w) (base := base) D36 (PySem.W.mg_none_of X G z_range) G34
    exact ok_law (fun_mk (st := slaw) l37 c37 k37) G0 G33 G35 G36
end K72

end
section
open PySem PySem.W PyProof.Rows
set_option maxHeartbeats 0
theorem PySem.Challenge.cw_freelots_k72_whole_woods_exactly_holds : PySem.Challenge.rw_freelots_k72_whole_woods_exactly.Holds := by
  w_on; o_law; k_head; (case hw => w_witness2)
  k_fill
  refine L2.walk_of (l := PySem.Challenge.rw_freelots_k72_whole_woods_exactly) (n := 63) (k := 9) (x := "script") (CX := fun _ => L2.CX0) (sp := fun w => Pu.spOf _ [.sc] K72.g_law) rfl (by decide) rfl ⟨rfl, by decide, by decide⟩ (fun w h Y => PySem.W.kIn_of Y) ?F (fun _ _ a ns hl _ hS => Pu.sp_law hS (K72.pure_law ns hl) fun _ => rfl) (fun _ _ _ _ _ h => h)
  case F =>
    intro w mg fa h KX G hmg
    refine' K72.all_mk KX G hmg ?a0 ?l0 ?c0 ?k0 ?a1 ?l1 ?c1 ?k1 ?a2 ?l2 ?c2 ?k2 ?a3 ?l3 ?c3 ?k3 ?a4 ?l4 ?c4 ?k4 ?a5 ?l5 ?c5 ?k5 ?a6 ?l6 ?c6 ?k6 ?a7 ?l7 ?c7 ?k7 ?a8 ?l8 ?c8 ?k8 ?a9 ?l9 ?c9 ?k9 ?a10 ?l10 ?c10 ?k10 ?a11 ?l11 ?c11 ?k11 ?a12 ?l12 ?c12 ?k12 ?a13 ?l13 ?c13 ?k13 ?a14 ?l14 ?c14 ?k14 ?a15 ?l15 ?c15 ?k15 ?a16 ?l16 ?c16 ?k16 ?a17 ?l17 ?c17 ?k17 ?a18 ?l18 ?c18 ?k18 ?a19 ?l19 ?c19 ?k19 ?a20 ?l20 ?c20 ?k20 ?a21 ?l21 ?c21 ?k21 ?a22 ?l22 ?c22 ?k22 ?a23 ?l23 ?c23 ?k23 ?a24 ?l24 ?c24 ?k24 ?a25 ?l25 ?c25 ?k25 ?a26 ?l26 ?c26 ?k26 ?a27 ?l27 ?c27 ?k27 ?a28 ?l28 ?c28 ?k28 ?a29 ?l29 ?c29 ?k29 ?a30 ?l30 ?c30 ?k30 ?a31 ?l31 ?c31 ?k31 ?a32 ?l32 ?c32 ?k32 ?a33 ?l33 ?c33 ?k33 ?a34 ?l34 ?c34 ?k34 ?a35 ?l35 ?c35 ?k35 ?a36 ?l36 ?c36 ?k36 ?a37 ?l37 ?c37 ?k37 ?z_int ?z_abs ?z_range ?z_len ?z_max ?z_list ?z_sorted ?z_sum ?z_min ?z_isinstance ?z_bool ?z_set ?ag_PLAIN ?lg_PLAIN ?tg_PLAIN
    (case a0 => k_is); (case l0 => k_is); (case c0 => k_is); (case k0 => k_is); (case a1 => k_is); (case l1 => k_is); (case c1 => k_is); (case k1 => k_is); (case a2 => k_is); (case l2 => k_is); (case c2 => k_is); (case k2 => k_is); (case a3 => k_is); (case l3 => k_is); (case c3 => k_is); (case k3 => k_is); (case a4 => k_is); (case l4 => k_is); (case c4 => k_is); (case k4 => k_is); (case a5 => k_is); (case l5 => k_is); (case c5 => k_is); (case k5 => k_is); (case a6 => k_is); (case l6 => k_is); (case c6 => k_is); (case k6 => k_is); (case a7 => k_is); (case l7 => k_is); (case c7 => k_is); (case k7 => k_is); (case a8 => k_is); (case l8 => k_is); (case c8 => k_is); (case k8 => k_is); (case a9 => k_is); (case l9 => k_is); (case c9 => k_is); (case k9 => k_is); (case a10 => k_is); (case l10 => k_is); (case c10 => k_is); (case k10 => k_is); (case a11 => k_is); (case l11 => k_is); (case c11 => k_is); (case k11 => k_is); (case a12 => k_is); (case l12 => k_is); (case c12 => k_is); (case k12 => k_is); (case a13 => k_is); (case l13 => k_is); (case c13 => k_is); (case k13 => k_is); (case a14 => k_is); (case l14 => k_is); (case c14 => k_is); (case k14 => k_is); (case a15 => k_is); (case l15 => k_is); (case c15 => k_is); (case k15 => k_is); (case a16 => k_is); (case l16 => k_is); (case c16 => k_is); (case k16 => k_is); (case a17 => k_is); (case l17 => k_is); (case c17 => k_is); (case k17 => k_is); (case a18 => k_is); (case l18 => k_is); (case c18 => k_is); (case k18 => k_is); (case a19 => k_is); (case l19 => k_is); (case c19 => k_is); (case k19 => k_is); (case a20 => k_is); (case l20 => k_is); (case c20 => k_is); (case k20 => k_is); (case a21 => k_is); (case l21 => k_is); (case c21 => k_is); (case k21 => k_is); (case a22 => k_is); (case l22 => k_is); (case c22 => k_is); (case k22 => k_is); (case a23 => k_is); (case l23 => k_is); (case c23 => k_is); (case k23 => k_is); (case a24 => k_is); (case l24 => k_is); (case c24 => k_is); (case k24 => k_is); (case a25 => k_is); (case l25 => k_is); (case c25 => k_is); (case k25 => k_is); (case a26 => k_is); (case l26 => k_is); (case c26 => k_is); (case k26 => k_is); (case a27 => k_is); (case l27 => k_is); (case c27 => k_is); (case k27 => k_is); (case a28 => k_is); (case l28 => k_is); (case c28 => k_is); (case k28 => k_is); (case a29 => k_is); (case l29 => k_is); (case c29 => k_is); (case k29 => k_is); (case a30 => k_is); (case l30 => k_is); (case c30 => k_is); (case k30 => k_is); (case a31 => k_is); (case l31 => k_is); (case c31 => k_is); (case k31 => k_is); (case a32 => k_is); (case l32 => k_is); (case c32 => k_is); (case k32 => k_is); (case a33 => k_is); (case l33 => k_is); (case c33 => k_is); (case k33 => k_is); (case a34 => k_is); (case l34 => k_is); (case c34 => k_is); (case k34 => k_is); (case a35 => k_is); (case l35 => k_is); (case c35 => k_is); (case k35 => k_is); (case a36 => k_is); (case l36 => k_is); (case c36 => k_is); (case k36 => k_is); (case a37 => k_is); (case l37 => k_is); (case c37 => k_is); (case k37 => k_is); (case z_int => k_is); (case z_abs => k_is); (case z_range => k_is); (case z_len => k_is); (case z_max => k_is); (case z_list => k_is); (case z_sorted => k_is); (case z_sum => k_is); (case z_min => k_is); (case z_isinstance => k_is); (case z_bool => k_is); (case z_set => k_is); (case ag_PLAIN => k_is); (case lg_PLAIN => k_is); (case tg_PLAIN => exact ⟨rfl, rfl, by decide, .cons ⟨_, rfl⟩ (.cons ⟨_, rfl⟩ (.cons ⟨_, rfl⟩ (.cons ⟨_, rfl⟩ (.cons ⟨_, rfl⟩ (.cons ⟨_, rfl⟩ (.cons ⟨_, rfl⟩ (.nil)))))))⟩)
end
