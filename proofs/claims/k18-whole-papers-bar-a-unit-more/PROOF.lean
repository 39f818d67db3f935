import PyProof.Rows.All
import Wide.All
import OpenK.AllK
import Wide.FinOn
import PySem.Challenge.RW_drawback_k18_whole_papers_bar_a_unit_mor
import HandS.ForMost
import HandS.ForExc
import HandS.IsInst
import HandS.Wide
import HandS.Conv
import HandS.Lambda
import HandS.Zip
import HandS.HeadHook4
import HandS.Deep
import HandS.ExcIs
import HandS.HeadHook1
import HandS.HeadWalk
import HandS.EndTab
import HandS.Head0
import HandS.Head1
import HandS.Head2
import HandS.HeadEnd
import HandS.TupAny
import HandS.More
import HandS.ExcValue
import KE.SortKeyHeap
import KE.KSortKey
import KE.KLam
import PyProof.Rows.SeqItemCall
import PyProof.Rows.CallKwBuiltin
import HandS.Style
import HandS.SortInts
import HandS.Set
import HandS.SetFor
import HandS.Strs
import HandS.Iter
import HandS.TupLe
import KE.GoesEnum
import KE.GoesMore
import HandS.SortRule
set_option Elab.async false
set_option linter.all false
set_option maxRecDepth 100000
set_option maxHeartbeats 8000000
namespace Fx
open PySem L2
/-- the tables of code objects that lambdas are put into -/
class Tabz where
  T : List (Addr × Str)
variable [Tabz]
/-- what is no table -/
def NT (o : HO) : Prop := ∀ ps, o ≠ .tbl ps
def NtH (H : Hp) : Prop := ∀ a ps, H a ≠ some (.tbl ps)
def Tb (H : Hp) : Prop := LamX.Tabs Tabz.T H
abbrev D := PyData
/-- a slot: unknown; data that nobody changes; a list that this frame alone changes -/
inductive Sl where
  | un
  | fz (d : D)
  | ow (ds : List D)
  | raw (v : V)
abbrev Rho := List Sl
mutual
/-- the value v is the data d, all of it tracked -/
inductive Rep (H : Hp) : V → D → Prop
  | non : Rep H .non .none
  | bl (b : Bool) : Rep H (.bl b) (.bool b)
  | int (i : Int) : Rep H (.int i) (.int i)
  | str (x : Str) : Rep H (.str x) (.str x)
  | lst {a : Addr} {xs : List V} {ds : List D} : H a = some (.lst xs) → RepA H xs ds → Rep H (.ref a) (.list ds)
  | tup {a : Addr} {xs : List V} {ds : List D} : H a = some (.tup xs) → RepA H xs ds → Rep H (.ref a) (.tuple ds)
inductive RepA (H : Hp) : List V → List D → Prop
  | nil : RepA H [] []
  | cons {v : V} {vs : List V} {d : D} {ds : List D} : Rep H v d → RepA H vs ds → RepA H (v :: vs) (d :: ds)
end
inductive Out (α : Type) where
  | ok (a : α)
  | exc (c : Str)
  | bad

def OwnA (σ : St) (ρ : Rho) (a : Addr) : Prop := ∃ (i : Nat) (ds : List D), ρ[i]? = some (.ow ds) ∧ σ[i]? = some (some (.ref a))
def SlOk (Hf H : Hp) : Option (Option V) → Sl → Prop
  | _, .un => True
  | some (some v), .fz d => Rep Hf v d
  | some (some w), .raw v => w = v
  | some (some (.ref p)), .ow ds => Hf p = none ∧ ∃ vs, H p = some (.lst vs) ∧ RepA Hf vs ds
  | _, _ => False
structure Rp (Hf H : Hp) (σ : St) (ρ : Rho) : Prop where
  sub : Same Hf H
  tb : Tb H
  nt : NtH Hf
  len : ρ.length ≤ σ.length
  sl : ∀ (i : Nat) (s : Sl), ρ[i]? = some s → SlOk Hf H σ[i]? s
  nd : ∀ (i j : Nat) (p : Addr) (ds es : List D), ρ[i]? = some (.ow ds) → ρ[j]? = some (.ow es) → σ[i]? = some (some (.ref p)) → σ[j]? = some (some (.ref p)) → i = j
def Keep (σ : St) (ρ : Rho) (H H' : Hp) : Prop := ∀ a o, H a = some o → NT o → ¬ OwnA σ ρ a → H' a = some o
structure Nxt (σ : St) (ρ : Rho) (Hf H : Hp) (σ' : St) (ρ' : Rho) (Hf' H' : Hp) : Prop where
  sub : Same Hf Hf'
  keep : Keep σ ρ H H'
  os : ∀ a, OwnA σ' ρ' a → OwnA σ ρ a ∨ H a = none
  dom : ∀ a, H' a = none → H a = none
  fr : ∀ a, Hf a = none → Hf' a = none ∨ H a = none ∨ OwnA σ ρ a
  rp : Rp Hf' H' σ' ρ'

section
variable {Hf Hf1 Hf2 H H1 H2 H' Hf' : Hp} {σ σ1 σ2 σ' : St} {ρ ρ1 ρ2 ρ' : Rho}
theorem Nxt.refl (r : Rp Hf H σ ρ) : Nxt σ ρ Hf H σ ρ Hf H := ⟨Same.refl _, fun _ _ h _ _ => h, fun _ h => .inl h, fun _ h => h, fun _ h => .inl h, r⟩
theorem Nxt.trans (a : Nxt σ ρ Hf H σ1 ρ1 Hf1 H1) (b : Nxt σ1 ρ1 Hf1 H1 σ2 ρ2 Hf2 H2) : Nxt σ ρ Hf H σ2 ρ2 Hf2 H2 where
  sub := a.sub.trans b.sub
  keep := fun x o h t n => b.keep x o (a.keep x o h t n) t fun z => (a.os x z).elim n fun q => by rw [h] at q; cases q
  os := fun x z => (b.os x z).elim (a.os x) fun q => .inr (a.dom x q)
  dom := fun x h => a.dom x (b.dom x h)
  fr := fun x h => (a.fr x h).elim (fun h1 => (b.fr x h1).elim .inl fun q => .inr (q.elim (fun z => .inl (a.dom x z)) fun z => (a.os x z).elim .inr .inl)) .inr
  rp := b.rp
mutual
theorem rep_same (e : Same Hf Hf') : ∀ {v : V} {d : D}, Rep Hf v d → Rep Hf' v d
  | _, _, .non => .non
  | _, _, .bl b => .bl b
  | _, _, .int i => .int i
  | _, _, .str x => .str x
  | _, _, .lst h a => .lst (e _ _ h) (repA_same e a)
  | _, _, .tup h a => .tup (e _ _ h) (repA_same e a)
theorem repA_same (e : Same Hf Hf') : ∀ {v : List V} {d : List D}, RepA Hf v d → RepA Hf' v d
  | _, _, .nil => .nil
  | _, _, .cons h a => .cons (rep_same e h) (repA_same e a)
end
theorem slok_un {o : Option (Option V)} : SlOk Hf H o .un := by
  cases o with
  | none => trivial
  | some o => cases o <;> trivial
theorem slok_fz {v : V} {d : D} : SlOk Hf H (some (some v)) (.fz d) ↔ Rep Hf v d := by cases v <;> exact Iff.rfl
theorem slok_fz' {o : Option (Option V)} {d : D} (h : SlOk Hf H o (.fz d)) : ∃ v, o = some (some v) ∧ Rep Hf v d := by
  match o, h with
  | some (some v), h => exact ⟨v, rfl, slok_fz.mp h⟩
  | none, h => exact h.elim
  | some none, h => exact h.elim
theorem slok_ow {o : Option (Option V)} {ds : List D} (h : SlOk Hf H o (.ow ds)) : ∃ p vs, o = some (some (.ref p)) ∧ Hf p = none ∧ H p = some (.lst vs) ∧ RepA Hf vs ds := by
  match o, h with
  | some (some (.ref p)), ⟨h1, vs, h2, h3⟩ => exact ⟨p, vs, rfl, h1, h2, h3⟩
  | none, h => exact h.elim
  | some none, h => exact h.elim
theorem slok_raw {w v : V} : SlOk Hf H (some (some w)) (.raw v) ↔ w = v := by cases w <;> exact Iff.rfl
theorem slok_raw' {o : Option (Option V)} {v : V} (h : SlOk Hf H o (.raw v)) : o = some (some v) := by
  match o, h with
  | some (some w), h => rw [slok_raw.mp h]
  | none, h => exact h.elim
  | some none, h => exact h.elim
theorem SlOk.mono (e : Same Hf Hf') : ∀ {o : Option (Option V)} {s : Sl}, (∀ p ds, o = some (some (.ref p)) → s = .ow ds → Hf' p = none ∧ H' p = H p) → SlOk Hf H o s → SlOk Hf' H' o s := by
  intro o s g h
  cases s with
  | un => exact slok_un
  | fz d =>
    obtain ⟨v, rfl, q⟩ := slok_fz' h
    exact slok_fz.mpr (rep_same e q)
  | raw v =>
    have q := slok_raw' h
    subst q
    exact slok_raw.mpr rfl
  | ow ds =>
    obtain ⟨p, vs, rfl, h1, h2, h3⟩ := slok_ow h
    obtain ⟨g1, g2⟩ := g p ds rfl rfl
    exact ⟨g1, vs, by rw [g2]; exact h2, repA_same e h3⟩
theorem Rp.own (r : Rp Hf H σ ρ) {a : Addr} (h : OwnA σ ρ a) : Hf a = none ∧ ∃ vs, H a = some (.lst vs) := by
  obtain ⟨i, ds, e1, e2⟩ := h
  have q := r.sl i _ e1
  rw [e2] at q
  obtain ⟨h1, vs, h2, _⟩ := q
  exact ⟨h1, vs, h2⟩
/-- more is known, and nothing owned has changed -/
theorem Rp.grow (r : Rp Hf H σ ρ) (e : Same Hf Hf') (e' : Same Hf' H') (t : Tb H') (nt : NtH Hf') (o : ∀ a, OwnA σ ρ a → Hf' a = none ∧ H' a = H a) : Rp Hf' H' σ ρ :=
  ⟨e', t, nt, r.len, fun i s h => (r.sl i s h).mono e fun p ds h1 h2 => o p ⟨i, ds, by rw [h, h2], h1⟩, r.nd⟩
theorem same_new {p : Addr} {o : HO} (h : H p = none) : Same H (upd H p o) := fun b x e => by
  rw [upd_ne (ne_of_none e h)]
  exact e
theorem same_upd2 {p : Addr} {o : HO} (e : Same Hf H) : Same (upd Hf p o) (upd H p o) := fun b x h => by
  by_cases q : b = p
  · subst q
    rw [upd_same] at h ⊢
    exact h
  · rw [upd_ne q] at h ⊢
    exact e _ _ h
theorem NtH.upd {p : Addr} {o : HO} (n : NtH Hf) (h : NT o) : NtH (upd Hf p o) := fun a ps z => by
  by_cases q : a = p
  · rw [q, upd_same] at z
    exact h ps (Option.some.inj z)
  · rw [upd_ne q] at z
    exact n a ps z
theorem Tb.upd {p : Addr} {o : HO} (t : Tb H) (h : H p = none) : Tb (L2.upd H p o) := LamX.Tabs.ext t fun b x e => by
  rw [upd_ne (ne_of_none e h)]
  exact e
theorem NT.lst {xs : List V} : NT (.lst xs) := fun _ z => by cases z
theorem NT.tup {xs : List V} : NT (.tup xs) := fun _ z => by cases z
/-- a list is changed: no table, no code object -/
theorem Tb.set {p : Addr} {vs ws : List V} (t : Tb H) (h : H p = some (.lst vs)) : Tb (L2.upd H p (.lst ws)) := fun x hx => by
  obtain ⟨ps, a1, a2, a3⟩ := t x hx
  have n1 : x.1 ≠ p := fun z => by rw [z, h] at a1; cases a1
  refine ⟨ps, by rw [upd_ne n1]; exact a1, a2, fun pos cv hc => ?_⟩
  obtain ⟨c, e1, e2⟩ := a3 pos cv hc
  refine ⟨c, e1, ?_⟩
  have n2 : c ≠ p := fun z => by
    rw [z, h] at e2
    unfold LamX.CodeO at e2
    cases e2
  rw [upd_ne n2]
  exact e2
/-- a new object that nobody will change -/
theorem Rp.new (r : Rp Hf H σ ρ) {p : Addr} {o : HO} (h : H p = none) (ho : NT o := by first | exact NT.lst | exact NT.tup) : Nxt σ ρ Hf H σ ρ (upd Hf p o) (upd H p o) := by
  have hf : Hf p = none := r.sub.free h
  refine ⟨same_new hf, fun a x e _ _ => same_new h a x e, fun _ z => .inl z, fun a => (same_new h).free, fun a z => by
    by_cases q : a = p
    · exact .inr (.inl (q ▸ h))
    · exact .inl (by rw [upd_ne q]; exact z), r.grow (same_new hf) (same_upd2 r.sub) (r.tb.upd h) (r.nt.upd ho) fun a z => ?_⟩
  obtain ⟨h1, vs, h2⟩ := r.own z
  have ne : a ≠ p := ne_of_none h2 h
  exact ⟨by rw [upd_ne ne]; exact h1, upd_ne ne⟩
/-- a new object on its own -/
theorem Rp.newO (r : Rp Hf H σ ρ) {p : Addr} {o : HO} (h : H p = none) : Nxt σ ρ Hf H σ ρ Hf (upd H p o) := by
  refine ⟨Same.refl _, fun a x e _ _ => same_new h a x e, fun _ z => .inl z, fun a => (same_new h).free, fun _ z => .inl z, r.grow (Same.refl _) (r.sub.trans (same_new h)) (r.tb.upd h) r.nt fun a z => ?_⟩
  obtain ⟨h1, vs, h2⟩ := r.own z
  exact ⟨h1, upd_ne (ne_of_none h2 h)⟩
end

/-! ### readings by data -/
section
variable {α β γ δ : Type}
/-- functions of the environment -/
inductive Res (α : Type) where
  | ok (p : α × Rho)
  | exc (c : Str) (ρ : Rho)
  | bad
abbrev M (α : Type) := Rho → Res α
@[simp] def bnd (f : M α) (k : α → M γ) : M γ := fun ρ => match f ρ with
  | .ok (a, ρ1) => k a ρ1
  | .exc c ρ1 => .exc c ρ1
  | .bad => .bad
@[simp] def ret (a : α) : M α := fun ρ => .ok (a, ρ)
@[simp] def opt (o : Option α) : M α := fun ρ => match o with
  | some a => .ok (a, ρ)
  | none => .bad
structure Gx where
  W : WX
  cA : Str → Addr
def AfG (G : Gx) (R : Hp → β → α → Prop) (σ : St) (ρ : Rho) (Hf H : Hp) (Q : β → Hp → Prop) : Res α → Prop
  | .ok (a, ρ') => ∀ x Hf' H', Nxt σ ρ Hf H σ ρ' Hf' H' → R Hf' x a → Q x H'
  | .exc c ρ' => ∀ Hf' H', Nxt σ ρ Hf H σ ρ' Hf' H' → G.W (.ref (G.cA c)) none σ H'
  | .bad => False
def tG (G : Gx) (R : Hp → β → α → Prop) (f : M α) : St → Hp → (β → Hp → Prop) → Prop := fun σ H Q =>
  ∃ Hf ρ, Rp Hf H σ ρ ∧ AfG G R σ ρ Hf H Q (f ρ)
variable {G : Gx} {R : Hp → β → α → Prop} {R1 : Hp → δ → γ → Prop} {σ : St} {ρ ρ1 : Rho} {Hf H Hf1 H1 : Hp} {Q Q' : β → Hp → Prop} {f : M α} {g : M γ} {k : γ → M α}
theorem AfG.mono (h : ∀ x H, Q x H → Q' x H) : ∀ {o : Res α}, AfG G R σ ρ Hf H Q o → AfG G R σ ρ Hf H Q' o
  | .ok (a, ρ'), q => fun x Hf' H' n r => h x H' (q x Hf' H' n r)
  | .exc c ρ', q => q
  | .bad, q => q
theorem tG.mono (h : ∀ x H, Q x H → Q' x H) (t : tG G R f σ H Q) : tG G R f σ H Q' := by
  obtain ⟨Hf, ρ, rp, q⟩ := t
  exact ⟨Hf, ρ, rp, q.mono h⟩
/-- from a later point -/
theorem AfG.later (n : Nxt σ ρ Hf H σ ρ1 Hf1 H1) : ∀ {o : Res α}, AfG G R σ ρ Hf H Q o → AfG G R σ ρ1 Hf1 H1 Q o
  | .ok (a, ρ'), q => fun x Hf' H' n' r => q x Hf' H' (n.trans n') r
  | .exc c ρ', q => fun Hf' H' n' => q Hf' H' (n.trans n')
  | .bad, q => q
theorem step (rp : Rp Hf H σ ρ) (af : AfG G R σ ρ Hf H Q (bnd g k ρ)) :
    tG G R1 g σ H fun y H1 => ∃ b Hf1 ρ1, Nxt σ ρ Hf H σ ρ1 Hf1 H1 ∧ R1 Hf1 y b ∧ AfG G R σ ρ1 Hf1 H1 Q (k b ρ1) := by
  refine ⟨Hf, ρ, rp, ?_⟩
  unfold bnd at af
  cases e : g ρ with
  | ok p =>
    obtain ⟨b, ρ1⟩ := p
    rw [e] at af
    exact fun x Hf1 H1 n r => ⟨b, Hf1, ρ1, n, r, af.later n⟩
  | exc c ρ1 => rw [e] at af; exact af
  | bad => rw [e] at af; exact af
/-- the end of a chain -/
theorem fin {a : α} (rp : Rp Hf H σ ρ) (af : AfG G R σ ρ Hf H Q (ret a ρ)) {x : β} (r : R Hf x a) : Q x H := af x Hf H (.refl rp) r
theorem finO {o : Option α} (rp : Rp Hf H σ ρ) (af : AfG G R σ ρ Hf H Q (opt o ρ)) : ∃ a, o = some a ∧ ∀ x, R Hf x a → Q x H := by
  cases o with
  | none => exact af.elim
  | some a => exact ⟨a, rfl, fun x r => af x Hf H (.refl rp) r⟩
end
/-- values, tests, arguments -/
abbrev tE (G : Gx) (f : M D) : TE := tG G Rep f
abbrev tT (G : Gx) (f : M Bool) : TT := tG G (fun _ b c => b = c) f
abbrev tA (G : Gx) (f : M (List D)) : TA := tG G RepA f
section
variable {X : Cx} {G : Gx} {e a b : Expr} {es : List Expr} {f g : M D} {pos : Pos}
theorem _root_.L2.PE.imp {t t' : TE} (h : PE X e t) (i : ∀ σ H Q, t' σ H Q → t σ H Q) : PE X e t' := ⟨fun pins s σ H Q I q => h.run pins s σ H Q I (i _ _ _ q)⟩
theorem _root_.L2.PT.imp {t t' : TT} (h : PT X e t) (i : ∀ σ H Q, t' σ H Q → t σ H Q) : PT X e t' := ⟨fun pins s σ H Q I q => h.run pins s σ H Q I (i _ _ _ q)⟩
theorem _root_.L2.PA.imp {t t' : TA} (h : PA X es t) (i : ∀ σ H Q, t' σ H Q → t σ H Q) : PA X es t' := ⟨fun ps pins s σ H Q I q => h.run ps pins s σ H Q I (i _ _ _ q)⟩
theorem _root_.L2.PS.imp {st : Stmt} {t t' : TS} (h : PS X st t) (i : ∀ D σ H, t' D σ H → t D σ H) : PS X st t' := ⟨fun pins s σ H D I q => h.run pins s σ H D I (i _ _ _ q)⟩
theorem _root_.L2.PSs.imp {st : List Stmt} {t t' : TS} (h : PSs X st t) (i : ∀ D σ H, t' D σ H → t D σ H) : PSs X st t' := ⟨fun pins s σ H D I q => h.run pins s σ H D I (i _ _ _ q)⟩

/-! ### names and constants -/
@[simp] def fVar (i : Nat) : M D := fun ρ => match ρ[i]? with
  | some (.fz d) => .ok (d, ρ)
  | some (.ow ds) => .ok (.list ds, ρ.set i (.fz (.list ds)))
  | _ => .bad
theorem own_set {σ : St} {ρ : Rho} {i : Nat} {s : Sl} {a : Addr} (hs : ∀ ds, s ≠ .ow ds) (h : OwnA σ (ρ.set i s) a) : OwnA σ ρ a ∧ ∀ ds, ρ[i]? = some (.ow ds) → σ[i]? ≠ some (some (.ref a)) ∨ ∃ j es, j ≠ i ∧ ρ[j]? = some (.ow es) ∧ σ[j]? = some (some (.ref a)) := by
  obtain ⟨j, ds, e1, e2⟩ := h
  rw [List.getElem?_set] at e1
  by_cases q : i = j
  · subst q
    rw [if_pos rfl] at e1
    split at e1
    · exact absurd (Option.some.inj e1) (hs ds)
    · cases e1
  · rw [if_neg q] at e1
    exact ⟨⟨j, ds, e1, e2⟩, fun _ _ => .inr ⟨j, ds, fun z => q z.symm, e1, e2⟩⟩
/-- an owned list is let go: from now on nobody changes it -/
theorem Rp.freeze {Hf H : Hp} {σ : St} {ρ : Rho} (r : Rp Hf H σ ρ) {i : Nat} {ds : List D} (h : ρ[i]? = some (.ow ds)) :
    ∃ p Hf', σ[i]? = some (some (.ref p)) ∧ Nxt σ ρ Hf H σ (ρ.set i (.fz (.list ds))) Hf' H ∧ Rep Hf' (.ref p) (.list ds) := by
  obtain ⟨p, vs, e, h1, h2, h3⟩ := slok_ow (r.sl i _ h)
  have e1 : Same Hf (upd Hf p (.lst vs)) := same_new h1
  have e2 : Same (upd Hf p (.lst vs)) H := fun b x q => by
    by_cases z : b = p
    · subst z
      rw [upd_same] at q
      rw [h2]
      exact q
    · rw [upd_ne z] at q
      exact r.sub _ _ q
  have dp : Rep (upd Hf p (.lst vs)) (.ref p) (.list ds) := .lst upd_same (repA_same e1 h3)
  have no : ∀ a, OwnA σ (ρ.set i (.fz (.list ds))) a → OwnA σ ρ a ∧ a ≠ p := fun a z => by
    obtain ⟨o1, o2⟩ := own_set (fun _ => Sl.noConfusion) z
    refine ⟨o1, fun q => ?_⟩
    subst q
    rcases o2 ds h with n | ⟨j, es, nj, j1, j2⟩
    · exact n e
    · exact nj (r.nd j i a es ds j1 h j2 e)
  refine ⟨p, _, e, ⟨e1, fun a x q _ _ => q, fun a z => .inl (no a z).1, fun _ z => z, fun a z => (by
    by_cases q : a = p
    · exact .inr (.inr ⟨i, ds, h, q ▸ e⟩)
    · exact .inl (by rw [upd_ne q]; exact z)), e2, r.tb, r.nt.upd NT.lst, by rw [List.length_set]; exact r.len, fun j s hj => ?_, fun j k q d1 d2 h4 h5 h6 h7 => ?_⟩, dp⟩
  · rw [List.getElem?_set] at hj
    by_cases q : i = j
    · subst q
      rw [if_pos rfl] at hj
      split at hj
      · cases hj
        rw [e]
        exact dp
      · cases hj
    · rw [if_neg q] at hj
      refine (r.sl j s hj).mono e1 fun x ds' h4 h5 => ⟨?_, rfl⟩
      subst h5
      have nx : x ≠ p := (no x ⟨j, ds', by rw [List.getElem?_set, if_neg q]; exact hj, h4⟩).2
      rw [upd_ne nx]
      exact (r.own ⟨j, ds', hj, h4⟩).1
  · rw [List.getElem?_set] at h4 h5
    split at h4
    · split at h4 <;> cases h4
    · split at h5
      · split at h5 <;> cases h5
      · exact r.nd j k q d1 d2 h4 h5 h6 h7
theorem fe_var (i : Nat) {x : Str} (hN : X.N[i]? = some x := by rfl) (hv : Vis X.env.scope x := by first | exact Or.inl rfl | exact Or.inr (Or.inl rfl) | exact Or.inr (Or.inr rfl)) (hd : (x == ("__debug__" : Str)) = false := by decide)
    (hcd : (x == ("__classdict__" : Str)) = false := by decide) : PE X (.Name x pos) (tE G (fVar i)) := by
  refine (pe_var hN hv hd hcd).imp fun σ H Q ⟨Hf, ρ, rp, af⟩ => ?_
  unfold fVar at af
  cases e : ρ[i]? with
  | none => rw [e] at af; exact af.elim
  | some s =>
    rw [e] at af
    cases s with
    | un => exact af.elim
    | raw v => exact af.elim
    | fz d =>
      obtain ⟨v, hv, q⟩ := slok_fz' (rp.sl i _ e)
      exact ⟨v, hv, af v Hf H (.refl rp) q⟩
    | ow ds =>
      obtain ⟨p, Hf', h1, n, q⟩ := rp.freeze e
      exact ⟨.ref p, h1, af _ _ _ n q⟩
def sc : D → Option V
  | .none => some .non
  | .bool b => some (.bl b)
  | .int i => some (.int i)
  | .str x => some (.str x)
  | _ => none
theorem rep_sc {H : Hp} {d : D} {v : V} (h : sc d = some v) : Rep H v d := by
  cases d <;> simp only [sc, Option.some.injEq, reduceCtorEq] at h <;> subst h <;> constructor
theorem sc_rep {H : Hp} {d : D} {v w : V} (h : sc d = some v) (q : Rep H w d) : w = v := by
  cases d <;> simp only [sc, Option.some.injEq, reduceCtorEq] at h <;> subst h <;> cases q <;> rfl
theorem fe_c {d : D} {v : V} (h : PE X e (tC v)) (hs : sc d = some v) : PE X e (tE G (ret d)) :=
  h.imp fun σ H Q ⟨Hf, ρ, rp, af⟩ => fin rp af (rep_sc hs)
theorem fe_int {i : Int} {j : Nat} : PE X (.Constant (.int i) j pos) (tE G (ret (.int i))) := fe_c pe_int rfl
theorem fe_str {x : Str} {j : Nat} : PE X (.Constant (.str x) j pos) (tE G (ret (.str x))) := fe_c pe_str rfl
theorem fe_bool {x : Bool} {j : Nat} : PE X (.Constant (.bool x) j pos) (tE G (ret (.bool x))) := fe_c pe_bl rfl
theorem fe_none {j : Nat} : PE X (.Constant .none j pos) (tE G (ret .none)) := fe_c pe_non rfl
theorem fe_globI {x : Str} {i : Int} {t : Tok} (hg : Gl X x) (hm : X.mg x = some (.int i t)) (hd : (x == ("__debug__" : Str)) = false := by decide) : PE X (.Name x pos) (tE G (ret (.int i))) := fe_c (pe_glob (v := .int i) hg hm ⟨_, rfl⟩ hd) rfl
theorem fe_globS {x : Str} {i : Str} {t : Tok} (hg : Gl X x) (hm : X.mg x = some (.str i t)) (hd : (x == ("__debug__" : Str)) = false := by decide) : PE X (.Name x pos) (tE G (ret (.str i))) := fe_c (pe_glob (v := .str i) hg hm ⟨_, rfl⟩ hd) rfl

/-! ### what stands at a name, looked at and left where it is -/
@[simp] def look (i : Nat) (ρ : Rho) : Option D := match ρ[i]? with
  | some (.fz d) => some d
  | some (.ow ds) => some (.list ds)
  | _ => none
/-- v is d: known for good, or a list of known things that stands so now -/
def R1 (Hf H : Hp) (v : V) (d : D) : Prop := Rep Hf v d ∨ ∃ p vs ds, v = .ref p ∧ d = .list ds ∧ H p = some (.lst vs) ∧ RepA Hf vs ds
section
variable {Hf H : Hp} {v : V} {d : D} {ds : List D} {σ : St} {ρ : Rho}
theorem R1.lst (sm : Same Hf H) (h : R1 Hf H v (.list ds)) : ∃ p vs, v = .ref p ∧ H p = some (.lst vs) ∧ RepA Hf vs ds := by
  rcases h with h | ⟨p, vs, es, e1, e2, h1, h2⟩
  · cases h with
    | lst h1 h2 => exact ⟨_, _, rfl, sm _ _ h1, h2⟩
  · cases e2
    exact ⟨p, vs, e1, h1, h2⟩
theorem R1.rep (h : R1 Hf H v d) (hn : ∀ ds, d ≠ .list ds) : Rep Hf v d := h.elim id fun ⟨_, _, ds, _, e, _⟩ => absurd e (hn ds)
theorem R1.tup (sm : Same Hf H) (h : R1 Hf H v (.tuple ds)) : ∃ p vs, v = .ref p ∧ H p = some (.tup vs) ∧ RepA Hf vs ds := by
  have q := h.rep fun _ z => nomatch z
  cases q with
  | tup h1 h2 => exact ⟨_, _, rfl, sm _ _ h1, h2⟩
theorem R1.int {i : Int} (h : R1 Hf H v (.int i)) : v = .int i := by
  have q := h.rep fun _ z => nomatch z
  cases q
  rfl
theorem R1.str {i : Str} (h : R1 Hf H v (.str i)) : v = .str i := by
  have q := h.rep fun _ z => nomatch z
  cases q
  rfl
theorem R1.bool {i : Bool} (h : R1 Hf H v (.bool i)) : v = .bl i := by
  have q := h.rep fun _ z => nomatch z
  cases q
  rfl
theorem R1.non (h : R1 Hf H v .none) : v = .non := by
  have q := h.rep fun _ z => nomatch z
  cases q
  rfl
theorem R1.full (sm : Same Hf H) (h : R1 Hf H v d) : Rep H v d := by
  rcases h with h | ⟨p, vs, ds, rfl, rfl, h1, h2⟩
  · exact rep_same sm h
  · exact .lst h1 (repA_same sm h2)
theorem look_R1 {i : Nat} (rp : Rp Hf H σ ρ) (h : look i ρ = some d) : ∃ v, σ[i]? = some (some v) ∧ R1 Hf H v d := by
  unfold look at h
  cases e : ρ[i]? with
  | none => rw [e] at h; cases h
  | some s =>
    rw [e] at h
    cases s with
    | un => cases h
    | raw v => cases h
    | fz d' =>
      cases h
      obtain ⟨v, h1, h2⟩ := slok_fz' (rp.sl i _ e)
      exact ⟨v, h1, .inl h2⟩
    | ow ds =>
      cases h
      obtain ⟨p, vs, h1, h2, h3, h4⟩ := slok_ow (rp.sl i _ e)
      exact ⟨_, h1, .inr ⟨p, vs, ds, rfl, rfl, h3, h4⟩⟩
end
/-- an operand: an expression, or a name that is looked at -/
inductive Opd where
  | e (f : M D)
  | v (i : Nat)
@[simp] def Opd.go : Opd → M D
  | .e f => f
  | .v i => fun ρ => match look i ρ with
    | some d => .ok (d, ρ)
    | none => .bad
@[simp] def Opd.at : Opd → D → Rho → Option D
  | .e _, d, _ => some d
  | .v i, _, ρ => look i ρ
def Opd.t (G : Gx) : Opd → TE
  | .e f => tE G f
  | .v i => tVar i
/-- what is held of an operand's value -/
def Opd.r : Opd → St → Hp → V → D → Prop
  | .e _, _, Hf, x, d => Rep Hf x d
  | .v i, σ, _, x, _ => σ[i]? = some (some x)
section
variable {α β : Type} {R : Hp → β → α → Prop} {σ : St} {ρ ρ1 ρ2 : Rho} {Hf H Hf1 H1 Hf2 H2 : Hp} {Q : β → Hp → Prop} {A B : Opd}
theorem Opd.keep (n : Nxt σ ρ1 Hf1 H1 σ ρ2 Hf2 H2) {v : V} {d : D} (h : A.r σ Hf1 v d) : A.r σ Hf2 v d := by
  cases A with
  | e f => exact rep_same n.sub h
  | v i => exact h
theorem Opd.end (rp : Rp Hf H σ ρ) {v : V} {d x : D} (h : A.r σ Hf v d) (e : A.at d ρ = some x) : R1 Hf H v x := by
  cases A with
  | e f => cases e; exact .inl h
  | v i =>
    obtain ⟨w, h1, h2⟩ := look_R1 rp e
    have h' : σ[i]? = some (some v) := h
    rw [h1] at h'
    cases h'
    exact h2
theorem stepO {k : D → M α} (rp : Rp Hf H σ ρ) (af : AfG G R σ ρ Hf H Q (bnd A.go k ρ)) :
    A.t G σ H fun y H1 => ∃ b Hf1 ρ1, Nxt σ ρ Hf H σ ρ1 Hf1 H1 ∧ A.r σ Hf1 y b ∧ AfG G R σ ρ1 Hf1 H1 Q (k b ρ1) := by
  cases A with
  | e f => exact step rp af
  | v i =>
    unfold bnd Opd.go at af
    dsimp only at af
    cases e : look i ρ with
    | none => rw [e] at af; exact af.elim
    | some d =>
      rw [e] at af
      obtain ⟨v, h1, _⟩ := look_R1 rp e
      exact ⟨v, h1, d, Hf, ρ, .refl rp, h1, af⟩
theorem Opd.run {Q Q' : VK} (t : A.t G σ H Q) (h : ∀ x H, Q x H → Q' x H) : A.t G σ H Q' := by
  cases A with
  | e f => exact tG.mono h t
  | v i => exact ⟨t.choose, t.choose_spec.1, h _ _ t.choose_spec.2⟩
end

/-! ### operators -/
/-- the operands' data at the end -/
@[simp] def fin2 {α : Type} (A B : Opd) (a b : D) (k : D → D → Option α) : M α := fun ρ => match A.at a ρ with
  | some x => (match B.at b ρ with
    | some y => opt (k x y) ρ
    | none => .bad)
  | none => .bad
@[simp] def fOp (o : D → D → Option D) (A B : Opd) : M D := fun ρ => (bnd A.go fun a => bnd B.go fun b => fin2 A B a b o) ρ
def RdO (r : R2) (o : D → D → Option D) : Prop := ∀ (Hf H : Hp) (x y : V) (a b d : D), Same Hf H → R1 Hf H x a → R1 Hf H y b → o a b = some d → ∃ v, Rep Hf v d ∧ ∀ Q : VK, Q v H → r x y H Q
theorem fin2_some {α β : Type} {R : Hp → β → α → Prop} {σ : St} {ρ : Rho} {Hf H : Hp} {Q : β → Hp → Prop} {A B : Opd} {a b : D} {k : D → D → Option α} (af : AfG G R σ ρ Hf H Q (fin2 A B a b k ρ)) : ∃ x y, A.at a ρ = some x ∧ B.at b ρ = some y ∧ AfG G R σ ρ Hf H Q (opt (k x y) ρ) := by
  unfold fin2 at af
  cases e1 : A.at a ρ with
  | none => rw [e1] at af; exact af.elim
  | some x =>
    rw [e1] at af
    cases e2 : B.at b ρ with
    | none => simp only [e2] at af; exact False.elim af
    | some y =>
      simp only [e2] at af
      exact ⟨x, y, rfl, rfl, af⟩
variable {A B : Opd}
theorem rd_op {r : R2} {o : D → D → Option D} (hr : RdO r o) (σ : St) (H : Hp) (Q : VK) (h : tE G (fOp o A B) σ H Q) : tOp r (A.t G) (B.t G) σ H Q := by
  obtain ⟨Hf, ρ, rp, af⟩ := h
  refine Opd.run (stepO rp af) fun x H1 ⟨a, Hf1, ρ1, n1, ra, af1⟩ => Opd.run (stepO n1.rp af1) fun y H2 ⟨b, Hf2, ρ2, n2, rb, af2⟩ => ?_
  obtain ⟨a', b', ea, eb, af3⟩ := fin2_some af2
  obtain ⟨d, e, k⟩ := finO n2.rp af3
  obtain ⟨v, dv, hq⟩ := hr Hf2 H2 x y a' b' d n2.rp.sub (Opd.end n2.rp (Opd.keep n2 ra) ea) (Opd.end n2.rp rb eb) e
  exact hq Q (k v dv)
theorem fe_op {r : R2} {o : D → D → Option D} {op : Operator} (ho : OpR X (binaryOp op) r) (hr : RdO r o) (ha : PE X a (A.t G)) (hb : PE X b (B.t G)) : PE X (.BinOp a op b pos) (tE G (fOp o A B)) :=
  (pe_op ho ha hb).imp (rd_op hr)
theorem fe_cmp {r : R2} {o : D → D → Option D} {op : CmpOp} (ho : OpR X (compareOp op) r) (hr : RdO r o) (ha : PE X a (A.t G)) (hb : PE X b (B.t G)) (hm : behindInMarks op b = false) : PE X (.Compare a [op] [b] pos) (tE G (fOp o A B)) :=
  (pe_cmpR ho ha hb hm).imp (rd_op hr)
@[simp] def oI (C : Int → Int → Bool) (g : Int → Int → D) : D → D → Option D
  | .int i, .int j => if C i j then some (g i j) else none
  | _, _ => none
@[simp] def oI0 (g : Int → Int → D) : D → D → Option D
  | .int i, .int j => some (g i j)
  | _, _ => none
theorem rd_I0 {g : Int → Int → D} {gv : Int → Int → V} (h : ∀ i j, sc (g i j) = some (gv i j)) : RdO (rI0 gv) (oI0 g) := by
  intro Hf H x y a b d _ ha hb e
  cases a <;> cases b <;> simp only [oI0, reduceCtorEq, Option.some.injEq] at e
  subst e
  exact ⟨_, rep_sc (h _ _), fun Q q => ⟨_, _, ha.int, hb.int, q⟩⟩
theorem rd_I {C : Int → Int → Bool} {C' : Int → Int → Prop} {g : Int → Int → D} {gv : Int → Int → V} (hC : ∀ i j, C i j = true → C' i j) (h : ∀ i j, sc (g i j) = some (gv i j)) : RdO (rI C' gv) (oI C g) := by
  intro Hf H x y a b d _ ha hb e
  cases a <;> cases b <;> simp only [oI, reduceCtorEq] at e
  split at e
  · rename_i hc
    cases e
    exact ⟨_, rep_sc (h _ _), fun Q q => ⟨_, _, ha.int, hb.int, hC _ _ hc, q⟩⟩
  · cases e
abbrev oAdd := oI0 fun i j => .int (i + j)
abbrev oSub := oI0 fun i j => .int (i - j)
def cMul (i j : Int) : Bool := decide (i.natAbs < 2 ^ 64 ∨ j.natAbs < 2 ^ 64)
abbrev oMul := oI cMul fun i j => .int (i * j)
def cDiv (i j : Int) : Bool := decide (0 < j ∧ j.natAbs.log2 < 9000)
abbrev oDiv := oI cDiv fun i j => .int (i / j)
def cMod (i j : Int) : Bool := decide (0 < j)
abbrev oMod := oI cMod fun i j => .int (i % j)
def cPow (i j : Int) : Bool := decide (0 ≤ j ∧ j ≤ 1000000 ∧ i.natAbs < 2 ^ 64)
abbrev oPow := oI cPow fun i j => .int (i ^ j.toNat)
abbrev oLt := oI0 fun i j => .bool (decide (i < j))
abbrev oLe := oI0 fun i j => .bool (decide (i ≤ j))
abbrev oGt := oI0 fun i j => .bool (decide (j < i))
abbrev oGe := oI0 fun i j => .bool (decide (j ≤ i))
theorem rd_add : RdO (rI0 fun i j => .int (i + j)) oAdd := rd_I0 fun _ _ => rfl
theorem rd_sub : RdO (rI0 fun i j => .int (i - j)) oSub := rd_I0 fun _ _ => rfl
theorem rd_lt : RdO (rI0 fun i j => .bl (decide (i < j))) oLt := rd_I0 fun _ _ => rfl
theorem rd_le : RdO (rI0 fun i j => .bl (decide (i ≤ j))) oLe := rd_I0 fun _ _ => rfl
theorem rd_gt : RdO (rI0 fun i j => .bl (decide (j < i))) oGt := rd_I0 fun _ _ => rfl
theorem rd_ge : RdO (rI0 fun i j => .bl (decide (j ≤ i))) oGe := rd_I0 fun _ _ => rfl
theorem fe_add (ha : PE X a (A.t G)) (hb : PE X b (B.t G)) : PE X (.BinOp a .Add b pos) (tE G (fOp oAdd A B)) := fe_op op_add rd_add ha hb
theorem fe_sub (ha : PE X a (A.t G)) (hb : PE X b (B.t G)) : PE X (.BinOp a .Sub b pos) (tE G (fOp oSub A B)) := fe_op op_sub rd_sub ha hb
theorem fe_mul (ha : PE X a (A.t G)) (hb : PE X b (B.t G)) : PE X (.BinOp a .Mult b pos) (tE G (fOp oMul A B)) := fe_op op_mul (rd_I (fun _ _ h => by unfold cMul at h; have q := of_decide_eq_true h; exact q.imp (fun z => ⟨by omega, by omega⟩) (fun z => ⟨by omega, by omega⟩)) fun _ _ => rfl) ha hb
theorem fe_div (ha : PE X a (A.t G)) (hb : PE X b (B.t G)) : PE X (.BinOp a .FloorDiv b pos) (tE G (fOp oDiv A B)) := fe_op op_fdivW (rd_I (fun _ _ h => by unfold cDiv at h; have q := of_decide_eq_true h; exact q) fun _ _ => rfl) ha hb
theorem fe_mod (ha : PE X a (A.t G)) (hb : PE X b (B.t G)) : PE X (.BinOp a .Mod b pos) (tE G (fOp oMod A B)) := fe_op op_mod (rd_I (fun _ _ h => of_decide_eq_true h) fun _ _ => rfl) ha hb
theorem fe_pow (ha : PE X a (A.t G)) (hb : PE X b (B.t G)) : PE X (.BinOp a .Pow b pos) (tE G (fOp oPow A B)) := fe_op op_pow (rd_I (fun _ _ h => by unfold cPow at h; have q := of_decide_eq_true h; exact q) fun _ _ => rfl) ha hb
/-- == of scalars -/
def oEq : D → D → Option D
  | .int i, .int j => some (.bool (decide (i = j)))
  | .str i, .str j => some (.bool (decide (i = j)))
  | .bool i, .bool j => some (.bool (decide (i = j)))
  | _, _ => none
def oNe : D → D → Option D
  | .int i, .int j => some (.bool (!decide (i = j)))
  | .str i, .str j => some (.bool (!decide (i = j)))
  | .bool i, .bool j => some (.bool (!decide (i = j)))
  | _, _ => none
theorem dec_congr {p q : Prop} [Decidable p] [Decidable q] (h : p ↔ q) : decide p = decide q := by
  by_cases hp : p
  · rw [decide_eq_true hp, decide_eq_true (h.mp hp)]
  · rw [decide_eq_false hp, decide_eq_false fun z => hp (h.mpr z)]
theorem rd_eq : RdO rEq oEq := by
  intro Hf H x y a b d _ ha hb e
  cases a <;> cases b <;> simp only [oEq, reduceCtorEq, Option.some.injEq] at e <;> subst e
  · cases ha.bool; cases hb.bool; exact ⟨_, .bl _, fun Q q => ⟨rfl, by rw [dec_congr ⟨V.bl.inj, congrArg V.bl⟩]; exact q⟩⟩
  · cases ha.int; cases hb.int; exact ⟨_, .bl _, fun Q q => ⟨rfl, by rw [dec_congr ⟨V.int.inj, congrArg V.int⟩]; exact q⟩⟩
  · cases ha.str; cases hb.str; exact ⟨_, .bl _, fun Q q => ⟨rfl, by rw [dec_congr ⟨V.str.inj, congrArg V.str⟩]; exact q⟩⟩
theorem rd_ne : RdO rNe oNe := by
  intro Hf H x y a b d _ ha hb e
  cases a <;> cases b <;> simp only [oNe, reduceCtorEq, Option.some.injEq] at e <;> subst e
  · cases ha.bool; cases hb.bool; exact ⟨_, .bl _, fun Q q => ⟨rfl, by rw [dec_congr ⟨V.bl.inj, congrArg V.bl⟩]; exact q⟩⟩
  · cases ha.int; cases hb.int; exact ⟨_, .bl _, fun Q q => ⟨rfl, by rw [dec_congr ⟨V.int.inj, congrArg V.int⟩]; exact q⟩⟩
  · cases ha.str; cases hb.str; exact ⟨_, .bl _, fun Q q => ⟨rfl, by rw [dec_congr ⟨V.str.inj, congrArg V.str⟩]; exact q⟩⟩
end
end Fx

namespace Fx
open PySem L2
variable [Tabz]
section
variable {X : Cx} {G : Gx} {e a b : Expr} {es : List Expr} {f g : M D} {fs : M (List D)} {pos : Pos}
/-! ### tests -/
@[simp] def asB : D → Option Bool
  | .bool b => some b
  | _ => none
@[simp] def fB (f : M D) : M Bool := fun ρ => (bnd f fun d => opt (asB d)) ρ
theorem asB_eq {d : D} {c : Bool} (h : asB d = some c) : d = .bool c := by
  cases d <;> simp only [asB, reduceCtorEq, Option.some.injEq] at h
  rw [h]
theorem rep_bool {H : Hp} {v : V} {c : Bool} (h : Rep H v (.bool c)) : v = .bl c := by cases h; rfl
theorem rep_int {H : Hp} {v : V} {c : Int} (h : Rep H v (.int c)) : v = .int c := by cases h; rfl
theorem rep_str {H : Hp} {v : V} {c : Str} (h : Rep H v (.str c)) : v = .str c := by cases h; rfl
theorem rd_B (σ : St) (H : Hp) (Q : Bool → Hp → Prop) (h : tT G (fB f) σ H Q) : tE G f σ H fun x H1 => ∃ c, x = .bl c ∧ Q c H1 := by
  obtain ⟨Hf, ρ, rp, af⟩ := h
  refine (step rp af).mono fun x H1 ⟨d, Hf1, ρ1, n1, ra, af1⟩ => ?_
  obtain ⟨c, e, k⟩ := finO n1.rp af1
  rw [asB_eq e] at ra
  exact ⟨c, rep_bool ra, k c rfl⟩
theorem ft_val (h : PE X e (tE G f)) (he : ∀ whole, isTrue e X.env whole = (do let v ← whole; standAt e.pos; holding [v] (truthy v)) := by intro _; rfl) : PT X e (tT G (fB f)) :=
  (pt_val h he).imp fun σ H Q h => rd_B σ H Q h
variable {A B : Opd}
theorem ft_cmp {op : CmpOp} {r : R2} {o : D → D → Option D} (ho : OpR X (compareOp op) r) (hr : RdO r o) (ha : PE X a (A.t G)) (hb : PE X b (B.t G)) (hm : behindInMarks op b = false) : PT X (.Compare a [op] [b] pos) (tT G (fB (fOp o A B))) :=
  (pt_cmpR ho ha hb hm).imp fun σ H Q h => rd_op (fun _ _ _ _ _ _ _ h1 h2 h3 h4 => hr _ _ _ _ _ _ _ h1 h2 h3 h4) σ H _ (rd_B σ H Q h)
@[simp] def tAndM (f g : M Bool) : M Bool := fun ρ => (bnd f fun c => if c = true then g else ret false) ρ
@[simp] def tOrM (f g : M Bool) : M Bool := fun ρ => (bnd f fun c => if c = true then ret true else g) ρ
@[simp] def tNotM (f : M Bool) : M Bool := fun ρ => (bnd f fun c => ret (!c)) ρ
variable {p q : M Bool} {rest : List Expr}
theorem fw_and1 (ha : PT X a (tT G p)) : PW X (.BoolOp .And [a] pos) (tT G p) := pw_and1 ha
theorem fw_or1 (ha : PT X a (tT G p)) : PW X (.BoolOp .Or [a] pos) (tT G p) := pw_or1 ha
theorem _root_.L2.PW.imp {t t' : TT} (h : PW X e t) (i : ∀ σ H Q, t' σ H Q → t σ H Q) : PW X e t' := ⟨fun w pins s σ H Q I q => h.run w pins s σ H Q I (i _ _ _ q)⟩
theorem fw_and (ha : PT X a (tT G p)) (hb : PW X (.BoolOp .And (b :: rest) pos) (tT G q)) : PW X (.BoolOp .And (a :: b :: rest) pos) (tT G (tAndM p q)) := by
  refine (pw_and ha hb).imp fun σ H Q ⟨Hf, ρ, rp, af⟩ => ?_
  refine (step rp af).mono fun x H1 ⟨d, Hf1, ρ1, n1, ra, af1⟩ => ?_
  subst ra
  cases x with
  | true => exact ⟨Hf1, ρ1, n1.rp, af1⟩
  | false => exact fin n1.rp af1 rfl
theorem fw_or (ha : PT X a (tT G p)) (hb : PW X (.BoolOp .Or (b :: rest) pos) (tT G q)) : PW X (.BoolOp .Or (a :: b :: rest) pos) (tT G (tOrM p q)) := by
  refine (pw_or ha hb).imp fun σ H Q ⟨Hf, ρ, rp, af⟩ => ?_
  refine (step rp af).mono fun x H1 ⟨d, Hf1, ρ1, n1, ra, af1⟩ => ?_
  subst ra
  cases x with
  | false => exact ⟨Hf1, ρ1, n1.rp, af1⟩
  | true => exact fin n1.rp af1 rfl
theorem ft_not (ha : PT X a (tT G p)) : PT X (.UnaryOp .Not a pos) (tT G (tNotM p)) := by
  refine (pt_not ha).imp fun σ H Q ⟨Hf, ρ, rp, af⟩ => ?_
  refine (step rp af).mono fun x H1 ⟨d, Hf1, ρ1, n1, ra, af1⟩ => ?_
  subst ra
  exact fin n1.rp af1 rfl
/-- .. as values -/
@[simp] def vAnd (f g : M D) : M D := fun ρ => (bnd f fun d => bnd (opt (asB d)) fun c => if c = true then g else ret (.bool false)) ρ
@[simp] def vOr (f g : M D) : M D := fun ρ => (bnd f fun d => bnd (opt (asB d)) fun c => if c = true then ret (.bool true) else g) ρ
@[simp] def vNot (f : M D) : M D := fun ρ => (bnd f fun d => bnd (opt (asB d)) fun c => ret (.bool (!c))) ρ
theorem optB {K : Bool → M D} {σ : St} {ρ : Rho} {Hf H : Hp} {Q : VK} {d : D} (af : AfG G Rep σ ρ Hf H Q (bnd (opt (asB d)) K ρ)) : ∃ c, d = .bool c ∧ AfG G Rep σ ρ Hf H Q (K c ρ) := by
  cases d <;> first | exact af.elim | exact ⟨_, rfl, af⟩
theorem fe_and (ha : PE X a (tE G f)) (hb : PE X (.BoolOp .And (b :: rest) pos) (tE G g)) : PE X (.BoolOp .And (a :: b :: rest) pos) (tE G (vAnd f g)) := by
  refine (pe_and ha hb).imp fun σ H Q ⟨Hf, ρ, rp, af⟩ => ?_
  refine (step rp af).mono fun x H1 ⟨d, Hf1, ρ1, n1, ra, af1⟩ => ?_
  obtain ⟨c, rfl, af2⟩ := optB af1
  refine ⟨c, rep_bool ra, ?_⟩
  cases c with
  | true => exact ⟨Hf1, ρ1, n1.rp, af2⟩
  | false => exact fin n1.rp af2 (.bl false)
theorem fe_or (ha : PE X a (tE G f)) (hb : PE X (.BoolOp .Or (b :: rest) pos) (tE G g)) : PE X (.BoolOp .Or (a :: b :: rest) pos) (tE G (vOr f g)) := by
  refine (pe_or ha hb).imp fun σ H Q ⟨Hf, ρ, rp, af⟩ => ?_
  refine (step rp af).mono fun x H1 ⟨d, Hf1, ρ1, n1, ra, af1⟩ => ?_
  obtain ⟨c, rfl, af2⟩ := optB af1
  refine ⟨c, rep_bool ra, ?_⟩
  cases c with
  | false => exact ⟨Hf1, ρ1, n1.rp, af2⟩
  | true => exact fin n1.rp af2 (.bl true)
theorem fe_one {op : BoolOp} (h : PE X a (tE G f)) : PE X (.BoolOp op [a] pos) (tE G f) := pe_one h
theorem fe_not (ha : PE X a (tE G f)) : PE X (.UnaryOp .Not a pos) (tE G (vNot f)) := by
  refine (pe_not ha).imp fun σ H Q ⟨Hf, ρ, rp, af⟩ => ?_
  refine (step rp af).mono fun x H1 ⟨d, Hf1, ρ1, n1, ra, af1⟩ => ?_
  obtain ⟨c, rfl, af2⟩ := optB af1
  exact ⟨c, rep_bool ra, fin n1.rp af2 (.bl _)⟩
@[simp] def fIf (p : M Bool) (f g : M D) : M D := fun ρ => (bnd p fun c => if c = true then f else g) ρ
theorem fe_if {c : Expr} (hc : PT X c (tT G p)) (ha : PE X a (tE G f)) (hb : PE X b (tE G g)) : PE X (.IfExp c a b pos) (tE G (fIf p f g)) := by
  refine (pe_ifExp hc ha hb).imp fun σ H Q ⟨Hf, ρ, rp, af⟩ => ?_
  refine (step rp af).mono fun x H1 ⟨d, Hf1, ρ1, n1, ra, af1⟩ => ?_
  subst ra
  cases x with
  | true => exact ⟨Hf1, ρ1, n1.rp, af1⟩
  | false => exact ⟨Hf1, ρ1, n1.rp, af1⟩
/-! ### one operand -/
@[simp] def fin1 {α : Type} (A : Opd) (a : D) (k : D → Option α) : M α := fun ρ => match A.at a ρ with
  | some x => opt (k x) ρ
  | none => .bad
theorem fin1_some {α β : Type} {R : Hp → β → α → Prop} {σ : St} {ρ : Rho} {Hf H : Hp} {Q : β → Hp → Prop} {a : D} {k : D → Option α} (af : AfG G R σ ρ Hf H Q (fin1 A a k ρ)) : ∃ x, A.at a ρ = some x ∧ AfG G R σ ρ Hf H Q (opt (k x) ρ) := by
  unfold fin1 at af
  cases e1 : A.at a ρ with
  | none => rw [e1] at af; exact af.elim
  | some x => rw [e1] at af; exact ⟨x, rfl, af⟩
@[simp] def fUn (o : D → Option D) (A : Opd) : M D := fun ρ => (bnd A.go fun a => fin1 A a o) ρ
def RdU (r : V → Hp → VK → Prop) (o : D → Option D) : Prop := ∀ (Hf H : Hp) (x : V) (a d : D), Same Hf H → R1 Hf H x a → o a = some d → ∃ v, Rep Hf v d ∧ ∀ Q : VK, Q v H → r x H Q
theorem rd_un {r : V → Hp → VK → Prop} {o : D → Option D} (hr : RdU r o) (σ : St) (H : Hp) (Q : VK) (h : tE G (fUn o A) σ H Q) : A.t G σ H fun x H1 => r x H1 Q := by
  obtain ⟨Hf, ρ, rp, af⟩ := h
  refine Opd.run (stepO rp af) fun x H1 ⟨a, Hf1, ρ1, n1, ra, af1⟩ => ?_
  obtain ⟨a', ea, af2⟩ := fin1_some af1
  obtain ⟨d, e, k⟩ := finO n1.rp af2
  obtain ⟨v, dv, hq⟩ := hr Hf1 H1 x a' d n1.rp.sub (Opd.end n1.rp ra ea) e
  exact hq Q (k v dv)
/-- is None, is not None -/
@[simp] def isN : D → Bool
  | .none => true
  | _ => false
@[simp] def oIsN (d : D) : Option D := some (.bool (isN d))
@[simp] def oNotN (d : D) : Option D := some (.bool (!isN d))
theorem r1_isN {Hf H : Hp} {x : V} {d : D} (h : R1 Hf H x d) : decide (x = .non) = isN d := by
  rcases h with h | ⟨p, vs, ds, rfl, rfl, _⟩
  · cases h <;> rfl
  · rfl
theorem rd_isN : RdU (fun x H Q => Q (.bl (decide (x = V.non))) H) oIsN := by
  intro Hf H x a d _ ha e
  cases e
  exact ⟨_, .bl _, fun Q q => by dsimp only; rw [r1_isN ha]; exact q⟩
theorem rd_notN : RdU (fun x H Q => Q (.bl (!decide (x = V.non))) H) oNotN := by
  intro Hf H x a d _ ha e
  cases e
  exact ⟨_, .bl _, fun Q q => by dsimp only; rw [r1_isN ha]; exact q⟩
theorem fe_isN {j : Nat} {p1 : Pos} (ha : PE X a (A.t G)) : PE X (.Compare a [.Is] [.Constant .none j p1] pos) (tE G (fUn oIsN A)) :=
  (pe_cmpR op_isN ha pe_non (nomark _)).imp fun σ H Q h => Opd.run (rd_un rd_isN σ H Q h) fun x H1 q => ⟨rfl, q⟩
theorem fe_notN {j : Nat} {p1 : Pos} (ha : PE X a (A.t G)) : PE X (.Compare a [.IsNot] [.Constant .none j p1] pos) (tE G (fUn oNotN A)) :=
  (pe_cmpR op_notN ha pe_non (nomark _)).imp fun σ H Q h => Opd.run (rd_un rd_notN σ H Q h) fun x H1 q => ⟨rfl, q⟩
theorem ft_isN {j : Nat} {p1 : Pos} (ha : PE X a (A.t G)) : PT X (.Compare a [.Is] [.Constant .none j p1] pos) (tT G (fB (fUn oIsN A))) :=
  (pt_cmpR op_isN ha pe_non (nomark _)).imp fun σ H Q h => Opd.run (rd_un rd_isN σ H _ (rd_B σ H Q h)) fun x H1 q => ⟨rfl, q⟩
theorem ft_notN {j : Nat} {p1 : Pos} (ha : PE X a (A.t G)) : PT X (.Compare a [.IsNot] [.Constant .none j p1] pos) (tT G (fB (fUn oNotN A))) :=
  (pt_cmpR op_notN ha pe_non (nomark _)).imp fun σ H Q h => Opd.run (rd_un rd_notN σ H _ (rd_B σ H Q h)) fun x H1 q => ⟨rfl, q⟩
/-- a minus ahead -/
@[simp] def oNeg : D → Option D
  | .int i => some (.int (-i))
  | _ => none
theorem rd_neg : RdU (rU fun i => .int (-i)) oNeg := by
  intro Hf H x a d _ ha e
  cases a <;> simp only [oNeg, reduceCtorEq, Option.some.injEq] at e
  subst e
  exact ⟨_, .int _, fun Q q => ⟨_, ha.int, q⟩⟩
theorem fe_neg (ha : PE X a (A.t G)) : PE X (.UnaryOp .USub a pos) (tE G (fUn oNeg A)) := (pe_un un_neg ha).imp (rd_un rd_neg)
/-! ### arguments, tuples, lists -/
@[simp] def fNil : M (List D) := fun ρ => (ret []) ρ
@[simp] def fCons (f : M D) (fs : M (List D)) : M (List D) := fun ρ => (bnd f fun d => bnd fs fun ds => ret (d :: ds)) ρ
theorem fa_nil : PA X [] (tA G fNil) := pa_nil.imp fun σ H Q ⟨Hf, ρ, rp, af⟩ => fin rp af .nil
theorem fa_cons (ha : PE X e (tE G f)) (hr : PA X es (tA G fs)) (hs : starEach (e :: es) X.env = (false, eval e X.env) :: starEach es X.env := by rfl) : PA X (e :: es) (tA G (fCons f fs)) := by
  refine (pa_cons ha hr hs).imp fun σ H Q ⟨Hf, ρ, rp, af⟩ => ?_
  refine (step rp af).mono fun x H1 ⟨d, Hf1, ρ1, n1, ra, af1⟩ => (step n1.rp af1).mono fun y H2 ⟨ds, Hf2, ρ2, n2, rb, af2⟩ => ?_
  exact fin n2.rp af2 (.cons (rep_same n2.sub ra) rb)
theorem repA_len {H : Hp} {vs : List V} {ds : List D} (h : RepA H vs ds) : vs.length = ds.length := by
  induction ds generalizing vs with
  | nil => cases h; rfl
  | cons d ds ih => cases h with | cons _ h => simp [ih h]
def small (n : Nat) : Bool := decide (n ≤ 100000)
theorem small_le {n : Nat} (h : small n = true) : n ≤ sizeLine := Nat.le_trans (of_decide_eq_true h) (by decide)
theorem small_lt {n : Nat} (h : small n = true) : n < sizeLine := Nat.lt_of_le_of_lt (of_decide_eq_true h) (by decide)
def mkT (ds : List D) : Option D := if small ds.length then some (.tuple ds) else none
@[simp] def fTup (fs : M (List D)) : M D := fun ρ => (bnd fs fun ds => opt (mkT ds)) ρ
/-- a new object at the end -/
theorem AfG.new {α β : Type} {R : Hp → β → α → Prop} {σ : St} {ρ : Rho} {Hf H : Hp} {Q : β → Hp → Prop} {a : α} (rp : Rp Hf H σ ρ) (af : AfG G R σ ρ Hf H Q (ret a ρ)) {p : Addr} {o : HO} (hp : H p = none) {x : β} (r : R (upd Hf p o) x a) (ho : NT o := by first | exact NT.lst | exact NT.tup) : Q x (upd H p o) := af x _ _ (rp.new hp ho) r
theorem fe_tup {k : Nat} (h : PA X es (tA G fs)) : PE X (.Tuple es k pos) (tE G (fTup fs)) := by
  refine (pe_tup h).imp fun σ H Q ⟨Hf, ρ, rp, af⟩ => ?_
  refine (step rp af).mono fun x H1 ⟨ds, Hf1, ρ1, n1, ra, af1⟩ => ?_
  unfold mkT at af1
  split at af1
  · rename_i hs
    refine ⟨by rw [repA_len ra]; exact small_le hs, fun p hp => ?_⟩
    exact AfG.new (R := Rep) (a := PyData.tuple ds) n1.rp af1 hp (Rep.tup upd_same (repA_same (same_new (n1.rp.sub.free hp)) ra))
  · exact af1.elim
/-! ### new lists -/
def AfL (G : Gx) (σ : St) (ρ : Rho) (Hf H : Hp) (Q : VK) : Res (List D) → Prop
  | .ok (ds, ρ') => ∀ p vs Hf' H', Nxt σ ρ Hf H σ ρ' Hf' H' → H p = none → Hf' p = none → ¬ OwnA σ ρ' p → H' p = some (.lst vs) → RepA Hf' vs ds → Q (.ref p) H'
  | .exc c ρ' => ∀ Hf' H', Nxt σ ρ Hf H σ ρ' Hf' H' → G.W (.ref (G.cA c)) none σ H'
  | .bad => False
def tL (G : Gx) (f : M (List D)) : TE := fun σ H Q => ∃ Hf ρ, Rp Hf H σ ρ ∧ AfL G σ ρ Hf H Q (f ρ)
theorem AfL.later {σ : St} {ρ ρ1 : Rho} {Hf H Hf1 H1 : Hp} {Q : VK} (n : Nxt σ ρ Hf H σ ρ1 Hf1 H1) : ∀ {o : Res (List D)}, AfL G σ ρ Hf H Q o → AfL G σ ρ1 Hf1 H1 Q o
  | .ok (a, ρ'), q => fun p vs Hf' H' n' hp h1 h2 h3 r => q p vs Hf' H' (n.trans n') (n.dom p hp) h1 h2 h3 r
  | .exc c ρ', q => fun Hf' H' n' => q Hf' H' (n.trans n')
  | .bad, q => q
theorem stepL {α γ : Type} {R1 : Hp → α → γ → Prop} {σ : St} {ρ : Rho} {Hf H : Hp} {Q : VK} {g : M γ} {k : γ → M (List D)} (rp : Rp Hf H σ ρ) (af : AfL G σ ρ Hf H Q (bnd g k ρ)) :
    tG G R1 g σ H fun y H1 => ∃ b Hf1 ρ1, Nxt σ ρ Hf H σ ρ1 Hf1 H1 ∧ R1 Hf1 y b ∧ AfL G σ ρ1 Hf1 H1 Q (k b ρ1) := by
  refine ⟨Hf, ρ, rp, ?_⟩
  unfold bnd at af
  cases e : g ρ with
  | ok p =>
    obtain ⟨b, ρ1⟩ := p
    rw [e] at af
    exact fun x Hf1 H1 n r => ⟨b, Hf1, ρ1, n, r, af.later n⟩
  | exc c ρ1 => rw [e] at af; exact af
  | bad => rw [e] at af; exact af
theorem Rp.notOwn {σ : St} {ρ : Rho} {Hf H : Hp} (rp : Rp Hf H σ ρ) {p : Addr} (hp : H p = none) : ¬ OwnA σ ρ p := fun z => by
  obtain ⟨_, vs, h⟩ := rp.own z
  rw [h] at hp
  cases hp
theorem finL {σ : St} {ρ : Rho} {Hf H : Hp} {Q : VK} {ds : List D} (rp : Rp Hf H σ ρ) (af : AfL G σ ρ Hf H Q (ret ds ρ)) {p : Addr} {vs : List V} (hp : H p = none) (r : RepA Hf vs ds) : Q (.ref p) (upd H p (.lst vs)) :=
  af p vs _ _ (rp.newO hp) hp (rp.sub.free hp) (rp.notOwn hp) upd_same r
@[simp] def fLst (f : M (List D)) : M D := fun ρ => (bnd f fun ds => ret (.list ds)) ρ
/-- a new list becomes data -/
theorem Nxt.take {σ : St} {ρ ρ0 : Rho} {Hf H Hf0 H0 : Hp} (n : Nxt σ ρ0 Hf0 H0 σ ρ Hf H) {p : Addr} {vs : List V} {ds : List D} (h0 : H0 p = none) (hp : Hf p = none) (no : ¬ OwnA σ ρ p) (h : H p = some (.lst vs)) (r : RepA Hf vs ds) : Nxt σ ρ0 Hf0 H0 σ ρ (upd Hf p (.lst vs)) H ∧ Rep (upd Hf p (.lst vs)) (.ref p) (.list ds) := by
  have e1 : Same Hf (upd Hf p (.lst vs)) := same_new hp
  have rp := n.rp
  refine ⟨⟨n.sub.trans e1, n.keep, n.os, n.dom, fun a z => (n.fr a z).elim (fun q => (by
    by_cases w : a = p
    · exact .inr (.inl (w ▸ h0))
    · exact .inl (by rw [upd_ne w]; exact q))) .inr, rp.grow e1 (fun b x q => ?_) rp.tb (rp.nt.upd NT.lst) fun a z => ⟨?_, rfl⟩⟩, .lst upd_same (repA_same e1 r)⟩
  · by_cases z : b = p
    · subst z
      rw [upd_same] at q
      rw [h]
      exact q
    · rw [upd_ne z] at q
      exact rp.sub _ _ q
  · have ne : a ≠ p := fun q => no (q ▸ z)
    rw [upd_ne ne]
    exact (rp.own z).1
theorem fe_ofL {f : M (List D)} (h : PE X e (tL G f)) : PE X e (tE G (fLst f)) := by
  refine h.imp fun σ H Q ⟨Hf, ρ, rp, af⟩ => ⟨Hf, ρ, rp, ?_⟩
  unfold fLst bnd at af
  cases e : f ρ with
  | ok x =>
    obtain ⟨ds, ρ1⟩ := x
    rw [e] at af
    intro p vs Hf' H' n hp h1 h2 h3 r
    obtain ⟨n2, r2⟩ := n.take hp h1 h2 h3 r
    exact af _ _ _ n2 r2
  | exc c ρ1 => rw [e] at af; exact af
  | bad => rw [e] at af; exact af
def mkL (ds : List D) : Option (List D) := if small ds.length then some ds else none
@[simp] def fLs (fs : M (List D)) : M (List D) := fun ρ => (bnd fs fun ds => opt (mkL ds)) ρ
theorem fl_lst (h : PA X es (tA G fs)) : PE X (.List es pos) (tL G (fLs fs)) := by
  refine (pe_lst h).imp fun σ H Q ⟨Hf, ρ, rp, af⟩ => ?_
  refine (stepL rp af).mono fun x H1 ⟨ds, Hf1, ρ1, n1, ra, af1⟩ => ?_
  unfold mkL at af1
  split at af1
  · rename_i hs
    exact ⟨by rw [repA_len ra]; exact small_le hs, fun p hp => finL n1.rp af1 hp ra⟩
  · exact af1.elim
end
end Fx

namespace Fx
open PySem L2
variable [Tabz]
section
variable {X : Cx} {G : Gx} {e a b : Expr} {es : List Expr} {f g : M D} {fs : M (List D)} {pos : Pos} {A B : Opd}
/-! ### subscripts -/
theorem repA_get {H : Hp} : ∀ {vs : List V} {ds : List D} {j : Nat} {d : D}, RepA H vs ds → ds[j]? = some d → ∃ v, vs[j]? = some v ∧ Rep H v d
  | _, _, _, _, .nil, e => by simp at e
  | _, _, 0, _, .cons h _, e => by
    have q := Option.some.inj e
    subst q
    exact ⟨_, rfl, h⟩
  | _, _, j + 1, d, .cons _ t, e => by
    obtain ⟨v, h1, h2⟩ := repA_get (j := j) (d := d) t e
    exact ⟨v, h1, h2⟩
theorem repA_back {H : Hp} : ∀ {vs : List V} {ds : List D} {j : Nat} {v : V}, RepA H vs ds → vs[j]? = some v → ∃ d, ds[j]? = some d ∧ Rep H v d
  | _, _, _, _, .nil, e => by simp at e
  | _, _, 0, _, .cons h _, e => by
    have q := Option.some.inj e
    subst q
    exact ⟨_, rfl, h⟩
  | _, _, j + 1, v, .cons _ t, e => by
    obtain ⟨d, h1, h2⟩ := repA_back (j := j) (v := v) t e
    exact ⟨d, h1, h2⟩
theorem repA_at {H : Hp} {vs : List V} {ds : List D} {i : Int} {d : D} (h : RepA H vs ds) (e : atI ds i = some d) : ∃ v, atI vs i = some v ∧ Rep H v d := by
  unfold atI at e ⊢
  rw [repA_len h]
  cases q : ixN ds.length i with
  | none => rw [q] at e; cases e
  | some j =>
    rw [q] at e
    exact repA_get (j := j) (d := d) h e
@[simp] def oIx : D → D → Option D
  | .list ds, .int i => atI ds i
  | .tuple ds, .int i => atI ds i
  | .str z, .int i => if small z.length then (atI z.cps.toList i).map fun c => .str ⟨#[c]⟩ else none
  | _, _ => none
theorem rd_ix {K : PySem.W.Frag} : RdO (rIx K) oIx := by
  intro Hf H x y a b d sm ha hb e
  cases a <;> cases b <;> simp only [oIx, reduceCtorEq] at e <;> cases hb.int
  · cases ha.str
    split at e
    · rename_i z i hs
      cases q : atI z.cps.toList i with
      | none => rw [q] at e; cases e
      | some c =>
        rw [q] at e
        cases e
        exact ⟨_, .str _, fun Q k => .inr (.inr ⟨_, _, _, rfl, rfl, small_le hs, q, k⟩)⟩
    · cases e
  · obtain ⟨p, vs, rfl, h1, h2⟩ := ha.lst sm
    obtain ⟨v, e1, r⟩ := repA_at h2 e
    exact ⟨v, r, fun Q q => .inl ⟨_, _, _, _, rfl, rfl, SqL.of h1, e1, q⟩⟩
  · obtain ⟨p, vs, rfl, h1, h2⟩ := ha.tup sm
    obtain ⟨v, e1, r⟩ := repA_at h2 e
    exact ⟨v, r, fun Q q => .inr (.inl ⟨_, _, _, _, rfl, rfl, SqT.of h1, e1, q⟩)⟩
theorem fe_ix (ha : PE X a (A.t G)) (hb : PE X b (B.t G)) (hs : PlainIx b := by exact fun _ _ => rfl) : PE X (.Subscript a b pos) (tE G (fOp oIx A B)) := (pe_ix ix_seq ha hb hs).imp (rd_op rd_ix)
/-! ### built-in functions: operands in a row -/
@[simp] def goAll : List Opd → M (List D)
  | [] => ret []
  | A :: As => bnd A.go fun a => bnd (goAll As) fun as => ret (a :: as)
@[simp] def atAll : List Opd → List D → Rho → Option (List D)
  | [], [], _ => some []
  | A :: As, a :: as, ρ => (match A.at a ρ with
    | some x => (atAll As as ρ).map (x :: ·)
    | none => none)
  | _, _, _ => none
def tAll (G : Gx) : List Opd → TA
  | [] => tNil
  | A :: As => tCons (A.t G) (tAll G As)
def rAll1 : List Opd → St → Hp → List V → List D → Prop
  | [], _, _, [], [] => True
  | A :: As, σ, Hf, v :: vs, d :: ds => A.r σ Hf v d ∧ rAll1 As σ Hf vs ds
  | _, _, _, _, _ => False
inductive R1A (Hf H : Hp) : List V → List D → Prop
  | nil : R1A Hf H [] []
  | cons {v : V} {vs : List V} {d : D} {ds : List D} : R1 Hf H v d → R1A Hf H vs ds → R1A Hf H (v :: vs) (d :: ds)
theorem rAll1_end {σ : St} {ρ : Rho} {Hf H : Hp} (rp : Rp Hf H σ ρ) : ∀ {As : List Opd} {vs : List V} {ds xs : List D}, rAll1 As σ Hf vs ds → atAll As ds ρ = some xs → R1A Hf H vs xs
  | [], [], [], xs, _, e => by cases e; exact .nil
  | A :: As, v :: vs, d :: ds, xs, h, e => by
    unfold atAll at e
    cases e1 : A.at d ρ with
    | none => rw [e1] at e; cases e
    | some x =>
      rw [e1] at e
      dsimp only at e
      cases e2 : atAll As ds ρ with
      | none => rw [e2] at e; cases e
      | some ys =>
        rw [e2] at e
        cases e
        exact .cons (Opd.end rp h.1 e1) (rAll1_end rp h.2 e2)
theorem bnd_assoc {α β γ : Type} {f : M α} {g : α → M β} {k : β → M γ} : bnd (bnd f g) k = bnd f fun a => bnd (g a) k := by
  funext ρ
  show (match (match f ρ with
    | .ok (a, ρ1) => g a ρ1
    | .exc c ρ1 => .exc c ρ1
    | .bad => .bad) with
    | .ok (a, ρ1) => k a ρ1
    | .exc c ρ1 => .exc c ρ1
    | .bad => .bad) = _
  unfold bnd
  cases f ρ <;> rfl
theorem tAll_mono {σ : St} {Q Q' : List V → Hp → Prop} (h : ∀ x H, Q x H → Q' x H) : ∀ {As : List Opd} {H : Hp}, tAll G As σ H Q → tAll G As σ H Q'
  | [], H, t => h _ _ t
  | A :: As, H, t => Opd.run (A := A) (Q := fun x H1 => tAll G As σ H1 fun xs H2 => Q (x :: xs) H2) t fun x H1 q => tAll_mono (Q := fun xs H2 => Q (x :: xs) H2) (Q' := fun xs H2 => Q' (x :: xs) H2) (fun ys H2 w => h _ _ w) q
theorem rAll1_keep {σ : St} {ρ1 ρ2 : Rho} {Hf1 H1 Hf2 H2 : Hp} (n : Nxt σ ρ1 Hf1 H1 σ ρ2 Hf2 H2) : ∀ {As : List Opd} {vs : List V} {ds : List D}, rAll1 As σ Hf1 vs ds → rAll1 As σ Hf2 vs ds
  | [], [], [], _ => True.intro
  | A :: As, v :: vs, d :: ds, h => ⟨Opd.keep n h.1, rAll1_keep n h.2⟩
/-- what comes behind the operands, whatever it is: P is told of the end -/
theorem all_run {α : Type} {σ : St} {P : Rho → Hp → Hp → Res α → Prop} (hl : ∀ {ρ ρ1 Hf H Hf1 H1 o}, Nxt σ ρ Hf H σ ρ1 Hf1 H1 → P ρ Hf H o → P ρ1 Hf1 H1 o)
    (he : ∀ {ρ Hf H} {A : Opd} {k : D → M α}, Rp Hf H σ ρ → P ρ Hf H (bnd A.go k ρ) → A.t G σ H fun y H1 => ∃ b Hf1 ρ1, Nxt σ ρ Hf H σ ρ1 Hf1 H1 ∧ A.r σ Hf1 y b ∧ P ρ1 Hf1 H1 (k b ρ1)) :
    ∀ {As : List Opd} {ρ : Rho} {Hf H : Hp} {k : List D → M α}, Rp Hf H σ ρ → P ρ Hf H (bnd (goAll As) k ρ) → tAll G As σ H fun ys H1 => ∃ bs Hf1 ρ1, Nxt σ ρ Hf H σ ρ1 Hf1 H1 ∧ rAll1 As σ Hf1 ys bs ∧ P ρ1 Hf1 H1 (k bs ρ1)
  | [], ρ, Hf, H, k, rp, af => ⟨[], Hf, ρ, .refl rp, True.intro, af⟩
  | A :: As, ρ, Hf, H, k, rp, af => by
    have e : bnd (goAll (A :: As)) k ρ = bnd A.go (fun a => bnd (goAll As) fun as => k (a :: as)) ρ := by
      show bnd (bnd A.go fun a => bnd (goAll As) fun as => ret (a :: as)) k ρ = _
      rw [bnd_assoc]
      congr 1
      funext a
      rw [bnd_assoc]
      rfl
    rw [e] at af
    refine Opd.run (he rp af) fun x H1 ⟨a, Hf1, ρ1, n1, ra, af1⟩ => tAll_mono ?_ (all_run (P := P) hl he n1.rp af1)
    rintro ys H2 ⟨bs, Hf2, ρ2, n2, rb, af2⟩
    exact ⟨a :: bs, Hf2, ρ2, n1.trans n2, ⟨Opd.keep n2 ra, rb⟩, af2⟩
theorem stepA {α β : Type} {R : Hp → β → α → Prop} {σ : St} {Q : β → Hp → Prop} {As : List Opd} {ρ : Rho} {Hf H : Hp} {k : List D → M α} (rp : Rp Hf H σ ρ) (af : AfG G R σ ρ Hf H Q (bnd (goAll As) k ρ)) :
    tAll G As σ H fun ys H1 => ∃ bs Hf1 ρ1, Nxt σ ρ Hf H σ ρ1 Hf1 H1 ∧ rAll1 As σ Hf1 ys bs ∧ AfG G R σ ρ1 Hf1 H1 Q (k bs ρ1) :=
  all_run (P := fun ρ Hf H o => AfG G R σ ρ Hf H Q o) (fun n q => q.later n) (fun rp q => stepO rp q) rp af
/-- the operands' data at the end -/
@[simp] def finA {α : Type} (As : List Opd) (as : List D) (k : List D → Option α) : M α := fun ρ => match atAll As as ρ with
  | some xs => opt (k xs) ρ
  | none => .bad
@[simp] def fCB (o : List D → Option D) (As : List Opd) : M D := fun ρ => (bnd (goAll As) fun as => finA As as o) ρ
def RdC (r : List V → Hp → VK → Prop) (o : List D → Option D) : Prop := ∀ (Hf H : Hp) (xs : List V) (as : List D) (d : D), Same Hf H → R1A Hf H xs as → o as = some d → ∃ v, Rep Hf v d ∧ ∀ Q : VK, Q v H → r xs H Q
theorem finA_some {α β : Type} {R : Hp → β → α → Prop} {σ : St} {ρ : Rho} {Hf H : Hp} {Q : β → Hp → Prop} {As : List Opd} {as : List D} {k : List D → Option α} (af : AfG G R σ ρ Hf H Q (finA As as k ρ)) : ∃ xs, atAll As as ρ = some xs ∧ AfG G R σ ρ Hf H Q (opt (k xs) ρ) := by
  unfold finA at af
  cases e1 : atAll As as ρ with
  | none => rw [e1] at af; exact af.elim
  | some x => rw [e1] at af; exact ⟨x, rfl, af⟩
variable {As : List Opd}
theorem rd_CB {r : List V → Hp → VK → Prop} {o : List D → Option D} (hr : RdC r o) (σ : St) (H : Hp) (Q : VK) (h : tE G (fCB o As) σ H Q) : tCB r (tAll G As) σ H Q := by
  obtain ⟨Hf, ρ, rp, af⟩ := h
  refine tAll_mono ?_ (stepA rp af)
  rintro xs H1 ⟨as, Hf1, ρ1, n1, ra, af1⟩
  obtain ⟨as', ea, af2⟩ := finA_some af1
  obtain ⟨d, e, k⟩ := finO n1.rp af2
  obtain ⟨v, dv, hq⟩ := hr Hf1 H1 xs as' d n1.rp.sub (rAll1_end n1.rp ra ea) e
  exact hq Q (k v dv)
theorem fe_callB {r : List V → Hp → VK → Prop} {o : List D → Option D} {x : Str} {p : Pos} {id : String} (hc : CallR X (.builtin id) r) (hr : RdC r o) (hg : Gl X x) (hm : X.mg x = none) (hv : bootBuiltins x = some (.builtin id)) (ha : PA X (e :: es) (tAll G As)) (hn : x ≠ "__name__" := by decide) (hdb : (x == ("__debug__" : Str)) = false := by decide)
    (he : starEach (e :: es) X.env = (false, eval e X.env) :: starEach es X.env := by rfl) (hpl : (backTo pos (starEach es X.env)).any (·.1) = false := by rfl) : PE X (.Call (.Name x p) (e :: es) [] pos) (tE G (fCB o As)) := (pe_callB hc hg hm hv ha hn hdb he hpl).imp (rd_CB hr)
theorem fe_callTy {r : List V → Hp → VK → Prop} {o : List D → Option D} {x : Str} {p : Pos} {T : String} (hc : CallR X (.type T) r) (hr : RdC r o) (hg : Gl X x) (hm : X.mg x = none) (hv : bootBuiltins x = some (.type T)) (ha : PA X (e :: es) (tAll G As)) (hn : x ≠ "__name__" := by decide) (hdb : (x == ("__debug__" : Str)) = false := by decide)
    (he : starEach (e :: es) X.env = (false, eval e X.env) :: starEach es X.env := by rfl) (hpl : (backTo pos (starEach es X.env)).any (·.1) = false := by rfl) : PE X (.Call (.Name x p) (e :: es) [] pos) (tE G (fCB o As)) := (pe_callTy hc hg hm hv ha hn hdb he hpl).imp (rd_CB hr)
@[simp] def oLen : List D → Option D
  | [.list ds] => some (.int ds.length)
  | [.tuple ds] => some (.int ds.length)
  | [.str z] => if small z.length then some (.int z.length) else none
  | _ => none
theorem rd_len {K : PySem.W.Frag} : RdC (fun xs H Q => ∃ x n, xs = [x] ∧ LenV K x H n ∧ Q (.int n) H) oLen := by
  intro Hf H xs as d sm ra e
  unfold oLen at e
  split at e
  · cases e
    cases ra with
    | cons h t => cases t; obtain ⟨p, vs, rfl, h1, h2⟩ := h.lst sm; exact ⟨_, .int _, fun Q q => ⟨_, _, rfl, .inl ⟨_, SqL.of h1, (repA_len h2).symm⟩, q⟩⟩
  · cases e
    cases ra with
    | cons h t => cases t; obtain ⟨p, vs, rfl, h1, h2⟩ := h.tup sm; exact ⟨_, .int _, fun Q q => ⟨_, _, rfl, .inr ⟨_, SqT.of h1, (repA_len h2).symm⟩, q⟩⟩
  · split at e
    · rename_i hs
      cases e
      cases ra with
      | cons h t => cases t; cases h.str; exact ⟨_, .int _, fun Q q => ⟨_, _, rfl, ⟨small_le hs, rfl⟩, q⟩⟩
    · cases e
  · cases e
theorem fe_len {p : Pos} (hg : Gl X "len") (hm : X.mg "len" = none) (ha : PA X [e] (tAll G As)) (he : starEach [e] X.env = (false, eval e X.env) :: starEach [] X.env := by rfl) (hpl : (backTo pos (starEach [] X.env)).any (·.1) = false := by rfl) : PE X (.Call (.Name "len" p) [e] [] pos) (tE G (fCB oLen As)) :=
  fe_callB call_len rd_len hg hm PySem.boot_len ha (by decide) (by decide) he hpl
@[simp] def oMax2 : List D → Option D
  | [.int i, .int j] => some (.int (if j > i then j else i))
  | _ => none
@[simp] def oMin2 : List D → Option D
  | [.int i, .int j] => some (.int (if j < i then j else i))
  | _ => none
theorem rd_max2 : RdC (fun xs H Q => ∃ i j, xs = [.int i, .int j] ∧ Q (.int (if j > i then j else i)) H) oMax2 := by
  intro Hf H xs as d sm ra e
  match as, ra, e with
  | [.int i, .int j], .cons h1 (.cons h2 .nil), e =>
    cases e; cases h1.int; cases h2.int
    exact ⟨_, .int _, fun Q q => ⟨_, _, rfl, q⟩⟩
theorem rd_min2 : RdC (fun xs H Q => ∃ i j, xs = [.int i, .int j] ∧ Q (.int (if j < i then j else i)) H) oMin2 := by
  intro Hf H xs as d sm ra e
  match as, ra, e with
  | [.int i, .int j], .cons h1 (.cons h2 .nil), e =>
    cases e; cases h1.int; cases h2.int
    exact ⟨_, .int _, fun Q q => ⟨_, _, rfl, q⟩⟩
def asInts : List D → Option (List Int)
  | [] => some []
  | .int i :: r => (asInts r).map (i :: ·)
  | _ => none
def asBools : List D → Option (List Bool)
  | [] => some []
  | .bool i :: r => (asBools r).map (i :: ·)
  | _ => none
theorem asInts_rep {H : Hp} : ∀ {vs : List V} {ds : List D} {ns : List Int}, RepA H vs ds → asInts ds = some ns → vs = ns.map V.int
  | _, [], _, .nil, e => by cases e; rfl
  | _, .int i :: r, ns, .cons h t, e => by
    simp only [asInts] at e
    cases q : asInts r with
    | none => rw [q] at e; cases e
    | some ms =>
      rw [q] at e
      cases e
      cases h
      rw [asInts_rep t q]
      rfl
theorem asBools_rep {H : Hp} : ∀ {vs : List V} {ds : List D} {ns : List Bool}, RepA H vs ds → asBools ds = some ns → vs = ns.map V.bl
  | _, [], _, .nil, e => by cases e; rfl
  | _, .bool i :: r, ns, .cons h t, e => by
    simp only [asBools] at e
    cases q : asBools r with
    | none => rw [q] at e; cases e
    | some ms =>
      rw [q] at e
      cases e
      cases h
      rw [asBools_rep t q]
      rfl
@[simp] def oSum : List D → Option D
  | [.list ds] => (asInts ds).map fun ns => .int ns.sum
  | _ => none
theorem rd_sum {K : PySem.W.Frag} : RdC (rSum K) oSum := by
  intro Hf H xs as d sm ra e
  match as, ra, e with
  | [.list ds], .cons h1 .nil, e =>
    simp only [oSum] at e
    cases q : asInts ds with
    | none => rw [q] at e; cases e
    | some ns =>
      rw [q] at e; cases e
      obtain ⟨p, vs, rfl, h2, h3⟩ := h1.lst sm
      exact ⟨_, .int _, fun Q k => ⟨_, ns, rfl, by rw [← asInts_rep h3 q]; exact SqL.of h2, k⟩⟩
@[simp] def oAll : List D → Option D
  | [.list ds] => (asBools ds).map fun ns => .bool (ns.all id)
  | _ => none
@[simp] def oAny : List D → Option D
  | [.list ds] => (asBools ds).map fun ns => .bool (ns.any id)
  | _ => none
theorem rd_all {K : PySem.W.Frag} : RdC (rAll K) oAll := by
  intro Hf H xs as d sm ra e
  match as, ra, e with
  | [.list ds], .cons h1 .nil, e =>
    simp only [oAll] at e
    cases q : asBools ds with
    | none => rw [q] at e; cases e
    | some ns =>
      rw [q] at e; cases e
      obtain ⟨p, vs, rfl, h2, h3⟩ := h1.lst sm
      exact ⟨_, .bl _, fun Q k => ⟨_, ns, rfl, by rw [← asBools_rep h3 q]; exact SqL.of h2, k⟩⟩
theorem rd_any {K : PySem.W.Frag} : RdC (rAny K) oAny := by
  intro Hf H xs as d sm ra e
  match as, ra, e with
  | [.list ds], .cons h1 .nil, e =>
    simp only [oAny] at e
    cases q : asBools ds with
    | none => rw [q] at e; cases e
    | some ns =>
      rw [q] at e; cases e
      obtain ⟨p, vs, rfl, h2, h3⟩ := h1.lst sm
      exact ⟨_, .bl _, fun Q k => ⟨_, ns, rfl, by rw [← asBools_rep h3 q]; exact SqL.of h2, k⟩⟩
theorem fe_max2 {p : Pos} (hc : X.calm = true) (hg : Gl X "max") (hm : X.mg "max" = none) (ha : PA X (e :: es) (tAll G As)) (he : starEach (e :: es) X.env = (false, eval e X.env) :: starEach es X.env := by rfl) (hpl : (backTo pos (starEach es X.env)).any (·.1) = false := by rfl) : PE X (.Call (.Name "max" p) (e :: es) [] pos) (tE G (fCB oMax2 As)) := fe_callB (call_max2 hc) rd_max2 hg hm (by decide +kernel) ha (by decide) (by decide) he hpl
theorem fe_min2 {p : Pos} (hc : X.calm = true) (hg : Gl X "min") (hm : X.mg "min" = none) (ha : PA X (e :: es) (tAll G As)) (he : starEach (e :: es) X.env = (false, eval e X.env) :: starEach es X.env := by rfl) (hpl : (backTo pos (starEach es X.env)).any (·.1) = false := by rfl) : PE X (.Call (.Name "min" p) (e :: es) [] pos) (tE G (fCB oMin2 As)) := fe_callB (call_min2 hc) rd_min2 hg hm (by decide +kernel) ha (by decide) (by decide) he hpl
theorem fe_sum {p : Pos} (hc : X.calm = true) (hg : Gl X "sum") (hm : X.mg "sum" = none) (ha : PA X (e :: es) (tAll G As)) (he : starEach (e :: es) X.env = (false, eval e X.env) :: starEach es X.env := by rfl) (hpl : (backTo pos (starEach es X.env)).any (·.1) = false := by rfl) : PE X (.Call (.Name "sum" p) (e :: es) [] pos) (tE G (fCB oSum As)) := fe_callB (cr_sum hc) rd_sum hg hm (by decide +kernel) ha (by decide) (by decide) he hpl
theorem fe_all {p : Pos} (hc : X.calm = true) (hg : Gl X "all") (hm : X.mg "all" = none) (ha : PA X (e :: es) (tAll G As)) (he : starEach (e :: es) X.env = (false, eval e X.env) :: starEach es X.env := by rfl) (hpl : (backTo pos (starEach es X.env)).any (·.1) = false := by rfl) : PE X (.Call (.Name "all" p) (e :: es) [] pos) (tE G (fCB oAll As)) := fe_callB (cr_all hc) rd_all hg hm (by decide +kernel) ha (by decide) (by decide) he hpl
theorem fe_any {p : Pos} (hc : X.calm = true) (hg : Gl X "any") (hm : X.mg "any" = none) (ha : PA X (e :: es) (tAll G As)) (he : starEach (e :: es) X.env = (false, eval e X.env) :: starEach es X.env := by rfl) (hpl : (backTo pos (starEach es X.env)).any (·.1) = false := by rfl) : PE X (.Call (.Name "any" p) (e :: es) [] pos) (tE G (fCB oAny As)) := fe_callB (cr_any hc) rd_any hg hm (by decide +kernel) ha (by decide) (by decide) he hpl
end
end Fx

namespace Fx
open PySem L2
variable [Tabz]
section
variable {X : Cx} {G : Gx} {e a b : Expr} {es : List Expr} {f g : M D} {fs : M (List D)} {pos : Pos} {A B : Opd} {As : List Opd}
/-! ### answers that may be a new tuple -/
inductive Ext (Hf H : Hp) : Hp → Hp → Prop
  | same : Ext Hf H Hf H
  | new {p : Addr} {o : HO} (h : H p = none) (ho : NT o := by first | exact NT.lst | exact NT.tup) : Ext Hf H (upd Hf p o) (upd H p o)
theorem Rp.ext {σ : St} {ρ : Rho} {Hf H Hf' H' : Hp} (rp : Rp Hf H σ ρ) (x : Ext Hf H Hf' H') : Nxt σ ρ Hf H σ ρ Hf' H' := by
  cases x with
  | same => exact .refl rp
  | new h ho => exact rp.new h ho
def RdX (r : List V → Hp → VK → Prop) (o : List D → Option D) : Prop := ∀ (Hf H : Hp) (xs : List V) (as : List D) (d : D), Same Hf H → R1A Hf H xs as → o as = some d → ∀ Q : VK, (∀ v Hf' H', Ext Hf H Hf' H' → Rep Hf' v d → Q v H') → r xs H Q
theorem rd_CX {r : List V → Hp → VK → Prop} {o : List D → Option D} (hr : RdX r o) (σ : St) (H : Hp) (Q : VK) (h : tE G (fCB o As) σ H Q) : tCB r (tAll G As) σ H Q := by
  obtain ⟨Hf, ρ, rp, af⟩ := h
  refine tAll_mono ?_ (stepA rp af)
  rintro xs H1 ⟨as, Hf1, ρ1, n1, ra, af1⟩
  obtain ⟨as', ea, af2⟩ := finA_some af1
  unfold opt at af2
  cases e : o as' with
  | none => rw [e] at af2; exact af2.elim
  | some d =>
    rw [e] at af2
    exact hr Hf1 H1 xs as' d n1.rp.sub (rAll1_end n1.rp ra ea) e Q fun v Hf' H' z rv => af2 v Hf' H' (n1.rp.ext z) rv
theorem fe_callTyX {r : List V → Hp → VK → Prop} {o : List D → Option D} {x : Str} {p : Pos} {T : String} (hc : CallR X (.type T) r) (hr : RdX r o) (hg : Gl X x) (hm : X.mg x = none) (hv : bootBuiltins x = some (.type T)) (ha : PA X (e :: es) (tAll G As)) (hn : x ≠ "__name__" := by decide) (hdb : (x == ("__debug__" : Str)) = false := by decide)
    (he : starEach (e :: es) X.env = (false, eval e X.env) :: starEach es X.env := by rfl) (hpl : (backTo pos (starEach es X.env)).any (·.1) = false := by rfl) : PE X (.Call (.Name x p) (e :: es) [] pos) (tE G (fCB o As)) := (pe_callTy hc hg hm hv ha hn hdb he hpl).imp (rd_CX hr)
@[simp] def oTuple : List D → Option D
  | [.list ds] => some (.tuple ds)
  | [.tuple ds] => some (.tuple ds)
  | _ => none
theorem rd_tuple {K : PySem.W.Frag} : RdX (fun xs H Q => ∃ p ys, xs = [.ref p] ∧ ((SqL K H p ys ∧ ∀ l, H l = none → Q (.ref l) (upd H l (.tup ys))) ∨ (SqT K H p ys ∧ Q (.ref p) H))) oTuple := by
  intro Hf H xs as d sm ra e Q q
  match as, ra, e with
  | [.list ds], .cons h1 .nil, e =>
    cases e
    obtain ⟨p, vs, rfl, h2, h3⟩ := h1.lst sm
    exact ⟨_, _, rfl, .inl ⟨SqL.of h2, fun l hl => q _ _ _ (.new hl) (.tup upd_same (repA_same (same_new (sm.free hl)) h3))⟩⟩
  | [.tuple ds], .cons h1 .nil, e =>
    cases e
    have h4 := h1.rep fun _ z => nomatch z
    obtain ⟨p, vs, rfl, h2, h3⟩ := h1.tup sm
    exact ⟨_, _, rfl, .inr ⟨SqT.of h2, q _ _ _ .same h4⟩⟩
theorem fe_tuple {p : Pos} (hg : Gl X "tuple") (hm : X.mg "tuple" = none) (ha : PA X (e :: es) (tAll G As)) (he : starEach (e :: es) X.env = (false, eval e X.env) :: starEach es X.env := by rfl) (hpl : (backTo pos (starEach es X.env)).any (·.1) = false := by rfl) : PE X (.Call (.Name "tuple" p) (e :: es) [] pos) (tE G (fCB oTuple As)) := fe_callTyX call_tuple_of rd_tuple hg hm (by decide +kernel) ha (by decide) (by decide) he hpl
/-! ### new lists by calls and operators -/
theorem stepOL {σ : St} {ρ : Rho} {Hf H : Hp} {Q : VK} {k : D → M (List D)} (rp : Rp Hf H σ ρ) (af : AfL G σ ρ Hf H Q (bnd A.go k ρ)) :
    A.t G σ H fun y H1 => ∃ b Hf1 ρ1, Nxt σ ρ Hf H σ ρ1 Hf1 H1 ∧ A.r σ Hf1 y b ∧ AfL G σ ρ1 Hf1 H1 Q (k b ρ1) := by
  cases A with
  | e f => exact stepL rp af
  | v i =>
    unfold bnd Opd.go at af
    dsimp only at af
    cases e : look i ρ with
    | none => rw [e] at af; exact af.elim
    | some d =>
      rw [e] at af
      obtain ⟨v, h1, _⟩ := look_R1 rp e
      exact ⟨v, h1, d, Hf, ρ, .refl rp, h1, af⟩
theorem stepAL {σ : St} {Q : VK} {As : List Opd} {ρ : Rho} {Hf H : Hp} {k : List D → M (List D)} (rp : Rp Hf H σ ρ) (af : AfL G σ ρ Hf H Q (bnd (goAll As) k ρ)) :
    tAll G As σ H fun ys H1 => ∃ bs Hf1 ρ1, Nxt σ ρ Hf H σ ρ1 Hf1 H1 ∧ rAll1 As σ Hf1 ys bs ∧ AfL G σ ρ1 Hf1 H1 Q (k bs ρ1) :=
  all_run (P := fun ρ Hf H o => AfL G σ ρ Hf H Q o) (fun n q => q.later n) (fun rp q => stepOL rp q) rp af
theorem finOL {σ : St} {ρ : Rho} {Hf H : Hp} {Q : VK} {o : Option (List D)} (rp : Rp Hf H σ ρ) (af : AfL G σ ρ Hf H Q (opt o ρ)) : ∃ ds, o = some ds ∧ ∀ p vs, H p = none → RepA Hf vs ds → Q (.ref p) (upd H p (.lst vs)) := by
  cases o with
  | none => exact af.elim
  | some ds => exact ⟨ds, rfl, fun p vs hp r => finL rp af hp r⟩
theorem finA_someL {σ : St} {ρ : Rho} {Hf H : Hp} {Q : VK} {as : List D} {k : List D → Option (List D)} (af : AfL G σ ρ Hf H Q (finA As as k ρ)) : ∃ xs, atAll As as ρ = some xs ∧ AfL G σ ρ Hf H Q (opt (k xs) ρ) := by
  unfold finA at af
  cases e1 : atAll As as ρ with
  | none => rw [e1] at af; exact af.elim
  | some x => rw [e1] at af; exact ⟨x, rfl, af⟩
theorem fin2_someL {σ : St} {ρ : Rho} {Hf H : Hp} {Q : VK} {a b : D} {k : D → D → Option (List D)} (af : AfL G σ ρ Hf H Q (fin2 A B a b k ρ)) : ∃ x y, A.at a ρ = some x ∧ B.at b ρ = some y ∧ AfL G σ ρ Hf H Q (opt (k x y) ρ) := by
  unfold fin2 at af
  cases e1 : A.at a ρ with
  | none => rw [e1] at af; exact af.elim
  | some x =>
    rw [e1] at af
    cases e2 : B.at b ρ with
    | none => simp only [e2] at af; exact False.elim af
    | some y =>
      simp only [e2] at af
      exact ⟨x, y, rfl, rfl, af⟩
theorem fin1_someL {σ : St} {ρ : Rho} {Hf H : Hp} {Q : VK} {a : D} {k : D → Option (List D)} (af : AfL G σ ρ Hf H Q (fin1 A a k ρ)) : ∃ x, A.at a ρ = some x ∧ AfL G σ ρ Hf H Q (opt (k x) ρ) := by
  unfold fin1 at af
  cases e1 : A.at a ρ with
  | none => rw [e1] at af; exact af.elim
  | some x => rw [e1] at af; exact ⟨x, rfl, af⟩
def RdL (r : List V → Hp → VK → Prop) (o : List D → Option (List D)) : Prop := ∀ (Hf H : Hp) (xs : List V) (as : List D) (ds : List D), Same Hf H → R1A Hf H xs as → o as = some ds → ∀ Q : VK, (∀ p vs, H p = none → RepA Hf vs ds → Q (.ref p) (upd H p (.lst vs))) → r xs H Q
@[simp] def fLB (o : List D → Option (List D)) (As : List Opd) : M (List D) := fun ρ => (bnd (goAll As) fun as => finA As as o) ρ
theorem rd_LB {r : List V → Hp → VK → Prop} {o : List D → Option (List D)} (hr : RdL r o) (σ : St) (H : Hp) (Q : VK) (h : tL G (fLB o As) σ H Q) : tCB r (tAll G As) σ H Q := by
  obtain ⟨Hf, ρ, rp, af⟩ := h
  refine tAll_mono ?_ (stepAL rp af)
  rintro xs H1 ⟨as, Hf1, ρ1, n1, ra, af1⟩
  obtain ⟨as', ea, af2⟩ := finA_someL af1
  obtain ⟨ds, e, k⟩ := finOL n1.rp af2
  exact hr Hf1 H1 xs as' ds n1.rp.sub (rAll1_end n1.rp ra ea) e Q k
theorem fl_callTy {r : List V → Hp → VK → Prop} {o : List D → Option (List D)} {x : Str} {p : Pos} {T : String} (hc : CallR X (.type T) r) (hr : RdL r o) (hg : Gl X x) (hm : X.mg x = none) (hv : bootBuiltins x = some (.type T)) (ha : PA X (e :: es) (tAll G As)) (hn : x ≠ "__name__" := by decide) (hdb : (x == ("__debug__" : Str)) = false := by decide)
    (he : starEach (e :: es) X.env = (false, eval e X.env) :: starEach es X.env := by rfl) (hpl : (backTo pos (starEach es X.env)).any (·.1) = false := by rfl) : PE X (.Call (.Name x p) (e :: es) [] pos) (tL G (fLB o As)) := (pe_callTy hc hg hm hv ha hn hdb he hpl).imp (rd_LB hr)
theorem fl_callB {r : List V → Hp → VK → Prop} {o : List D → Option (List D)} {x : Str} {p : Pos} {id : String} (hc : CallR X (.builtin id) r) (hr : RdL r o) (hg : Gl X x) (hm : X.mg x = none) (hv : bootBuiltins x = some (.builtin id)) (ha : PA X (e :: es) (tAll G As)) (hn : x ≠ "__name__" := by decide) (hdb : (x == ("__debug__" : Str)) = false := by decide)
    (he : starEach (e :: es) X.env = (false, eval e X.env) :: starEach es X.env := by rfl) (hpl : (backTo pos (starEach es X.env)).any (·.1) = false := by rfl) : PE X (.Call (.Name x p) (e :: es) [] pos) (tL G (fLB o As)) := (pe_callB hc hg hm hv ha hn hdb he hpl).imp (rd_LB hr)
@[simp] def oList : List D → Option (List D)
  | [.list ds] => some ds
  | [.tuple ds] => some ds
  | _ => none
theorem rd_list {K : PySem.W.Frag} : RdL (fun xs H Q => ∃ p ys, xs = [.ref p] ∧ (SqL K H p ys ∨ SqT K H p ys) ∧ ∀ l, H l = none → Q (.ref l) (upd H l (.lst ys))) oList := by
  intro Hf H xs as ds sm ra e Q q
  match as, ra, e with
  | [.list ds], .cons h1 .nil, e =>
    cases e
    obtain ⟨p, vs, rfl, h2, h3⟩ := h1.lst sm
    exact ⟨_, _, rfl, .inl (SqL.of h2), fun l hl => q _ _ hl h3⟩
  | [.tuple ds], .cons h1 .nil, e =>
    cases e
    obtain ⟨p, vs, rfl, h2, h3⟩ := h1.tup sm
    exact ⟨_, _, rfl, .inr (SqT.of h2), fun l hl => q _ _ hl h3⟩
theorem fl_list {p : Pos} (hg : Gl X "list") (hm : X.mg "list" = none) (ha : PA X (e :: es) (tAll G As)) (he : starEach (e :: es) X.env = (false, eval e X.env) :: starEach es X.env := by rfl) (hpl : (backTo pos (starEach es X.env)).any (·.1) = false := by rfl) : PE X (.Call (.Name "list" p) (e :: es) [] pos) (tL G (fLB oList As)) := fl_callTy call_list_of rd_list hg hm (by decide +kernel) ha (by decide) (by decide) he hpl
def RdOL (r : R2) (o : D → D → Option (List D)) : Prop := ∀ (Hf H : Hp) (x y : V) (a b : D) (ds : List D), Same Hf H → R1 Hf H x a → R1 Hf H y b → o a b = some ds → ∀ Q : VK, (∀ p vs, H p = none → RepA Hf vs ds → Q (.ref p) (upd H p (.lst vs))) → r x y H Q
@[simp] def fOpL (o : D → D → Option (List D)) (A B : Opd) : M (List D) := fun ρ => (bnd A.go fun a => bnd B.go fun b => fin2 A B a b o) ρ
theorem fl_op {r : R2} {o : D → D → Option (List D)} {op : Operator} (ho : OpR X (binaryOp op) r) (hr : RdOL r o) (ha : PE X a (A.t G)) (hb : PE X b (B.t G)) : PE X (.BinOp a op b pos) (tL G (fOpL o A B)) := by
  refine (pe_op ho ha hb).imp fun σ H Q ⟨Hf, ρ, rp, af⟩ => ?_
  refine Opd.run (stepOL rp af) fun x H1 ⟨d1, Hf1, ρ1, n1, ra, af1⟩ => Opd.run (stepOL n1.rp af1) fun y H2 ⟨d2, Hf2, ρ2, n2, rb, af2⟩ => ?_
  obtain ⟨a', b', ea, eb, af3⟩ := fin2_someL af2
  obtain ⟨ds, e, k⟩ := finOL n2.rp af3
  exact hr Hf2 H2 x y a' b' ds n2.rp.sub (Opd.end n2.rp (Opd.keep n2 ra) ea) (Opd.end n2.rp rb eb) e Q k
theorem repA_append {H : Hp} : ∀ {vs ws : List V} {ds es : List D}, RepA H vs ds → RepA H ws es → RepA H (vs ++ ws) (ds ++ es)
  | _, _, _, _, .nil, h => h
  | _, _, _, _, .cons h t, h' => .cons h (repA_append t h')
theorem repA_take {H : Hp} : ∀ {vs : List V} {ds : List D} (n : Nat), RepA H vs ds → RepA H (vs.take n) (ds.take n)
  | _, _, 0, _ => by rw [List.take_zero, List.take_zero]; exact .nil
  | _, _, n + 1, .nil => .nil
  | _, _, n + 1, .cons h t => .cons h (repA_take n t)
theorem repA_drop {H : Hp} : ∀ {vs : List V} {ds : List D} (n : Nat), RepA H vs ds → RepA H (vs.drop n) (ds.drop n)
  | _, _, 0, h => h
  | _, _, n + 1, .nil => .nil
  | _, _, n + 1, .cons h t => repA_drop n t
theorem repA_set {H : Hp} {v : V} {d : D} (r : Rep H v d) : ∀ {vs : List V} {ds : List D} (j : Nat), RepA H vs ds → RepA H (vs.set j v) (ds.set j d)
  | _, _, _, .nil => .nil
  | _, _, 0, .cons _ t => .cons r t
  | _, _, j + 1, .cons h t => .cons h (repA_set r j t)
@[simp] def oCat : D → D → Option (List D)
  | .list xs, .list ys => if small (xs.length + ys.length) then some (xs ++ ys) else none
  | _, _ => none
theorem rd_cat : RdOL rCat oCat := by
  intro Hf H x y a b ds sm ha hb e Q q
  cases a <;> cases b <;> simp only [oCat, reduceCtorEq] at e
  split at e
  · rename_i hs
    cases e
    obtain ⟨p1, vs1, rfl, h1, h2⟩ := ha.lst sm
    obtain ⟨p2, vs2, rfl, h3, h4⟩ := hb.lst sm
    exact ⟨_, _, _, _, rfl, rfl, h1, h3, by rw [repA_len h2, repA_len h4]; exact small_le hs, fun p hp => q p _ hp (repA_append h2 h4)⟩
  · cases e
theorem fl_cat (ha : PE X a (A.t G)) (hb : PE X b (B.t G)) : PE X (.BinOp a .Add b pos) (tL G (fOpL oCat A B)) := fl_op op_cat rd_cat ha hb
def oRep : D → D → Option (List D)
  | .list xs, .int k => if small (xs.length * k.toNat) && small k.natAbs then some (List.replicate k.toNat xs).flatten else none
  | _, _ => none
theorem repA_flat {H : Hp} {vs : List V} {ds : List D} (h : RepA H vs ds) : ∀ n : Nat, RepA H (List.replicate n vs).flatten (List.replicate n ds).flatten
  | 0 => .nil
  | n + 1 => by
    rw [List.replicate_succ, List.replicate_succ, List.flatten_cons, List.flatten_cons]
    exact repA_append h (repA_flat h n)
theorem rd_rep : RdOL rRep oRep := by
  intro Hf H x y a b ds sm ha hb e Q q
  cases a <;> cases b <;> simp only [oRep, reduceCtorEq] at e
  split at e
  · rename_i hs
    rw [Bool.and_eq_true] at hs
    have h2 : _ ≤ 100000 := of_decide_eq_true hs.2
    cases e
    obtain ⟨p1, vs1, rfl, h3, h4⟩ := ha.lst sm
    cases hb.int
    exact ⟨_, _, _, rfl, rfl, h3, by omega, by omega, by rw [repA_len h4]; exact small_le hs.1, fun p hp => q p _ hp (repA_flat h4 _)⟩
  · cases e
theorem fl_rep (ha : PE X a (A.t G)) (hb : PE X b (B.t G)) : PE X (.BinOp a .Mult b pos) (tL G (fOpL oRep A B)) := fl_op op_rep rd_rep ha hb
/-! ### slices -/
def cut {α : Type} (xs : List α) (lo hi : Option Int) : List α := (xs.drop (HT.sIx xs.length 0 lo)).take (HT.sIx xs.length xs.length hi - HT.sIx xs.length 0 lo)
theorem repA_cut {H : Hp} {vs : List V} {ds : List D} (h : RepA H vs ds) (lo hi : Option Int) : RepA H (cutV vs lo hi) (cut ds lo hi) := by
  unfold cutV cut
  rw [repA_len h]
  exact repA_take _ (repA_drop _ h)
abbrev tP (G : Gx) (f : M (Option Int)) : TO := tG G (fun _ x y => x = y) f
@[simp] def fNoP : M (Option Int) := fun ρ => (ret none) ρ
@[simp] def asI : D → Option Int
  | .int i => some i
  | _ => none
@[simp] def fP (f : M D) : M (Option Int) := fun ρ => (bnd f fun d => bnd (opt (asI d)) fun i => ret (some i)) ρ
theorem _root_.L2.PO.imp {o : Option Expr} {t t' : TO} (h : PO X o t) (i : ∀ σ H Q, t' σ H Q → t σ H Q) : PO X o t' := ⟨fun pins s σ H Q I q => h.run pins s σ H Q I (i _ _ _ q)⟩
theorem fp_none : PO X none (tP G fNoP) := po_none.imp fun σ H Q ⟨Hf, ρ, rp, af⟩ => fin rp af rfl
theorem fp_some (h : PE X e (tE G f)) : PO X (some e) (tP G (fP f)) := by
  refine (po_some h).imp fun σ H Q ⟨Hf, ρ, rp, af⟩ => ?_
  refine (step rp af).mono fun x H1 ⟨d, Hf1, ρ1, n1, ra, af1⟩ => ?_
  cases d <;> first | exact af1.elim | skip
  exact ⟨_, rep_int ra, fin n1.rp af1 rfl⟩
@[simp] def oSl (lo hi : Option Int) (d : D) : Option (List D) := match d with
  | .list ds => some (cut ds lo hi)
  | _ => none
@[simp] def fSl (A : Opd) (l h : M (Option Int)) : M (List D) := fun ρ => (bnd A.go fun a => bnd l fun lo => bnd h fun hi => fin1 A a (oSl lo hi)) ρ
variable {l h : M (Option Int)} {lo hi : Option Expr} {p2 : Pos}
theorem fl_slice (he : PE X e (A.t G)) (hl : PO X lo (tP G l)) (hh : PO X hi (tP G h)) : PE X (.Subscript e (.Slice lo hi none p2) pos) (tL G (fSl A l h)) := by
  refine (pe_slice sl_list he hl hh).imp fun σ H Q ⟨Hf, ρ, rp, af⟩ => ?_
  refine Opd.run (stepOL rp af) fun x H1 ⟨d, Hf1, ρ1, n1, ra, af1⟩ => (stepL n1.rp af1).mono fun y H2 ⟨i, Hf2, ρ2, n2, rb, af2⟩ => (stepL n2.rp af2).mono fun z H3 ⟨j, Hf3, ρ3, n3, rc, af3⟩ => ?_
  subst rb rc
  obtain ⟨d', ed, af4⟩ := fin1_someL af3
  have rd := Opd.end n3.rp (Opd.keep (n2.trans n3) ra) ed
  obtain ⟨ds, e, k⟩ := finOL n3.rp af4
  cases d' <;> simp only [oSl, reduceCtorEq, Option.some.injEq] at e
  subst e
  obtain ⟨p, vs, rfl, h1, h2⟩ := rd.lst n3.rp.sub
  exact ⟨_, _, rfl, SqL.of h1, fun p hp => k p _ hp (repA_cut h2 _ _)⟩
/-- t[lo:hi] of a tuple, not all of it -/
def oSlT (lo hi : Option Int) (d : D) : Option D := match d with
  | .tuple ds => if HT.sIx ds.length 0 lo = 0 ∧ HT.sIx ds.length ds.length hi = ds.length then none else some (.tuple (cut ds lo hi))
  | _ => none
@[simp] def fSlT (f : M D) (l h : M (Option Int)) : M D := fun ρ => (bnd f fun d => bnd l fun lo => bnd h fun hi => opt (oSlT lo hi d)) ρ
theorem fe_sliceT (he : PE X e (tE G f)) (hl : PO X lo (tP G l)) (hh : PO X hi (tP G h)) : PE X (.Subscript e (.Slice lo hi none p2) pos) (tE G (fSlT f l h)) := by
  refine (pe_slice sl_tup he hl hh).imp fun σ H Q ⟨Hf, ρ, rp, af⟩ => ?_
  refine (step rp af).mono fun x H1 ⟨d, Hf1, ρ1, n1, ra, af1⟩ => (step n1.rp af1).mono fun y H2 ⟨i, Hf2, ρ2, n2, rb, af2⟩ => (step n2.rp af2).mono fun z H3 ⟨j, Hf3, ρ3, n3, rc, af3⟩ => ?_
  subst rb rc
  have ra := rep_same (n2.sub.trans n3.sub) ra
  cases ra with
  | @tup _ _ ds h1 h2 =>
    by_cases hw : HT.sIx ds.length 0 y = 0 ∧ HT.sIx ds.length ds.length z = ds.length
    · simp only [oSlT, if_pos hw] at af3
      exact False.elim af3
    · simp only [oSlT, if_neg hw] at af3
      refine ⟨_, _, rfl, SqT.of (n3.rp.sub _ _ h1), by rw [repA_len h2]; exact hw, fun p hp => ?_⟩
      exact AfG.new (R := Rep) n3.rp af3 hp (Rep.tup upd_same (repA_same (same_new (n3.rp.sub.free hp)) (repA_cut h2 _ _)))
  | lst _ _ => exact af3.elim
  | non => exact af3.elim
  | bl _ => exact af3.elim
  | int _ => exact af3.elim
  | str _ => exact af3.elim
def oSlS (lo hi : Option Int) (d : D) : Option D := match d with
  | .str z => if small z.length then some (.str (cutS z lo hi)) else none
  | _ => none
@[simp] def fSlS (f : M D) (l h : M (Option Int)) : M D := fun ρ => (bnd f fun d => bnd l fun lo => bnd h fun hi => opt (oSlS lo hi d)) ρ
theorem fe_sliceS (he : PE X e (tE G f)) (hl : PO X lo (tP G l)) (hh : PO X hi (tP G h)) : PE X (.Subscript e (.Slice lo hi none p2) pos) (tE G (fSlS f l h)) := by
  refine (pe_slice sl_str he hl hh).imp fun σ H Q ⟨Hf, ρ, rp, af⟩ => ?_
  refine (step rp af).mono fun x H1 ⟨d, Hf1, ρ1, n1, ra, af1⟩ => (step n1.rp af1).mono fun y H2 ⟨i, Hf2, ρ2, n2, rb, af2⟩ => (step n2.rp af2).mono fun z H3 ⟨j, Hf3, ρ3, n3, rc, af3⟩ => ?_
  subst rb rc
  cases ra with
  | str w =>
    cases hs : small w.length with
    | false => simp only [oSlS, hs] at af3; exact False.elim af3
    | true =>
      simp only [oSlS, hs] at af3
      exact ⟨_, rfl, small_le hs, fin (R := Rep) n3.rp af3 (.str _)⟩
  | tup _ _ => exact af3.elim
  | lst _ _ => exact af3.elim
  | non => exact af3.elim
  | bl _ => exact af3.elim
  | int _ => exact af3.elim
end
end Fx

namespace Fx
open PySem L2
variable [Tabz]
section
variable {X : Cx} {G : Gx} {e a b : Expr} {es : List Expr} {f g : M D} {fs : M (List D)} {pos : Pos} {tg : Expr}
/-! ### what is walked -/
def IterOk (Hf0 : Hp) (J : It) (ds : List D) : Prop := ∀ (i : Nat) (Hf H : Hp) (σ : St) (ρ : Rho), Same Hf0 Hf → Rp Hf H σ ρ →
  (∀ d, ds[i]? = some d → J.go i H ∧ ∀ x H', J.yld i H x H' → ∃ Hf', Nxt σ ρ Hf H σ ρ Hf' H' ∧ Rep Hf' x d) ∧ (ds.length ≤ i → J.stop i H)
abbrev tI (G : Gx) (f : M (List D)) : TI := tG G IterOk f
theorem _root_.L2.PI.imp {iter : Expr} {t t' : TI} (h : PI X tg iter t) (i : ∀ σ H R, t' σ H R → t σ H R) : PI X tg iter t' := ⟨fun pins s σ H R I q => h.run pins s σ H R I (i _ _ _ q)⟩
theorem _root_.L2.PI.or {iter : Expr} {t t' : TI} (h : PI X tg iter t) (h' : PI X tg iter t') : PI X tg iter (fun σ H R => t σ H R ∨ t' σ H R) := ⟨fun pins s σ H R I q => q.elim (h.run pins s σ H R I) (h'.run pins s σ H R I)⟩
@[simp] def itemsL : D → Option (List D)
  | .list ds => some ds
  | _ => none
@[simp] def itemsT : D → Option (List D)
  | .tuple ds => some ds
  | _ => none
@[simp] def fItL (f : M D) : M (List D) := fun ρ => (bnd f fun d => opt (itemsL d)) ρ
@[simp] def fItT (f : M D) : M (List D) := fun ρ => (bnd f fun d => opt (itemsT d)) ρ
theorem iter_list {K : PySem.W.Frag} {Hf : Hp} {p : Addr} {vs : List V} {ds : List D} (h : Hf p = some (.lst vs)) (r : RepA Hf vs ds) : IterOk Hf (Itl K p) ds := by
  intro i Hf1 H σ ρ s1 rp
  have hq : SqL K H p vs := SqL.of (rp.sub _ _ (s1 _ _ h))
  refine ⟨fun d e => ?_, fun hl => ⟨vs, hq, by rw [repA_len r]; exact hl⟩⟩
  obtain ⟨v, e1, r1⟩ := repA_get r e
  refine ⟨⟨vs, v, hq, e1⟩, fun x H' ⟨eh, hx⟩ => ?_⟩
  subst eh
  have q := hx vs hq
  rw [e1] at q
  cases q
  exact ⟨Hf1, .refl rp, rep_same s1 r1⟩
theorem iter_tup {K : PySem.W.Frag} {Hf : Hp} {p : Addr} {vs : List V} {ds : List D} (h : Hf p = some (.tup vs)) (r : RepA Hf vs ds) : IterOk Hf (Itt K p) ds := by
  intro i Hf1 H σ ρ s1 rp
  have hq : SqT K H p vs := SqT.of (rp.sub _ _ (s1 _ _ h))
  refine ⟨fun d e => ?_, fun hl => ⟨vs, hq, by rw [repA_len r]; exact hl⟩⟩
  obtain ⟨v, e1, r1⟩ := repA_get r e
  refine ⟨⟨vs, v, hq, e1⟩, fun x H' ⟨eh, hx⟩ => ?_⟩
  subst eh
  have q := hx vs hq
  rw [e1] at q
  cases q
  exact ⟨Hf1, .refl rp, rep_same s1 r1⟩
theorem fi_list (h : PE X e (tE G f)) : PI X tg e (tI G (fItL f)) := by
  refine (pi_list h).imp fun σ H R ⟨Hf, ρ, rp, af⟩ => ?_
  refine (step rp af).mono fun x H1 ⟨d, Hf1, ρ1, n1, ra, af1⟩ => ?_
  cases ra with
  | lst h1 h2 => exact ⟨_, rfl, ⟨_, SqL.of (n1.rp.sub _ _ h1)⟩, fin n1.rp af1 (iter_list h1 h2)⟩
  | tup _ _ => exact af1.elim
  | non => exact af1.elim
  | bl _ => exact af1.elim
  | int _ => exact af1.elim
  | str _ => exact af1.elim
theorem fi_tup (h : PE X e (tE G f)) : PI X tg e (tI G (fItT f)) := by
  refine (pi_tup h).imp fun σ H R ⟨Hf, ρ, rp, af⟩ => ?_
  refine (step rp af).mono fun x H1 ⟨d, Hf1, ρ1, n1, ra, af1⟩ => ?_
  cases ra with
  | tup h1 h2 => exact ⟨_, rfl, ⟨_, SqT.of (n1.rp.sub _ _ h1)⟩, fin n1.rp af1 (iter_tup h1 h2)⟩
  | lst _ _ => exact af1.elim
  | non => exact af1.elim
  | bl _ => exact af1.elim
  | int _ => exact af1.elim
  | str _ => exact af1.elim
/-- arguments that are kept -/
@[simp] def fAB (o : List D → Option (List D)) (fs : M (List D)) : M (List D) := fun ρ => (bnd fs fun as => opt (o as)) ρ
def rng (lo : Int) (n : Nat) : List D := (List.range n).map fun (i : Nat) => PyData.int (lo + i)
theorem iter_rng {Hf : Hp} {lo : Int} {n : Nat} : IterOk Hf (Itr lo n) (rng lo n) := by
  intro i Hf1 H σ ρ s1 rp
  refine ⟨fun d e => ?_, fun hl => (by simpa [rng] using hl : n ≤ i)⟩
  unfold rng at e
  rw [List.getElem?_map] at e
  cases q : (List.range n)[i]? with
  | none => rw [q] at e; cases e
  | some j =>
    rw [q] at e
    cases e
    obtain ⟨h1, h2⟩ := List.getElem?_eq_some_iff.mp q
    rw [List.length_range] at h1
    rw [List.getElem_range] at h2
    subst h2
    refine ⟨h1, fun x H' ⟨e1, e2⟩ => ?_⟩
    subst e1 e2
    exact ⟨Hf1, .refl rp, .int _⟩
def oRng1 : List D → Option (List D)
  | [.int j] => if small j.natAbs then some (rng 0 j.toNat) else none
  | _ => none
def oRng2 : List D → Option (List D)
  | [.int i, .int j] => if small i.natAbs && small j.natAbs then some (rng i (j - i).toNat) else none
  | _ => none
theorem fi_rng1 {p : Pos} (hg : Gl X "range") (hm : X.mg "range" = none) (ha : PA X [e] (tA G fs)) (he : starEach [e] X.env = [(false, eval e X.env)] := by rfl) : PI X tg (.Call (.Name "range" p) [e] [] pos) (tI G (fAB oRng1 fs)) := by
  refine (pi_range1 hg hm ha he).imp fun σ H R ⟨Hf, ρ, rp, af⟩ => ?_
  refine (step rp af).mono fun x H1 ⟨as, Hf1, ρ1, n1, ra, af1⟩ => ?_
  match as, ra, af1 with
  | [.int j], .cons h1 .nil, af1 =>
    cases h1
    cases hd : small j.natAbs with
    | true =>
      simp only [oRng1, hd] at af1
      have hs : _ ≤ 100000 := of_decide_eq_true hd
      exact ⟨j, rfl, by omega, by omega, fin (R := IterOk) n1.rp af1 iter_rng⟩
    | false =>
      simp only [oRng1, hd] at af1
      exact False.elim af1
  | [], _, af1 => exact False.elim af1
  | [.none], _, af1 => exact False.elim af1
  | [.bool _], _, af1 => exact False.elim af1
  | [.str _], _, af1 => exact False.elim af1
  | [.list _], _, af1 => exact False.elim af1
  | [.tuple _], _, af1 => exact False.elim af1
  | [.dict _], _, af1 => exact False.elim af1
  | _ :: _ :: _, _, af1 => exact False.elim (by revert af1; unfold oRng1 opt; split <;> simp_all [AfG])
theorem fi_rng2 {e2 : Expr} {p : Pos} (hg : Gl X "range") (hm : X.mg "range" = none) (ha : PA X [e, e2] (tA G fs)) (he : starEach [e, e2] X.env = [(false, eval e X.env), (false, eval e2 X.env)] := by rfl) (hpl : starEach [e2] X.env = [(false, eval e2 X.env)] := by rfl) : PI X tg (.Call (.Name "range" p) [e, e2] [] pos) (tI G (fAB oRng2 fs)) := by
  refine (pi_range2 hg hm ha he hpl).imp fun σ H R ⟨Hf, ρ, rp, af⟩ => ?_
  refine (step rp af).mono fun x H1 ⟨as, Hf1, ρ1, n1, ra, af1⟩ => ?_
  unfold oRng2 at af1
  split at af1
  · rename_i i j
    cases ra with
    | cons h1 h2 => cases h2 with
      | cons h3 h4 =>
        cases h4; cases h1; cases h3
        cases hd : (small i.natAbs && small j.natAbs) with
        | true =>
          simp only [hd] at af1
          rw [Bool.and_eq_true] at hd
          have hs1 : _ ≤ 100000 := of_decide_eq_true hd.1
          have hs2 : _ ≤ 100000 := of_decide_eq_true hd.2
          exact ⟨i, j, rfl, ⟨by omega, by omega, by omega, by omega⟩, fin (R := IterOk) n1.rp af1 iter_rng⟩
        | false =>
          simp only [hd] at af1
          exact False.elim af1
  · exact False.elim af1
def enumD (ds : List D) : List D := ds.zipIdx.map fun (p : D × Nat) => PyData.tuple [.int (p.2 : Nat), p.1]
def oEnum : List D → Option (List D)
  | [.list ds] => some (enumD ds)
  | _ => none
theorem iter_enum {K : PySem.W.Frag} {Hf : Hp} {p : Addr} {vs : List V} {ds : List D} (h : Hf p = some (.lst vs)) (r : RepA Hf vs ds) : IterOk Hf (Ite K p) (enumD ds) := by
  intro i Hf1 H σ ρ s1 rp
  have hq : SqL K H p vs := SqL.of (rp.sub _ _ (s1 _ _ h))
  refine ⟨fun d e => ?_, fun hl => ⟨vs, hq, by rw [repA_len r]; simpa [enumD] using hl⟩⟩
  unfold enumD at e
  rw [List.getElem?_map, List.getElem?_zipIdx] at e
  cases q : ds[i]? with
  | none => rw [q] at e; cases e
  | some d0 =>
    rw [q] at e
    cases e
    obtain ⟨v, e1, r1⟩ := repA_get r q
    refine ⟨⟨vs, v, hq, e1⟩, fun x H' ⟨T, y, ex, hT, eh, hy⟩ => ?_⟩
    subst ex eh
    have z := hy vs hq
    rw [e1] at z
    cases z
    refine ⟨_, rp.new hT, .tup upd_same (.cons ?_ (.cons (rep_same (same_new (rp.sub.free hT)) (rep_same s1 r1)) .nil))⟩
    rw [Nat.zero_add]
    exact .int _
theorem fi_enum {p tpos : Pos} {elts : List Expr} {kk : Nat} (hg : Gl X "enumerate") (hm : X.mg "enumerate" = none) (ha : PA X [e] (tA G fs)) (hs : starEach [e] X.env = [(false, eval e X.env)] := by rfl) :
    PI X (.Tuple elts kk tpos) (.Call (.Name "enumerate" p) [e] [] pos) (tI G (fAB oEnum fs)) := by
  refine (pi_enum hg hm ha hs).imp fun σ H R ⟨Hf, ρ, rp, af⟩ => ?_
  refine (step rp af).mono fun x H1 ⟨as, Hf1, ρ1, n1, ra, af1⟩ => ?_
  unfold oEnum at af1
  split at af1
  · cases ra with
    | cons h1 h2 => cases h2; cases h1 with
      | lst h3 h4 => exact ⟨_, _, rfl, SqL.of (n1.rp.sub _ _ h3), fin (R := IterOk) n1.rp af1 (iter_enum h3 h4)⟩
  · exact False.elim af1
def zipD (xs ys : List D) : List D := (xs.zip ys).map fun (p : D × D) => PyData.tuple [p.1, p.2]
def oZip : List D → Option (List D)
  | [.list xs, .list ys] => some (zipD xs ys)
  | [.tuple xs, .tuple ys] => some (zipD xs ys)
  | _ => none
theorem zip_get {xs ys : List D} {i : Nat} {d : D} (e : (zipD xs ys)[i]? = some d) : ∃ x y, xs[i]? = some x ∧ ys[i]? = some y ∧ d = .tuple [x, y] := by
  unfold zipD at e
  rw [List.getElem?_map] at e
  cases q : (xs.zip ys)[i]? with
  | none => rw [q] at e; cases e
  | some p =>
    rw [q] at e
    cases e
    obtain ⟨h1, h2⟩ := List.getElem?_zip_eq_some.mp q
    exact ⟨p.1, p.2, h1, h2, rfl⟩
theorem iter_zip {K : PySem.W.Frag} {Hf : Hp} {p q : Addr} {vs ws : List V} {xs ys : List D} (h : Hf p = some (.lst vs)) (r : RepA Hf vs xs) (h' : Hf q = some (.lst ws)) (r' : RepA Hf ws ys) : IterOk Hf (Itz K p q) (zipD xs ys) := by
  intro i Hf1 H σ ρ s1 rp
  have hq : SqL K H p vs := SqL.of (rp.sub _ _ (s1 _ _ h))
  have hq' : SqL K H q ws := SqL.of (rp.sub _ _ (s1 _ _ h'))
  refine ⟨fun d e => ?_, fun hl => ⟨vs, ws, hq, hq', by rw [repA_len r, repA_len r']; simp only [zipD, List.length_map, List.length_zip] at hl; omega⟩⟩
  obtain ⟨x, y, e1, e2, rfl⟩ := zip_get e
  obtain ⟨v, f1, r1⟩ := repA_get r e1
  obtain ⟨w, f2, r2⟩ := repA_get r' e2
  refine ⟨⟨vs, ws, v, w, hq, hq', f1, f2⟩, fun z H' ⟨T, a, b, ex, hT, eh, hy, hz⟩ => ?_⟩
  subst ex eh
  have z1 := hy vs hq
  have z2 := hz ws hq'
  rw [f1] at z1
  rw [f2] at z2
  cases z1
  cases z2
  have sn := same_new (o := .tup [v, w]) (rp.sub.free hT)
  exact ⟨_, rp.new hT, .tup upd_same (.cons (rep_same sn (rep_same s1 r1)) (.cons (rep_same sn (rep_same s1 r2)) .nil))⟩
theorem iter_zipT {K : PySem.W.Frag} {Hf : Hp} {p q : Addr} {vs ws : List V} {xs ys : List D} (h : Hf p = some (.tup vs)) (r : RepA Hf vs xs) (h' : Hf q = some (.tup ws)) (r' : RepA Hf ws ys) : IterOk Hf (RZ.ItzT K p q) (zipD xs ys) := by
  intro i Hf1 H σ ρ s1 rp
  have hq : SqT K H p vs := SqT.of (rp.sub _ _ (s1 _ _ h))
  have hq' : SqT K H q ws := SqT.of (rp.sub _ _ (s1 _ _ h'))
  refine ⟨fun d e => ?_, fun hl => ⟨vs, ws, hq, hq', by rw [repA_len r, repA_len r']; simp only [zipD, List.length_map, List.length_zip] at hl; omega⟩⟩
  obtain ⟨x, y, e1, e2, rfl⟩ := zip_get e
  obtain ⟨v, f1, r1⟩ := repA_get r e1
  obtain ⟨w, f2, r2⟩ := repA_get r' e2
  refine ⟨⟨vs, ws, v, w, hq, hq', f1, f2⟩, fun z H' ⟨T, a, b, ex, hT, eh, hy, hz⟩ => ?_⟩
  subst ex eh
  have z1 := hy vs hq
  have z2 := hz ws hq'
  rw [f1] at z1
  rw [f2] at z2
  cases z1
  cases z2
  have sn := same_new (o := .tup [v, w]) (rp.sub.free hT)
  exact ⟨_, rp.new hT, .tup upd_same (.cons (rep_same sn (rep_same s1 r1)) (.cons (rep_same sn (rep_same s1 r2)) .nil))⟩
theorem fi_zip {e2 : Expr} {p tpos : Pos} {elts : List Expr} {kk : Nat} (hg : Gl X "zip") (hm : X.mg "zip" = none) (ha : PA X [e, e2] (tA G fs)) (hs : starEach [e, e2] X.env = (false, eval e X.env) :: starEach [e2] X.env := by rfl) (hpl : (backTo pos (starEach [e2] X.env)).any (·.1) = false := by rfl) :
    PI X (.Tuple elts kk tpos) (.Call (.Name "zip" p) [e, e2] [] pos) (tI G (fAB oZip fs)) := by
  refine (RZ.pi_zipA hg hm ha hs hpl).imp fun σ H R ⟨Hf, ρ, rp, af⟩ => ?_
  refine (step rp af).mono fun x H1 ⟨as, Hf1, ρ1, n1, ra, af1⟩ => ?_
  unfold oZip at af1
  split at af1
  · cases ra with
    | cons h1 h2 => cases h2 with
      | cons h3 h4 => cases h4; cases h1 with
        | lst h5 h6 => cases h3 with
          | lst h7 h8 => exact ⟨_, _, _, _, rfl, .inl ⟨SqL.of (n1.rp.sub _ _ h5), SqL.of (n1.rp.sub _ _ h7), fin (R := IterOk) n1.rp af1 (iter_zip h5 h6 h7 h8)⟩⟩
  · cases ra with
    | cons h1 h2 => cases h2 with
      | cons h3 h4 => cases h4; cases h1 with
        | tup h5 h6 => cases h3 with
          | tup h7 h8 => exact ⟨_, _, _, _, rfl, .inr ⟨SqT.of (n1.rp.sub _ _ h5), SqT.of (n1.rp.sub _ _ h7), fin (R := IterOk) n1.rp af1 (iter_zipT h5 h6 h7 h8)⟩⟩
  · exact False.elim af1
end
end Fx

namespace Fx
open PySem L2
variable [Tabz]
/-! ### slots stored -/
theorem Rp.put {Hf H : Hp} {σ : St} {ρ : Rho} (rp : Rp Hf H σ ρ) {i : Nat} {v : V} {d : D} (r : Rep Hf v d) : Nxt σ ρ Hf H (σ.set i (some v)) (ρ.set i (.fz d)) Hf H := by
  have own : ∀ a, OwnA (σ.set i (some v)) (ρ.set i (.fz d)) a → OwnA σ ρ a := fun a ⟨j, ds, e1, e2⟩ => by
    rw [List.getElem?_set] at e1 e2
    by_cases q : i = j
    · subst q
      rw [if_pos rfl] at e1
      split at e1 <;> cases e1
    · rw [if_neg q] at e1 e2
      exact ⟨j, ds, e1, e2⟩
  refine ⟨Same.refl _, fun _ _ h _ _ => h, fun a z => .inl (own a z), fun _ h => h, fun _ h => .inl h, rp.sub, rp.tb, rp.nt, by rw [List.length_set, List.length_set]; exact rp.len, fun j s h => ?_, fun j k p ds es h1 h2 h3 h4 => ?_⟩
  · rw [List.getElem?_set] at h ⊢
    by_cases q : i = j
    · subst q
      rw [if_pos rfl] at h ⊢
      split at h
      · rename_i hl
        rw [if_pos (Nat.lt_of_lt_of_le hl rp.len)]
        cases h
        exact slok_fz.mpr r
      · cases h
    · rw [if_neg q] at h ⊢
      exact rp.sl j s h
  · rw [List.getElem?_set] at h1 h2 h3 h4
    by_cases q : i = j
    · subst q
      rw [if_pos rfl] at h1
      split at h1 <;> cases h1
    · rw [if_neg q] at h1 h3
      by_cases q' : i = k
      · subst q'
        rw [if_pos rfl] at h2
        split at h2 <;> cases h2
      · rw [if_neg q'] at h2 h4
        exact rp.nd j k p ds es h1 h2 h3 h4
/-- a new list is stored, to be changed here -/
theorem Nxt.putO {Hf0 H0 Hf H : Hp} {σ0 σ : St} {ρ0 ρ : Rho} (n : Nxt σ0 ρ0 Hf0 H0 σ ρ Hf H) {i : Nat} {p : Addr} {vs : List V} {ds : List D} (h0 : H0 p = none) (hp : Hf p = none) (no : ¬ OwnA σ ρ p) (h : H p = some (.lst vs)) (r : RepA Hf vs ds) :
    Nxt σ0 ρ0 Hf0 H0 (σ.set i (some (.ref p))) (ρ.set i (.ow ds)) Hf H := by
  have rp := n.rp
  have own : ∀ a, OwnA (σ.set i (some (.ref p))) (ρ.set i (.ow ds)) a → OwnA σ ρ a ∨ a = p := fun a ⟨j, es, e1, e2⟩ => by
    rw [List.getElem?_set] at e1 e2
    by_cases q : i = j
    · subst q
      rw [if_pos rfl] at e2
      split at e2
      · cases e2; exact .inr rfl
      · cases e2
    · rw [if_neg q] at e1 e2
      exact .inl ⟨j, es, e1, e2⟩
  refine ⟨n.sub, n.keep, fun a z => (own a z).elim (n.os a) fun q => .inr (q ▸ h0), n.dom, n.fr, rp.sub, rp.tb, rp.nt, by rw [List.length_set, List.length_set]; exact rp.len, fun j s hj => ?_, fun j k q ds' es h1 h2 h3 h4 => ?_⟩
  · rw [List.getElem?_set] at hj ⊢
    by_cases q : i = j
    · subst q
      rw [if_pos rfl] at hj ⊢
      split at hj
      · rename_i hl
        rw [if_pos (Nat.lt_of_lt_of_le hl rp.len)]
        cases hj
        exact ⟨hp, vs, h, r⟩
      · cases hj
    · rw [if_neg q] at hj ⊢
      exact rp.sl j s hj
  · rw [List.getElem?_set] at h1 h2 h3 h4
    by_cases q1 : i = j
    · subst q1
      by_cases q2 : i = k
      · exact q2
      · rw [if_neg q2] at h2 h4
        rw [if_pos rfl] at h3
        split at h3
        · cases h3
          exact absurd ⟨k, es, h2, h4⟩ no
        · cases h3
    · rw [if_neg q1] at h1 h3
      by_cases q2 : i = k
      · subst q2
        rw [if_pos rfl] at h4
        split at h4
        · cases h4
          exact absurd ⟨j, ds', h1, h3⟩ no
        · cases h4
      · rw [if_neg q2] at h2 h4
        exact rp.nd j k q ds' es h1 h2 h3 h4
/-- an owned list is changed -/
theorem Rp.mut {Hf H : Hp} {σ : St} {ρ : Rho} (rp : Rp Hf H σ ρ) {i : Nat} {p : Addr} {ds es : List D} {ws : List V} (hi : ρ[i]? = some (.ow ds)) (hp : σ[i]? = some (some (.ref p))) (r : RepA Hf ws es) :
    Nxt σ ρ Hf H σ (ρ.set i (.ow es)) Hf (upd H p (.lst ws)) := by
  have hf := (rp.own ⟨i, ds, hi, hp⟩).1
  have hl : i < ρ.length := (List.getElem?_eq_some_iff.mp hi).1
  have own : ∀ a, OwnA σ (ρ.set i (.ow es)) a → OwnA σ ρ a := fun a ⟨j, fs, e1, e2⟩ => by
    rw [List.getElem?_set] at e1
    by_cases q : i = j
    · subst q
      exact ⟨i, ds, hi, e2⟩
    · rw [if_neg q] at e1
      exact ⟨j, fs, e1, e2⟩
  obtain ⟨_, vs0, hv0⟩ := rp.own ⟨i, ds, hi, hp⟩
  refine ⟨Same.refl _, fun a o h _ n => ?_, fun a z => .inl (own a z), fun a h => ?_, fun _ h => .inl h, fun a o h => ?_, rp.tb.set hv0, rp.nt, by rw [List.length_set]; exact rp.len, fun j s hj => ?_, fun j k q ds' es' h1 h2 h3 h4 => ?_⟩
  · have ne : a ≠ p := fun q => n (q ▸ ⟨i, ds, hi, hp⟩)
    rw [upd_ne ne]
    exact h
  · by_cases q : a = p
    · subst q
      rw [upd_same] at h
      cases h
    · rw [upd_ne q] at h
      exact h
  · have ne : a ≠ p := ne_of_none h hf
    rw [upd_ne ne]
    exact rp.sub _ _ h
  · rw [List.getElem?_set] at hj
    by_cases q : i = j
    · subst q
      rw [if_pos rfl, if_pos hl] at hj
      cases hj
      rw [hp]
      exact ⟨hf, ws, upd_same, r⟩
    · rw [if_neg q] at hj
      refine (rp.sl j s hj).mono (Same.refl _) fun x ds' h1 h2 => ?_
      subst h2
      have ne : x ≠ p := fun z => q ((rp.nd j i p ds' ds hj hi (z ▸ h1) hp).symm)
      exact ⟨(rp.own ⟨j, ds', hj, h1⟩).1, upd_ne ne⟩
  · rw [List.getElem?_set] at h1 h2
    have g1 : ∃ w, ρ[j]? = some (.ow w) := by
      by_cases q1 : i = j
      · subst q1; exact ⟨ds, hi⟩
      · rw [if_neg q1] at h1; exact ⟨_, h1⟩
    have g2 : ∃ w, ρ[k]? = some (.ow w) := by
      by_cases q1 : i = k
      · subst q1; exact ⟨ds, hi⟩
      · rw [if_neg q1] at h2; exact ⟨_, h2⟩
    obtain ⟨w1, g1⟩ := g1
    obtain ⟨w2, g2⟩ := g2
    exact rp.nd j k q w1 w2 g1 g2 h3 h4
section
variable {X : Cx} {G : Gx} {e a b : Expr} {es : List Expr} {f g : M D} {fs : M (List D)} {pos : Pos} {tg : Expr}
/-! ### targets -/
def Only (is : List Nat) (σ σ' : St) : Prop := σ'.length = σ.length ∧ ∀ j, j ∉ is → σ'[j]? = σ[j]?
theorem Only.refl (is : List Nat) (σ : St) : Only is σ σ := ⟨rfl, fun _ _ => rfl⟩
theorem Only.trans {is js : List Nat} {σ σ1 σ2 : St} (h : Only is σ σ1) (h' : Only js σ1 σ2) : Only (is ++ js) σ σ2 :=
  ⟨h'.1.trans h.1, fun j n => (h'.2 j fun z => n (List.mem_append_right _ z)).trans (h.2 j fun z => n (List.mem_append_left _ z))⟩
def tGt (is : List Nat) (g : D → Rho → Option Rho) : TG := fun v σ H Q => ∃ Hf ρ d ρ', Rp Hf H σ ρ ∧ Rep Hf v d ∧ g d ρ = some ρ' ∧ ∀ σ', Nxt σ ρ Hf H σ' ρ' Hf H → Only is σ σ' → Q σ' H
def tGts (is : List Nat) (g : List D → Rho → Option Rho) : TGs := fun vs σ H Q => ∃ Hf ρ ds ρ', Rp Hf H σ ρ ∧ RepA Hf vs ds ∧ g ds ρ = some ρ' ∧ ∀ σ', Nxt σ ρ Hf H σ' ρ' Hf H → Only is σ σ' → Q σ' H
theorem _root_.L2.PG.imp {t t' : TG} (h : PG X tg t) (i : ∀ v σ H Q, t' v σ H Q → t v σ H Q) : PG X tg t' := ⟨fun pins s σ H v u Q I r q => h.run pins s σ H v u Q I r (i _ _ _ _ q)⟩
theorem _root_.L2.PGs.imp {ts : List Expr} {t t' : TGs} (h : PGs X ts t) (i : ∀ v σ H Q, t' v σ H Q → t v σ H Q) : PGs X ts t' := ⟨fun pins s σ H v u Q I r q => h.run pins s σ H v u Q I r (i _ _ _ _ q)⟩
@[simp] def gSet (i : Nat) : D → Rho → Option Rho := fun d ρ => some (ρ.set i (.fz d))
theorem fg_name (i : Nat) {x : Str} (hN : X.N.Nodup) (hi : X.N[i]? = some x := by rfl) (hx : Loc X.env.scope x := by first | exact Or.inl rfl | exact Or.inr rfl) (hf : X.fn x = true ∨ X.env.scope.names.lookup x = some .local := by first | exact .inl rfl | exact .inr rfl) : PG X (.Name x pos) (tGt [i] (gSet i)) := by
  refine (pg_name hN hi hx hf).imp fun v σ H Q ⟨Hf, ρ, d, ρ', rp, r, eg, k⟩ => ?_
  cases eg
  refine k _ (rp.put r) ⟨List.length_set, fun j n => ?_⟩
  rw [List.getElem?_set, if_neg fun z => n (by rw [z]; exact List.mem_singleton.mpr rfl)]
@[simp] def gsNil : List D → Rho → Option Rho
  | [], ρ => some ρ
  | _, _ => none
@[simp] def gsCons (g : D → Rho → Option Rho) (gs : List D → Rho → Option Rho) : List D → Rho → Option Rho
  | d :: ds, ρ => (g d ρ).bind (gs ds)
  | [], _ => none
theorem fgs_nil : PGs X [] (tGts [] gsNil) := by
  refine pgs_nil.imp fun vs σ H Q ⟨Hf, ρ, ds, ρ', rp, r, eg, k⟩ => ?_
  cases r with
  | nil => cases eg; exact ⟨rfl, k _ (.refl rp) (.refl _ _)⟩
  | cons _ _ => cases eg
theorem fgs_cons {is js : List Nat} {g1 : D → Rho → Option Rho} {gs : List D → Rho → Option Rho} (h1 : PG X e (tGt is g1)) (h2 : PGs X es (tGts js gs)) (hs : (assignEach (e :: es) X.env).map (·.2) = assign e X.env :: (assignEach es X.env).map (·.2) := by rfl) : PGs X (e :: es) (tGts (is ++ js) (gsCons g1 gs)) := by
  refine (pgs_cons h1 h2 hs).imp fun vs σ H Q ⟨Hf, ρ, ds, ρ', rp, r, eg, k⟩ => ?_
  cases r with
  | nil => cases eg
  | @cons v vs d ds hv hr =>
    cases e1 : g1 d ρ with
    | none => simp only [gsCons, e1, Option.bind_none, reduceCtorEq] at eg
    | some ρ1 =>
      simp only [gsCons, e1, Option.bind_some] at eg
      exact ⟨_, _, rfl, Hf, ρ, _, ρ1, rp, hv, e1, fun σ1 n1 o1 => ⟨Hf, ρ1, ds, ρ', n1.rp, hr, eg, fun σ2 n2 o2 => k σ2 (n1.trans n2) (o1.trans o2)⟩⟩
@[simp] def gTp (gs : List D → Rho → Option Rho) : D → Rho → Option Rho
  | .tuple ds, ρ => gs ds ρ
  | _, _ => none
theorem gs_len {n : Nat} {gs : List D → Rho → Option Rho} (hn : ∀ ds ρ ρ', gs ds ρ = some ρ' → ds.length = n) {g1 : D → Rho → Option Rho} : ∀ ds ρ ρ', gsCons g1 gs ds ρ = some ρ' → ds.length = n + 1 := by
  intro ds ρ ρ' e
  cases ds with
  | nil => cases e
  | cons d ds =>
    cases e1 : g1 d ρ with
    | none => simp only [gsCons, e1, Option.bind_none, reduceCtorEq] at e
    | some ρ1 =>
      simp only [gsCons, e1, Option.bind_some] at e
      rw [List.length_cons, hn ds ρ1 ρ' e]
theorem gs_len0 : ∀ ds ρ ρ', gsNil ds ρ = some ρ' → ds.length = 0 := by
  intro ds ρ ρ' e
  cases ds with
  | nil => rfl
  | cons _ _ => cases e
theorem fg_tup {k : Nat} {is : List Nat} {gs : List D → Rho → Option Rho} {n : Nat} (hc : X.calm = true) (h : PGs X es (tGts is gs)) (hl : ∀ ds ρ ρ', gs ds ρ = some ρ' → ds.length = n) (hn : (assignEach es X.env).length = n := by rfl) (hst : (assignEach es X.env).findIdx? (·.1) = none := by rfl) : PG X (.Tuple es k pos) (tGt is (gTp gs)) := by
  refine (pg_tup hc h hn hst).imp fun v σ H Q ⟨Hf, ρ, d, ρ', rp, r, eg, k⟩ => ?_
  cases r with
  | @tup a vs ds h1 h2 => exact ⟨_, _, rfl, SqT.of (rp.sub _ _ h1), by rw [repA_len h2]; exact hl _ _ _ eg, Hf, ρ, _, ρ', rp, h2, eg, k⟩
  | lst _ _ => cases eg
  | non => cases eg
  | bl _ => cases eg
  | int _ => cases eg
  | str _ => cases eg
/-! ### comprehensions -/
def wipeR (ρ : Rho) : List Nat → Rho
  | [] => ρ
  | v :: vs => (wipeR ρ vs).set v .un
theorem wipe_get (σ : St) (j : Nat) : ∀ vs : List Nat, (wipe σ vs)[j]? = if j ∈ vs then (if j < σ.length then some none else none) else σ[j]?
  | [] => by simp [wipe]
  | v :: vs => by
    unfold wipe
    rw [List.getElem?_set, wipe_length, wipe_get σ j vs]
    by_cases h : v = j
    · subst h
      simp
    · have : ¬ j = v := fun z => h z.symm
      simp [h, this]
theorem wipeR_len (ρ : Rho) : ∀ vs : List Nat, (wipeR ρ vs).length = ρ.length
  | [] => rfl
  | v :: vs => by unfold wipeR; rw [List.length_set, wipeR_len]
theorem wipeR_get (ρ : Rho) (j : Nat) : ∀ vs : List Nat, (wipeR ρ vs)[j]? = if j ∈ vs then (if j < ρ.length then some .un else none) else ρ[j]?
  | [] => by simp [wipeR]
  | v :: vs => by
    unfold wipeR
    rw [List.getElem?_set, wipeR_len, wipeR_get ρ j vs]
    by_cases h : v = j
    · subst h
      simp
    · have : ¬ j = v := fun z => h z.symm
      simp [h, this]
theorem own_wipe {σ : St} {ρ : Rho} {vs : List Nat} {a : Addr} (h : OwnA (wipe σ vs) (wipeR ρ vs) a) : OwnA σ ρ a := by
  obtain ⟨j, ds, e1, e2⟩ := h
  rw [wipeR_get] at e1
  rw [wipe_get] at e2
  by_cases q : j ∈ vs
  · rw [if_pos q] at e1
    split at e1 <;> cases e1
  · rw [if_neg q] at e1 e2
    exact ⟨j, ds, e1, e2⟩
theorem Rp.wipe {Hf H : Hp} {σ : St} {ρ : Rho} (rp : Rp Hf H σ ρ) (vs : List Nat) : Nxt σ ρ Hf H (wipe σ vs) (wipeR ρ vs) Hf H := by
  refine ⟨Same.refl _, fun _ _ h _ _ => h, fun a z => .inl (own_wipe z), fun _ h => h, fun _ h => .inl h, rp.sub, rp.tb, rp.nt, by rw [wipeR_len, wipe_length]; exact rp.len, fun j s h => ?_, fun j k p ds es h1 h2 h3 h4 => ?_⟩
  · rw [wipeR_get] at h
    rw [wipe_get]
    by_cases q : j ∈ vs
    · rw [if_pos q] at h ⊢
      split at h
      · cases h; exact slok_un
      · cases h
    · rw [if_neg q] at h ⊢
      exact rp.sl j s h
  · rw [wipeR_get] at h1 h2
    rw [wipe_get] at h3 h4
    by_cases q : j ∈ vs
    · rw [if_pos q] at h1
      split at h1 <;> cases h1
    · by_cases q' : k ∈ vs
      · rw [if_pos q'] at h2
        split at h2 <;> cases h2
      · rw [if_neg q] at h1 h3
        rw [if_neg q'] at h2 h4
        exact rp.nd j k p ds es h1 h2 h3 h4
theorem Only.wipe {is vs : List Nat} {σ σ' : St} (h : Only is σ σ') (hs : ∀ i ∈ is, i ∈ vs) : L2.wipe σ' vs = L2.wipe σ vs := by
  apply List.ext_getElem?
  intro j
  rw [wipe_get, wipe_get, h.1]
  by_cases q : j ∈ vs
  · rw [if_pos q, if_pos q]
  · rw [if_neg q, if_neg q]
    exact h.2 j fun z => q (hs j z)
theorem wipe_wipe (σ : St) (vs : List Nat) : L2.wipe (L2.wipe σ vs) vs = L2.wipe σ vs := by
  apply List.ext_getElem?
  intro j
  rw [wipe_get, wipe_get, wipe_length]
  by_cases q : j ∈ vs
  · rw [if_pos q, if_pos q]
  · rw [if_neg q, if_neg q]
/-- the outer names behind a comprehension -/
def keepFz : Option Sl → Sl
  | some (.fz d) => .fz d
  | _ => .un
def rest (ρ2 ρ1 : Rho) : List Nat → Rho
  | [] => ρ2
  | v :: vs => (rest ρ2 ρ1 vs).set v (keepFz ρ1[v]?)
theorem rest_len (ρ2 ρ1 : Rho) : ∀ vs : List Nat, (rest ρ2 ρ1 vs).length = ρ2.length
  | [] => rfl
  | v :: vs => by unfold rest; rw [List.length_set, rest_len]
theorem rest_get (ρ2 ρ1 : Rho) (j : Nat) : ∀ vs : List Nat, (rest ρ2 ρ1 vs)[j]? = if j ∈ vs then (if j < ρ2.length then some (keepFz ρ1[j]?) else none) else ρ2[j]?
  | [] => by simp [rest]
  | v :: vs => by
    unfold rest
    rw [List.getElem?_set, rest_len, rest_get ρ2 ρ1 j vs]
    by_cases h : v = j
    · subst h
      simp
    · have : ¬ j = v := fun z => h z.symm
      simp [h, this]
theorem Nxt.rest {Hf1 H1 Hf H : Hp} {σ : St} {ρ1 ρ2 : Rho} {vs : List Nat} (rp : Rp Hf1 H1 σ ρ1) (n : Nxt (L2.wipe σ vs) (wipeR ρ1 vs) Hf1 H1 (L2.wipe σ vs) (wipeR ρ2 vs) Hf H) : Nxt σ ρ1 Hf1 H1 σ (rest ρ2 ρ1 vs) Hf H := by
  have own : ∀ a, OwnA σ (Fx.rest ρ2 ρ1 vs) a → OwnA (L2.wipe σ vs) (wipeR ρ2 vs) a := fun a ⟨j, ds, e1, e2⟩ => by
    rw [rest_get] at e1
    by_cases q : j ∈ vs
    · rw [if_pos q] at e1
      split at e1
      · unfold keepFz at e1
        split at e1 <;> cases e1
      · cases e1
    · rw [if_neg q] at e1
      exact ⟨j, ds, by rw [wipeR_get, if_neg q]; exact e1, by rw [wipe_get, if_neg q]; exact e2⟩
  refine ⟨n.sub, fun a o h t nn => n.keep a o h t fun z => nn (own_wipe z), fun a z => (n.os a (own a z)).imp own_wipe id, n.dom, fun a z => (n.fr a z).imp id fun q => q.imp id own_wipe, n.rp.sub, n.rp.tb, n.rp.nt, ?_, fun j s h => ?_, fun j k p ds es h1 h2 h3 h4 => ?_⟩
  · have := n.rp.len
    rw [wipeR_len, wipe_length] at this
    rw [rest_len]
    exact this
  · rw [rest_get] at h
    by_cases q : j ∈ vs
    · rw [if_pos q] at h
      split at h
      · cases h
        cases e : ρ1[j]? with
        | none => exact slok_un
        | some s =>
          cases s with
          | un => exact slok_un
          | raw _ => exact slok_un
          | ow _ => exact slok_un
          | fz d =>
            obtain ⟨v, h1, h2⟩ := slok_fz' (rp.sl j _ e)
            rw [h1]
            exact slok_fz.mpr (rep_same n.sub h2)
      · cases h
    · rw [if_neg q] at h
      have z := n.rp.sl j s (by rw [wipeR_get, if_neg q]; exact h)
      rw [wipe_get, if_neg q] at z
      exact z
  · have o1 : ∀ (i : Nat) (ds : List D), (Fx.rest ρ2 ρ1 vs)[i]? = some (.ow ds) → i ∉ vs := fun i ds e z => by
      rw [rest_get, if_pos z] at e
      split at e
      · unfold keepFz at e
        split at e <;> cases e
      · cases e
    have q1 := o1 j _ h1
    have q2 := o1 k _ h2
    rw [rest_get, if_neg q1] at h1
    rw [rest_get, if_neg q2] at h2
    exact n.rp.nd j k p ds es (by rw [wipeR_get, if_neg q1]; exact h1) (by rw [wipeR_get, if_neg q2]; exact h2) (by rw [wipe_get, if_neg q1]; exact h3) (by rw [wipe_get, if_neg q2]; exact h4)
end
end Fx

namespace Fx
open PySem L2
variable [Tabz]
section
variable {X : Cx} {G : Gx} {e a b : Expr} {es : List Expr} {f g : M D} {fs : M (List D)} {pos : Pos} {tg : Expr}
def lcE (g : D → Rho → Option Rho) (tt : M Bool) (fe : M D) (vs : List Nat) : List D → Rho → Res (List D)
  | [], ρ => .ok ([], ρ)
  | d :: ds, ρ => match g d (wipeR ρ vs) with
    | none => .bad
    | some ρ1 => match tt ρ1 with
      | .ok (true, ρ2) => (match fe ρ2 with
        | .ok (x, ρ3) => (match lcE g tt fe vs ds ρ3 with
          | .ok (xs, ρ4) => .ok (x :: xs, ρ4)
          | _ => .bad)
        | _ => .bad)
      | .ok (false, ρ2) => lcE g tt fe vs ds ρ2
      | _ => .bad
def fLc (fi : M (List D)) (g : D → Rho → Option Rho) (tt : M Bool) (fe : M D) (vs : List Nat) : M (List D) := bnd fi fun ds ρ1 => if small ds.length then (match lcE g tt fe vs ds ρ1 with
    | .ok (xs, ρ2) => .ok (xs, rest ρ2 ρ1 vs)
    | _ => .bad) else .bad
def G0 (G : Gx) : Gx := ⟨fun _ _ _ _ => False, G.cA⟩
theorem Nxt.updNew {Hf0 H0 Hf H : Hp} {σ0 σ : St} {ρ0 ρ : Rho} (n : Nxt σ0 ρ0 Hf0 H0 σ ρ Hf H) {p : Addr} {vs ws : List V} (hv : H p = some (.lst vs)) (h0 : H0 p = none) (hp : Hf p = none) (no : ¬ OwnA σ ρ p) : Nxt σ0 ρ0 Hf0 H0 σ ρ Hf (upd H p (.lst ws)) := by
  refine ⟨n.sub, fun a x h t nn => ?_, n.os, fun a h => ?_, n.fr, n.rp.grow (Same.refl _) (fun a x h => ?_) (n.rp.tb.set hv) n.rp.nt fun a z => ⟨(n.rp.own z).1, upd_ne fun q => no (q ▸ z)⟩⟩
  · rw [upd_ne (ne_of_none h h0)]
    exact n.keep a x h t nn
  · by_cases q : a = p
    · exact q ▸ h0
    · rw [upd_ne q] at h
      exact n.dom a h
  · rw [upd_ne (ne_of_none h hp)]
    exact n.rp.sub _ _ h
theorem wipeR_wipeR (ρ : Rho) (vs : List Nat) : wipeR (wipeR ρ vs) vs = wipeR ρ vs := by
  apply List.ext_getElem?
  intro j
  rw [wipeR_get, wipeR_get, wipeR_len]
  by_cases q : j ∈ vs
  · rw [if_pos q, if_pos q]
  · rw [if_neg q, if_neg q]
theorem lc_run {fi : M (List D)} {is vs : List Nat} {g : D → Rho → Option Rho} {tt : M Bool} {fe : M D} (hs : ∀ i ∈ is, i ∈ vs) (σ : St) (H : Hp) (Q : VK) (h : tL G (fLc fi g tt fe vs) σ H Q) :
    tLc (tI G fi) (tGt is g) (tT (G0 G) tt) (tE (G0 G) fe) vs σ H Q := by
  obtain ⟨Hf, ρ, rp, af⟩ := h
  refine (stepL rp af).mono fun J H1 ⟨ds, Hf1, ρ1, n1, hJ, af1⟩ => ?_
  intro D0 hD
  cases hsm : small ds.length with
  | false => simp only [hsm] at af1; exact False.elim af1
  | true =>
    simp only [hsm, if_true] at af1
    cases er : lcE g tt fe vs ds ρ1 with
    | exc c _ => rw [er] at af1; exact False.elim af1
    | bad => rw [er] at af1; exact False.elim af1
    | ok x =>
      obtain ⟨xs, ρ2⟩ := x
      rw [er] at af1
      have rp1 := n1.rp
      have hDf : Hf1 D0 = none := rp1.sub.free hD
      have w1 := rp1.wipe vs
      have noD : ¬ OwnA (L2.wipe σ vs) (wipeR ρ1 vs) D0 := w1.rp.notOwn hD
      refine ⟨fun i m Hc => m = ds.length - i ∧ i ≤ ds.length ∧ ∃ Hfc ρc acc accv ys, Nxt (L2.wipe σ vs) (wipeR ρ1 vs) Hf1 H1 (L2.wipe σ vs) (wipeR ρc vs) Hfc Hc ∧ Hc D0 = some (.lst accv) ∧ Hfc D0 = none ∧ ¬ OwnA (L2.wipe σ vs) (wipeR ρc vs) D0 ∧
          RepA Hfc accv acc ∧ acc.length ≤ i ∧ lcE g tt fe vs (ds.drop i) ρc = .ok (ys, ρ2) ∧ acc ++ ys = xs,
        ⟨ds.length, by simp, Nat.zero_le _, Hf1, ρ1, [], [], xs, w1.rp.newO hD, upd_same, hDf, noD, .nil, Nat.le_refl _, er, rfl⟩, ?_⟩
      rintro i m Hc ⟨rfl, hi, Hfc, ρc, acc, accv, ys, n, eD, fD, oD, ra, hl, el, ex⟩
      have it := hJ i Hfc Hc (L2.wipe σ vs) (wipeR ρc vs) n.sub n.rp
      by_cases hlt : i < ds.length
      · have ed : ds[i]? = some ds[i] := List.getElem?_eq_getElem hlt
        have edr : ds.drop i = ds[i] :: ds.drop (i + 1) := List.drop_eq_getElem_cons hlt
        obtain ⟨hgo, hy⟩ := it.1 _ ed
        rw [edr] at el
        unfold lcE at el
        refine .inr ⟨hgo, fun H' => ∃ Hfc ρc acc accv ys, Nxt (L2.wipe σ vs) (wipeR ρ1 vs) Hf1 H1 (L2.wipe σ vs) (wipeR ρc vs) Hfc H' ∧ H' D0 = some (.lst accv) ∧ Hfc D0 = none ∧ ¬ OwnA (L2.wipe σ vs) (wipeR ρc vs) D0 ∧
          RepA Hfc accv acc ∧ acc.length ≤ i + 1 ∧ lcE g tt fe vs (ds.drop (i + 1)) ρc = .ok (ys, ρ2) ∧ acc ++ ys = xs, fun H' q => ⟨ds.length - (i + 1), by omega, rfl, hlt, q⟩, fun x H' yx => ?_⟩
        obtain ⟨Hfy, ny, ry⟩ := hy x H' yx
        -- facts on D0 through a step
        have carry : ∀ {σ2 : St} {ρ2' : Rho} {Hf2 H2 : Hp}, Nxt (L2.wipe σ vs) (wipeR ρc vs) Hfc Hc σ2 ρ2' Hf2 H2 → H2 D0 = some (.lst accv) ∧ Hf2 D0 = none ∧ ¬ OwnA σ2 ρ2' D0 := fun nn => by
          refine ⟨nn.keep _ _ eD NT.lst oD, (nn.fr D0 fD).elim id fun q => q.elim (fun z => ?_) fun z => absurd z oD, fun z => (nn.os D0 z).elim oD fun w => ?_⟩
          · rw [eD] at z; cases z
          · rw [eD] at w; cases w
        cases eg : g ds[i] (wipeR ρc vs) with
        | none => simp only [eg, reduceCtorEq] at el
        | some ρg =>
          simp only [eg] at el
          refine ⟨Hfy, wipeR ρc vs, _, ρg, ny.rp, ry, eg, fun σ2 n2 o2 => ⟨?_, ?_⟩⟩
          · rw [o2.wipe hs, wipe_wipe]
          · have n3 := ny.trans n2
            have ew : L2.wipe σ2 vs = L2.wipe σ vs := by rw [o2.wipe hs, wipe_wipe]
            refine ⟨Hfy, ρg, n3.rp, ?_⟩
            cases et : tt ρg with
            | exc c _ => simp only [et, reduceCtorEq] at el
            | bad => simp only [et, reduceCtorEq] at el
            | ok z =>
              obtain ⟨bt, ρt⟩ := z
              simp only [et] at el
              intro bb Hf4 H4 n4 eb
              subst eb
              have n5 := n3.trans n4
              cases bb with
              | false =>
                dsimp only at el
                have n6 := n5.trans (n5.rp.wipe vs)
                rw [ew] at n6
                obtain ⟨c1, c2, c3⟩ := carry n6
                exact ⟨Hf4, ρt, acc, accv, ys, n.trans n6, c1, c2, c3, repA_same n6.sub ra, by omega, el, ex⟩
              | true =>
                dsimp only at el
                refine ⟨Hf4, ρt, n5.rp, ?_⟩
                cases ee : fe ρt with
                | exc c _ => simp only [ee, reduceCtorEq] at el
                | bad => simp only [ee, reduceCtorEq] at el
                | ok z2 =>
                  obtain ⟨y, ρe⟩ := z2
                  simp only [ee] at el
                  intro v Hf7 H7 n7 rv
                  have n8 := n5.trans n7
                  obtain ⟨c1, c2, c3⟩ := carry n8
                  have n9 := n8.trans (n8.rp.wipe vs)
                  rw [ew] at n9
                  obtain ⟨d1, d2, d3⟩ := carry n9
                  refine ⟨accv, c1, ?_, ?_⟩
                  · rw [repA_len ra]
                    exact Nat.lt_of_le_of_lt hl (Nat.lt_trans hlt (small_lt hsm))
                  · cases e5 : lcE g tt fe vs (ds.drop (i + 1)) ρe with
                    | exc c _ => simp only [e5, reduceCtorEq] at el
                    | bad => simp only [e5, reduceCtorEq] at el
                    | ok z3 =>
                      obtain ⟨ys2, ρ5⟩ := z3
                      simp only [e5, Res.ok.injEq, Prod.mk.injEq] at el
                      obtain ⟨e6, e7⟩ := el
                      subst e6 e7
                      refine ⟨Hf7, ρe, acc ++ [y], accv ++ [v], ys2, (n.trans n9).updNew d1 hD d2 d3, upd_same, d2, d3, repA_append (repA_same n9.sub ra) (.cons rv .nil), ?_, e5, ?_⟩
                      · rw [List.length_append, List.length_singleton]; omega
                      · rw [List.append_assoc]; exact ex
      · have ei : i = ds.length := by omega
        subst ei
        rw [List.drop_length] at el
        unfold lcE at el
        cases el
        rw [List.append_nil] at ex
        subst ex
        refine .inl ⟨it.2 (Nat.le_refl _), ?_⟩
        have nr := Nxt.rest rp1 n
        refine af1 D0 accv Hfc Hc nr hD fD (fun z => oD ?_) eD ra
        obtain ⟨j, dd, e1, e2⟩ := z
        rw [rest_get] at e1
        by_cases q : j ∈ vs
        · rw [if_pos q] at e1
          split at e1
          · unfold keepFz at e1
            split at e1 <;> cases e1
          · cases e1
        · rw [if_neg q] at e1
          exact ⟨j, dd, by rw [wipeR_get, if_neg q]; exact e1, by rw [wipe_get, if_neg q]; exact e2⟩
theorem fts_nil : PTs X [] (tT G (ret true)) := ⟨fun pins s σ H Q I ⟨Hf, ρ, rp, af⟩ => pts_nil.run pins s σ H Q I (fin rp af rfl)⟩
theorem fts_one {c : Expr} {p : M Bool} (h : PT X c (tT G p)) : PTs X [c] (tT G p) := pts_one h
theorem fl_lc {elt iter : Expr} {ifs : List Expr} {scope : Scope} {own : List (Str × Nat)} {fi : M (List D)} {is : List Nat} {g : D → Rho → Option Rho} {tt : M Bool} {fe : M D} (hc : X.calm = true) (hN : X.N.Nodup) (ok : BlkOk X.N X.env.scope scope own) (his : ∀ i ∈ is, i ∈ own.map (·.2)) (hi : PI X tg iter (tI G fi))
    (hg : ∀ (s : Shared) (H : Hp) (C : Addr) (cl : List (Str × Addr)) (fp : List Addr), PG (X.blk s H scope (compEnvC scope cl C X.env) fp) tg (tGt is g)) (ht : ∀ (s : Shared) (H : Hp) (C : Addr) (cl : List (Str × Addr)) (fp : List Addr), PTs (X.blk s H scope (compEnvC scope cl C X.env) fp) ifs (tT (G0 G) tt))
    (he : ∀ (s : Shared) (H : Hp) (C : Addr) (cl : List (Str × Addr)) (fp : List Addr), PE (X.blk s H scope (compEnvC scope cl C X.env) fp) elt (tE (G0 G) fe)) (hs : ∀ x, foldedSetIterable iter X.env x = pure x := by intro _; rfl) :
    PE X (.ListComp elt [⟨tg, iter, ifs, 0⟩] scope pos) (tL G (fLc fi g tt fe (own.map (·.2)))) := (pe_lc hc hN hi ok hg ht he hs).imp (lc_run his)
end
end Fx

namespace Fx
open PySem L2
variable [Tabz]
/-! ### statements -/
inductive Rt where
  | fz (d : D)
  | ow (ds : List D)
inductive Fl where
  | nx (ρ : Rho)
  | ret (r : Rt) (ρ : Rho)
  | brk (ρ : Rho)
  | ct (ρ : Rho)
  | exc (c : Str) (ρ : Rho)
  | bad
def RtOk (pn : List Nat) (σ : St) (ρ : Rho) (H : Hp) (σ' : St) (ρ' : Rho) (Hf' H' : Hp) (v : V) : Rt → Prop
  | .fz d => Rep Hf' v d
  | .ow ds => ∃ p vs, v = .ref p ∧ (H p = none ∨ OwnA σ ρ p) ∧ (∀ j ∈ pn, σ[j]? ≠ some (some (.ref p))) ∧ Hf' p = none ∧ ¬ OwnA σ' ρ' p ∧ H' p = some (.lst vs) ∧ RepA Hf' vs ds
def Pin (pn : List Nat) (σ σ' : St) : Prop := ∀ j ∈ pn, σ'[j]? = σ[j]?
theorem Pin.refl (pn : List Nat) (σ : St) : Pin pn σ σ := fun _ _ => rfl
theorem Pin.trans {pn : List Nat} {σ σ1 σ2 : St} (h : Pin pn σ σ1) (h' : Pin pn σ1 σ2) : Pin pn σ σ2 := fun j z => (h' j z).trans (h j z)
def AfS (G : Gx) (pn : List Nat) (σ : St) (ρ : Rho) (Hf H : Hp) (D : Ends) : Fl → Prop
  | .nx ρ' => ∀ σ' Hf' H', Nxt σ ρ Hf H σ' ρ' Hf' H' → Pin pn σ σ' → D.nx σ' H'
  | .brk ρ' => ∀ σ' Hf' H', Nxt σ ρ Hf H σ' ρ' Hf' H' → Pin pn σ σ' → D.bk σ' H'
  | .ct ρ' => ∀ σ' Hf' H', Nxt σ ρ Hf H σ' ρ' Hf' H' → Pin pn σ σ' → D.ct σ' H'
  | .ret r ρ' => ∀ v σ' Hf' H', Nxt σ ρ Hf H σ' ρ' Hf' H' → Pin pn σ σ' → RtOk pn σ ρ H σ' ρ' Hf' H' v r → D.rt v H'
  | .exc c ρ' => ∀ σ' Hf' H', Nxt σ ρ Hf H σ' ρ' Hf' H' → Pin pn σ σ' → G.W (.ref (G.cA c)) none σ' H'
  | .bad => False
def tS (G : Gx) (pn : List Nat) (g : Rho → Fl) : TS := fun D σ H => ∃ Hf ρ, Rp Hf H σ ρ ∧ AfS G pn σ ρ Hf H D (g ρ)
section
variable {G : Gx} {pn : List Nat} {σ σ1 : St} {ρ ρ1 : Rho} {Hf H Hf1 H1 : Hp} {D : Ends}
theorem Keep.later (n : Nxt σ ρ Hf H σ1 ρ1 Hf1 H1) {H' : Hp} (k : Keep σ1 ρ1 H1 H') : Keep σ ρ H H' := fun x o h t nn => k x o (n.keep x o h t nn) t fun z => (n.os x z).elim nn fun w => by rw [h] at w; cases w
theorem AfS.later (n : Nxt σ ρ Hf H σ1 ρ1 Hf1 H1) (pi : Pin pn σ σ1) : ∀ {o : Fl}, AfS G pn σ ρ Hf H D o → AfS G pn σ1 ρ1 Hf1 H1 D o
  | .nx _, q => fun σ' Hf' H' n' p' => q σ' Hf' H' (n.trans n') (pi.trans p')
  | .brk _, q => fun σ' Hf' H' n' p' => q σ' Hf' H' (n.trans n') (pi.trans p')
  | .ct _, q => fun σ' Hf' H' n' p' => q σ' Hf' H' (n.trans n') (pi.trans p')
  | .ret (.fz d) _, q => fun v σ' Hf' H' n' p' r => q v σ' Hf' H' (n.trans n') (pi.trans p') r
  | .ret (.ow ds) _, q => fun v σ' Hf' H' n' p' r => q v σ' Hf' H' (n.trans n') (pi.trans p') (by
      obtain ⟨p, vs, e, h1, h2, h3⟩ := r
      refine ⟨p, vs, e, h1.elim (fun z => .inl (n.dom p z)) fun z => (n.os p z).elim .inr .inl, fun j hj => ?_, h3⟩
      rw [← pi j hj]
      exact h2 j hj)
  | .exc _ _, q => fun σ' Hf' H' n' p' => q σ' Hf' H' (n.trans n') (pi.trans p')
  | .bad, q => q
end
section
variable {X : Cx} {G : Gx} {e a b : Expr} {es : List Expr} {f g : M PyData} {fs : M (List PyData)} {pos : Pos} {tg : Expr} {pn : List Nat} {st : Stmt} {sts : List Stmt} {s t : Rho → Fl}
@[simp] def sSeq (s t : Rho → Fl) : Rho → Fl := fun ρ => match s ρ with
  | .nx ρ1 => t ρ1
  | x => x
@[simp] def sNil : Rho → Fl := fun ρ => .nx ρ
theorem fss_nil : PSs X [] (tS G pn sNil) := pss_nil.imp fun D σ H ⟨Hf, ρ, rp, af⟩ => af σ Hf H (.refl rp) (.refl _ _)
theorem fss_one (h : PS X st (tS G pn s)) : PSs X [st] (tS G pn s) := pss_one h
theorem fss_cons (h1 : PS X st (tS G pn s)) (h2 : PSs X sts (tS G pn t)) : PSs X (st :: sts) (tS G pn (sSeq s t)) := by
  refine (pss_cons h1 h2).imp fun D σ H ⟨Hf, ρ, rp, af⟩ => ⟨Hf, ρ, rp, ?_⟩
  unfold sSeq at af
  cases e : s ρ with
  | nx ρ1 => rw [e] at af; exact fun σ1 Hf1 H1 n p => ⟨Hf1, ρ1, n.rp, af.later n p⟩
  | brk ρ1 => rw [e] at af; exact af
  | ct ρ1 => rw [e] at af; exact af
  | ret r ρ1 => rw [e] at af; exact af
  | exc c ρ1 => rw [e] at af; exact af
  | bad => rw [e] at af; exact af
/-- an expression ahead of the rest of a statement -/
@[simp] def sBnd {α : Type} (f : M α) (k : α → Rho → Fl) : Rho → Fl := fun ρ => match f ρ with
  | .ok (x, ρ1) => k x ρ1
  | .exc c ρ1 => .exc c ρ1
  | .bad => .bad
theorem stepS {α β : Type} {R1 : Hp → β → α → Prop} {σ : St} {ρ : Rho} {Hf H : Hp} {D : Ends} {g : M α} {k : α → Rho → Fl} (rp : Rp Hf H σ ρ) (af : AfS G pn σ ρ Hf H D (sBnd g k ρ)) :
    tG G R1 g σ H fun y H1 => ∃ b Hf1 ρ1, Nxt σ ρ Hf H σ ρ1 Hf1 H1 ∧ R1 Hf1 y b ∧ AfS G pn σ ρ1 Hf1 H1 D (k b ρ1) := by
  refine ⟨Hf, ρ, rp, ?_⟩
  unfold sBnd at af
  cases e : g ρ with
  | ok p =>
    obtain ⟨b, ρ1⟩ := p
    rw [e] at af
    exact fun x Hf1 H1 n r => ⟨b, Hf1, ρ1, n, r, af.later n (.refl _ _)⟩
  | exc c ρ1 => rw [e] at af; exact fun Hf' H' n => af σ Hf' H' n (.refl _ _)
  | bad => rw [e] at af; exact af
theorem stepSL {σ : St} {ρ : Rho} {Hf H : Hp} {D : Ends} {g : M (List PyData)} {k : List PyData → Rho → Fl} (rp : Rp Hf H σ ρ) (af : AfS G pn σ ρ Hf H D (sBnd g k ρ)) :
    tL G g σ H fun y H1 => ∃ p vs ds Hf1 ρ1, y = .ref p ∧ Nxt σ ρ Hf H σ ρ1 Hf1 H1 ∧ H p = none ∧ Hf1 p = none ∧ ¬ OwnA σ ρ1 p ∧ H1 p = some (.lst vs) ∧ RepA Hf1 vs ds ∧ AfS G pn σ ρ Hf H D (k ds ρ1) := by
  refine ⟨Hf, ρ, rp, ?_⟩
  unfold sBnd at af
  cases e : g ρ with
  | ok p =>
    obtain ⟨b, ρ1⟩ := p
    rw [e] at af
    exact fun p vs Hf1 H1 n h1 h2 h3 h4 r => ⟨p, vs, b, Hf1, ρ1, rfl, n, h1, h2, h3, h4, r, af⟩
  | exc c ρ1 => rw [e] at af; exact fun Hf' H' n => af σ Hf' H' n (.refl _ _)
  | bad => rw [e] at af; exact af
theorem _root_.Fx.tL.mono {f : M (List PyData)} {σ : St} {H : Hp} {Q Q' : VK} (h : ∀ x H, Q x H → Q' x H) (t : tL G f σ H Q) : tL G f σ H Q' := by
  obtain ⟨Hf, ρ, rp, q⟩ := t
  refine ⟨Hf, ρ, rp, ?_⟩
  cases e : f ρ with
  | ok x => obtain ⟨ds, ρ'⟩ := x; rw [e] at q; exact fun p vs Hf' H' n h1 h2 h3 h4 r => h _ _ (q p vs Hf' H' n h1 h2 h3 h4 r)
  | exc c ρ1 => rw [e] at q; exact q
  | bad => rw [e] at q; exact q
@[simp] def sDrop (f : M PyData) : Rho → Fl := fun ρ => (sBnd f fun _ ρ => .nx ρ) ρ
theorem fs_expr (he : PE X e (tE G f)) (hs : swapsWith e none pos.line X.env = pure false := by rfl) : PS X (.Expr e pos) (tS G pn (sDrop f)) := by
  refine (ps_expr he hs).imp fun D σ H ⟨Hf, ρ, rp, af⟩ => ?_
  exact (stepS rp af).mono fun x H1 ⟨d, Hf1, ρ1, n1, ra, af1⟩ => af1 σ Hf1 H1 (.refl n1.rp) (.refl _ _)
theorem pin_set {i : Nat} {σ : St} {o : Option V} (h : i ∉ pn) : Pin pn σ (σ.set i o) := fun j z => by
  rw [List.getElem?_set, if_neg (fun (q : i = j) => h (q ▸ z))]
@[simp] def sSet (i : Nat) (f : M PyData) : Rho → Fl := fun ρ => (sBnd f fun d ρ => .nx (ρ.set i (.fz d))) ρ
theorem fs_set (i : Nat) {x : Str} {pos' : Pos} (hN : X.N.Nodup) (hpn : i ∉ pn) (he : PE X e (tE G f)) (hi : X.N[i]? = some x := by rfl) (hx : Loc X.env.scope x := by first | exact Or.inl rfl | exact Or.inr rfl) (hs : swapsWith e (some (.Name x pos')) pos.line X.env = pure false := by rfl) (hf : X.fn x = true ∨ X.env.scope.names.lookup x = some .local := by first | exact .inl rfl | exact .inr rfl) :
    PS X (.Assign [.Name x pos'] e pos) (tS G pn (sSet i f)) := by
  refine (ps_set hN hi hx he hs hf).imp fun D σ H ⟨Hf, ρ, rp, af⟩ => ?_
  exact (stepS rp af).mono fun v H1 ⟨d, Hf1, ρ1, n1, ra, af1⟩ => af1 _ Hf1 H1 (n1.rp.put ra) (pin_set hpn)
@[simp] def sSetL (i : Nat) (f : M (List PyData)) : Rho → Fl := fun ρ => (sBnd f fun ds ρ => .nx (ρ.set i (.ow ds))) ρ
theorem rd_setL {i : Nat} {f : M (List PyData)} (hpn : i ∉ pn) (D : Ends) (σ : St) (H : Hp) (h : tS G pn (sSetL i f) D σ H) : tAsg (tL G f) (gName i) D σ H := by
  obtain ⟨Hf, ρ, rp, af⟩ := h
  refine (stepSL rp af).mono fun v H1 ⟨p, vs, ds, Hf1, ρ1, ev, n1, h1, h2, h3, h4, r, af1⟩ => ?_
  subst ev
  exact af1 _ Hf1 H1 (n1.putO h1 h2 h3 h4 r) (pin_set hpn)
theorem fs_setL (i : Nat) {x : Str} {pos' : Pos} {f : M (List PyData)} (hN : X.N.Nodup) (hpn : i ∉ pn) (he : PE X e (tL G f)) (hi : X.N[i]? = some x := by rfl) (hx : Loc X.env.scope x := by first | exact Or.inl rfl | exact Or.inr rfl) (hs : swapsWith e (some (.Name x pos')) pos.line X.env = pure false := by rfl) (hf : X.fn x = true ∨ X.env.scope.names.lookup x = some .local := by first | exact .inl rfl | exact .inr rfl) :
    PS X (.Assign [.Name x pos'] e pos) (tS G pn (sSetL i f)) := (ps_set hN hi hx he hs hf).imp (rd_setL hpn)
theorem fs_setLc (i : Nat) {y : Str} {py spos : Pos} {elt iter : Expr} {ifs : List Expr} {scope : Scope} {own : List (Str × Nat)} {fi : M (List PyData)} {is : List Nat} {g : PyData → Rho → Option Rho} {tt : M Bool} {fe : M PyData} (hc : X.calm = true) (hN : X.N.Nodup) (hpn : i ∉ pn) (hy : X.N[i]? = some y) (hyl : X.env.scope.names.lookup y = some .local)
    (hsw : swapsWith (.ListComp elt [⟨tg, iter, ifs, 0⟩] scope pos) (some (.Name y py)) spos.line X.env = pure true) (ok : BlkOk X.N X.env.scope scope own) (his : ∀ i ∈ is, i ∈ own.map (·.2)) (hi : PI X tg iter (tI G fi))
    (hg : ∀ (s : Shared) (H : Hp) (C : Addr) (cl : List (Str × Addr)) (fp : List Addr), PG (X.blk s H scope (compEnvC scope cl C X.env) fp) tg (tGt is g)) (ht : ∀ (s : Shared) (H : Hp) (C : Addr) (cl : List (Str × Addr)) (fp : List Addr), PTs (X.blk s H scope (compEnvC scope cl C X.env) fp) ifs (tT (G0 G) tt))
    (he : ∀ (s : Shared) (H : Hp) (C : Addr) (cl : List (Str × Addr)) (fp : List Addr), PE (X.blk s H scope (compEnvC scope cl C X.env) fp) elt (tE (G0 G) fe)) (hs : ∀ x, foldedSetIterable iter X.env x = pure x := by intro _; rfl) :
    PS X (.Assign [.Name y py] (.ListComp elt [⟨tg, iter, ifs, 0⟩] scope pos) spos) (tS G pn (sSetL i (fLc fi g tt fe (own.map (·.2))))) := by
  refine (ps_setLc hc hN hy hyl hsw hi ok hg ht he hs).imp fun D σ H h => ?_
  exact lc_run his σ H _ (rd_setL hpn D σ H h)
@[simp] def sAsg (g : PyData → Rho → Option Rho) (f : M PyData) : Rho → Fl := fun ρ => (sBnd f fun d ρ => match g d ρ with
  | some ρ' => .nx ρ'
  | none => .bad) ρ
theorem pin_only {is : List Nat} {σ σ' : St} (o : Only is σ σ') (h : ∀ i ∈ is, i ∉ pn) : Pin pn σ σ' := fun j z => o.2 j fun q => h j q z
theorem fs_asg {is : List Nat} {g : PyData → Rho → Option Rho} (hpn : ∀ i ∈ is, i ∉ pn) (he : PE X e (tE G f)) (hg : PG X tg (tGt is g)) (hs : swapsWithSole [tg] e pos.line X.env = pure false := by rfl) (hw : swappedStores [tg] e X.env = pure none := by rfl)
    (h1 : (assignEach [tg] X.env).map (·.2) = [assign tg X.env] := by rfl) : PS X (.Assign [tg] e pos) (tS G pn (sAsg g f)) := by
  refine (ps_asg he hg hs hw h1).imp fun D σ H ⟨Hf, ρ, rp, af⟩ => ?_
  refine (stepS rp af).mono fun v H1 ⟨d, Hf1, ρ1, n1, ra, af1⟩ => ?_
  cases eg : g d ρ1 with
  | none => simp only [eg] at af1; exact False.elim af1
  | some ρ2 =>
    simp only [eg] at af1
    exact ⟨Hf1, ρ1, d, ρ2, n1.rp, ra, eg, fun σ' n2 o => af1 σ' Hf1 H1 n2 (pin_only o hpn)⟩
@[simp] def sRet (f : M PyData) : Rho → Fl := fun ρ => (sBnd f fun d ρ => .ret (.fz d) ρ) ρ
theorem fs_ret (he : PE X e (tE G f)) : PS X (.Return (some e) pos) (tS G pn (sRet f)) := by
  refine (ps_ret he).imp fun D σ H ⟨Hf, ρ, rp, af⟩ => ?_
  exact (stepS rp af).mono fun x H1 ⟨d, Hf1, ρ1, n1, ra, af1⟩ => af1 x σ Hf1 H1 (.refl n1.rp) (.refl _ _) ra
@[simp] def sRetL (f : M (List PyData)) : Rho → Fl := fun ρ => (sBnd f fun ds ρ => .ret (.ow ds) ρ) ρ
theorem fs_retL {f : M (List PyData)} (hpn : pn = []) (he : PE X e (tL G f)) : PS X (.Return (some e) pos) (tS G pn (sRetL f)) := by
  refine (ps_ret he).imp fun D σ H ⟨Hf, ρ, rp, af⟩ => ?_
  refine (stepSL rp af).mono fun v H1 ⟨p, vs, ds, Hf1, ρ1, ev, n1, h1, h2, h3, h4, r, af1⟩ => ?_
  subst ev hpn
  exact af1 _ σ Hf1 H1 n1 (.refl _ _) ⟨p, vs, rfl, .inl h1, fun j z => absurd z (List.not_mem_nil), h2, h3, h4, r⟩
/-- .. where the first parameter is a list that is changed here -/
@[simp] def io0 (ρ : Rho) : Bool := match (ρ[(0 : Nat)]? : Option Sl) with
  | some (.ow _) => true
  | _ => false
theorem io0_own {ρ : Rho} (h : io0 ρ = true) : ∃ ds, ρ[0]? = some (.ow ds) := by
  unfold io0 at h
  split at h
  · rename_i ds e; exact ⟨ds, e⟩
  · cases h
@[simp] def sRetL0 (f : M (List PyData)) : Rho → Fl := fun ρ => if io0 ρ then sRetL f ρ else .bad
theorem fs_retL0 {f : M (List PyData)} (hpn : pn = [0]) (he : PE X e (tL G f)) : PS X (.Return (some e) pos) (tS G pn (sRetL0 f)) := by
  refine (ps_ret he).imp fun D σ H ⟨Hf, ρ, rp, af⟩ => ?_
  unfold sRetL0 at af
  cases e0 : io0 ρ with
  | false => rw [e0] at af; exact False.elim af
  | true =>
    rw [e0, if_pos rfl] at af
    obtain ⟨ds0, h0⟩ := io0_own e0
    obtain ⟨p0, vs0, s0, _, g0, _⟩ := slok_ow (rp.sl 0 _ h0)
    refine (stepSL rp af).mono fun v H1 ⟨p, vs, ds, Hf1, ρ1, ev, n1, h1, h2, h3, h4, r, af1⟩ => ?_
    subst ev hpn
    refine af1 _ σ Hf1 H1 n1 (.refl _ _) ⟨p, vs, rfl, .inl h1, fun j z q => ?_, h2, h3, h4, r⟩
    rw [List.mem_singleton] at z
    subst z
    rw [s0] at q
    cases q
    rw [g0] at h1
    cases h1
@[simp] def sRetN : Rho → Fl := fun ρ => .ret (.fz .none) ρ
theorem fs_retN : PS X (.Return none pos) (tS G pn sRetN) := ps_retN.imp fun D σ H ⟨Hf, ρ, rp, af⟩ => af _ σ Hf H (.refl rp) (.refl _ _) .non
/-- return x -/
@[simp] def sRetV (i : Nat) : Rho → Fl := fun ρ => match ρ[i]? with
  | some (.fz d) => .ret (.fz d) ρ
  | some (.ow ds) => .ret (.ow ds) (ρ.set i .un)
  | _ => .bad
theorem Rp.drop {Hf H : Hp} {σ : St} {ρ : Rho} (rp : Rp Hf H σ ρ) (i : Nat) : Nxt σ ρ Hf H σ (ρ.set i .un) Hf H := by
  refine ⟨Same.refl _, fun _ _ h _ _ => h, fun a z => .inl (own_set (fun _ => Sl.noConfusion) z).1, fun _ h => h, fun _ h => .inl h, rp.sub, rp.tb, rp.nt, by rw [List.length_set]; exact rp.len, fun j s h => ?_, fun j k p ds es h1 h2 h3 h4 => ?_⟩
  · rw [List.getElem?_set] at h
    split at h
    · split at h
      · cases h; exact slok_un
      · cases h
    · exact rp.sl j s h
  · rw [List.getElem?_set] at h1 h2
    split at h1
    · split at h1 <;> cases h1
    · split at h2
      · split at h2 <;> cases h2
      · exact rp.nd j k p ds es h1 h2 h3 h4
theorem fs_retV (i : Nat) {x : Str} {p1 : Pos} (hpi : pn = []) (hN : X.N[i]? = some x := by rfl) (hv : Vis X.env.scope x := by first | exact Or.inl rfl | exact Or.inr (Or.inl rfl) | exact Or.inr (Or.inr rfl)) (hd : (x == ("__debug__" : Str)) = false := by decide)
    (hcd : (x == ("__classdict__" : Str)) = false := by decide) : PS X (.Return (some (.Name x p1)) pos) (tS G pn (sRetV i)) := by
  refine (ps_ret (pe_var hN hv hd hcd)).imp fun D σ H ⟨Hf, ρ, rp, af⟩ => ?_
  unfold sRetV at af
  cases e : ρ[i]? with
  | none => rw [e] at af; exact af.elim
  | some s =>
    rw [e] at af
    cases s with
    | un => exact af.elim
    | raw _ => exact af.elim
    | fz d =>
      obtain ⟨v, hv, q⟩ := slok_fz' (rp.sl i _ e)
      exact ⟨v, hv, af v σ Hf H (.refl rp) (.refl _ _) q⟩
    | ow ds =>
      obtain ⟨p, vs, e1, h1, h2, h3⟩ := slok_ow (rp.sl i _ e)
      refine ⟨_, e1, af _ σ Hf H (rp.drop i) (.refl _ _) ⟨p, vs, rfl, .inr ⟨i, ds, e, e1⟩, fun j z => ?_, h1, fun z => ?_, h2, h3⟩⟩
      · subst hpi; exact absurd z List.not_mem_nil
      · obtain ⟨o1, o2⟩ := own_set (fun _ => Sl.noConfusion) z
        rcases o2 ds e with n | ⟨j, es, nj, j1, j2⟩
        · exact n e1
        · exact nj (rp.nd j i p es ds j1 e j2 e1)
/-- .. where another, first one is a parameter's list -/
@[simp] def sRetV0 (i : Nat) : Rho → Fl := fun ρ => if io0 ρ then sRetV i ρ else .bad
theorem fs_retV0 (i : Nat) {x : Str} {p1 : Pos} (hpi : pn = [0]) (hi0 : i ≠ 0) (hN : X.N[i]? = some x := by rfl) (hv : Vis X.env.scope x := by first | exact Or.inl rfl | exact Or.inr (Or.inl rfl) | exact Or.inr (Or.inr rfl)) (hd : (x == ("__debug__" : Str)) = false := by decide)
    (hcd : (x == ("__classdict__" : Str)) = false := by decide) : PS X (.Return (some (.Name x p1)) pos) (tS G pn (sRetV0 i)) := by
  refine (ps_ret (pe_var hN hv hd hcd)).imp fun D σ H ⟨Hf, ρ, rp, af⟩ => ?_
  unfold sRetV0 at af
  cases e0 : io0 ρ with
  | false => rw [e0] at af; exact False.elim af
  | true =>
    rw [e0, if_pos rfl] at af
    obtain ⟨ds0, h0⟩ := io0_own e0
    unfold sRetV at af
    cases e : ρ[i]? with
    | none => rw [e] at af; exact af.elim
    | some s =>
      rw [e] at af
      cases s with
      | un => exact af.elim
      | raw _ => exact af.elim
      | fz d =>
        obtain ⟨v, hv, q⟩ := slok_fz' (rp.sl i _ e)
        exact ⟨v, hv, af v σ Hf H (.refl rp) (.refl _ _) q⟩
      | ow ds =>
        obtain ⟨p, vs, e1, h1, h2, h3⟩ := slok_ow (rp.sl i _ e)
        refine ⟨_, e1, af _ σ Hf H (rp.drop i) (.refl _ _) ⟨p, vs, rfl, .inr ⟨i, ds, e, e1⟩, fun j z q => ?_, h1, fun z => ?_, h2, h3⟩⟩
        · subst hpi
          rw [List.mem_singleton] at z
          subst z
          exact hi0 (rp.nd i 0 p ds ds0 e h0 e1 q)
        · obtain ⟨o1, o2⟩ := own_set (fun _ => Sl.noConfusion) z
          rcases o2 ds e with n | ⟨j, es, nj, j1, j2⟩
          · exact n e1
          · exact nj (rp.nd j i p es ds j1 e j2 e1)
@[simp] def sIf (p : M Bool) (s t : Rho → Fl) : Rho → Fl := fun ρ => (sBnd p fun c => if c = true then s else t) ρ
theorem fs_if {c : Expr} {as bs : List Stmt} {p : M Bool} (hc : PT X c (tT G p)) (ha : PSs X as (tS G pn s)) (hb : PSs X bs (tS G pn t)) : PS X (.If c as bs pos) (tS G pn (sIf p s t)) := by
  refine (ps_if hc ha hb).imp fun D σ H ⟨Hf, ρ, rp, af⟩ => ?_
  refine (stepS rp af).mono fun x H1 ⟨d, Hf1, ρ1, n1, ra, af1⟩ => ?_
  subst ra
  cases x with
  | true => exact ⟨Hf1, ρ1, n1.rp, af1⟩
  | false => exact ⟨Hf1, ρ1, n1.rp, af1⟩
@[simp] def sBrk : Rho → Fl := fun ρ => .brk ρ
@[simp] def sCt : Rho → Fl := fun ρ => .ct ρ
theorem fs_break : PS X (.Break pos) (tS G pn sBrk) := ps_break.imp fun D σ H ⟨Hf, ρ, rp, af⟩ => af σ Hf H (.refl rp) (.refl _ _)
theorem fs_continue : PS X (.Continue pos) (tS G pn sCt) := ps_continue.imp fun D σ H ⟨Hf, ρ, rp, af⟩ => af σ Hf H (.refl rp) (.refl _ _)
theorem fs_pass : PS X (.Pass pos) (tS G pn sNil) := ps_pass.imp fun D σ H ⟨Hf, ρ, rp, af⟩ => af σ Hf H (.refl rp) (.refl _ _)
/-! ### for -/
def forE (g : PyData → Rho → Option Rho) (s : Rho → Fl) : List PyData → Rho → Fl
  | [], ρ => .nx ρ
  | d :: ds, ρ => match g d ρ with
    | none => .bad
    | some ρ1 => match s ρ1 with
      | .nx ρ2 => forE g s ds ρ2
      | .ct ρ2 => forE g s ds ρ2
      | .brk ρ2 => .nx ρ2
      | x => x
def sFor (fi : M (List PyData)) (g : PyData → Rho → Option Rho) (s : Rho → Fl) : Rho → Fl := sBnd fi fun ds ρ => forE g s ds ρ
theorem fs_for {iter : Expr} {fi : M (List PyData)} {is : List Nat} {g : PyData → Rho → Option Rho} (hp : PassesOwn (model X.prog X.w) X.A X.env X.xe) (hc : X.calm = true) (hpn : ∀ i ∈ is, i ∉ pn) (hi : PI X tg iter (tI G fi)) (hg : PG X tg (tGt is g)) (hb : PSs X sts (tS G pn s))
    (hs : ∀ x, foldedSetIterable iter X.env x = pure x := by intro _; rfl) : PS X (.For tg iter sts [] pos) (tS G pn (sFor fi g s)) := by
  refine (ps_for hp hc hi hg hb hs).imp fun D σ H ⟨Hf, ρ, rp, af⟩ => ?_
  refine (stepS rp af).mono fun J H1 ⟨ds, Hf1, ρ1, n1, hJ, af1⟩ => ?_
  refine ⟨fun i m σc Hc => m = ds.length - i ∧ i ≤ ds.length ∧ ∃ Hfc ρc, Same Hf1 Hfc ∧ Rp Hfc Hc σc ρc ∧ AfS G pn σc ρc Hfc Hc D (forE g s (ds.drop i) ρc), ⟨ds.length, by simp, Nat.zero_le _, Hf1, ρ1, Same.refl _, n1.rp, af1⟩, ?_⟩
  rintro i m σc Hc ⟨rfl, hi, Hfc, ρc, sm, rpc, afc⟩
  have it := hJ i Hfc Hc σc ρc sm rpc
  by_cases hlt : i < ds.length
  · have ed : ds[i]? = some ds[i] := List.getElem?_eq_getElem hlt
    have edr : ds.drop i = ds[i] :: ds.drop (i + 1) := List.drop_eq_getElem_cons hlt
    obtain ⟨hgo, hy⟩ := it.1 _ ed
    rw [edr] at afc
    unfold forE at afc
    refine .inr ⟨hgo, fun σ' H' => ∃ Hfc ρc, Same Hf1 Hfc ∧ Rp Hfc H' σ' ρc ∧ AfS G pn σ' ρc Hfc H' D (forE g s (ds.drop (i + 1)) ρc), fun σ' H' q => ⟨ds.length - (i + 1), by omega, rfl, hlt, q⟩, fun x H' yx => ?_⟩
    obtain ⟨Hfy, ny, ry⟩ := hy x H' yx
    cases eg : g ds[i] ρc with
    | none => simp only [eg] at afc; exact False.elim afc
    | some ρg =>
      simp only [eg] at afc
      refine ⟨Hfy, ρc, _, ρg, ny.rp, ry, eg, fun σ2 n2 o2 => ⟨Hfy, ρg, n2.rp, ?_⟩⟩
      have n3 := ny.trans n2
      have p3 : Pin pn σc σ2 := pin_only o2 hpn
      cases es : s ρg with
      | nx ρ2 =>
        simp only [es] at afc
        exact fun σ' Hf' H' n4 p4 => ⟨Hf', ρ2, sm.trans (n3.trans n4).sub, n4.rp, afc.later (n3.trans n4) (p3.trans p4)⟩
      | ct ρ2 =>
        simp only [es] at afc
        exact fun σ' Hf' H' n4 p4 => ⟨Hf', ρ2, sm.trans (n3.trans n4).sub, n4.rp, afc.later (n3.trans n4) (p3.trans p4)⟩
      | brk ρ2 =>
        simp only [es] at afc
        exact fun σ' Hf' H' n4 p4 => afc σ' Hf' H' (n3.trans n4) (p3.trans p4)
      | ret r ρ2 =>
        simp only [es] at afc
        have q := AfS.later (D := D) n3 p3 afc
        exact q
      | exc c ρ2 =>
        simp only [es] at afc
        exact fun σ' Hf' H' n4 p4 => afc σ' Hf' H' (n3.trans n4) (p3.trans p4)
      | bad => simp only [es] at afc; exact False.elim afc
  · have ei : i = ds.length := by omega
    subst ei
    rw [List.drop_length] at afc
    unfold forE at afc
    exact .inl ⟨it.2 (Nat.le_refl _), afc σc Hfc Hc (.refl rpc) (.refl _ _)⟩
end
end Fx

namespace Fx
open PySem L2
variable [Tabz]
section
variable {X : Cx} {G : Gx} {e a b : Expr} {es : List Expr} {f g : M PyData} {fs : M (List PyData)} {pos : Pos} {tg : Expr} {pn : List Nat} {st : Stmt} {sts : List Stmt} {s t : Rho → Fl}
/-! ### lists that are changed -/
@[simp] def isOw (i : Nat) (ρ : Rho) : Bool := match (ρ[i]? : Option Sl) with
  | some (.ow _) => true
  | _ => false
theorem isOw_ow {i : Nat} {ρ : Rho} (h : isOw i ρ = true) : ∃ ds, ρ[i]? = some (.ow ds) := by
  unfold isOw at h
  split at h
  · rename_i ds e; exact ⟨ds, e⟩
  · cases h
@[simp] def mutO (i : Nat) (k : List PyData → Option (List PyData)) : Rho → Option Rho := fun ρ => match (ρ[i]? : Option Sl) with
  | some (.ow ds) => (k ds).map fun es => ρ.set i (.ow es)
  | _ => none
@[simp] def sMut {α : Type} (i : Nat) (f : M α) (k : α → List PyData → Option (List PyData)) : Rho → Fl := fun ρ => if isOw i ρ then sBnd f (fun x ρ1 => match mutO i (k x) ρ1 with
    | some ρ2 => .nx ρ2
    | none => .bad) ρ else .bad
theorem mutO_some {i : Nat} {k : List PyData → Option (List PyData)} {ρ ρ2 : Rho} (h : mutO i k ρ = some ρ2) : ∃ ds es, ρ[i]? = some (.ow ds) ∧ k ds = some es ∧ ρ2 = ρ.set i (.ow es) := by
  unfold mutO at h
  split at h
  · rename_i ds e
    cases q : k ds with
    | none => rw [q] at h; cases h
    | some es => rw [q] at h; cases h; exact ⟨ds, es, e, q, rfl⟩
  · cases h
def kAppend (d : PyData) (ds : List PyData) : Option (List PyData) := if small ds.length then some (ds ++ [d]) else none
theorem fs_append (i : Nat) {x : Str} {p1 ap cp : Pos} (he : PE X e (tE G f)) (hN : X.N[i]? = some x := by rfl) (hv : Vis X.env.scope x := by first | exact Or.inl rfl | exact Or.inr (Or.inl rfl) | exact Or.inr (Or.inr rfl)) (hd : (x == ("__debug__" : Str)) = false := by decide)
    (hcd : (x == ("__classdict__" : Str)) = false := by decide) (hbase : attributeBase (.Name x p1) "append" X.env (eval (.Name x p1) X.env) = eval (.Name x p1) X.env := by rfl)
    (hfew : ((backTo cp (starEach [e] X.env)).all (fun x => !x.1) && (backToKw cp (keywordEach [] X.env)).all (fun x => x.1.isSome) && decide (([e] : List Expr).length + ([] : List Keyword).length + (if ([] : List Keyword).isEmpty then 0 else 1) < 30)) = true := by rfl)
    (hline : (ap.endLine == cp.line) = true := by rfl) (hs : starEach [e] X.env = (false, eval e X.env) :: starEach [] X.env := by rfl) (hplain : (backTo cp (starEach [] X.env)).any (·.1) = false := by rfl)
    (hsw : swapsWith (.Call (.Attribute (.Name x p1) "append" ap) [e] [] cp) none pos.line X.env = pure false := by rfl) : PS X (.Expr (.Call (.Attribute (.Name x p1) "append" ap) [e] [] cp) pos) (tS G pn (sMut i f kAppend)) := by
  refine (ps_expr (pe_bm PySem.F.plainAttrs_list PySem.F.slot_list_append PySem.F.type_list_append mt_append (pe_var hN hv hd hcd) (pa_cons he pa_nil hs) hbase hfew hline hs hplain) hsw).imp fun D σ H ⟨Hf, ρ, rp, af⟩ => ?_
  unfold sMut at af
  cases e0 : isOw i ρ with
  | false => rw [e0] at af; exact False.elim af
  | true =>
    rw [e0, if_pos rfl] at af
    obtain ⟨ds0, h0⟩ := isOw_ow e0
    obtain ⟨p, vs0, s0, _, g0, _⟩ := slok_ow (rp.sl i _ h0)
    refine ⟨_, s0, .inl ⟨rfl, _, SqL.of g0⟩, (stepS rp af).mono fun v H1 ⟨d, Hf1, ρ1, n1, ra, af1⟩ => ?_⟩
    cases em : mutO i (kAppend d) ρ1 with
    | none => simp only [em] at af1; exact False.elim af1
    | some ρ2 =>
      simp only [em] at af1
      obtain ⟨ds, es, h1, h2, rfl⟩ := mutO_some em
      obtain ⟨q, vs, s1, f1, g1, r1⟩ := slok_ow (n1.rp.sl i _ h1)
      rw [s0] at s1
      cases s1
      unfold kAppend at h2
      split at h2
      · rename_i hs
        cases h2
        refine ⟨p, vs, v, rfl, rfl, g1, by rw [repA_len r1]; exact small_lt hs, ?_⟩
        exact af1 σ Hf1 _ (n1.rp.mut h1 s0 (repA_append r1 (.cons ra .nil))) (.refl _ _)
      · cases h2
def kExtend (d : PyData) (ds : List PyData) : Option (List PyData) := match d with
  | .list es => if small (ds.length + es.length) then some (ds ++ es) else none
  | _ => none
theorem fs_extend (i : Nat) {x : Str} {p1 ap cp : Pos} (he : PE X e (tE G f)) (hN : X.N[i]? = some x := by rfl) (hv : Vis X.env.scope x := by first | exact Or.inl rfl | exact Or.inr (Or.inl rfl) | exact Or.inr (Or.inr rfl)) (hd : (x == ("__debug__" : Str)) = false := by decide)
    (hcd : (x == ("__classdict__" : Str)) = false := by decide) (hbase : attributeBase (.Name x p1) "extend" X.env (eval (.Name x p1) X.env) = eval (.Name x p1) X.env := by rfl)
    (hfew : ((backTo cp (starEach [e] X.env)).all (fun x => !x.1) && (backToKw cp (keywordEach [] X.env)).all (fun x => x.1.isSome) && decide (([e] : List Expr).length + ([] : List Keyword).length + (if ([] : List Keyword).isEmpty then 0 else 1) < 30)) = true := by rfl)
    (hline : (ap.endLine == cp.line) = true := by rfl) (hs : starEach [e] X.env = (false, eval e X.env) :: starEach [] X.env := by rfl) (hplain : (backTo cp (starEach [] X.env)).any (·.1) = false := by rfl)
    (hsw : swapsWith (.Call (.Attribute (.Name x p1) "extend" ap) [e] [] cp) none pos.line X.env = pure false := by rfl) : PS X (.Expr (.Call (.Attribute (.Name x p1) "extend" ap) [e] [] cp) pos) (tS G pn (sMut i f kExtend)) := by
  refine (ps_expr (pe_bm PySem.F.plainAttrs_list PySem.F.slot_list_extend PySem.F.type_list_extend mt_extend (pe_var hN hv hd hcd) (pa_cons he pa_nil hs) hbase hfew hline hs hplain) hsw).imp fun D σ H ⟨Hf, ρ, rp, af⟩ => ?_
  unfold sMut at af
  cases e0 : isOw i ρ with
  | false => rw [e0] at af; exact False.elim af
  | true =>
    rw [e0, if_pos rfl] at af
    obtain ⟨ds0, h0⟩ := isOw_ow e0
    obtain ⟨p, vs0, s0, _, g0, _⟩ := slok_ow (rp.sl i _ h0)
    refine ⟨_, s0, .inl ⟨rfl, _, SqL.of g0⟩, (stepS rp af).mono fun v H1 ⟨d, Hf1, ρ1, n1, ra, af1⟩ => ?_⟩
    cases em : mutO i (kExtend d) ρ1 with
    | none => simp only [em] at af1; exact False.elim af1
    | some ρ2 =>
      simp only [em] at af1
      obtain ⟨ds, es, h1, h2, rfl⟩ := mutO_some em
      obtain ⟨q, vs, s1, f1, g1, r1⟩ := slok_ow (n1.rp.sl i _ h1)
      rw [s0] at s1
      cases s1
      unfold kExtend at h2
      split at h2
      · split at h2
        · rename_i hs
          cases h2
          cases ra with
          | lst h3 h4 =>
            refine ⟨p, _, vs, _, rfl, rfl, g1, n1.rp.sub _ _ h3, by rw [repA_len r1, repA_len h4]; exact small_le hs, ?_⟩
            exact af1 σ Hf1 _ (n1.rp.mut h1 s0 (repA_append r1 h4)) (.refl _ _)
        · cases h2
      · cases h2
/-- x[i] = e -/
def kSet (d j : PyData) (ds : List PyData) : Option (List PyData) := match j with
  | .int k => (ixN ds.length k).map fun n => ds.set n d
  | _ => none
@[simp] def sSetIx (i : Nat) (f g : M PyData) : Rho → Fl := fun ρ => (sBnd f fun d => sMut i g (kSet d)) ρ
theorem fs_setIx (i : Nat) {x : Str} {p1 tp : Pos} (he : PE X e (tE G f)) (hb : PE X b (tE G g)) (hN : X.N[i]? = some x := by rfl) (hv : Vis X.env.scope x := by first | exact Or.inl rfl | exact Or.inr (Or.inl rfl) | exact Or.inr (Or.inr rfl)) (hd : (x == ("__debug__" : Str)) = false := by decide)
    (hcd : (x == ("__classdict__" : Str)) = false := by decide)
    (ha : ∀ v, assign (.Subscript (.Name x p1) b tp) X.env v = (do
      let ov ← holding [v] (eval (.Name x p1) X.env)
      let iv ← holding [v, ov] (eval b X.env)
      standAt tp
      holding [v, ov, iv] (setItem ov iv v)
      release [v, ov, iv] []) := by intro _; rfl) (hs : swapsWithSole [.Subscript (.Name x p1) b tp] e pos.line X.env = pure false := by rfl) (hw : swappedStores [.Subscript (.Name x p1) b tp] e X.env = pure none := by rfl)
    (h1 : (assignEach [.Subscript (.Name x p1) b tp] X.env).map (·.2) = [assign (.Subscript (.Name x p1) b tp) X.env] := by rfl) : PS X (.Assign [.Subscript (.Name x p1) b tp] e pos) (tS G pn (sSetIx i f g)) := by
  refine (ps_asg he (pg_sub (pe_var hN hv hd hcd) hb set_list ha) hs hw h1).imp fun D σ H ⟨Hf, ρ, rp, af⟩ => ?_
  refine (stepS rp af).mono fun v H1 ⟨d, Hf1, ρ1, n1, ra, af1⟩ => ?_
  unfold sMut at af1
  cases e0 : isOw i ρ1 with
  | false => rw [e0] at af1; exact False.elim af1
  | true =>
    rw [e0, if_pos rfl] at af1
    obtain ⟨ds0, h0⟩ := isOw_ow e0
    obtain ⟨p, vs0, s0, _, g0, _⟩ := slok_ow (n1.rp.sl i _ h0)
    refine ⟨_, s0, (stepS n1.rp af1).mono fun y H2 ⟨j, Hf2, ρ2, n2, rj, af2⟩ => ?_⟩
    cases em : mutO i (kSet d j) ρ2 with
    | none => simp only [em] at af2; exact False.elim af2
    | some ρ3 =>
      simp only [em] at af2
      obtain ⟨ds, es, h1, h2, rfl⟩ := mutO_some em
      obtain ⟨q, vs, s1, f1, g1, r1⟩ := slok_ow (n2.rp.sl i _ h1)
      rw [s0] at s1
      cases s1
      cases j <;> simp only [kSet, reduceCtorEq] at h2
      rename_i k
      cases hk : ixN ds.length k with
      | none => rw [hk] at h2; cases h2
      | some n =>
        rw [hk] at h2
        cases h2
        rw [rep_int rj]
        refine ⟨p, vs, k, n, rfl, rfl, g1, by rw [repA_len r1]; exact hk, ?_⟩
        exact af2 σ Hf2 _ (n2.rp.mut h1 s0 (repA_set (rep_same n2.sub ra) n r1)) (.refl _ _)
/-- x += e, of whole numbers -/
def oAdd2 : PyData → PyData → Option PyData := oAdd
@[simp] def sAug (i : Nat) (o : PyData → PyData → Option PyData) (f : M PyData) : Rho → Fl := fun ρ => match (ρ[i]? : Option Sl) with
  | some (.fz x) => sBnd f (fun y ρ1 => match o x y with
    | some z => .nx (ρ1.set i (.fz z))
    | none => .bad) ρ
  | _ => .bad
theorem fs_aug {h : Int → Int → Int} (i : Nat) {x : Str} {pos' : Pos} {op : Operator} (hN : X.N.Nodup) (hpn : i ∉ pn) (he : PE X e (tE G f)) (ho : PIp X op (ipI h)) (hi : X.N[i]? = some x := by rfl) (hx : Loc X.env.scope x := by first | exact Or.inl rfl | exact Or.inr rfl) (hf : X.fn x = true ∨ X.env.scope.names.lookup x = some .local := by first | exact .inl rfl | exact .inr rfl) :
    PS X (.AugAssign (.Name x pos') op e pos) (tS G pn (sAug i (oI0 fun m n => .int (h m n)) f)) := by
  refine (ps_aug hN hi hx he ho hf).imp fun D σ H ⟨Hf, ρ, rp, af⟩ => ?_
  unfold sAug at af
  split at af
  · rename_i d e0
    obtain ⟨v, h1, h2⟩ := slok_fz' (rp.sl i _ e0)
    refine ⟨v, h1, (stepS rp af).mono fun y H1 ⟨d2, Hf1, ρ1, n1, ra, af1⟩ => ?_⟩
    cases d <;> cases d2 <;> simp only [oI0] at af1 <;> first | exact False.elim af1 | skip
    exact ⟨_, _, rep_int h2, rep_int ra, af1 _ Hf1 H1 (n1.rp.put (.int _)) (pin_set hpn)⟩
  · exact False.elim af
/-! ### raise -/
@[simp] def sRaise (c : Str) : Rho → Fl := fun ρ => .exc c ρ
theorem fs_raise {c m : Str} {j : Nat} {p p2 cp : Pos} {B newId initId : String} {bmB : List Value} (hc : X.calm = true) (tk : Takes X G.W) (F : ExcBaseFacts B newId initId bmB) (q : PySem.W.excIn X.K (G.cA c) bmB newId = true) (gC : X.mg c = some (.ref (G.cA c))) (kC : PySem.W.keepIn X.K (.ref (G.cA c)) = true) (r : Raises X (.ref (G.cA c))) (hg : Gl X c)
    (hdb : (c == ("__debug__" : Str)) = false := by decide) : PS X (.Raise (some (.Call (.Name c p) [.Constant (.str m) j p2] [] cp)) none pos) (tS G pn (sRaise c)) :=
  (ps_raise hc tk (pmk_own F q gC kC r hg hdb)).imp fun D σ H ⟨Hf, ρ, rp, af⟩ => af σ Hf H (.refl rp) (.refl _ _)
/-! ### defs -/
def RtP (H Hf' H' : Hp) (v : V) : Rt → Prop
  | .fz d => Rep Hf' v d
  | .ow ds => ∃ p vs, v = .ref p ∧ H p = none ∧ Hf' p = none ∧ H' p = some (.lst vs) ∧ RepA Hf' vs ds
/-- frozen data, in a heap with its tables -/
structure Sb (Hf H : Hp) : Prop where
  sm : Same Hf H
  tb : Tb H
  nt : NtH Hf
/-- all but the tables stays -/
structure SmN (H H' : Hp) : Prop where
  keep : ∀ a o, H a = some o → NT o → H' a = some o
  dom : ∀ a, H' a = none → H a = none
  tb : Tb H'
theorem _root_.Fx.Rp.sb {Hf H : Hp} {σ : St} {ρ : Rho} (r : Rp Hf H σ ρ) : Sb Hf H := ⟨r.sub, r.tb, r.nt⟩
theorem Sb.later {Hf H H' : Hp} (r : Sb Hf H) (s : SmN H H') : Sb Hf H' := ⟨fun a o e => s.keep a o (r.sm a o e) fun ps z => r.nt a ps (by rw [e, z]), s.tb, r.nt⟩
/-- a def that changes nothing: F tells its answer -/
def spP (cA : Str → Addr) (n : Nat) (F : List PyData → Out Rt) : Sp := fun vs H Q E => vs.length = n ∧ ∃ Hf ds, Sb Hf H ∧ RepA Hf vs ds ∧ (match F ds with
  | .ok r => ∀ v Hf' H', Same Hf Hf' → Sb Hf' H' → SmN H H' → (∀ a, Hf a = none → Hf' a = none ∨ H a = none) → RtP H Hf' H' v r → Q v H'
  | .exc c => ∀ H', SmN H H' → E (.ref (cA c)) none H'
  | .bad => False)
/-- a def that changes the list that is its first argument: io -/
def spI (cA : Str → Addr) (n : Nat) (F : List PyData → List PyData → Out (Rt × List PyData)) : Sp := fun vs H Q E => vs.length = n ∧ ∃ Hf p ws us io ds, vs = .ref p :: us ∧ Sb Hf H ∧ Hf p = none ∧ H p = some (.lst ws) ∧ RepA Hf ws io ∧ RepA Hf us ds ∧ (match F io ds with
  | .ok (r, io') => ∀ v Hf' H' zs, Same Hf Hf' → Sb Hf' H' → (∀ a o, H a = some o → NT o → a ≠ p → H' a = some o) → (∀ a, H' a = none → H a = none) → (∀ a, Hf a = none → Hf' a = none ∨ H a = none) → Hf' p = none → H' p = some (.lst zs) → RepA Hf' zs io' → RtP H Hf' H' v r → Q v H'
  | .exc c => ∀ H', (∀ a o, H a = some o → NT o → a ≠ p → H' a = some o) → (∀ a, H' a = none → H a = none) → Tb H' → E (.ref (cA c)) none H'
  | .bad => False)
@[simp] def toOut : Fl → Out Rt
  | .nx _ => .ok (.fz .none)
  | .ret r _ => .ok r
  | .exc c _ => .exc c
  | _ => .bad
@[simp] def toOutI : Fl → Out (Rt × List PyData)
  | .nx ρ => (match (ρ[(0 : Nat)]? : Option Sl) with
    | some (.ow io) => .ok (.fz .none, io)
    | _ => .bad)
  | .ret r ρ => (match (ρ[(0 : Nat)]? : Option Sl) with
    | some (.ow io) => .ok (r, io)
    | _ => .bad)
  | .exc c _ => .exc c
  | _ => .bad
def st0 (N : List Str) (ds : List PyData) : Rho := ds.map Sl.fz ++ List.replicate (N.length - ds.length) Sl.un
def stI (N : List Str) (io ds : List PyData) : Rho := Sl.ow io :: (ds.map Sl.fz ++ List.replicate (N.length - (ds.length + 1)) Sl.un)
theorem st0_get {N : List Str} {ds : List PyData} {i : Nat} {sl : Sl} (h : (st0 N ds)[i]? = some sl) : (∃ d, ds[i]? = some d ∧ sl = .fz d) ∨ sl = .un := by
  unfold st0 at h
  by_cases q : i < ds.length
  · rw [List.getElem?_append_left (by simpa using q), List.getElem?_map, List.getElem?_eq_getElem q] at h
    cases h
    exact .inl ⟨_, List.getElem?_eq_getElem q, rfl⟩
  · rw [List.getElem?_append_right (by simpa using q), List.getElem?_replicate] at h
    split at h
    · cases h; exact .inr rfl
    · cases h
theorem start_get {N : List Str} {vs : List V} {i : Nat} {v : V} (h : vs[i]? = some v) : (L2.start N vs)[i]? = some (some v) := by
  unfold L2.start
  have hl : i < vs.length := (List.getElem?_eq_some_iff.mp h).1
  rw [List.getElem?_append_left (by simpa using hl), List.getElem?_map, h]
  rfl
theorem rp_start {N : List Str} {vs : List V} {ds : List PyData} {Hf H : Hp} (sm : Sb Hf H) (r : RepA Hf vs ds) : Rp Hf H (L2.start N vs) (st0 N ds) := by
  have hl := repA_len r
  have now : ∀ (i : Nat) (es : List PyData), (st0 N ds)[i]? ≠ some (.ow es) := fun i es h => by
    rcases st0_get h with ⟨d, _, z⟩ | z <;> cases z
  refine ⟨sm.sm, sm.tb, sm.nt, by unfold st0 L2.start; simp [hl], fun i sl h => ?_, fun i j p d1 d2 h1 => absurd h1 (now i d1)⟩
  rcases st0_get h with ⟨d, e, rfl⟩ | rfl
  · obtain ⟨v, e1, r1⟩ := repA_get r e
    rw [start_get e1]
    exact slok_fz.mpr r1
  · exact slok_un
theorem noown_start {N : List Str} {vs : List V} {ds : List PyData} {a : Addr} : ¬ OwnA (L2.start N vs) (st0 N ds) a := fun ⟨i, es, h, _⟩ => by
  rcases st0_get h with ⟨d, _, z⟩ | z <;> cases z
/-- cdv is the code of the def at f -/
def CdIs (K : PySem.W.Frag) (f : Addr) (cdv : Value) : Prop := ∃ (oc : Value) (od : Option Addr) (fd : FuncData) (osl : Array (Option Value)), K.lookup f = some ⟨oc, od, .func fd, osl⟩ ∧ fd.code = cdv ∧ ∃ c, cdv = .ref c
theorem okC {P : Program} {w : World} {K : PySem.W.Frag} {mg : Str → Option Value} {base : Heap} {x qual : Str} {st : Stmt} {f : Addr} {fd : FuncData} {N ps : List Str} {k : Nat} {sp : Sp} (Fn : Fun K x qual st f fd) (S : FnScope N ps (defScope st)) (len : ∀ vs H Q E, sp vs H Q E → vs.length = ps.length)
    (hb : ∀ (cdv : Value), CdIs K f cdv → ∀ (A : Around) (outer : List Env) (s : Shared) (H : Hp) (vs : List V) (Q : VK) (E : XK), Room k (A.deeper (PyProof.Rows.envOfC qual (defScope st) s.heap.objs.size f cdv)) → sp vs H Q E →
      ∃ t, PSs (cxOf (L2.CX P w) P w K mg base N qual (defScope st) f cdv A outer s H E) (defBody st) t ∧ t { nx := fun _ H' => Q .non H', rt := Q } (L2.start N vs) H) : FnOk P w K mg base (L2.CX P w) (k + 1) f fd ps sp := by
  obtain ⟨oc, od, v1, v2, v3, an, cdv, v4, osl, e, lk, hcd⟩ := Fn.ex
  have ci : CdIs K f cdv := ⟨oc, od, fd, osl, lk, by rw [e], He.codeIn_ref hcd⟩
  subst e
  exact fn_of lk hcd S len fun A outer s H vs Q E hr h => hb cdv ci A outer s H vs Q E hr h
theorem fn_pureC {P : Program} {w : World} {K : PySem.W.Frag} {mg : Str → Option Value} {base : Heap} {cA : Str → Addr} {x qual : Str} {sd : Stmt} {f : Addr} {fd : FuncData} {N ps : List Str} {k : Nat} {g : Rho → Fl} (Fn : Fun K x qual sd f fd) (S : FnScope N ps (defScope sd))
    (hb : ∀ (cdv : Value), CdIs K f cdv → ∀ (A : Around) (outer : List Env) (s : Shared) (H : Hp) (E : XK), Room k (A.deeper (PyProof.Rows.envOfC qual (defScope sd) s.heap.objs.size f cdv)) → PSs (cxOf (L2.CX P w) P w K mg base N qual (defScope sd) f cdv A outer s H E) (defBody sd) (tS ⟨fun cls d _ H => E cls d H, cA⟩ [] g)) :
    FnOk P w K mg base (L2.CX P w) (k + 1) f fd ps (spP cA ps.length fun ds => toOut (g (st0 N ds))) := by
  refine okC Fn S (fun vs H Q E h => h.1) fun cdv ci A outer s H vs Q E hr h => ⟨_, hb cdv ci A outer s H E hr, ?_⟩
  obtain ⟨hl, Hf, ds, sm, r, h⟩ := h
  dsimp only at h
  refine ⟨Hf, st0 N ds, rp_start sm r, ?_⟩
  have keep : ∀ {σ' : St} {ρ' : Rho} {Hf' H' : Hp}, Nxt (L2.start N vs) (st0 N ds) Hf H σ' ρ' Hf' H' → SmN H H' := fun n => ⟨fun b o e t => n.keep b o e t noown_start, n.dom, n.rp.tb⟩
  have fr : ∀ {σ' : St} {ρ' : Rho} {Hf' H' : Hp}, Nxt (L2.start N vs) (st0 N ds) Hf H σ' ρ' Hf' H' → ∀ a, Hf a = none → Hf' a = none ∨ H a = none := fun n a z => (n.fr a z).imp id fun q => q.elim id fun w => absurd w noown_start
  cases e : g (st0 N ds) with
  | nx ρ' =>
    rw [e] at h
    exact fun σ' Hf' H' n _ => h .non Hf' H' n.sub n.rp.sb (keep n) (fr n) .non
  | ret rt ρ' =>
    rw [e] at h
    cases rt with
    | fz d => exact fun v σ' Hf' H' n _ q => h v Hf' H' n.sub n.rp.sb (keep n) (fr n) q
    | ow es => exact fun v σ' Hf' H' n _ ⟨p, us, ev, h1, h2, h3, h4, h5, h6⟩ => h v Hf' H' n.sub n.rp.sb (keep n) (fr n) ⟨p, us, ev, h1.elim id fun z => absurd z noown_start, h3, h5, h6⟩
  | exc c ρ' =>
    rw [e] at h
    exact fun σ' Hf' H' n _ => h H' (keep n)
  | brk _ => rw [e] at h; exact h.elim
  | ct _ => rw [e] at h; exact h.elim
  | bad => rw [e] at h; exact h.elim
theorem fn_pure {P : Program} {w : World} {K : PySem.W.Frag} {mg : Str → Option Value} {base : Heap} {cA : Str → Addr} {x qual : Str} {sd : Stmt} {f : Addr} {fd : FuncData} {N ps : List Str} {k : Nat} {g : Rho → Fl} (Fn : Fun K x qual sd f fd) (S : FnScope N ps (defScope sd))
    (hb : ∀ (cdv : Value) (A : Around) (outer : List Env) (s : Shared) (H : Hp) (E : XK), Room k (A.deeper (PyProof.Rows.envOfC qual (defScope sd) s.heap.objs.size f cdv)) → PSs (cxOf (L2.CX P w) P w K mg base N qual (defScope sd) f cdv A outer s H E) (defBody sd) (tS ⟨fun cls d _ H => E cls d H, cA⟩ [] g)) :
    FnOk P w K mg base (L2.CX P w) (k + 1) f fd ps (spP cA ps.length fun ds => toOut (g (st0 N ds))) := fn_pureC Fn S fun cdv _ => hb cdv
theorem stI_get {N : List Str} {io ds : List PyData} {i : Nat} {sl : Sl} (h : (stI N io ds)[i]? = some sl) : (i = 0 ∧ sl = .ow io) ∨ (∃ j d, i = j + 1 ∧ ds[j]? = some d ∧ sl = .fz d) ∨ sl = .un := by
  unfold stI at h
  cases i with
  | zero => cases h; exact .inl ⟨rfl, rfl⟩
  | succ j =>
    rw [List.getElem?_cons_succ] at h
    by_cases q : j < ds.length
    · rw [List.getElem?_append_left (by simpa using q), List.getElem?_map, List.getElem?_eq_getElem q] at h
      cases h
      exact .inr (.inl ⟨j, _, rfl, List.getElem?_eq_getElem q, rfl⟩)
    · rw [List.getElem?_append_right (by simpa using q), List.getElem?_replicate] at h
      split at h
      · cases h; exact .inr (.inr rfl)
      · cases h
theorem rp_startI {N : List Str} {us : List V} {p : Addr} {ws : List V} {io ds : List PyData} {Hf H : Hp} (sm : Sb Hf H) (hp : Hf p = none) (hw : H p = some (.lst ws)) (rw' : RepA Hf ws io) (r : RepA Hf us ds) (hN : ds.length + 1 ≤ N.length) : Rp Hf H (L2.start N (.ref p :: us)) (stI N io ds) := by
  have hl := repA_len r
  have now : ∀ (i : Nat) (es : List PyData), (stI N io ds)[i]? = some (.ow es) → i = 0 := fun i es h => by
    rcases stI_get h with ⟨z, _⟩ | ⟨j, d, _, _, z⟩ | z
    · exact z
    · cases z
    · cases z
  refine ⟨sm.sm, sm.tb, sm.nt, by unfold stI L2.start; simp [hl], fun i sl h => ?_, fun i j q d1 d2 h1 h2 _ _ => by rw [now i d1 h1, now j d2 h2]⟩
  rcases stI_get h with ⟨rfl, rfl⟩ | ⟨j, d, rfl, e, rfl⟩ | rfl
  · rw [start_get (v := .ref p) rfl]
    exact ⟨hp, ws, hw, rw'⟩
  · obtain ⟨v, e1, r1⟩ := repA_get r e
    rw [start_get (v := v) (by rw [List.getElem?_cons_succ]; exact e1)]
    exact slok_fz.mpr r1
  · exact slok_un
theorem own_startI {N : List Str} {us : List V} {p a : Addr} {io ds : List PyData} (h : OwnA (L2.start N (.ref p :: us)) (stI N io ds) a) : a = p := by
  obtain ⟨i, es, h1, h2⟩ := h
  rcases stI_get h1 with ⟨rfl, _⟩ | ⟨j, d, _, _, z⟩ | z
  · rw [start_get (v := .ref p) rfl] at h2
    cases h2
    rfl
  · cases z
  · cases z
theorem fn_io {P : Program} {w : World} {K : PySem.W.Frag} {mg : Str → Option Value} {base : Heap} {cA : Str → Addr} {x qual : Str} {sd : Stmt} {f : Addr} {fd : FuncData} {N ps : List Str} {k : Nat} {g : Rho → Fl} (Fn : Fun K x qual sd f fd) (S : FnScope N ps (defScope sd))
    (hb : ∀ (cdv : Value) (A : Around) (outer : List Env) (s : Shared) (H : Hp) (E : XK), Room k (A.deeper (PyProof.Rows.envOfC qual (defScope sd) s.heap.objs.size f cdv)) → PSs (cxOf (L2.CX P w) P w K mg base N qual (defScope sd) f cdv A outer s H E) (defBody sd) (tS ⟨fun cls d _ H => E cls d H, cA⟩ [0] g)) :
    FnOk P w K mg base (L2.CX P w) (k + 1) f fd ps (spI cA ps.length fun io ds => toOutI (g (stI N io ds))) := by
  refine Fn.okX S (fun vs H Q E h => h.1) fun cdv A outer s H vs Q E hr h => ⟨_, hb cdv A outer s H E hr, ?_⟩
  obtain ⟨hl, Hf, p, ws, us, io, ds, rfl, sm, hp, hw, rw', r, h⟩ := h
  have hN : ds.length + 1 ≤ N.length := by
    rw [← repA_len r]
    have := congrArg List.length S.pre
    rw [List.length_take] at this
    rw [List.length_cons] at hl
    omega
  have rp := rp_startI (N := N) sm hp hw rw' r hN
  refine ⟨Hf, stI N io ds, rp, ?_⟩
  dsimp only at h
  have s0 : (L2.start N (.ref p :: us))[0]? = some (some (.ref p)) := start_get (v := .ref p) rfl
  have keep : ∀ {H' : Hp}, Keep (L2.start N (.ref p :: us)) (stI N io ds) H H' → ∀ a o, H a = some o → NT o → a ≠ p → H' a = some o := fun k b o e t ne => k b o e t fun z => ne (own_startI z)
  have fr : ∀ {σ' : St} {ρ' : Rho} {Hf' H' : Hp} {io' : List PyData}, Nxt (L2.start N (.ref p :: us)) (stI N io ds) Hf H σ' ρ' Hf' H' → Pin [0] (L2.start N (.ref p :: us)) σ' → ρ'[0]? = some (.ow io') → (∀ a, Hf a = none → Hf' a = none ∨ H a = none) ∧ Hf' p = none ∧ ∃ zs, H' p = some (.lst zs) ∧ RepA Hf' zs io' := fun {σ' ρ' Hf' H' io'} n pi e => by
    obtain ⟨q, zs, e1, e2, e3, e4⟩ := slok_ow (n.rp.sl 0 _ e)
    rw [pi 0 (List.mem_singleton.mpr rfl), s0] at e1
    cases e1
    refine ⟨fun a z => (n.fr a z).elim .inl fun q => q.elim .inr fun w => .inl (by rw [own_startI w]; exact e2), e2, zs, e3, e4⟩
  cases e : g (stI N io ds) with
  | nx ρ' =>
    rw [e] at h
    unfold toOutI at h
    intro σ' Hf' H' n pi
    cases q : (ρ'[(0 : Nat)]? : Option Sl) with
    | none => simp only [q] at h
    | some sl =>
      cases sl with
      | un => simp only [q] at h
      | raw _ => simp only [q] at h
      | fz _ => simp only [q] at h
      | ow io' =>
        simp only [q] at h
        obtain ⟨f1, f2, zs, f3, f4⟩ := fr n pi q
        exact h .non Hf' H' zs n.sub n.rp.sb (keep n.keep) n.dom f1 f2 f3 f4 .non
  | ret rt ρ' =>
    rw [e] at h
    unfold toOutI at h
    intro v σ' Hf' H' n pi hq
    cases q : (ρ'[(0 : Nat)]? : Option Sl) with
    | none => simp only [q] at h
    | some sl =>
      cases sl with
      | un => simp only [q] at h
      | raw _ => simp only [q] at h
      | fz _ => simp only [q] at h
      | ow io' =>
        simp only [q] at h
        obtain ⟨f1, f2, zs, f3, f4⟩ := fr n pi q
        refine h v Hf' H' zs n.sub n.rp.sb (keep n.keep) n.dom f1 f2 f3 f4 ?_
        cases rt with
        | fz d => exact hq
        | ow es =>
          obtain ⟨p2, us2, ev, h1, h2, h3, h4, h5, h6⟩ := hq
          refine ⟨p2, us2, ev, h1.elim id fun z => ?_, h3, h5, h6⟩
          exact absurd (own_startI z ▸ s0) (h2 0 (List.mem_singleton.mpr rfl))
  | exc c ρ' =>
    rw [e] at h
    exact fun σ' Hf' H' n _ => h H' (keep n.keep) n.dom n.rp.tb
  | brk _ => rw [e] at h; exact h.elim
  | ct _ => rw [e] at h; exact h.elim
  | bad => rw [e] at h; exact h.elim
/-! ### a mirror in the place of the run -/
theorem spP_imp {cA : Str → Addr} {n : Nat} {F F' : List PyData → Out Rt} (h : ∀ ds, ds.length = n → F' ds ≠ .bad → F ds = F' ds) (vs : List V) (H : Hp) (Q : VK) (E : XK) (q : spP cA n F' vs H Q E) : spP cA n F vs H Q E := by
  obtain ⟨hl, Hf, ds, sm, r, q⟩ := q
  refine ⟨hl, Hf, ds, sm, r, ?_⟩
  have e : F ds = F' ds := h ds (by rw [← repA_len r]; exact hl) fun z => by rw [z] at q; exact q
  rw [e]
  exact q
theorem spI_imp {cA : Str → Addr} {n : Nat} {F F' : List PyData → List PyData → Out (Rt × List PyData)} (h : ∀ io ds, ds.length + 1 = n → F' io ds ≠ .bad → F io ds = F' io ds) (vs : List V) (H : Hp) (Q : VK) (E : XK) (q : spI cA n F' vs H Q E) : spI cA n F vs H Q E := by
  obtain ⟨hl, Hf, p, ws, us, io, ds, e1, sm, e2, e3, r1, r, q⟩ := q
  refine ⟨hl, Hf, p, ws, us, io, ds, e1, sm, e2, e3, r1, r, ?_⟩
  have e : F io ds = F' io ds := h io ds (by subst e1; rw [← repA_len r]; exact hl) fun z => by rw [z] at q; exact q
  rw [e]
  exact q
/-! ### calls -/
@[simp] def rtD : Rt → PyData
  | .fz d => d
  | .ow ds => .list ds
@[simp] def callM (F : List PyData → Out Rt) (ds : List PyData) : M PyData := fun ρ => match F ds with
  | .ok r => .ok (rtD r, ρ)
  | .exc c => .exc c ρ
  | .bad => .bad
@[simp] def fCall (F : List PyData → Out Rt) (fs : M (List PyData)) : M PyData := fun ρ => (bnd fs (callM F)) ρ
theorem nxt_call {σ : St} {ρ : Rho} {Hf H Hf' H' : Hp} (rp : Rp Hf H σ ρ) (h1 : Same Hf Hf') (h2 : Sb Hf' H') (h3 : SmN H H') (h4 : ∀ a, Hf a = none → Hf' a = none ∨ H a = none) : Nxt σ ρ Hf H σ ρ Hf' H' := by
  refine ⟨h1, fun a o h t _ => h3.keep a o h t, fun _ z => .inl z, fun a z => h3.dom a z, fun a z => (h4 a z).imp id .inl, rp.grow h1 h2.sm h2.tb h2.nt fun a z => ?_⟩
  obtain ⟨o1, vs, o2⟩ := rp.own z
  refine ⟨(h4 a o1).elim id fun q => ?_, ?_⟩
  · rw [o2] at q; cases q
  · rw [o2]; exact h3.keep _ _ o2 NT.lst
theorem call_run {cA : Str → Addr} {n : Nat} {F : List PyData → Out Rt} (hcA : G.cA = cA) (hn : ∀ ds r, F ds = r → r ≠ .bad → ds.length = n) (σ : St) (H : Hp) (Q : VK) (h : tE G (fCall F fs) σ H Q) : tCallS (spP cA n F) (WE G.W) (tA G fs) σ H Q := by
  obtain ⟨Hf, ρ, rp, af⟩ := h
  refine (step rp af).mono fun vs H1 ⟨ds, Hf1, ρ1, n1, ra, af1⟩ => ?_
  have hl : vs.length = n := by
    rw [repA_len ra]
    refine hn ds _ rfl fun z => ?_
    unfold callM at af1
    rw [z] at af1
    exact af1
  refine ⟨hl, Hf1, ds, n1.rp.sb, ra, ?_⟩
  unfold callM at af1
  cases e : F ds with
  | bad => rw [e] at af1; exact af1.elim
  | exc c =>
    rw [e] at af1
    subst hcA
    exact fun H' s => af1 Hf1 H' (nxt_call n1.rp (Same.refl _) (n1.rp.sb.later s) s fun a z => .inl z)
  | ok r =>
    rw [e] at af1
    intro v Hf' H' h1 h2 h3 h4 h5
    have nn := nxt_call n1.rp h1 h2 h3 h4
    cases r with
    | fz d => exact af1 v Hf' H' nn h5
    | ow es =>
      obtain ⟨p, us, rfl, g1, g2, g3, g4⟩ := h5
      obtain ⟨n2, r2⟩ := nn.take g1 g2 (n1.rp.notOwn g1) g3 g4
      exact af1 _ _ _ n2 r2
variable {CX : CXT} {k : Nat} {fa : Addr} {fd : FuncData} {ps : List Str} {cA : Str → Addr} {x : Str} {p : Pos}
theorem fe_call {F : List PyData → Out Rt} {n : Nat} (hn : ∀ ds r, F ds = r → r ≠ .bad → ds.length = n) (Fo : FnOk X.prog X.w X.K X.mg X.base (L2.CX X.prog X.w) k fa fd ps (spP G.cA n F)) (hr : Room k X.A) (hg : Gl X x) (hm : X.mg x = some (.ref fa)) (hk : PySem.W.keepIn X.K (.ref fa) = true) (hb : Binds X.K fd ps []) (tk : Takes X G.W)
    (ha : PA X (e :: es) (tA G fs)) (hdb : (x == ("__debug__" : Str)) = false := by decide) (he : starEach (e :: es) X.env = (false, eval e X.env) :: starEach es X.env := by rfl) (hpl : (backTo pos (starEach es X.env)).any (·.1) = false := by rfl) :
    PE X (.Call (.Name x p) (e :: es) [] pos) (tE G (fCall F fs)) := (pe_callS Fo hr hg hm hk hb (fun σ => passAt tk σ) ha hdb he hpl).imp (call_run rfl hn)
/-- .. its answer a new list -/
@[simp] def callLM (F : List PyData → Out Rt) (ds : List PyData) : M (List PyData) := fun ρ => match F ds with
  | .ok (.ow es) => .ok (es, ρ)
  | .ok _ => .bad
  | .exc c => .exc c ρ
  | .bad => .bad
@[simp] def fCallL (F : List PyData → Out Rt) (fs : M (List PyData)) : M (List PyData) := fun ρ => (bnd fs (callLM F)) ρ
theorem callL_run {cA : Str → Addr} {n : Nat} {F : List PyData → Out Rt} (hcA : G.cA = cA) (hn : ∀ ds r, F ds = r → r ≠ .bad → ds.length = n) (σ : St) (H : Hp) (Q : VK) (h : tL G (fCallL F fs) σ H Q) : tCallS (spP cA n F) (WE G.W) (tA G fs) σ H Q := by
  obtain ⟨Hf, ρ, rp, af⟩ := h
  refine (stepL rp af).mono fun vs H1 ⟨ds, Hf1, ρ1, n1, ra, af1⟩ => ?_
  have hl : vs.length = n := by
    rw [repA_len ra]
    refine hn ds _ rfl fun z => ?_
    unfold callLM at af1
    rw [z] at af1
    exact af1
  refine ⟨hl, Hf1, ds, n1.rp.sb, ra, ?_⟩
  unfold callLM at af1
  cases e : F ds with
  | bad => rw [e] at af1; exact af1.elim
  | exc c =>
    rw [e] at af1
    subst hcA
    exact fun H' s => af1 Hf1 H' (nxt_call n1.rp (Same.refl _) (n1.rp.sb.later s) s fun a z => .inl z)
  | ok r =>
    rw [e] at af1
    cases r with
    | fz d => exact False.elim af1
    | ow es =>
      intro v Hf' H' h1 h2 h3 h4 ⟨p, us, ev, g1, g2, g3, g4⟩
      subst ev
      have nn := nxt_call n1.rp h1 h2 h3 h4
      exact af1 p us Hf' H' nn g1 g2 (n1.rp.notOwn g1) g3 g4
theorem fl_call {F : List PyData → Out Rt} {n : Nat} (hn : ∀ ds r, F ds = r → r ≠ .bad → ds.length = n) (Fo : FnOk X.prog X.w X.K X.mg X.base (L2.CX X.prog X.w) k fa fd ps (spP G.cA n F)) (hr : Room k X.A) (hg : Gl X x) (hm : X.mg x = some (.ref fa)) (hk : PySem.W.keepIn X.K (.ref fa) = true) (hb : Binds X.K fd ps []) (tk : Takes X G.W)
    (ha : PA X (e :: es) (tA G fs)) (hdb : (x == ("__debug__" : Str)) = false := by decide) (he : starEach (e :: es) X.env = (false, eval e X.env) :: starEach es X.env := by rfl) (hpl : (backTo pos (starEach es X.env)).any (·.1) = false := by rfl) :
    PE X (.Call (.Name x p) (e :: es) [] pos) (tL G (fCallL F fs)) := (pe_callS Fo hr hg hm hk hb (fun σ => passAt tk σ) ha hdb he hpl).imp (callL_run rfl hn)
/-- f(x, ..), where f changes the list x -/
@[simp] def callIM (i : Nat) (F : List PyData → List PyData → Out (Rt × List PyData)) (ds : List PyData) : M Rt := fun ρ => match (ρ[i]? : Option Sl) with
  | some (.ow io) => (match F io ds with
    | .ok (r, io') => .ok (r, ρ.set i (.ow io'))
    | .exc c => .exc c (ρ.set i .un)
    | .bad => .bad)
  | _ => .bad
@[simp] def fCallI (i : Nat) (F : List PyData → List PyData → Out (Rt × List PyData)) (fs : M (List PyData)) : M PyData := fun ρ => if isOw i ρ then bnd fs (fun ds => bnd (callIM i F ds) fun r => ret (rtD r)) ρ else .bad
theorem nxt_callI {σ : St} {ρ : Rho} {Hf H Hf' H' : Hp} {i : Nat} {p : Addr} {io io' : List PyData} {zs : List V} (rp : Rp Hf H σ ρ) (hi : ρ[i]? = some (.ow io)) (hs : σ[i]? = some (some (.ref p))) (h1 : Same Hf Hf') (h2 : Sb Hf' H') (h3 : ∀ a o, H a = some o → NT o → a ≠ p → H' a = some o) (dm : ∀ a, H' a = none → H a = none) (h4 : ∀ a, Hf a = none → Hf' a = none ∨ H a = none) (h5 : Hf' p = none) (h6 : H' p = some (.lst zs)) (h7 : RepA Hf' zs io') : Nxt σ ρ Hf H σ (ρ.set i (.ow io')) Hf' H' := by
  have hlt : i < ρ.length := (List.getElem?_eq_some_iff.mp hi).1
  have own : ∀ a, OwnA σ (ρ.set i (.ow io')) a → OwnA σ ρ a := fun a ⟨j, fs, e1, e2⟩ => by
    rw [List.getElem?_set] at e1
    by_cases q : i = j
    · subst q; exact ⟨i, io, hi, e2⟩
    · rw [if_neg q] at e1; exact ⟨j, fs, e1, e2⟩
  refine ⟨h1, fun a o h t n => h3 a o h t fun z => n (z ▸ ⟨i, io, hi, hs⟩), fun a z => .inl (own a z), dm, fun a z => (h4 a z).imp id .inl, h2.sm, h2.tb, h2.nt, by rw [List.length_set]; exact rp.len, fun j sl hj => ?_, fun j k q d1 d2 g1 g2 g3 g4 => ?_⟩
  · rw [List.getElem?_set] at hj
    by_cases q : i = j
    · subst q
      rw [if_pos rfl, if_pos hlt] at hj
      cases hj
      rw [hs]
      exact ⟨h5, zs, h6, h7⟩
    · rw [if_neg q] at hj
      refine (rp.sl j sl hj).mono h1 fun x ds' g1 g2 => ?_
      subst g2
      have ne : x ≠ p := fun z => q ((rp.nd j i p ds' io hj hi (z ▸ g1) hs).symm)
      obtain ⟨o1, vs, o2⟩ := rp.own ⟨j, ds', hj, g1⟩
      refine ⟨(h4 x o1).elim id fun z => ?_, ?_⟩
      · rw [o2] at z; cases z
      · rw [o2]; exact h3 _ _ o2 NT.lst ne
  · rw [List.getElem?_set] at g1 g2
    have k1 : ∃ w, ρ[j]? = some (.ow w) := by
      by_cases q1 : i = j
      · subst q1; exact ⟨io, hi⟩
      · rw [if_neg q1] at g1; exact ⟨_, g1⟩
    have k2 : ∃ w, ρ[k]? = some (.ow w) := by
      by_cases q1 : i = k
      · subst q1; exact ⟨io, hi⟩
      · rw [if_neg q1] at g2; exact ⟨_, g2⟩
    obtain ⟨w1, k1⟩ := k1
    obtain ⟨w2, k2⟩ := k2
    exact rp.nd j k q w1 w2 k1 k2 g3 g4
theorem nxt_dropI {σ : St} {ρ : Rho} {Hf H H' : Hp} {i : Nat} {p : Addr} {io : List PyData} (rp : Rp Hf H σ ρ) (hi : ρ[i]? = some (.ow io)) (hs : σ[i]? = some (some (.ref p))) (h3 : ∀ a o, H a = some o → NT o → a ≠ p → H' a = some o) (dm : ∀ a, H' a = none → H a = none) (tb : Tb H') : Nxt σ ρ Hf H σ (ρ.set i .un) Hf H' := by
  have hp := (rp.own ⟨i, io, hi, hs⟩).1
  have own : ∀ a, OwnA σ (ρ.set i .un) a → OwnA σ ρ a ∧ a ≠ p := fun a z => by
    obtain ⟨o1, o2⟩ := own_set (fun _ => Sl.noConfusion) z
    refine ⟨o1, fun w => ?_⟩
    subst w
    rcases o2 io hi with n | ⟨j, es, nj, j1, j2⟩
    · exact n hs
    · exact nj (rp.nd j i a es io j1 hi j2 hs)
  have d := rp.drop i
  refine ⟨Same.refl _, fun a o h t n => h3 a o h t fun z => n (z ▸ ⟨i, io, hi, hs⟩), fun a z => .inl (own a z).1, dm, fun a z => .inl z, ?_⟩
  refine d.rp.grow (Same.refl _) (fun a o h => h3 a o (rp.sub _ _ h) (fun ps z => rp.nt a ps (by rw [h, z])) (ne_of_none h hp)) tb rp.nt fun a z => ?_
  obtain ⟨o1, o2⟩ := own a z
  obtain ⟨f1, vs, f2⟩ := rp.own o1
  exact ⟨f1, by rw [f2]; exact h3 _ _ f2 NT.lst o2⟩
theorem callI_run {cA : Str → Addr} {n i : Nat} {F : List PyData → List PyData → Out (Rt × List PyData)} (hcA : G.cA = cA) (hn : ∀ io ds r, F io ds = r → r ≠ .bad → ds.length + 1 = n) (σ : St) (H : Hp) (Q : VK) (h : tE G (fCallI i F fs) σ H Q) : tCallS (spI cA n F) (WE G.W) (tCons (tVar i) (tA G fs)) σ H Q := by
  obtain ⟨Hf, ρ, rp, af⟩ := h
  unfold fCallI at af
  cases e0 : isOw i ρ with
  | false => rw [e0] at af; exact False.elim af
  | true =>
    rw [e0, if_pos rfl] at af
    obtain ⟨ds0, h0⟩ := isOw_ow e0
    obtain ⟨p, vs0, s0, _, g0, _⟩ := slok_ow (rp.sl i _ h0)
    refine ⟨_, s0, (step rp af).mono fun us H1 ⟨ds, Hf1, ρ1, n1, ra, af1⟩ => ?_⟩
    show spI cA n F (V.ref p :: us) H1 Q (WE G.W σ)
    unfold bnd callIM at af1
    cases q : (ρ1[i]? : Option Sl) with
    | none => simp only [q] at af1; exact False.elim af1
    | some sl =>
      cases sl with
      | un => simp only [q] at af1; exact False.elim af1
      | raw _ => simp only [q] at af1; exact False.elim af1
      | fz _ => simp only [q] at af1; exact False.elim af1
      | ow io =>
        simp only [q] at af1
        obtain ⟨p', ws, s1, f1, g1, r1⟩ := slok_ow (n1.rp.sl i _ q)
        rw [s0] at s1
        cases s1
        have hl : (V.ref p :: us).length = n := by
          rw [List.length_cons, repA_len ra]
          refine hn io ds _ rfl fun z => ?_
          rw [z] at af1
          exact af1
        refine ⟨hl, Hf1, p, ws, us, io, ds, rfl, n1.rp.sb, f1, g1, r1, ra, ?_⟩
        cases e : F io ds with
        | bad => rw [e] at af1; exact False.elim af1
        | exc c =>
          rw [e] at af1
          subst hcA
          exact fun H' s dm t => af1 Hf1 H' (nxt_dropI n1.rp q s0 s dm t)
        | ok rr =>
          obtain ⟨r, io'⟩ := rr
          rw [e] at af1
          intro v Hf' H' zs h1 h2 h3 dm h4 h5 h6 h7 h8
          have nn := nxt_callI n1.rp q s0 h1 h2 h3 dm h4 h5 h6 h7
          cases r with
          | fz d => exact af1 v Hf' H' nn h8
          | ow es =>
            obtain ⟨p2, us2, rfl, k1, k2, k3, k4⟩ := h8
            have no : ¬ OwnA σ (ρ1.set i (.ow io')) p2 := fun z => (nn.os p2 z).elim (n1.rp.notOwn k1) fun _ => by
              obtain ⟨j, fs', e1, e2⟩ := z
              rw [List.getElem?_set] at e1
              by_cases w : i = j
              · subst w
                rw [s0] at e2
                cases e2
                rw [g1] at k1
                cases k1
              · rw [if_neg w] at e1
                exact n1.rp.notOwn k1 ⟨j, fs', e1, e2⟩
            obtain ⟨n2, r2⟩ := nn.take k1 k2 no k3 k4
            exact af1 _ _ _ n2 r2
theorem fe_callI (i : Nat) {y : Str} {p1 : Pos} {F : List PyData → List PyData → Out (Rt × List PyData)} {n : Nat} (hn : ∀ io ds r, F io ds = r → r ≠ .bad → ds.length + 1 = n) (Fo : FnOk X.prog X.w X.K X.mg X.base (L2.CX X.prog X.w) k fa fd ps (spI G.cA n F)) (hr : Room k X.A) (hg : Gl X x) (hm : X.mg x = some (.ref fa)) (hk : PySem.W.keepIn X.K (.ref fa) = true) (hb : Binds X.K fd ps []) (tk : Takes X G.W)
    (ha : PA X es (tA G fs)) (hN : X.N[i]? = some y := by rfl) (hv : Vis X.env.scope y := by first | exact Or.inl rfl | exact Or.inr (Or.inl rfl) | exact Or.inr (Or.inr rfl)) (hd : (y == ("__debug__" : Str)) = false := by decide)
    (hcd : (y == ("__classdict__" : Str)) = false := by decide) (hdb : (x == ("__debug__" : Str)) = false := by decide) (he : starEach (.Name y p1 :: es) X.env = (false, eval (.Name y p1) X.env) :: starEach es X.env := by rfl) (hpl : (backTo pos (starEach es X.env)).any (·.1) = false := by rfl) :
    PE X (.Call (.Name x p) (.Name y p1 :: es) [] pos) (tE G (fCallI i F fs)) := (pe_callS Fo hr hg hm hk hb (fun σ => passAt tk σ) (pa_cons (pe_var hN hv hd hcd) ha he) hdb he hpl).imp (callI_run rfl hn)
end
end Fx

namespace Fx
open PySem L2
variable [Tabz]
section
variable {X : Cx} {G : Gx} {e a b : Expr} {es : List Expr} {f g : M PyData} {fs : M (List PyData)} {pos : Pos} {tg : Expr} {pn : List Nat} {st : Stmt} {sts : List Stmt} {s t : Rho → Fl} {A B : Opd} {As : List Opd}
/-! ### data of any depth -/
mutual
theorem rep_dp {K : PySem.W.Frag} {H : Hp} : ∀ {v : V} {d : PyData}, Rep H v d → Dp K H v d
  | _, _, .non => .non
  | _, _, .bl b => .bl b
  | _, _, .int i => .int i
  | _, _, .str x => .str x
  | _, _, .lst h r => .lst (SqL.of h) (repA_dp r)
  | _, _, .tup h r => .tup (SqT.of h) (repA_dp r)
theorem repA_dp {K : PySem.W.Frag} {H : Hp} : ∀ {v : List V} {d : List PyData}, RepA H v d → DpAll K H v d
  | _, _, .nil => .nil
  | _, _, .cons h r => .cons (rep_dp h) (repA_dp r)
end
/-- == -/
def oEQ : PyData → PyData → Option PyData
  | .int i, .int j => some (.bool (decide (i = j)))
  | .str i, .str j => some (.bool (decide (i = j)))
  | .bool i, .bool j => some (.bool (decide (i = j)))
  | a, b => if SeqAt.shaped a && SeqAt.shaped b then some (.bool (PyData.eqv a b)) else none
def oNE : PyData → PyData → Option PyData
  | .int i, .int j => some (.bool (!decide (i = j)))
  | .str i, .str j => some (.bool (!decide (i = j)))
  | .bool i, .bool j => some (.bool (!decide (i = j)))
  | a, b => if SeqAt.shaped a && SeqAt.shaped b then some (.bool (!PyData.eqv a b)) else none
theorem op_or {F : Value → Value → Sem Value} {r r' : R2} (h : OpR X F r) (h' : OpR X F r') : OpR X F (fun x y H Q => r x y H Q ∨ r' x y H Q) := fun pins s σ H x y v u Q I rx ry q => q.elim (h pins s σ H x y v u Q I rx ry) (h' pins s σ H x y v u Q I rx ry)
theorem rd_EQ {K : PySem.W.Frag} : RdO (fun x y H Q => rEq x y H Q ∨ rEqD K x y H Q) oEQ := by
  intro Hf H x y a b d sm ha hb e
  unfold oEQ at e
  split at e
  · obtain ⟨v, h1, h2⟩ := rd_eq Hf H x y _ _ d sm ha hb e
    exact ⟨v, h1, fun Q q => .inl (h2 Q q)⟩
  · obtain ⟨v, h1, h2⟩ := rd_eq Hf H x y _ _ d sm ha hb e
    exact ⟨v, h1, fun Q q => .inl (h2 Q q)⟩
  · obtain ⟨v, h1, h2⟩ := rd_eq Hf H x y _ _ d sm ha hb e
    exact ⟨v, h1, fun Q q => .inl (h2 Q q)⟩
  · split at e
    · rename_i hs
      cases e
      exact ⟨_, .bl _, fun Q q => .inr ⟨_, _, rep_dp (ha.full sm), rep_dp (hb.full sm), (Bool.and_eq_true_iff.mp hs).1, (Bool.and_eq_true_iff.mp hs).2, q⟩⟩
    · cases e
theorem rd_NE {K : PySem.W.Frag} : RdO (fun x y H Q => rNe x y H Q ∨ rNeD K x y H Q) oNE := by
  intro Hf H x y a b d sm ha hb e
  unfold oNE at e
  split at e
  · obtain ⟨v, h1, h2⟩ := rd_ne Hf H x y _ _ d sm ha hb e
    exact ⟨v, h1, fun Q q => .inl (h2 Q q)⟩
  · obtain ⟨v, h1, h2⟩ := rd_ne Hf H x y _ _ d sm ha hb e
    exact ⟨v, h1, fun Q q => .inl (h2 Q q)⟩
  · obtain ⟨v, h1, h2⟩ := rd_ne Hf H x y _ _ d sm ha hb e
    exact ⟨v, h1, fun Q q => .inl (h2 Q q)⟩
  · split at e
    · rename_i hs
      cases e
      exact ⟨_, .bl _, fun Q q => .inr ⟨_, _, rep_dp (ha.full sm), rep_dp (hb.full sm), (Bool.and_eq_true_iff.mp hs).1, (Bool.and_eq_true_iff.mp hs).2, q⟩⟩
    · cases e
/-- the two comparisons as rules of operators -/
theorem op_EQ (hu : X.A.units + 64 < cLine) : OpR X (compareOp .Eq) (fun x y H Q => rEq x y H Q ∨ rEqD X.K x y H Q) := op_or op_eq (op_eqD hu)
theorem op_NE (hu : X.A.units + 64 < cLine) : OpR X (compareOp .NotEq) (fun x y H Q => rNe x y H Q ∨ rNeD X.K x y H Q) := op_or op_ne (op_neD hu)
/-- in, not in, a list -/
def oIn : PyData → PyData → Option PyData
  | a, .list ds => if SeqAt.shaped a && SeqAt.shaped (.list ds) then some (.bool (ds.any fun z => PyData.eqv z a)) else none
  | _, _ => none
/-! ### methods of lists -/
@[simp] def finM {α : Type} (A : Opd) (a : PyData) (As : List Opd) (as : List PyData) (k : PyData → List PyData → Option α) : M α := fun ρ => match A.at a ρ with
  | some x => (match atAll As as ρ with
    | some xs => opt (k x xs) ρ
    | none => .bad)
  | none => .bad
@[simp] def isL : Option PyData → Bool
  | some (.list _) => true
  | _ => false
@[simp] def fBM (o : PyData → List PyData → Option PyData) (A : Opd) (As : List Opd) : M PyData := fun ρ => (bnd A.go fun a ρ => if isL (A.at a ρ) then bnd (goAll As) (fun as => finM A a As as o) ρ else .bad) ρ
def RdM (r : V → List V → Hp → VK → Prop) (o : PyData → List PyData → Option PyData) : Prop := ∀ (Hf H : Hp) (x : V) (xs : List V) (a : PyData) (as : List PyData) (d : PyData), Same Hf H → R1 Hf H x a → R1A Hf H xs as → o a as = some d → ∃ v, Rep Hf v d ∧ ∀ Q : VK, Q v H → r x xs H Q
theorem finM_some {α β : Type} {R : Hp → β → α → Prop} {σ : St} {ρ : Rho} {Hf H : Hp} {Q : β → Hp → Prop} {a : PyData} {as : List PyData} {k : PyData → List PyData → Option α} (af : AfG G R σ ρ Hf H Q (finM A a As as k ρ)) : ∃ x xs, A.at a ρ = some x ∧ atAll As as ρ = some xs ∧ AfG G R σ ρ Hf H Q (opt (k x xs) ρ) := by
  unfold finM at af
  cases e1 : A.at a ρ with
  | none => rw [e1] at af; exact af.elim
  | some x =>
    rw [e1] at af
    cases e2 : atAll As as ρ with
    | none => simp only [e2] at af; exact False.elim af
    | some y =>
      simp only [e2] at af
      exact ⟨x, y, rfl, rfl, af⟩
theorem rd_BM {r : V → List V → Hp → VK → Prop} {o : PyData → List PyData → Option PyData} (hr : RdM r o) (σ : St) (H : Hp) (Q : VK) (h : tE G (fBM o A As) σ H Q) : tBM X.K "list" r (A.t G) (tAll G As) σ H Q := by
  obtain ⟨Hf, ρ, rp, af⟩ := h
  refine Opd.run (stepO rp af) fun x H1 ⟨a, Hf1, ρ1, n1, ra, af1⟩ => ?_
  cases ei : isL (A.at a ρ1) with
  | false => simp only [ei] at af1; exact False.elim af1
  | true =>
    simp only [ei, if_true] at af1
    refine ⟨?_, tAll_mono ?_ (stepA n1.rp af1)⟩
    · cases e1 : A.at a ρ1 with
      | none => rw [e1] at ei; cases ei
      | some d =>
        rw [e1] at ei
        cases d <;> first | cases ei | skip
        obtain ⟨p, vs, rfl, h1, _⟩ := (Opd.end n1.rp ra e1).lst n1.rp.sub
        exact .inl ⟨rfl, _, SqL.of h1⟩
    · rintro xs H2 ⟨as, Hf2, ρ2, n2, rb, af2⟩
      obtain ⟨a', as', ea, eb, af3⟩ := finM_some af2
      obtain ⟨d, e, k⟩ := finO n2.rp af3
      obtain ⟨v, dv, hq⟩ := hr Hf2 H2 x xs a' as' d n2.rp.sub (Opd.end n2.rp (Opd.keep n2 ra) ea) (rAll1_end n2.rp rb eb) e
      exact hq Q (k v dv)
def rCountD (K : PySem.W.Frag) : V → List V → Hp → VK → Prop := fun x xs H Q => ∃ (a : Addr) (y : V) (d : PyData) (ds : List PyData), x = V.ref a ∧ xs = [y] ∧ Dp K H (V.ref a) (.list ds) ∧ Dp K H y d ∧
  SeqAt.shaped (.list ds) = true ∧ SeqAt.shaped d = true ∧ Q (.int (ds.countP fun z => PyData.eqv z d : Nat)) H
theorem room_pair {k : Nat} {d : PyData} {ds : List PyData} (hd : SeqAt.shaped d = true) (hu : k + 65 < cLine) : k + 1 + min (PyData.depthAll ds) d.depth < cLine := by
  have z : (d.canLay0 && decide (d.depth ≤ 64)) = true := hd
  have z2 := of_decide_eq_true (Bool.and_eq_true_iff.mp z).2
  omega
theorem mt_countD (hu : X.A.units + 65 < cLine) : MtR X "list.count" (rCountD X.K) := by
  intro pins s σ H x xs v us Q I rx rxs h
  obtain ⟨a, y, d, ds, rfl, rfl, hl, hy, sl, sd, q⟩ := h
  cases rx
  cases rxs with
  | cons ry rt =>
    rename_i uy ut
    cases rt
    obtain ⟨bs, r1⟩ := Dp.reads I d y uy hy ry
    have hxs : PyData.canLayAll0 ds = true := SeqAt.canLay_of_shaped sl
    cases hl with
    | lst hs ha =>
      obtain ⟨its, rv, ⟨⟨cls, dd, data, sls⟩, n, ho, hc, hdn, hdt⟩, hlen⟩ := I.list hs
      simp only at hc hdt
      subst hc hdt
      obtain ⟨as, h4⟩ := Dp.readsAll I ds _ its ha rv
      have hmap : its.map (SeqAt.readOf s.heap) = ds := SeqAt.readsAll_map ds its as hxs h4
      refine call_meets PySem.F.slot_list_count ⟨_, ho, rfl⟩ PySem.F.entry_list_count (PySem.F.args_list_count_2 _ _)
        (SeqAt.list_countAt a its.toArray n dd sls uy (fun u => PyData.eqv (SeqAt.readOf s.heap u) d)) ⟨ho, SeqAt.items_eqAt (vs := its.toArray) (show ReadsAll s.heap its.toArray.toList ds as from h4) r1 hxs (SeqAt.canLay_of_shaped sd) (room_pair sd hu), ?_⟩
      refine ⟨.int (ds.countP fun z => PyData.eqv z d : Nat), H, I.tok _, ⟨s.toks, ?_⟩, q⟩
      have ec : its.toArray.toList.countP (fun u => PyData.eqv (SeqAt.readOf s.heap u) d) = ds.countP fun z => PyData.eqv z d := by
        rw [← hmap, List.countP_map]
        rfl
      show Value.int ((its.toArray.toList.countP (fun u => PyData.eqv (SeqAt.readOf s.heap u) d) : Nat) : Int) s.toks = _
      rw [ec]
def oCount : PyData → List PyData → Option PyData
  | .list ds, [d] => if SeqAt.shaped (.list ds) && SeqAt.shaped d then some (.int (ds.countP fun z => PyData.eqv z d : Nat)) else none
  | _, _ => none
theorem rd_count {K : PySem.W.Frag} : RdM (rCountD K) oCount := by
  intro Hf H x xs a as d sm ha hb e
  unfold oCount at e
  split at e
  · split at e
    · rename_i hs
      cases e
      cases hb with
      | cons h1 h2 =>
        cases h2
        obtain ⟨p, vs, rfl, g1, g2⟩ := ha.lst sm
        exact ⟨_, .int _, fun Q q => ⟨_, _, _, _, rfl, rfl, rep_dp (ha.full sm), rep_dp (h1.full sm), (Bool.and_eq_true_iff.mp hs).1, (Bool.and_eq_true_iff.mp hs).2, q⟩⟩
    · cases e
  · cases e
def oIndex : PyData → List PyData → Option PyData
  | .list ds, [d] => if SeqAt.shaped (.list ds) && SeqAt.shaped d then (ds.findIdx? fun z => PyData.eqv z d).map fun j => .int (j : Nat) else none
  | _, _ => none
theorem rd_index {K : PySem.W.Frag} : RdM (rIndexD K) oIndex := by
  intro Hf H x xs a as d sm ha hb e
  unfold oIndex at e
  split at e
  · rename_i ds d0
    split at e
    · rename_i hs
      cases ej : ds.findIdx? fun z => PyData.eqv z d0 with
      | none => rw [ej] at e; cases e
      | some j =>
        rw [ej] at e
        cases e
        obtain ⟨h1, h2, h3⟩ := List.findIdx?_eq_some_iff_getElem.mp ej
        cases hb with
        | cons g1 g2 =>
          cases g2
          obtain ⟨p, vs, rfl, g1', g2'⟩ := ha.lst sm
          refine ⟨_, .int _, fun Q q => ⟨_, _, _, _, j, ds[j], rfl, rfl, rep_dp (ha.full sm), rep_dp (g1.full sm), (Bool.and_eq_true_iff.mp hs).1, (Bool.and_eq_true_iff.mp hs).2, List.getElem?_eq_getElem h1, h2, fun m z' hm hz => ?_, q⟩⟩
          obtain ⟨k1, k2⟩ := List.getElem?_eq_some_iff.mp hz
          have := h3 m hm
          rw [k2] at this
          simpa using this
    · cases e
  · cases e
theorem fe_count {ap cp : Pos} (hu : X.A.units + 65 < cLine) (ho : PE X a (A.t G)) (ha : PA X (e :: es) (tAll G As)) (hbase : attributeBase a "count" X.env (eval a X.env) = eval a X.env := by rfl)
    (hfew : ((backTo cp (starEach (e :: es) X.env)).all (fun x => !x.1) && (backToKw cp (keywordEach [] X.env)).all (fun x => x.1.isSome) && decide ((e :: es).length + ([] : List Keyword).length + (if ([] : List Keyword).isEmpty then 0 else 1) < 30)) = true := by rfl)
    (hline : (ap.endLine == cp.line) = true := by rfl) (hs : starEach (e :: es) X.env = (false, eval e X.env) :: starEach es X.env := by rfl) (hplain : (backTo cp (starEach es X.env)).any (·.1) = false := by rfl) : PE X (.Call (.Attribute a "count" ap) (e :: es) [] cp) (tE G (fBM oCount A As)) :=
  (pe_bm PySem.F.plainAttrs_list PySem.F.slot_list_count PySem.F.type_list_count (mt_countD hu) ho ha hbase hfew hline hs hplain).imp (rd_BM rd_count)
theorem fe_index {ap cp : Pos} (hu : X.A.units + 65 < cLine) (ho : PE X a (A.t G)) (ha : PA X (e :: es) (tAll G As)) (hbase : attributeBase a "index" X.env (eval a X.env) = eval a X.env := by rfl)
    (hfew : ((backTo cp (starEach (e :: es) X.env)).all (fun x => !x.1) && (backToKw cp (keywordEach [] X.env)).all (fun x => x.1.isSome) && decide ((e :: es).length + ([] : List Keyword).length + (if ([] : List Keyword).isEmpty then 0 else 1) < 30)) = true := by rfl)
    (hline : (ap.endLine == cp.line) = true := by rfl) (hs : starEach (e :: es) X.env = (false, eval e X.env) :: starEach es X.env := by rfl) (hplain : (backTo cp (starEach es X.env)).any (·.1) = false := by rfl) : PE X (.Call (.Attribute a "index" ap) (e :: es) [] cp) (tE G (fBM oIndex A As)) :=
  (pe_bm PySem.F.plainAttrs_list PySem.F.slot_list_index PySem.F.type_list_index (mt_indexD hu) ho ha hbase hfew hline hs hplain).imp (rd_BM rd_index)
/-! ### isinstance -/
def tyName : PyData → String
  | .none => "NoneType"
  | .bool _ => "bool"
  | .int _ => "int"
  | .str _ => "str"
  | .list _ => "list"
  | .tuple _ => "tuple"
  | .dict _ => "dict"
/-- x is an int, ..: what the five classes say -/
def isTyN (n T : String) : Bool := n == T || (n == "bool" && T == "int")
def isTy (d : PyData) (T : String) : Bool := isTyN (tyName d) T
theorem rep_ty {K : PySem.W.Frag} {H : Hp} {v : V} {d : PyData} (h : Rep H v d) : TyX K H v (.type (tyName d)) := by
  cases h with
  | non => exact .base .non
  | bl b => exact .base (.bl b)
  | int i => exact .base (.int i)
  | str x => exact .base (.str x)
  | lst h _ => exact .base (.lst h)
  | tup h _ => exact .base (.tup h)
theorem rep_nd {H : Hp} {v : V} {kvs : List (PyData × PyData)} (h : Rep H v (.dict kvs)) : False := by cases h
def tyOk (T : String) : Bool := T == "bool" || T == "int" || T == "str" || T == "list" || T == "tuple"
theorem kit_at {K : PySem.W.Frag} {d : PyData} {T : String} (hT : tyOk T = true) (hd : ∀ kvs, d ≠ .dict kvs) : PySem.W.kitOne K (.type (tyName d)) (.type T) = some (isTy d T) := by
  have h5 : T = "bool" ∨ T = "int" ∨ T = "str" ∨ T = "list" ∨ T = "tuple" := by
    unfold tyOk at hT
    simp only [Bool.or_eq_true, beq_iff_eq] at hT
    rcases hT with (((h | h) | h) | h) | h
    · exact .inl h
    · exact .inr (.inl h)
    · exact .inr (.inr (.inl h))
    · exact .inr (.inr (.inr (.inl h)))
    · exact .inr (.inr (.inr (.inr h)))
  have h6 : ∀ n : String, (n = "NoneType" ∨ n = "bool" ∨ n = "int" ∨ n = "str" ∨ n = "list" ∨ n = "tuple") → PySem.W.kitOne K (.type n) (.type T) = some (isTyN n T) := by
    intro n hn
    rcases hn with rfl | rfl | rfl | rfl | rfl | rfl <;> rcases h5 with rfl | rfl | rfl | rfl | rfl <;> exact kit_ty (by decide +kernel)
  refine h6 _ ?_
  cases d with
  | dict kvs => exact absurd rfl (hd kvs)
  | none => exact .inl rfl
  | bool b => exact .inr (.inl rfl)
  | int b => exact .inr (.inr (.inl rfl))
  | str b => exact .inr (.inr (.inr (.inl rfl)))
  | list b => exact .inr (.inr (.inr (.inr (.inl rfl))))
  | tuple b => exact .inr (.inr (.inr (.inr (.inr rfl))))
theorem R1.nd {Hf H : Hp} {v : V} {d : PyData} (sm : Same Hf H) (h : R1 Hf H v d) : ∀ kvs, d ≠ .dict kvs := fun kvs z => by
  subst z
  exact rep_nd (h.full sm)
@[simp] def oIs (T : String) (d : PyData) : Option PyData := some (.bool (isTy d T))
theorem fe_isi {T : String} {x : Str} {p q : Pos} (hT : tyOk T = true) (hg : Gl X "isinstance") (hm : X.mg "isinstance" = none) (hgx : Gl X x) (hmx : X.mg x = none) (hx : bootBuiltins x = some (.type T)) (ha : PE X a (A.t G)) (hnx : x ≠ "__name__" := by decide) (hdx : (x == ("__debug__" : Str)) = false := by decide)
    (he : starEach [a, .Name x q] X.env = (false, eval a X.env) :: starEach [.Name x q] X.env := by rfl) (he2 : starEach [.Name x q] X.env = (false, eval (.Name x q) X.env) :: starEach [] X.env := by rfl) (hpl : (backTo pos (starEach [.Name x q] X.env)).any (·.1) = false := by rfl) :
    PE X (.Call (.Name "isinstance" p) [a, .Name x q] [] pos) (tE G (fUn (oIs T) A)) := by
  refine (pe_callB call_isi hg hm (by decide +kernel) (pa_cons ha (pa_cons (pe_bltn (v := .ty T) hgx hmx hx rfl hnx hdx) pa_nil he2) he) (by decide) (by decide) he hpl).imp fun σ H Q ⟨Hf, ρ, rp, af⟩ => ?_
  refine Opd.run (stepO rp af) fun y H1 ⟨d, Hf1, ρ1, n1, ra, af1⟩ => ?_
  obtain ⟨a', ea, af2⟩ := fin1_some af1
  have r1 := Opd.end n1.rp ra ea
  exact ⟨y, .ty T, .type (tyName a'), .type T, isTy a' T, rfl, .ty T, rep_ty (r1.full n1.rp.sub), kit_at hT (r1.nd n1.rp.sub), fin (R := Rep) n1.rp af2 (.bl _)⟩
@[simp] def oIs2 (T U : String) (d : PyData) : Option PyData := some (.bool (isTy d T || isTy d U))
theorem fe_isi2 {T U : String} {x y : Str} {p q q2 q3 : Pos} {k : Nat} (hT : tyOk T = true) (hU : tyOk U = true) (hg : Gl X "isinstance") (hm : X.mg "isinstance" = none) (hgx : Gl X x) (hmx : X.mg x = none) (hx : bootBuiltins x = some (.type T)) (hgy : Gl X y) (hmy : X.mg y = none) (hy : bootBuiltins y = some (.type U)) (ha : PE X a (A.t G)) (hnx : x ≠ "__name__" := by decide) (hdx : (x == ("__debug__" : Str)) = false := by decide) (hny : y ≠ "__name__" := by decide) (hdy : (y == ("__debug__" : Str)) = false := by decide)
    (he : starEach [a, .Tuple [.Name x q, .Name y q2] k q3] X.env = (false, eval a X.env) :: starEach [.Tuple [.Name x q, .Name y q2] k q3] X.env := by rfl) (he2 : starEach [.Tuple [.Name x q, .Name y q2] k q3] X.env = (false, eval (.Tuple [.Name x q, .Name y q2] k q3) X.env) :: starEach [] X.env := by rfl)
    (he3 : starEach [.Name x q, .Name y q2] X.env = (false, eval (.Name x q) X.env) :: starEach [.Name y q2] X.env := by rfl) (he4 : starEach [.Name y q2] X.env = (false, eval (.Name y q2) X.env) :: starEach [] X.env := by rfl) (hpl : (backTo pos (starEach [.Tuple [.Name x q, .Name y q2] k q3] X.env)).any (·.1) = false := by rfl) :
    PE X (.Call (.Name "isinstance" p) [a, .Tuple [.Name x q, .Name y q2] k q3] [] pos) (tE G (fUn (oIs2 T U) A)) := by
  refine (pe_callB call_isiT hg hm (by decide +kernel) (pa_cons ha (pa_cons (pe_tup (pa_cons (pe_bltn (v := .ty T) hgx hmx hx rfl hnx hdx) (pa_cons (pe_bltn (v := .ty U) hgy hmy hy rfl hny hdy) pa_nil he4) he3)) pa_nil he2) he) (by decide) (by decide) he hpl).imp fun σ H Q ⟨Hf, ρ, rp, af⟩ => ?_
  refine Opd.run (stepO rp af) fun y H1 ⟨d, Hf1, ρ1, n1, ra, af1⟩ => ?_
  obtain ⟨a', ea, af2⟩ := fin1_some af1
  have r1 := Opd.end n1.rp ra ea
  refine ⟨by show 2 ≤ sizeLine; decide, fun tp htp => ?_⟩
  have sm : Same Hf1 (upd H1 tp (.tup [.ty T, .ty U])) := n1.rp.sub.trans (same_new htp)
  have ty : TyX X.K (upd H1 tp (.tup [.ty T, .ty U])) y (.type (tyName a')) := rep_ty (rep_same (same_new htp) (r1.full n1.rp.sub))
  refine ⟨y, tp, [.ty T, .ty U], .type (tyName a'), [.type T, .type U], isTy a' T || isTy a' U, rfl, upd_same, .cons (.ty T) (.cons (.ty U) .nil), ty, ?_, ?_⟩
  · refine kitAny_cons (kit_at hT (r1.nd n1.rp.sub)) (fun h => ?_) fun h => by rw [h]; rfl
    rw [h, Bool.false_or]
    refine kitAny_cons (kit_at hU (r1.nd n1.rp.sub)) (fun h => ?_) fun h => h
    rw [h]
    exact kitAny_nil
  · exact AfG.new (R := Rep) n1.rp af2 htp (.bl _)
end
end Fx

namespace Fx
open PySem L2
variable [Tabz]
/-! ### raw values in slots -/
theorem Rp.putS {Hf H : Hp} {σ : St} {ρ : Rho} (rp : Rp Hf H σ ρ) {i : Nat} {o : Option V} {sl : Sl} (hn : ∀ ds, sl ≠ .ow ds) (r : SlOk Hf H (some o) sl) : Nxt σ ρ Hf H (σ.set i o) (ρ.set i sl) Hf H := by
  have own : ∀ a, OwnA (σ.set i o) (ρ.set i sl) a → OwnA σ ρ a := fun a ⟨j, ds, e1, e2⟩ => by
    rw [List.getElem?_set] at e1 e2
    by_cases q : i = j
    · subst q
      rw [if_pos rfl] at e1
      split at e1
      · exact absurd (Option.some.inj e1) (hn ds)
      · cases e1
    · rw [if_neg q] at e1 e2
      exact ⟨j, ds, e1, e2⟩
  refine ⟨Same.refl _, fun _ _ h _ _ => h, fun a z => .inl (own a z), fun _ h => h, fun _ h => .inl h, rp.sub, rp.tb, rp.nt, by rw [List.length_set, List.length_set]; exact rp.len, fun j s h => ?_, fun j k p ds es h1 h2 h3 h4 => ?_⟩
  · rw [List.getElem?_set] at h ⊢
    by_cases q : i = j
    · subst q
      rw [if_pos rfl] at h ⊢
      split at h
      · rename_i hl
        rw [if_pos (Nat.lt_of_lt_of_le hl rp.len)]
        cases h
        exact r
      · cases h
    · rw [if_neg q] at h ⊢
      exact rp.sl j s h
  · rw [List.getElem?_set] at h1 h2 h3 h4
    by_cases q : i = j
    · subst q
      rw [if_pos rfl] at h1
      split at h1
      · exact absurd (Option.some.inj h1) (hn ds)
      · cases h1
    · rw [if_neg q] at h1 h3
      by_cases q' : i = k
      · subst q'
        rw [if_pos rfl] at h2
        split at h2
        · exact absurd (Option.some.inj h2) (hn es)
        · cases h2
      · rw [if_neg q'] at h2 h4
        exact rp.nd j k p ds es h1 h2 h3 h4
/-- the same whatever the address is -/
noncomputable def allA (post : Addr → Fl) : Fl := @ite _ (∀ a, post a = post 0) (Classical.propDecidable _) (post 0) .bad
theorem allA_const {x : Fl} : allA (fun _ => x) = x := by
  unfold allA
  exact @if_pos _ (Classical.propDecidable _) (fun _ => rfl) _ _ _
theorem allA_of {post : Addr → Fl} {x : Fl} (h : ∀ a, post a = x) : allA post = x := by
  have e : post = fun _ => x := funext h
  rw [e, allA_const]
section
variable {X : Cx} {G : Gx} {e a b : Expr} {es : List Expr} {f g : M PyData} {fs : M (List PyData)} {pos : Pos} {tg : Expr} {pn : List Nat} {st : Stmt} {sts : List Stmt} {s t : Rho → Fl} {A B : Opd} {As : List Opd}
theorem allA_at {σ : St} {ρ : Rho} {Hf H : Hp} {D : Ends} {post : Addr → Fl} (h : AfS G pn σ ρ Hf H D (allA post)) (x : Addr) : AfS G pn σ ρ Hf H D (post x) := by
  by_cases q : ∀ a, post a = post 0
  · rw [q x]
    have e : allA post = post 0 := allA_of q
    rw [← e]
    exact h
  · have e : allA post = .bad := @if_neg _ (Classical.propDecidable _) q _ _ _
    rw [e] at h
    exact h.elim
/-! ### try .. except .. as .. -/
@[simp] def leave (i : Nat) : Fl → Fl
  | .nx ρ => .nx (ρ.set i .un)
  | .brk ρ => .brk (ρ.set i .un)
  | .ct ρ => .ct (ρ.set i .un)
  | .ret r ρ => .ret r (ρ.set i .un)
  | _ => .bad
noncomputable def sTryAs (m : Str → Option Bool) (i : Nat) (sb : Rho → Fl) (su : Str → Addr → Rho → Fl) : Rho → Fl := fun ρ => match sb ρ with
  | .exc c ρ1 => (match m c with
    | some true => allA fun a => leave i (su c a (ρ1.set i (.raw (.ref a))))
    | some false => .exc c ρ1
    | none => .bad)
  | x => x
theorem own_setn {σ : St} {ρ : Rho} {i : Nat} {a : Addr} (h : OwnA σ (ρ.set i .un) a) : OwnA σ ρ a := (own_set (fun _ => Sl.noConfusion) h).1
theorem AfS.same {G G' : Gx} {σ : St} {ρ : Rho} {Hf H : Hp} {D : Ends} : ∀ {o : Fl}, (∀ c ρ, o ≠ .exc c ρ) → AfS G pn σ ρ Hf H D o → AfS G' pn σ ρ Hf H D o
  | .nx _, _, h => h
  | .brk _, _, h => h
  | .ct _, _, h => h
  | .ret _ _, _, h => h
  | .exc c ρ, n, _ => absurd rfl (n c ρ)
  | .bad, _, h => h
theorem RtOk.later {σ σ1 σ2 : St} {ρ ρ1 ρ2 : Rho} {Hf H Hf1 H1 Hf2 H2 : Hp} (n : Nxt σ ρ Hf H σ1 ρ1 Hf1 H1) (pi : Pin pn σ σ1) {v : V} : ∀ {r : Rt}, RtOk pn σ1 ρ1 H1 σ2 ρ2 Hf2 H2 v r → RtOk pn σ ρ H σ2 ρ2 Hf2 H2 v r
  | .fz d, h => h
  | .ow ds, h => by
    obtain ⟨p, vs, e, h1, h2, h3⟩ := h
    refine ⟨p, vs, e, h1.elim (fun z => .inl (n.dom p z)) fun z => (n.os p z).elim .inr .inl, fun j hj => ?_, h3⟩
    rw [← pi j hj]
    exact h2 j hj
theorem fs_tryAs {x n : Str} {C : Addr} {i : Nat} {m : Str → Option Bool} {sb : Rho → Fl} {su : Str → Addr → Rho → Fl} {body suite : List Stmt} {b₀ : Stmt} {np pos' : Pos} (hs : X.stack = X.env :: X.outer) (hf : X.env.frame = some X.env.locals) (hN : X.N.Nodup) (hi : X.N[i]? = some n) (hln : X.env.kindOf n = some .local) (hC : Names X x (.ref C)) (tk : Takes X G.W) (hpn : i ∉ pn)
    (hm : ∀ c b, m c = some b → PySem.W.exmOne X.K (.ref (G.cA c)) (.ref C) = some b)
    (hb : ∀ (W : WX) (pp : List (Addr × Obj)) (xe : Value → Shared → Prop), Takes (X.tr pp xe) W → PassesOwn (model X.prog X.w) X.A X.env xe → PSs (X.tr pp xe) body (tS ⟨W, G.cA⟩ pn sb))
    (hsu : ∀ (c : Str) (a : Addr) (oe : Obj) (pp : List (Addr × Obj)), Zc (.ref (G.cA c)) none oe → (∃ vs, oe.data = .fields vs) → PSs (X.suite a ((a, oe) :: pp)) (b₀ :: suite) (tS (G0 G) pn (su c a))) :
    PS X (.Try body [.ExceptHandler (some (.Name x np)) (some n) (b₀ :: suite) pos'] [] [] pos) (tS G pn (sTryAs m i sb su)) := by
  refine (ps_try_as (i := i) (Wout := G.W) (tb := fun W => tS ⟨W, G.cA⟩ pn sb) (ts := fun a cls d D σ H => ∃ c, cls = .ref (G.cA c) ∧ d = none ∧ tS (G0 G) pn (su c a) D σ H) hs hf hN hi hln hC tk hb (fun a oe cls d pp hz hv => ?_)).imp fun D σ H ⟨Hf, ρ, rp, af⟩ => ⟨Hf, ρ, rp, ?_⟩
  · refine ⟨fun pins s σ H D I ⟨c, e1, e2, h⟩ => ?_⟩
    subst e1 e2
    exact (hsu c a oe pp hz hv).run pins s σ H D I h
  · unfold sTryAs at af
    cases eb : sb ρ with
    | nx ρ1 => rw [eb] at af; exact af
    | brk ρ1 => rw [eb] at af; exact af
    | ct ρ1 => rw [eb] at af; exact af
    | ret r ρ1 => rw [eb] at af; exact af
    | bad => rw [eb] at af; exact af
    | exc c ρ1 =>
      rw [eb] at af
      dsimp only at af
      intro σ1 Hf1 H1 n1 p1
      cases em : m c with
      | none => rw [em] at af; exact af.elim
      | some bb =>
        rw [em] at af
        refine ⟨bb, hm c bb em, fun hb1 x hx => ?_, fun hb0 => ?_⟩
        · subst hb1
          dsimp only at af
          have af2 := allA_at af x
          have n2 := n1.trans (n1.rp.putS (i := i) (o := some (.ref x)) (sl := .raw (.ref x)) (fun _ z => nomatch z) (slok_raw.mpr rfl))
          refine ⟨c, rfl, rfl, Hf1, ρ1.set i (.raw (.ref x)), n2.rp, ?_⟩
          have p2 : Pin pn σ (σ1.set i (some (.ref x))) := p1.trans (pin_set hpn)
          cases es : su c x (ρ1.set i (.raw (.ref x))) with
          | nx ρ3 => rw [es] at af2; exact fun σ3 Hf3 H3 n3 p3 => af2 _ Hf3 H3 ((n2.trans n3).trans (n3.rp.putS (i := i) (o := none) (sl := .un) (fun _ z => nomatch z) slok_un)) ((p2.trans p3).trans (pin_set hpn))
          | brk ρ3 => rw [es] at af2; exact fun σ3 Hf3 H3 n3 p3 => af2 _ Hf3 H3 ((n2.trans n3).trans (n3.rp.putS (i := i) (o := none) (sl := .un) (fun _ z => nomatch z) slok_un)) ((p2.trans p3).trans (pin_set hpn))
          | ct ρ3 => rw [es] at af2; exact fun σ3 Hf3 H3 n3 p3 => af2 _ Hf3 H3 ((n2.trans n3).trans (n3.rp.putS (i := i) (o := none) (sl := .un) (fun _ z => nomatch z) slok_un)) ((p2.trans p3).trans (pin_set hpn))
          | ret r ρ3 =>
            rw [es] at af2
            intro v σ3 Hf3 H3 n3 p3 hr
            refine af2 v σ3 Hf3 H3 ((n2.trans n3).trans (n3.rp.drop i)) (p2.trans p3) ?_
            have h2 := RtOk.later n2 p2 hr
            cases r with
            | fz d => exact h2
            | ow ds =>
              obtain ⟨p, vs, e, h1, h2, h3, h4, h5⟩ := h2
              exact ⟨p, vs, e, h1, h2, h3, fun z => h4 (own_setn z), h5⟩
          | exc c3 ρ3 => rw [es] at af2; exact False.elim af2
          | bad => rw [es] at af2; exact False.elim af2
        · subst hb0
          exact af σ1 Hf1 H1 n1 p1
/-- isinstance of the error that is held -/
@[simp] def fIsE (i : Nat) (x : Addr) (r : Bool) : M PyData := fun ρ => match (ρ[i]? : Option Sl) with
  | some (.raw v) => if v = .ref x then .ok (.bool r, ρ) else .bad
  | _ => .bad
theorem fe_isE {i : Nat} {x : Addr} {oe : Obj} {pp : List (Addr × Obj)} {D : Addr} {n y : Str} {p q q2 : Pos} {cv : V} {cu : Value} {r : Bool} (C : ExcC X.K D) (hz : Zc (.ref D) none oe) (hf : ∃ vs, oe.data = .fields vs) (hg : Gl (X.suite x ((x, oe) :: pp)) "isinstance") (hm : X.mg "isinstance" = none)
    (hn : PE (X.suite x ((x, oe) :: pp)) (.Name n q) (tVar i)) (hy : PE (X.suite x ((x, oe) :: pp)) (.Name y q2) (tC cv)) (hcv : ∀ u, RelV cv u → u = cu) (hk : PySem.W.kitOne X.K (.ref D) cu = some r)
    (he : starEach [.Name n q, .Name y q2] (X.suite x ((x, oe) :: pp)).env = (false, eval (.Name n q) (X.suite x ((x, oe) :: pp)).env) :: starEach [.Name y q2] (X.suite x ((x, oe) :: pp)).env := by rfl)
    (he2 : starEach [.Name y q2] (X.suite x ((x, oe) :: pp)).env = (false, eval (.Name y q2) (X.suite x ((x, oe) :: pp)).env) :: starEach [] (X.suite x ((x, oe) :: pp)).env := by rfl) (hpl : (backTo pos (starEach [.Name y q2] (X.suite x ((x, oe) :: pp)).env)).any (·.1) = false := by rfl) :
    PE (X.suite x ((x, oe) :: pp)) (.Call (.Name "isinstance" p) [.Name n q, .Name y q2] [] pos) (tE G (fIsE i x r)) := by
  refine (pe_callB (call_isE C hz hf) hg hm (by decide +kernel) (pa_cons hn (pa_cons hy pa_nil he2) he) (by decide) (by decide) he hpl).imp fun σ H Q ⟨Hf, ρ, rp, af⟩ => ?_
  unfold fIsE at af
  split at af
  · rename_i v e
    split at af
    · rename_i ev
      subst ev
      have h1 := slok_raw' (rp.sl i _ e)
      exact ⟨_, h1, cv, cu, r, rfl, hcv, hk, fin (R := Rep) rp af (.bl r)⟩
    · exact False.elim af
  · exact False.elim af
/-! ### while -/
def whE (p : M Bool) (s : Rho → Fl) : Nat → Rho → Fl
  | 0, _ => .bad
  | n + 1, ρ => match p ρ with
    | .ok (true, ρ1) => (match s ρ1 with
      | .nx ρ2 => whE p s n ρ2
      | .ct ρ2 => whE p s n ρ2
      | .brk ρ2 => .nx ρ2
      | x => x)
    | .ok (false, ρ1) => .nx ρ1
    | .exc c ρ1 => .exc c ρ1
    | .bad => .bad
theorem fs_while {c : Expr} {p : M Bool} (n : Nat) (hp : PassesOwn (model X.prog X.w) X.A X.env X.xe) (hc : PT X c (tT G p)) (hb : PSs X sts (tS G pn s)) : PS X (.While c sts [] pos) (tS G pn (whE p s n)) := by
  refine (ps_while hp hc hb).imp fun D σ H ⟨Hf, ρ, rp, af⟩ => ?_
  refine ⟨fun m σ H => ∃ Hf ρ, Rp Hf H σ ρ ∧ AfS G pn σ ρ Hf H D (whE p s m ρ), ⟨n, Hf, ρ, rp, af⟩, ?_⟩
  rintro m σ1 H1 ⟨Hf1, ρ1, rp1, af1⟩
  cases m with
  | zero => exact af1.elim
  | succ m =>
    refine ⟨Hf1, ρ1, rp1, ?_⟩
    unfold whE at af1
    cases ep : p ρ1 with
    | exc c ρ2 => rw [ep] at af1; exact fun Hf2 H2 n2 => af1 σ1 Hf2 H2 n2 (.refl _ _)
    | bad => rw [ep] at af1; exact af1
    | ok x =>
      obtain ⟨bt, ρ2⟩ := x
      rw [ep] at af1
      intro bb Hf2 H2 n2 eb
      subst eb
      cases bb with
      | false => exact af1 σ1 Hf2 H2 n2 (.refl _ _)
      | true =>
        dsimp only at af1
        refine ⟨fun σ' H' => ∃ Hf ρ, Rp Hf H' σ' ρ ∧ AfS G pn σ' ρ Hf H' D (whE p s m ρ), fun σ' H' q => ⟨m, Nat.lt_succ_self m, q⟩, Hf2, ρ2, n2.rp, ?_⟩
        cases es : s ρ2 with
        | nx ρ3 => simp only [es] at af1; exact fun σ3 Hf3 H3 n3 p3 => ⟨Hf3, ρ3, n3.rp, af1.later (n2.trans n3) p3⟩
        | ct ρ3 => simp only [es] at af1; exact fun σ3 Hf3 H3 n3 p3 => ⟨Hf3, ρ3, n3.rp, af1.later (n2.trans n3) p3⟩
        | brk ρ3 => simp only [es] at af1; exact fun σ3 Hf3 H3 n3 p3 => af1 σ3 Hf3 H3 (n2.trans n3) p3
        | ret r ρ3 => simp only [es] at af1; have q := AfS.later (D := D) n2 (.refl pn _) af1; exact q
        | exc c3 ρ3 => simp only [es] at af1; exact fun σ3 Hf3 H3 n3 p3 => af1 σ3 Hf3 H3 (n2.trans n3) p3
        | bad => simp only [es] at af1; exact False.elim af1
/-! ### lists by a condition -/
@[simp] def fIfL (p : M Bool) (f g : M (List PyData)) : M (List PyData) := fun ρ => (bnd p fun c => if c = true then f else g) ρ
theorem fl_if {c : Expr} {p : M Bool} {f g : M (List PyData)} (hc : PT X c (tT G p)) (ha : PE X a (tL G f)) (hb : PE X b (tL G g)) : PE X (.IfExp c a b pos) (tL G (fIfL p f g)) := by
  refine (pe_ifExp hc ha hb).imp fun σ H Q ⟨Hf, ρ, rp, af⟩ => ?_
  refine (stepL rp af).mono fun x H1 ⟨d, Hf1, ρ1, n1, ra, af1⟩ => ?_
  subst ra
  cases x with
  | true => exact ⟨Hf1, ρ1, n1.rp, af1⟩
  | false => exact ⟨Hf1, ρ1, n1.rp, af1⟩
/-! ### a, b = x, y -/
@[simp] def sPar (i j : Nat) (f g : M PyData) : Rho → Fl := fun ρ => (sBnd (fCons f (fCons g fNil)) fun ds ρ => match ds with
  | [d1, d2] => .nx ((ρ.set i (.fz d1)).set j (.fz d2))
  | _ => .bad) ρ
theorem fs_par {i j : Nat} {x y : Str} {px py pt : Pos} {kt k2 pt2} (hc : X.calm = true) (hN : X.N.Nodup) (hi : X.N[i]? = some x) (hj : X.N[j]? = some y) (hij : i ≠ j) (hpi : i ∉ pn) (hpj : j ∉ pn)
    (hx : X.env.scope.names.lookup x = some .local) (hy : X.env.scope.names.lookup y = some .local) (ha : PE X a (tE G f)) (hb : PE X b (tE G g))
    (hw : swappedStores [.Tuple [.Name x px, .Name y py] kt pt] (.Tuple [a, b] k2 pt2) X.env = pure (some [x, y]) := by rfl)
    (hs : swapsWithSole [.Tuple [.Name x px, .Name y py] kt pt] (.Tuple [a, b] k2 pt2) pos.line X.env = pure false := by rfl)
    (h1 : starEach [a, b] X.env = (false, eval a X.env) :: starEach [b] X.env := by rfl) (h2 : starEach [b] X.env = (false, eval b X.env) :: starEach [] X.env := by rfl) :
    PS X (.Assign [.Tuple [.Name x px, .Name y py] kt pt] (.Tuple [a, b] k2 pt2) pos) (tS G pn (sPar i j f g)) := by
  refine (ps_par hc hN hi hj hij hx hy (fa_cons ha (fa_cons hb fa_nil h2) h1) hw hs).imp fun D σ H ⟨Hf, ρ, rp, af⟩ => ?_
  refine (stepS rp af).mono fun vs H1 ⟨ds, Hf1, ρ1, n1, ra, af1⟩ => ?_
  cases ra with
  | nil => exact False.elim af1
  | cons r1 ra =>
    cases ra with
    | nil => exact False.elim af1
    | cons r2 ra =>
      cases ra with
      | cons _ _ => exact False.elim af1
      | nil =>
        have m1 := n1.rp.put (i := i) r1
        have m2 := m1.rp.put (i := j) r2
        exact ⟨_, _, rfl, af1 _ Hf1 H1 (m1.trans m2) ((pin_set hpi).trans (pin_set hpj))⟩
end
end Fx

namespace Fx
open PySem L2
/-! ### what the top has left, by names -/
inductive Fq where
  | f (x : He.Fa)
  | xc (x : Str)
  | kx (x y : Str) (b : Bool)
  | kv (x : Str) (T : String) (b : Bool)
def eqV (a b : Option Value) : Bool := decide (a = b)
def Fq.ok (K : PySem.W.Frag) : Fq → Bool
  | .f x => x.ok K
  | .xc x => He.eqO (PySem.W.findIn K (.ref (He.ga K x)) "__getattribute__") (some (some (.builtin "BaseException.__getattribute__"))) && (He.eqO (PySem.W.findIn K (.ref (He.ga K x)) "__getattr__") (some none) && (decide (PySem.W.subIn K (.ref (He.ga K x)) (.type "BaseException") = some true)
      && (PySem.W.hasDictIn K (He.ga K x) && (He.eqO (PySem.W.findIn K (.ref (He.ga K x)) "__class__") (some (some (.builtin "object.__class__"))) && (He.eqO (PySem.W.specialIn K (.builtin "object.__class__") "__get__") (some (some (.builtin "getset_descriptor.__get__")))
      && (decide (PySem.W.takesIn K (.builtin "object.__class__") = some true) && decide (PySem.W.mroIn K (He.ga K x) (.type "object") = some true)))))))
  | .kx x y b => decide (PySem.W.kitOne K (.ref (He.ga K x)) (.ref (He.ga K y)) = some b)
  | .kv x T b => decide (PySem.W.kitOne K (.ref (He.ga K x)) (.type T) = some b)
/-- one def of the top -/
def mkD (x : Str) (st : Stmt) : He.FnD := ⟨(x, none), x, x, defArgs st, defBody st, defScope st⟩
def obsQ (fa : List Fq) (fn : List He.FnD) (K : PySem.W.Frag) : He.Al := ((fa.all fun f => f.ok K) && fn.all fun d => (He.Fa.code d.at_ d.qual).ok K && PySem.W.keepIn K (.ref (He.fAd K d.at_)), fn.map fun d => He.fnObs K d.at_)
def SaysQ (fa : List Fq) (fn : List He.FnD) (K : PySem.W.Frag) : Prop := obsQ fa fn K = He.valE fn
/-- the defs with lambdas: their tables are empty, each its own, not in K -/
structure TabQ (tf : List Str) (h : Heap) (K : PySem.W.Frag) : Prop where
  hd : ∀ x ∈ tf, PySem.W.codeHdIn K (He.cT K (x, none)).1 (He.cT K (x, none)).2 = true
  out : ∀ x ∈ tf, K.lookup (He.cT K (x, none)).2 = none
  empty : ∀ x ∈ tf, h.get? (He.cT K (x, none)).2 = some { cls := .none, data := .fields #[] }
  nd : (tf.map fun x => (He.cT K (x, none)).2).Nodup
def tabQB (g : Addr → Option Obj) (tf : List Str) (K : PySem.W.Frag) : Bool := He.tabsB g (tf.map fun x => (x, none)) K && decide (tf.map fun x => (He.cT K (x, none)).2).Nodup
def obsQG (n : Nat) (fa : List Fq) (fn : List He.FnD) (tf : List Str) (g : Addr → Option Obj) : He.Al × Bool := (obsQ fa fn (He.frT g (He.asG g n)), tabQB g tf (He.frT g (He.asG g n)))
theorem tabQ_of {n : Nat} {tf : List Str} {h : Heap} (e : tabQB h.get? tf (He.frT h.get? (He.asG h.get? n)) = true) : TabQ tf h (He.frT h.get? (He.asG h.get? n)) := by
  obtain ⟨h2, hn⟩ := He.ba e
  have key : ∀ x ∈ tf, PySem.W.codeHdIn (He.frT h.get? (He.asG h.get? n)) (He.cT (He.frT h.get? (He.asG h.get? n)) (x, none)).1 (He.cT (He.frT h.get? (He.asG h.get? n)) (x, none)).2 = true ∧ ∃ o, h.get? (He.cT (He.frT h.get? (He.asG h.get? n)) (x, none)).2 = some o ∧ He.emptyTab o = true := fun x hx => by
    obtain ⟨h3, h4⟩ := He.ba (List.all_eq_true.mp h2 (x, none) (List.mem_map.mpr ⟨x, hx, rfl⟩))
    refine ⟨h3, ?_⟩
    cases q : h.get? (He.cT (He.frT h.get? (He.asG h.get? n)) (x, none)).2 with
    | none => rw [q] at h4; cases h4
    | some o => rw [q] at h4; exact ⟨o, rfl, h4⟩
  exact ⟨fun x hx => (key x hx).1, fun x hx => by
    obtain ⟨_, o, q, z⟩ := key x hx
    exact He.frT_none q z, fun x hx => by
    obtain ⟨_, o, q, z⟩ := key x hx
    rw [q, He.emptyTab_eq z], of_decide_eq_true hn⟩
def hookQ (n : Nat) (fa : List Fq) (fn : List He.FnD) (tf : List Str) : PySem.W.Hook where
  α := He.Al × Bool
  obs := fun s => obsQG n fa fn tf s.heap.get?
  val := fun _ => (He.valE fn, true)
  says := fun _ h => ∃ K : PySem.W.Frag, K.In h ∧ SaysQ fa fn K ∧ TabQ tf h K
  of := fun _ _ e => ⟨_, He.frT_in, congrArg (fun z : He.Al × Bool => z.1) e, tabQ_of (congrArg (fun z : He.Al × Bool => z.2) e)⟩
  keeps := fun _ _ _ ⟨K, hK, c, t⟩ k => ⟨K, PySem.W.Frag.In.keeps hK k, c, ⟨t.hd, t.out, fun x hx => k _ _ (t.empty x hx), t.nd⟩⟩
theorem obsQG_eq {n : Nat} {fa : List Fq} {fn : List He.FnD} {tf : List Str} {g : Addr → Option Obj} {s : Shared} (h : ∀ a, g a = s.heap.get? a) : obsQG n fa fn tf g = (hookQ n fa fn tf).obs s := by
  have e : g = s.heap.get? := funext h
  rw [e] <;> rfl
/-- the top: its facts, its names -/
structure Top (fa : List Fq) (fn : List He.FnD) (K : PySem.W.Frag) (mg : Str → Option Value) : Prop where
  says : SaysQ fa fn K
  ns : ∃ h : Heap, K.In h ∧ h.Ns mainGlobals mg
def fdOf (K : PySem.W.Frag) (x : Str) : FuncData := match K.lookup (He.ga K x) with
  | some ⟨_, _, .func fd, _⟩ => fd
  | _ => PySem.W.fnOf x x (defArgs (.Pass ⟨0, 0, 0, 0⟩)) [] (defScope (.Pass ⟨0, 0, 0, 0⟩)) .none .none .none .none none .none .none
section
variable {fa : List Fq} {fn : List He.FnD} {K : PySem.W.Frag} {mg : Str → Option Value} (T : Top fa fn K mg)
include T
theorem Top.fact (i : Nat) {f : Fq} (h : fa[i]? = some f) : f.ok K = true := by
  have c1 := (He.ba (show ((fa.all fun f => f.ok K) && _) = true from congrArg (fun z : He.Al => z.1) T.says)).1
  exact List.all_eq_true.mp c1 f (List.mem_of_getElem? h)
theorem Top.free (i : Nat) {x : Str} (h : fa[i]? = some (.f (.free x)) := by rfl) : mg x = none := by
  obtain ⟨hp, X, G⟩ := T.ns
  exact He.free_ok X G (T.fact i h)
theorem Top.glo (i : Nat) {x : Str} (h : fa[i]? = some (.f (.glo x)) := by rfl) : mg x = some (.ref (He.ga K x)) := by
  obtain ⟨hp, X, G⟩ := T.ns
  exact He.glo_ok X G (T.fact i h)
theorem Top.int (i : Nat) {x : Str} {n : Int} (h : fa[i]? = some (.f (.int x n)) := by rfl) : ∃ t, mg x = some (.int n t) := by
  obtain ⟨hp, X, G⟩ := T.ns
  exact He.int_ok X G (T.fact i h)
theorem Top.str (i : Nat) {x n : Str} (h : fa[i]? = some (.f (.str x n)) := by rfl) : ∃ t, mg x = some (.str n t) := by
  obtain ⟨hp, X, G⟩ := T.ns
  exact He.str_ok X G (T.fact i h)
theorem Top.exc (i : Nat) {x : Str} (h : fa[i]? = some (.f (.exc x)) := by rfl) : PySem.W.excIn K (He.ga K x) He.veBase "ValueError.__new__" = true ∧ PySem.W.keepIn K (.ref (He.ga K x)) = true ∧ PySem.W.subIn K (.ref (He.ga K x)) (.type "BaseException") = some true ∧ PySem.W.typeIn K (.ref (He.ga K x)) = some (.type "type") := He.exc_ok (T.fact i h)
theorem Top.exm (i : Nat) {x y : Str} {b : Bool} (h : fa[i]? = some (.f (.exm x y b)) := by rfl) : PySem.W.exmOne K (.ref (He.ga K x)) (.ref (He.ga K y)) = some b := He.exm_ok (T.fact i h)
theorem Top.xc (i : Nat) {x : Str} (h : fa[i]? = some (.xc x) := by rfl) : ExcC K (He.ga K x) := by
  obtain ⟨c1, c⟩ := He.ba (T.fact i h)
  obtain ⟨c2, c⟩ := He.ba c
  obtain ⟨c3, c⟩ := He.ba c
  obtain ⟨c4, c⟩ := He.ba c
  obtain ⟨c5, c⟩ := He.ba c
  obtain ⟨c6, c⟩ := He.ba c
  obtain ⟨c7, c8⟩ := He.ba c
  exact ⟨He.eqO_ok c1, He.eqO_ok c2, of_decide_eq_true c3, c4, He.eqO_ok c5, He.eqO_ok c6, of_decide_eq_true c7, of_decide_eq_true c8⟩
theorem Top.kx (i : Nat) {x y : Str} {b : Bool} (h : fa[i]? = some (.kx x y b) := by rfl) : PySem.W.kitOne K (.ref (He.ga K x)) (.ref (He.ga K y)) = some b := of_decide_eq_true (T.fact i h)
theorem Top.kv (i : Nat) {x : Str} {U : String} {b : Bool} (h : fa[i]? = some (.kv x U b) := by rfl) : PySem.W.kitOne K (.ref (He.ga K x)) (.type U) = some b := of_decide_eq_true (T.fact i h)
theorem Top.def_ (i : Nat) {x : Str} {st : Stmt} (h : fn[i]? = some (mkD x st) := by rfl) : Fun K x x st (He.ga K x) (fdOf K x) := by
  have c2 := (He.ba (show ((fa.all fun f => f.ok K) && fn.all fun d => (He.Fa.code d.at_ d.qual).ok K && PySem.W.keepIn K (.ref (He.fAd K d.at_))) = true from congrArg (fun z : He.Al => z.1) T.says)).2
  have c3 := He.ba (List.all_eq_true.mp c2 (mkD x st) (List.mem_of_getElem? h))
  have e : fn.map (fun d => He.fnObs K d.at_) = fn.map He.FnD.val := congrArg (fun z : He.Al => z.2) T.says
  have e2 : (fn.map fun d => He.fnObs K d.at_)[i]? = (fn.map He.FnD.val)[i]? := by rw [e]
  rw [List.getElem?_map, List.getElem?_map, h] at e2
  obtain ⟨oc, od, osl, kV, doc, pm, an, cdv, ct, lk, cd⟩ := He.fn_ok (Option.some.inj e2) c3.1
  have lk2 : K.lookup (He.ga K x) = some ⟨oc, od, .func (PySem.W.fnOf x x (defArgs st) (defBody st) (defScope st) .none kV doc pm an cdv ct), osl⟩ := lk
  have efd : fdOf K x = PySem.W.fnOf x x (defArgs st) (defBody st) (defScope st) .none kV doc pm an cdv ct := by
    unfold fdOf
    rw [lk2]
  rw [efd]
  exact fun_mk lk2 cd c3.2
end
/-- the name that a lambda of the def x bears -/
def lamQ (x : Str) : Str := x ++ ".<locals>." ++ "<lambda>"
def tzL (tf : List Str) (K : PySem.W.Frag) : List (Addr × Str) := tf.map fun x => ((He.cT K (x, none)).2, lamQ x)
@[reducible] def tzOf (tf : List Str) (K : PySem.W.Frag) : Tabz := ⟨tzL tf K⟩
variable [Tabz]
/-- the top, with the tables of its lambdas -/
structure Tp (fa : List Fq) (fn : List He.FnD) (tf : List Str) (K : PySem.W.Frag) (mg : Str → Option Value) (base : Heap) : Prop extends Top fa fn K mg where
  tz : Tabz.T = tzL tf K
  tbs : ∀ x ∈ tf, LamX.TabB base mg (He.cT K (x, none)).1 (He.cT K (x, none)).2
  tnd : (tf.map fun x => (He.cT K (x, none)).2).Nodup
/-! ### a def as callers know it -/
def Cal (P : Program) (w : World) (K : PySem.W.Frag) (mg : Str → Option Value) (base : Heap) (x : Str) (k : Nat) (ps : List Str) (sp : Sp) : Prop :=
  ∃ (f : Addr) (fd : FuncData), FnOk P w K mg base (L2.CX P w) k f fd ps sp ∧ mg x = some (.ref f) ∧ PySem.W.keepIn K (.ref f) = true ∧ Binds K fd ps []
def stN (n : Nat) (ds : List PyData) : Rho := ds.map Sl.fz ++ List.replicate (n - ds.length) Sl.un
def stNI (n : Nat) (io ds : List PyData) : Rho := Sl.ow io :: (ds.map Sl.fz ++ List.replicate (n - (ds.length + 1)) Sl.un)
def runP (n : Nat) (g : Rho → Fl) (m : Nat) (ds : List PyData) : Out Rt := if ds.length = m then toOut (g (stN n ds)) else .bad
def runI (n : Nat) (g : Rho → Fl) (m : Nat) (io ds : List PyData) : Out (Rt × List PyData) := if ds.length + 1 = m then toOutI (g (stNI n io ds)) else .bad
section
variable {P : Program} {w : World} {K : PySem.W.Frag} {mg : Str → Option Value} {base : Heap} {fa : List Fq} {fn : List He.FnD}
theorem cal_pure {x : Str} {sd : Stmt} {N ps : List Str} {k : Nat} {g : Rho → Fl} (T : Top fa fn K mg) (i j : Nat) (hi : fa[i]? = some (.f (.glo x))) (hj : fn[j]? = some (mkD x sd)) (S : FnScope N ps (defScope sd))
    (hbind : ∀ (kV doc pm : Value) (an : Option Addr) (cdv ct : Value) (us : List Value), us.length = ps.length → bindArgs (PySem.W.fnOf x x (defArgs sd) (defBody sd) (defScope sd) .none kV doc pm an cdv ct) ⟨us, []⟩ = pure (ps.zip us))
    (hb : ∀ (cdv : Value) (A : Around) (outer : List Env) (s : Shared) (H : Hp) (E : XK), Room k (A.deeper (PyProof.Rows.envOfC x (defScope sd) s.heap.objs.size (He.ga K x) cdv)) → PSs (cxOf (L2.CX P w) P w K mg base N x (defScope sd) (He.ga K x) cdv A outer s H E) (defBody sd) (tS ⟨fun cls d _ H => E cls d H, He.ga K⟩ [] g)) :
    Cal P w K mg base x (k + 1) ps (spP (He.ga K) ps.length (runP N.length g ps.length)) := by
  have F := T.def_ j hj
  refine ⟨_, _, ?_, T.glo i hi, F.kp, F.binds hbind⟩
  refine { fn_pure (k := k) F S hb with run := ?_, len := ?_ }
  · intro vs H Q E h
    exact h.1
  · intro A outer s H args us vs Q E hr I b r h
    refine (fn_pure (k := k) F S hb).run A outer s H args us vs Q E hr I b r (spP_imp (fun ds hd _ => ?_) vs H Q E h)
    unfold runP
    rw [if_pos hd]
    rfl
theorem cal_pureT {x : Str} {sd : Stmt} {N ps : List Str} {k : Nat} {g : Rho → Fl} (T : Top fa fn K mg) (i j : Nat) (hi : fa[i]? = some (.f (.glo x))) (hj : fn[j]? = some (mkD x sd)) (S : FnScope N ps (defScope sd))
    (hbind : ∀ (kV doc pm : Value) (an : Option Addr) (cdv ct : Value) (us : List Value), us.length = ps.length → bindArgs (PySem.W.fnOf x x (defArgs sd) (defBody sd) (defScope sd) .none kV doc pm an cdv ct) ⟨us, []⟩ = pure (ps.zip us))
    (hb : ∀ (cdv : Value), CdIs K (He.ga K x) cdv → ∀ (A : Around) (outer : List Env) (s : Shared) (H : Hp) (E : XK), Room k (A.deeper (PyProof.Rows.envOfC x (defScope sd) s.heap.objs.size (He.ga K x) cdv)) → PSs (cxOf (L2.CX P w) P w K mg base N x (defScope sd) (He.ga K x) cdv A outer s H E) (defBody sd) (tS ⟨fun cls d _ H => E cls d H, He.ga K⟩ [] g)) :
    Cal P w K mg base x (k + 1) ps (spP (He.ga K) ps.length (runP N.length g ps.length)) := by
  have F := T.def_ j hj
  refine ⟨_, _, ?_, T.glo i hi, F.kp, F.binds hbind⟩
  refine { fn_pureC (k := k) F S hb with run := ?_, len := ?_ }
  · intro vs H Q E h
    exact h.1
  · intro A outer s H args us vs Q E hr I b r h
    refine (fn_pureC (k := k) F S hb).run A outer s H args us vs Q E hr I b r (spP_imp (fun ds hd _ => ?_) vs H Q E h)
    unfold runP
    rw [if_pos hd]
    rfl
theorem cal_io {x : Str} {sd : Stmt} {N ps : List Str} {k : Nat} {g : Rho → Fl} (T : Top fa fn K mg) (i j : Nat) (hi : fa[i]? = some (.f (.glo x))) (hj : fn[j]? = some (mkD x sd)) (S : FnScope N ps (defScope sd))
    (hbind : ∀ (kV doc pm : Value) (an : Option Addr) (cdv ct : Value) (us : List Value), us.length = ps.length → bindArgs (PySem.W.fnOf x x (defArgs sd) (defBody sd) (defScope sd) .none kV doc pm an cdv ct) ⟨us, []⟩ = pure (ps.zip us))
    (hb : ∀ (cdv : Value) (A : Around) (outer : List Env) (s : Shared) (H : Hp) (E : XK), Room k (A.deeper (PyProof.Rows.envOfC x (defScope sd) s.heap.objs.size (He.ga K x) cdv)) → PSs (cxOf (L2.CX P w) P w K mg base N x (defScope sd) (He.ga K x) cdv A outer s H E) (defBody sd) (tS ⟨fun cls d _ H => E cls d H, He.ga K⟩ [0] g)) :
    Cal P w K mg base x (k + 1) ps (spI (He.ga K) ps.length (runI N.length g ps.length)) := by
  have F := T.def_ j hj
  refine ⟨_, _, ?_, T.glo i hi, F.kp, F.binds hbind⟩
  refine { fn_io (k := k) F S hb with run := ?_, len := ?_ }
  · intro vs H Q E h
    exact h.1
  · intro A outer s H args us vs Q E hr I b r h
    refine (fn_io (k := k) F S hb).run A outer s H args us vs Q E hr I b r (spI_imp (fun io ds hd _ => ?_) vs H Q E h)
    unfold runI
    rw [if_pos hd]
    rfl
end
section
variable {X : Cx} {G : Gx} {e a b : Expr} {es : List Expr} {fs : M (List PyData)} {pos : Pos} {k n : Nat} {ps : List Str} {x : Str} {p : Pos}
theorem runP_len {n m : Nat} {g : Rho → Fl} : ∀ ds r, runP n g m ds = r → r ≠ .bad → ds.length = m := fun ds r e h => by
  unfold runP at e
  split at e
  · assumption
  · exact absurd e.symm h
theorem runI_len {n m : Nat} {g : Rho → Fl} : ∀ io ds r, runI n g m io ds = r → r ≠ .bad → ds.length + 1 = m := fun io ds r e h => by
  unfold runI at e
  split at e
  · assumption
  · exact absurd e.symm h
theorem fe_cal {g : Rho → Fl} {m : Nat} (C : Cal X.prog X.w X.K X.mg X.base x k ps (spP G.cA m (runP n g m))) (hr : Room k X.A) (hg : Gl X x) (tk : Takes X G.W) (ha : PA X (e :: es) (tA G fs)) (hdb : (x == ("__debug__" : Str)) = false := by decide)
    (he : starEach (e :: es) X.env = (false, eval e X.env) :: starEach es X.env := by rfl) (hpl : (backTo pos (starEach es X.env)).any (·.1) = false := by rfl) : PE X (.Call (.Name x p) (e :: es) [] pos) (tE G (fCall (runP n g m) fs)) := by
  obtain ⟨f, fd, F, hm, hk, hb⟩ := C
  exact fe_call runP_len F hr hg hm hk hb tk ha hdb he hpl
theorem fl_cal {g : Rho → Fl} {m : Nat} (C : Cal X.prog X.w X.K X.mg X.base x k ps (spP G.cA m (runP n g m))) (hr : Room k X.A) (hg : Gl X x) (tk : Takes X G.W) (ha : PA X (e :: es) (tA G fs)) (hdb : (x == ("__debug__" : Str)) = false := by decide)
    (he : starEach (e :: es) X.env = (false, eval e X.env) :: starEach es X.env := by rfl) (hpl : (backTo pos (starEach es X.env)).any (·.1) = false := by rfl) : PE X (.Call (.Name x p) (e :: es) [] pos) (tL G (fCallL (runP n g m) fs)) := by
  obtain ⟨f, fd, F, hm, hk, hb⟩ := C
  exact fl_call runP_len F hr hg hm hk hb tk ha hdb he hpl
theorem fe_calI (i : Nat) {y : Str} {p1 : Pos} {g : Rho → Fl} {m : Nat} (C : Cal X.prog X.w X.K X.mg X.base x k ps (spI G.cA m (runI n g m))) (hr : Room k X.A) (hg : Gl X x) (tk : Takes X G.W) (ha : PA X es (tA G fs)) (hN : X.N[i]? = some y := by rfl) (hv : Vis X.env.scope y := by first | exact Or.inl rfl | exact Or.inr (Or.inl rfl) | exact Or.inr (Or.inr rfl)) (hd : (y == ("__debug__" : Str)) = false := by decide)
    (hcd : (y == ("__classdict__" : Str)) = false := by decide) (hdb : (x == ("__debug__" : Str)) = false := by decide) (he : starEach (.Name y p1 :: es) X.env = (false, eval (.Name y p1) X.env) :: starEach es X.env := by rfl) (hpl : (backTo pos (starEach es X.env)).any (·.1) = false := by rfl) : PE X (.Call (.Name x p) (.Name y p1 :: es) [] pos) (tE G (fCallI i (runI n g m) fs)) := by
  obtain ⟨f, fd, F, hm, hk, hb⟩ := C
  exact fe_callI i runI_len F hr hg hm hk hb tk ha hN hv hd hcd hdb he hpl
end
/-! ### the script, and the law -/
def spBegin (K : PySem.W.Frag) : Sp := fun vs H Q _ => ∃ (a : Addr) (ns : List Int), vs = [.ref a] ∧ SqL K H a (ns.map V.int) ∧ ns.length ≤ 63 ∧
  ∀ (p q : Addr) (H' : Hp), Same H H' → p ≠ q → H p = none → H q = none → H' q = some (.lst (ns.map V.int)) → H' p = some (.lst [.ref q, .int 0, .int 0, .int 1, .int 0]) → Q (.ref p) H'
def cells (ns : List Int) : List PyData := [.list (ns.map PyData.int), .int 0, .int 0, .int 1, .int 0]
def stLaw (n : Nat) (ns : List Int) : Rho := Sl.un :: Sl.ow (cells ns) :: List.replicate (n - 2) Sl.un
def spLaw (K : PySem.W.Frag) (n : Nat) (g : Rho → Fl) : Sp := fun vs H Q _ => ∃ (a : Addr) (ns : List Int), vs = [.ref a] ∧ SqL K H a (ns.map V.int) ∧ ns.length ≤ 63 ∧ Tb H ∧ (∃ ρ', g (stLaw n ns) = .ret (.fz (.bool true)) ρ') ∧ ∀ H', Q (.bl true) H'
theorem repA_ints {H : Hp} : ∀ ns : List Int, RepA H (ns.map V.int) (ns.map PyData.int)
  | [] => .nil
  | n :: ns => .cons (.int n) (repA_ints ns)
theorem law_start {H' : Hp} {a p q : Addr} {ns : List Int} {n : Nat} (tb : Tb H') (hn : 2 ≤ n) (hpq : p ≠ q) (hq : H' q = some (.lst (ns.map V.int))) (hp : H' p = some (.lst [.ref q, .int 0, .int 0, .int 1, .int 0])) :
    ∃ Hf, Rp Hf H' (some (.ref a) :: some (.ref p) :: List.replicate (n - 2) none) (stLaw n ns) := by
  refine ⟨upd (fun _ => none) q (.lst (ns.map V.int)), fun b o e => ?_, tb, NtH.upd (fun a ps z => by cases z) NT.lst, ?_, fun i s h => ?_, fun i j x ds es h1 h2 _ _ => ?_⟩
  · by_cases z : b = q
    · subst z; rw [upd_same] at e; cases e; exact hq
    · rw [upd_ne z] at e; cases e
  · unfold stLaw; simp
  · unfold stLaw at h
    match i, h with
    | 0, h => cases h; exact slok_un
    | 1, h =>
      cases h
      refine ⟨by rw [upd_ne hpq], _, hp, ?_⟩
      exact .cons (.lst upd_same (repA_ints ns)) (.cons (.int _) (.cons (.int _) (.cons (.int _) (.cons (.int _) .nil))))
    | i + 2, h =>
      have h2 : (List.replicate (n - 2) Sl.un)[i]? = some s := h
      rw [List.getElem?_replicate] at h2
      split at h2
      · cases h2; exact slok_un
      · cases h2
  · have own : ∀ (i : Nat) (ds : List PyData), (stLaw n ns)[i]? = some (.ow ds) → i = 1 := fun i ds h => by
      unfold stLaw at h
      match i, h with
      | 0, h => cases h
      | 1, h => rfl
      | i + 2, h =>
        have h2 : (List.replicate (n - 2) Sl.un)[i]? = some (Sl.ow ds) := h
        rw [List.getElem?_replicate] at h2
        split at h2 <;> cases h2
    rw [own i ds h1, own j es h2]
section
variable {P : Program} {w : World} {K : PySem.W.Frag} {mg : Str → Option Value} {base : Heap} {fa : List Fq} {fn : List He.FnD}
theorem ok_law {x y : Str} {sd st : Stmt} {rest : List Stmt} {N : List Str} {k : Nat} {g : Rho → Fl} (F : Fun K x x sd (He.ga K x) (fdOf K x)) (S : FnScope N [y] (defScope sd)) (hN : 2 ≤ N.length) (hbody : defBody sd = st :: rest)
    (h1 : ∀ (cdv : Value) (A : Around) (outer : List Env) (s : Shared) (H : Hp) (E : XK), Room k (A.deeper (PyProof.Rows.envOfC x (defScope sd) s.heap.objs.size (He.ga K x) cdv)) → PS (cxOf CX0 P w K mg base N x (defScope sd) (He.ga K x) cdv A outer s H E).nox st (tAsg (tCallS (spBegin K) (fun _ => E0) (tCons (tVar 0) tNil)) (gName 1)))
    (hb : ∀ (cdv : Value) (A : Around) (outer : List Env) (s : Shared) (H : Hp) (E : XK), Room k (A.deeper (PyProof.Rows.envOfC x (defScope sd) s.heap.objs.size (He.ga K x) cdv)) → PSs (cxOf CX0 P w K mg base N x (defScope sd) (He.ga K x) cdv A outer s H E).nox rest (tS ⟨fun _ _ _ _ => False, He.ga K⟩ [] g)) :
    FnOk P w K mg base CX0 (k + 1) (He.ga K x) (fdOf K x) [y] (spLaw K N.length g) := by
  refine F.ok S (fun vs H Q E h => ?_) (fun cdv A outer s H vs Q E hr h => ?_)
  · obtain ⟨a, ns, rfl, _⟩ := h
    rfl
  · obtain ⟨a, ns, rfl, hS, hlen, tb, ⟨ρ', hg⟩, hQ⟩ := h
    rw [hbody]
    refine ⟨_, pss_cons (h1 cdv A outer s H E hr) (hb cdv A outer s H E hr), ?_⟩
    refine ⟨_, rfl, a, ns, rfl, hS, hlen, fun p q H' sm hpq h1 h2 h3 h4 => ?_⟩
    have est : (L2.start N [.ref a]).set 1 (some (V.ref p)) = some (.ref a) :: some (.ref p) :: List.replicate (N.length - 2) none := by
      unfold L2.start
      obtain ⟨m, hm⟩ : ∃ m, N.length = m + 2 := ⟨N.length - 2, by omega⟩
      simp [hm, List.replicate_succ]
    obtain ⟨Hf, rp⟩ := law_start (a := a) (LamX.Tabs.ext tb sm) hN hpq h3 h4
    show tS _ _ _ _ ((L2.start N [.ref a]).set 1 (some (V.ref p))) H'
    rw [est]
    refine ⟨Hf, _, rp, ?_⟩
    rw [hg]
    intro v σ' Hf' H2 n _ hr
    have hr : Rep Hf' v (.bool true) := hr
    cases hr
    exact hQ H2
omit [Tabz] in
/-- the promise of the law, at the head's heap -/
theorem law_at {l : PySem.W.OpenLaw} {w : World} {fa : List Fq} {fn : List He.FnD} {tf : List Str} {K : PySem.W.Frag} {mg : Str → Option Value} {h : Heap} {k N : Nat} {x : Str} {g : Rho → Fl} {sd : Stmt} (c : SaysQ fa fn K) (t : TabQ tf h K) (KX : K.In h) (G : h.Ns mainGlobals mg) (F : Fun K "law" "law" sd (He.ga K "law") (fdOf K "law"))
    (hbind : ∀ (kV doc pm : Value) (an : Option Addr) (cdv ct : Value) (s : Shared) (u : Value), BindsTo s (PySem.W.fnOf "law" "law" (defArgs sd) (defBody sd) (defScope sd) .none kV doc pm an cdv ct) ⟨[u], []⟩ [(x, u)])
    (hF : ∀ base : Heap, @Tp (tzOf tf K) fa fn tf K mg base → FnOk l.prog w K mg base CX0 k (He.ga K "law") (fdOf K "law") [x] (@spLaw (tzOf tf K) K N g))
    (hm : ∀ ns : List Int, ns.length ≤ 63 → ∃ ρ', g (stLaw N ns) = .ret (.fz (.bool true)) ρ') : LamX.LawAtS l w K CX0 k 63 x mg (He.ga K "law") h := by
  refine ⟨fdOf K "law", tf.map fun x => He.cT K (x, none), @spLaw (tzOf tf K) K N g, fun p hp => ?_, fun p hp => ?_, fun p hp => ?_, fun s v => ?_, fun H a ns hl _ hT hS => ⟨a, ns, rfl, hS, hl, ?_, hm ns hl, fun _ => rfl⟩, fun base KB GB hB => hF base (@Tp.mk (tzOf tf K) _ _ _ _ _ _ ⟨c, h, KX, G⟩ rfl (fun x hx => hB _ (List.mem_map.mpr ⟨x, hx, rfl⟩)) t.nd)⟩
  · obtain ⟨x, hx, rfl⟩ := List.mem_map.mp hp
    exact t.empty x hx
  · obtain ⟨x, hx, rfl⟩ := List.mem_map.mp hp
    exact t.out x hx
  · obtain ⟨x, hx, rfl⟩ := List.mem_map.mp hp
    exact PySem.W.codeHd_of_K KX (t.hd x hx)
  · obtain ⟨oc, od, kV, doc, pm, an, cdv, ct, osl, efd, lk, cd⟩ := F.ex
    rw [efd]
    exact hbind kV doc pm an cdv ct s v
  · intro p hp
    obtain ⟨x, hx, rfl⟩ := List.mem_map.mp hp
    exact LamX.TabS.nil (hT _ (List.mem_map.mpr ⟨x, hx, rfl⟩))
end
end Fx

namespace Fx
open PySem L2
variable [Tabz]
section
variable {X : Cx} {G : Gx} {e a b c : Expr} {es : List Expr} {f g : M PyData} {pos : Pos} {A B : Opd} {As : List Opd} {pn : List Nat}
/-! ### short names for derivations -/
theorem vO (i : Nat) {x : Str} (hN : X.N[i]? = some x := by rfl) (hv : Vis X.env.scope x := by first | exact Or.inl rfl | exact Or.inr (Or.inl rfl) | exact Or.inr (Or.inr rfl)) (hd : (x == ("__debug__" : Str)) = false := by decide)
    (hcd : (x == ("__classdict__" : Str)) = false := by decide) : PE X (.Name x pos) ((Opd.v i).t G) := pe_var hN hv hd hcd
theorem eO (h : PE X a (tE G f)) : PE X a ((Opd.e f).t G) := h
theorem oa_nil : PA X [] (tAll G []) := pa_nil
theorem oa_cons (h : PE X e (A.t G)) (hr : PA X es (tAll G As)) (hs : starEach (e :: es) X.env = (false, eval e X.env) :: starEach es X.env := by rfl) : PA X (e :: es) (tAll G (A :: As)) := pa_cons h hr hs
theorem ft_pw {p : M Bool} (h : PW X e (tT G p)) : PT X e (tT G p) := h.pt
theorem u64 {k : Nat} {Z : Around} (hr : Room k Z) : Z.units + 64 < cLine := by have := hr.un; omega
theorem u65 {k : Nat} {Z : Around} (hr : Room k Z) : Z.units + 65 < cLine := by have := hr.un; omega
theorem u64s {k : Nat} {Z U : Around} (hr : Room k Z) (h : U.units = Z.units := by rfl) : U.units + 64 < cLine := by rw [h]; exact u64 hr
theorem u65s {k : Nat} {Z U : Around} (hr : Room k Z) (h : U.units = Z.units := by rfl) : U.units + 65 < cLine := by rw [h]; exact u65 hr
/-! ### a < b < c -/
@[simp] def fCh (o o' : PyData → PyData → Option PyData) (A B C : Opd) : M PyData := fun ρ => (bnd A.go fun x => bnd B.go fun y => bnd (fin2 A B x y o) fun z => bnd (opt (asB z)) fun k => if k = true then bnd C.go fun w => fin2 B C y w o' else ret (.bool false)) ρ
theorem rd_ch {r r' : R2} {o o' : PyData → PyData → Option PyData} {C : Opd} (hr : RdO r o) (hr' : RdO r' o') (σ : St) (H : Hp) (Q : VK) (h : tE G (fCh o o' A B C) σ H Q) : tChain r r' (A.t G) (B.t G) (C.t G) σ H Q := by
  obtain ⟨Hf, ρ, rp, af⟩ := h
  refine Opd.run (stepO rp af) fun x H1 ⟨x0, Hf1, ρ1, n1, ra, af1⟩ => Opd.run (stepO n1.rp af1) fun y H2 ⟨y0, Hf2, ρ2, n2, rb, af2⟩ => ?_
  unfold bnd fin2 at af2
  cases e1 : A.at x0 ρ2 with
  | none => simp only [e1] at af2; exact False.elim af2
  | some xa =>
    cases e2 : B.at y0 ρ2 with
    | none => simp only [e1, e2] at af2; exact False.elim af2
    | some yb =>
      cases e3 : o xa yb with
      | none => simp only [e1, e2, e3, opt] at af2; exact False.elim af2
      | some z =>
        simp only [e1, e2, e3, opt] at af2
        obtain ⟨v, dv, hq⟩ := hr Hf2 H2 x y xa yb z n2.rp.sub (Opd.end n2.rp (Opd.keep n2 ra) e1) (Opd.end n2.rp rb e2) e3
        refine hq _ ?_
        cases e4 : asB z with
        | none => rw [e4] at af2; exact False.elim af2
        | some k =>
          rw [e4] at af2
          have ez := asB_eq e4
          subst ez
          refine ⟨k, rep_bool dv, ?_⟩
          cases k with
          | false => exact fin (R := Rep) n2.rp af2 (.bl _)
          | true =>
            refine Opd.run (stepO n2.rp af2) fun w H3 ⟨w0, Hf3, ρ3, n3, rc, af3⟩ => ?_
            obtain ⟨yb', wc, eb, ec, af4⟩ := fin2_some af3
            obtain ⟨d, e, kk⟩ := finO n3.rp af4
            obtain ⟨v2, dv2, hq2⟩ := hr' Hf3 H3 y w yb' wc d n3.rp.sub (Opd.end n3.rp (Opd.keep n3 rb) eb) (Opd.end n3.rp rc ec) e
            exact hq2 Q (kk v2 dv2)
theorem fe_chain {op op' : CmpOp} {r r' : R2} {o o' : PyData → PyData → Option PyData} {C : Opd} (ho : OpR X (compareOp op) r) (ho' : OpR X (compareOp op') r') (hr : RdO r o) (hr' : RdO r' o') (ha : PE X a (A.t G)) (hb : PE X b (B.t G)) (hc : PE X c (C.t G))
    (hm : lastMarks [op, op'] [b, c] = false := by with_unfolding_all rfl) : PE X (.Compare a [op, op'] [b, c] pos) (tE G (fCh o o' A B C)) := (pe_chain ho ho' ha hb hc hm).imp (rd_ch hr hr')
theorem ft_chain {op op' : CmpOp} {r r' : R2} {o o' : PyData → PyData → Option PyData} {C : Opd} (ho : OpR X (compareOp op) r) (ho' : OpR X (compareOp op') r') (hr : RdO r o) (hr' : RdO r' o') (ha : PE X a (A.t G)) (hb : PE X b (B.t G)) (hc : PE X c (C.t G))
    (hm : lastMarks [op, op'] [b, c] = false := by with_unfolding_all rfl) : PT X (.Compare a [op, op'] [b, c] pos) (tT G (fB (fCh o o' A B C))) := (pt_chain ho ho' ha hb hc hm).imp fun σ H Q h => rd_ch hr hr' σ H _ (rd_B σ H Q h)
end
section
variable {P : Program} {w : World} {K : PySem.W.Frag} {mg : Str → Option Value} {base : Heap} {fa : List Fq} {fn : List He.FnD}
/-! ### the draw begun -/
theorem cut63 {ns : List Int} (h : ns.length ≤ 63) : cutV (ns.map V.int) none (some 63) = ns.map V.int := by
  unfold cutV
  have e : HT.sIx (ns.map V.int).length 0 none = 0 := rfl
  have e2 : HT.sIx (ns.map V.int).length (ns.map V.int).length (some 63) = (ns.map V.int).length := by
    rw [List.length_map]
    unfold HT.sIx
    simp only
    split <;> omega
  rw [e, e2, List.drop_zero, Nat.sub_zero, List.take_length]
theorem ok_begin {x y : Str} {sd : Stmt} {k : Nat} {p1 p2 p3 p4 p5 p6 p7 p8 p9 p10 p11 p12 : Pos} {j1 j2 j3 j4 j5 : Nat} (F : Fun K x x sd (He.ga K x) (fdOf K x)) (S : FnScope [y] [y] (defScope sd)) (hl : mg "list" = none) (hv : Vis (defScope sd) y) (hg : ∀ (cdv : Value) (A : Around) (outer : List Env) (s : Shared) (H : Hp) (E : XK), Gl (cxOf (L2.CX P w) P w K mg base [y] x (defScope sd) (He.ga K x) cdv A outer s H E) "list")
    (hbody : defBody sd = [.Return (some (.List [.Call (.Name "list" p1) [.Subscript (.Name y p2) (.Slice none (some (.Constant (.int 63) j1 p3)) none p4) p5] [] p6, .Constant (.int 0) j2 p7, .Constant (.int 0) j3 p8, .Constant (.int 1) j4 p9, .Constant (.int 0) j5 p10] p11)) p12]) (hd : (y == ("__debug__" : Str)) = false := by decide)
    (hcd : (y == ("__classdict__" : Str)) = false := by decide) :
    FnOk P w K mg base (L2.CX P w) (k + 1) (He.ga K x) (fdOf K x) [y] (spBegin K) := by
  refine F.okX S (fun vs H Q E h => ?_) (fun cdv A outer s H vs Q E hr h => ?_)
  · obtain ⟨a, ns, rfl, _⟩ := h
    rfl
  · obtain ⟨a, ns, rfl, hS, hlen, hQ⟩ := h
    rw [hbody]
    refine ⟨_, pss_one (ps_ret (pe_lst (pa_cons (pe_callTy call_list_of (hg _ _ _ _ _ _) hl (by decide +kernel) (pa_cons (pe_slice sl_list (pe_var (i := 0) rfl hv hd hcd) po_none (po_some pe_int)) pa_nil)) (pa_cons pe_int (pa_cons pe_int (pa_cons pe_int (pa_cons pe_int pa_nil))))))), ?_⟩
    refine ⟨_, rfl, 63, rfl, a, _, rfl, hS, fun t ht => ?_⟩
    rw [cut63 hlen]
    refine ⟨t, _, rfl, .inl (SqL.of upd_same), fun q hq => ⟨by show 5 ≤ sizeLine; decide, fun p hp => ?_⟩⟩
    have hqt : q ≠ t := fun z => by
      rw [z, upd_same] at hq
      cases hq
    have hq0 : H q = none := by
      rw [upd_ne hqt] at hq
      exact hq
    have hpq : p ≠ q := fun z => by
      rw [z, upd_same] at hp
      cases hp
    have hpt : p ≠ t := fun z => by
      rw [z, upd_ne hqt.symm, upd_same] at hp
      cases hp
    have hp0 : H p = none := by
      rw [upd_ne hpq, upd_ne hpt] at hp
      exact hp
    refine hQ p q _ (fun b o e => ?_) hpq hp0 hq0 ?_ upd_same
    · rw [upd_ne (ne_of_none e hp0), upd_ne (ne_of_none e hq0), upd_ne (ne_of_none e ht)]
      exact e
    · rw [upd_ne hpq.symm, upd_same]
end
/-! ### recursion; suites by the error's name -/
section
variable {P : Program} {w : World} {K : PySem.W.Frag} {mg : Str → Option Value} {base : Heap} {fa : List Fq} {fn : List He.FnD}
theorem cal_bad {x : Str} {sd : Stmt} {ps : List Str} (T : Top fa fn K mg) (i j : Nat) (hi : fa[i]? = some (.f (.glo x))) (hj : fn[j]? = some (mkD x sd))
    (hbind : ∀ (kV doc pm : Value) (an : Option Addr) (cdv ct : Value) (us : List Value), us.length = ps.length → bindArgs (PySem.W.fnOf x x (defArgs sd) (defBody sd) (defScope sd) .none kV doc pm an cdv ct) ⟨us, []⟩ = pure (ps.zip us)) (k : Nat) :
    Cal P w K mg base x k ps (spP (He.ga K) ps.length fun _ => .bad) := by
  have F := T.def_ j hj
  refine ⟨_, _, ⟨fun vs H Q E h => h.1, fun A outer s H args us vs Q E hr I b r h => ?_⟩, T.glo i hi, F.kp, F.binds hbind⟩
  obtain ⟨_, _, _, _, _, h⟩ := h
  exact h.elim
end
section
variable {X : Cx} {G : Gx} {e a b : Expr} {es : List Expr} {fs : M (List PyData)} {pos : Pos} {k : Nat} {ps : List Str} {x : Str} {p : Pos} {pn : List Nat} {sts : List Stmt} {s : Rho → Fl}
theorem fe_calF {F : List PyData → Out Rt} {m : Nat} (hn : ∀ ds r, F ds = r → r ≠ .bad → ds.length = m) (C : Cal X.prog X.w X.K X.mg X.base x k ps (spP G.cA m F)) (hr : Room k X.A) (hg : Gl X x) (tk : Takes X G.W) (ha : PA X (e :: es) (tA G fs)) (hdb : (x == ("__debug__" : Str)) = false := by decide)
    (he : starEach (e :: es) X.env = (false, eval e X.env) :: starEach es X.env := by rfl) (hpl : (backTo pos (starEach es X.env)).any (·.1) = false := by rfl) : PE X (.Call (.Name x p) (e :: es) [] pos) (tE G (fCall F fs)) := by
  obtain ⟨f, fd, F, hm, hk, hb⟩ := C
  exact fe_call hn F hr hg hm hk hb tk ha hdb he hpl
theorem suite_of {c : Prop} [Decidable c] (h : c → PSs X sts (tS G pn s)) : PSs X sts (tS G pn (fun ρ => if c then s ρ else .bad)) := by
  by_cases q : c
  · have e : (fun ρ => if c then s ρ else .bad) = s := funext fun ρ => if_pos q
    rw [e]
    exact h q
  · refine ⟨fun pins s' σ H D I ⟨Hf, ρ, rp, af⟩ => ?_⟩
    have af2 : AfS G pn σ ρ Hf H D .bad := by
      have e : (if c then s ρ else Fl.bad) = .bad := if_neg q
      rw [← e]
      exact af
    exact af2.elim
end
end Fx

namespace Fx
open PySem L2
variable [Tabz]
/-! ### what loops and comprehensions give, in data -/
@[simp] theorem stN_eq (n : Nat) (ds : List PyData) : stN n ds = ds.map Sl.fz ++ List.replicate (n - ds.length) Sl.un := rfl
@[simp] theorem stNI_eq (n : Nat) (io ds : List PyData) : stNI n io ds = Sl.ow io :: (ds.map Sl.fz ++ List.replicate (n - (ds.length + 1)) Sl.un) := rfl
theorem small_of {n : Nat} (h : n ≤ 100000) : small n = true := decide_eq_true h
theorem seq_nx {s t : Rho → Fl} {ρ ρ1 : Rho} (h : s ρ = .nx ρ1) : sSeq s t ρ = t ρ1 := by
  unfold sSeq
  rw [h]
theorem ex_seq {s t : Rho → Fl} {ρ : Rho} {Q : Fl → Prop} (h : ∃ ρ1, s ρ = .nx ρ1 ∧ Q (t ρ1)) : Q (sSeq s t ρ) := by
  obtain ⟨ρ1, e, q⟩ := h
  rw [seq_nx e]
  exact q
theorem ex_mid {s t : Rho → Fl} {ρ : Rho} {Q : Fl → Prop} (P : Rho → Prop) (h1 : ∃ ρ1, s ρ = .nx ρ1 ∧ P ρ1) (h2 : ∀ ρ1, P ρ1 → Q (t ρ1)) : Q (sSeq s t ρ) := by
  obtain ⟨ρ1, e, q⟩ := h1
  rw [seq_nx e]
  exact h2 ρ1 q
/-- goes on, and P holds -/
def Nx (P : Rho → Prop) (f : Fl) : Prop := ∃ ρ, f = .nx ρ ∧ P ρ
theorem sFor_eq {fi : M (List PyData)} {g : PyData → Rho → Option Rho} {s : Rho → Fl} {ρ ρ1 : Rho} {ds : List PyData} (h : fi ρ = .ok (ds, ρ1)) : sFor fi g s ρ = forE g s ds ρ1 := by
  unfold sFor sBnd
  rw [h]
/-- every turn goes on -/
theorem forE_inv {g : PyData → Rho → Option Rho} {s : Rho → Fl} (I : Nat → Rho → Prop) : ∀ (ds : List PyData) (k : Nat) (ρ : Rho), I k ρ →
    (∀ j d ρ, ds[j]? = some d → I (k + j) ρ → ∃ ρ1 ρ2, g d ρ = some ρ1 ∧ (s ρ1 = .nx ρ2 ∨ s ρ1 = .ct ρ2) ∧ I (k + j + 1) ρ2) → ∃ ρ', forE g s ds ρ = .nx ρ' ∧ I (k + ds.length) ρ'
  | [], k, ρ, h, _ => ⟨ρ, rfl, h⟩
  | d :: ds, k, ρ, h, hs => by
    obtain ⟨ρ1, ρ2, e1, e2, h2⟩ := hs 0 d ρ rfl h
    obtain ⟨ρ', e3, h3⟩ := forE_inv I ds (k + 1) ρ2 h2 fun j x r hj hi => by
      have q := hs (j + 1) x r hj (by rw [show k + (j + 1) = k + 1 + j from by omega]; exact hi)
      rw [show k + (j + 1) + 1 = k + 1 + j + 1 from by omega] at q
      exact q
    refine ⟨ρ', ?_, by rw [show k + (d :: ds).length = k + 1 + ds.length from by simp; omega]; exact h3⟩
    unfold forE
    rw [e1]
    rcases e2 with e2 | e2 <;> simp only [e2] <;> exact e3
/-- every turn goes on, or the loop is left by what Q tells -/
theorem forE_exit {g : PyData → Rho → Option Rho} {s : Rho → Fl} (I : Nat → Rho → Prop) (Q : Fl → Prop) : ∀ (ds : List PyData) (k : Nat) (ρ : Rho), I k ρ →
    (∀ j d ρ, ds[j]? = some d → I (k + j) ρ → ∃ ρ1, g d ρ = some ρ1 ∧ ((∃ ρ2, (s ρ1 = .nx ρ2 ∨ s ρ1 = .ct ρ2) ∧ I (k + j + 1) ρ2) ∨ (Q (s ρ1) ∧ ∀ ρ, s ρ1 ≠ .nx ρ ∧ s ρ1 ≠ .ct ρ ∧ s ρ1 ≠ .brk ρ))) →
    (∃ ρ', forE g s ds ρ = .nx ρ' ∧ I (k + ds.length) ρ') ∨ Q (forE g s ds ρ)
  | [], k, ρ, h, _ => .inl ⟨ρ, rfl, h⟩
  | d :: ds, k, ρ, h, hs => by
    obtain ⟨ρ1, e1, e2⟩ := hs 0 d ρ rfl h
    unfold forE
    rw [e1]
    rcases e2 with ⟨ρ2, e2, h2⟩ | ⟨q, nq⟩
    · have r := forE_exit I Q ds (k + 1) ρ2 h2 fun j x r hj hi => by
        have q := hs (j + 1) x r hj (by rw [show k + (j + 1) = k + 1 + j from by omega]; exact hi)
        rw [show k + (j + 1) + 1 = k + 1 + j + 1 from by omega] at q
        exact q
      have e : k + (d :: ds).length = k + 1 + ds.length := by simp; omega
      rw [e]
      rcases e2 with e2 | e2 <;> simp only [e2] <;> exact r
    · refine .inr ?_
      cases es : s ρ1 with
      | nx r => exact absurd es (nq r).1
      | ct r => exact absurd es (nq r).2.1
      | brk r => exact absurd es (nq r).2.2
      | ret r r2 => rw [es] at q; simp only [es]; exact q
      | exc c r => rw [es] at q; simp only [es]; exact q
      | bad => rw [es] at q; simp only [es]; exact q
theorem rest_of {ρ2 ρ : Rho} {vs : List Nat} (h : wipeR ρ2 vs = wipeR ρ vs) : rest ρ2 ρ vs = rest ρ ρ vs := by
  have hl : ρ2.length = ρ.length := by
    have := congrArg List.length h
    rwa [wipeR_len, wipeR_len] at this
  apply List.ext_getElem?
  intro j
  rw [rest_get, rest_get, hl]
  by_cases q : j ∈ vs
  · rw [if_pos q, if_pos q]
  · rw [if_neg q, if_neg q]
    have e := congrArg (fun l : Rho => l[j]?) h
    rwa [wipeR_get, wipeR_get, if_neg q, if_neg q] at e
/-- a comprehension that changes nothing -/
theorem lcE_pure {g : PyData → Rho → Option Rho} {tt : M Bool} {fe : M PyData} {vs : List Nat} {ρ : Rho} (c : PyData → Bool) (h : PyData → PyData) : ∀ (ds : List PyData) (ρ0 : Rho), wipeR ρ0 vs = wipeR ρ vs →
    (∀ d ∈ ds, ∃ ρ1, g d (wipeR ρ vs) = some ρ1 ∧ ∃ ρ2, tt ρ1 = .ok (c d, ρ2) ∧ (c d = true → ∃ ρ3, fe ρ2 = .ok (h d, ρ3) ∧ wipeR ρ3 vs = wipeR ρ vs) ∧ (c d = false → wipeR ρ2 vs = wipeR ρ vs)) →
    ∃ ρ', lcE g tt fe vs ds ρ0 = .ok ((ds.filter c).map h, ρ') ∧ wipeR ρ' vs = wipeR ρ vs
  | [], ρ0, h0, _ => ⟨ρ0, rfl, h0⟩
  | d :: ds, ρ0, h0, hs => by
    obtain ⟨ρ1, e1, ρ2, e2, k1, k2⟩ := hs d List.mem_cons_self
    unfold lcE
    rw [h0, e1]
    simp only [e2]
    cases hc : c d with
    | true =>
      obtain ⟨ρ3, e3, w3⟩ := k1 hc
      obtain ⟨ρ', e4, w4⟩ := lcE_pure c h ds ρ3 w3 fun x hx => hs x (List.mem_cons_of_mem _ hx)
      refine ⟨ρ', ?_, w4⟩
      simp only [e3, e4]
      rw [List.filter_cons_of_pos hc]
      rfl
    | false =>
      obtain ⟨ρ', e4, w4⟩ := lcE_pure c h ds ρ2 (k2 hc) fun x hx => hs x (List.mem_cons_of_mem _ hx)
      refine ⟨ρ', ?_, w4⟩
      simp only [e4]
      rw [List.filter_cons_of_neg (by simp [hc])]
theorem lc_pure {g : PyData → Rho → Option Rho} {tt : M Bool} {fe : M PyData} {fi : M (List PyData)} {vs : List Nat} {ρ0 ρ : Rho} {ds : List PyData} (c : PyData → Bool) (h : PyData → PyData) (hfi : fi ρ0 = .ok (ds, ρ)) (hs : ds.length ≤ 100000)
    (he : ∀ d ∈ ds, ∃ ρ1, g d (wipeR ρ vs) = some ρ1 ∧ ∃ ρ2, tt ρ1 = .ok (c d, ρ2) ∧ (c d = true → ∃ ρ3, fe ρ2 = .ok (h d, ρ3) ∧ wipeR ρ3 vs = wipeR ρ vs) ∧ (c d = false → wipeR ρ2 vs = wipeR ρ vs)) :
    fLc fi g tt fe vs ρ0 = .ok ((ds.filter c).map h, rest ρ ρ vs) := by
  obtain ⟨ρ', e, w⟩ := lcE_pure (ρ := ρ) c h ds ρ rfl he
  unfold fLc bnd
  rw [hfi]
  simp only [small_of hs, if_true, e, rest_of w]
/-- .. without a test -/
theorem lc_map {g : PyData → Rho → Option Rho} {fe : M PyData} {fi : M (List PyData)} {vs : List Nat} {ρ0 ρ : Rho} {ds : List PyData} (h : PyData → PyData) (hfi : fi ρ0 = .ok (ds, ρ)) (hs : ds.length ≤ 100000)
    (he : ∀ d ∈ ds, ∃ ρ1, g d (wipeR ρ vs) = some ρ1 ∧ ∃ ρ3, fe ρ1 = .ok (h d, ρ3) ∧ wipeR ρ3 vs = wipeR ρ vs) :
    fLc fi g (ret true) fe vs ρ0 = .ok (ds.map h, rest ρ ρ vs) := by
  have q := lc_pure (tt := ret true) (fun _ => true) h hfi hs fun d hd => by
    obtain ⟨ρ1, e1, ρ3, e2, e3⟩ := he d hd
    exact ⟨ρ1, e1, ρ1, rfl, fun _ => ⟨ρ3, e2, e3⟩, fun z => by cases z⟩
  rw [q, List.filter_eq_self.mpr fun _ _ => rfl]
/-- .. over things that are told by data -/
theorem lcE_enc {α : Type} {g : PyData → Rho → Option Rho} {tt : M Bool} {fe : M PyData} {vs : List Nat} {ρ : Rho} (enc : α → PyData) (c : α → Bool) (h : α → PyData) : ∀ (xs : List α) (ρ0 : Rho), wipeR ρ0 vs = wipeR ρ vs →
    (∀ x ∈ xs, ∃ ρ1, g (enc x) (wipeR ρ vs) = some ρ1 ∧ ∃ ρ2, tt ρ1 = .ok (c x, ρ2) ∧ (c x = true → ∃ ρ3, fe ρ2 = .ok (h x, ρ3) ∧ wipeR ρ3 vs = wipeR ρ vs) ∧ (c x = false → wipeR ρ2 vs = wipeR ρ vs)) →
    ∃ ρ', lcE g tt fe vs (xs.map enc) ρ0 = .ok ((xs.filter c).map h, ρ') ∧ wipeR ρ' vs = wipeR ρ vs
  | [], ρ0, h0, _ => ⟨ρ0, rfl, h0⟩
  | d :: ds, ρ0, h0, hs => by
    obtain ⟨ρ1, e1, ρ2, e2, k1, k2⟩ := hs d List.mem_cons_self
    rw [List.map_cons]
    unfold lcE
    rw [h0, e1]
    simp only [e2]
    cases hc : c d with
    | true =>
      obtain ⟨ρ3, e3, w3⟩ := k1 hc
      obtain ⟨ρ', e4, w4⟩ := lcE_enc enc c h ds ρ3 w3 fun x hx => hs x (List.mem_cons_of_mem _ hx)
      refine ⟨ρ', ?_, w4⟩
      simp only [e3, e4]
      rw [List.filter_cons_of_pos hc]
      rfl
    | false =>
      obtain ⟨ρ', e4, w4⟩ := lcE_enc enc c h ds ρ2 (k2 hc) fun x hx => hs x (List.mem_cons_of_mem _ hx)
      refine ⟨ρ', ?_, w4⟩
      simp only [e4]
      rw [List.filter_cons_of_neg (by simp [hc])]
theorem lc_if {α : Type} {g : PyData → Rho → Option Rho} {tt : M Bool} {fe : M PyData} {fi : M (List PyData)} {vs : List Nat} {ρ0 ρ : Rho} (xs : List α) (enc : α → PyData) (c : α → Bool) (h : α → PyData) (hfi : fi ρ0 = .ok (xs.map enc, ρ)) (hs : xs.length ≤ 100000)
    (he : ∀ x ∈ xs, ∃ ρ1, g (enc x) (wipeR ρ vs) = some ρ1 ∧ ∃ ρ2, tt ρ1 = .ok (c x, ρ2) ∧ (c x = true → ∃ ρ3, fe ρ2 = .ok (h x, ρ3) ∧ wipeR ρ3 vs = wipeR ρ vs) ∧ (c x = false → wipeR ρ2 vs = wipeR ρ vs)) :
    fLc fi g tt fe vs ρ0 = .ok ((xs.filter c).map h, rest ρ ρ vs) := by
  obtain ⟨ρ', e, w⟩ := lcE_enc (ρ := ρ) enc c h xs ρ rfl he
  unfold fLc bnd
  rw [hfi]
  simp only [List.length_map, small_of hs, if_true, e, rest_of w]
theorem lc_all {α : Type} {g : PyData → Rho → Option Rho} {fe : M PyData} {fi : M (List PyData)} {vs : List Nat} {ρ0 ρ : Rho} (xs : List α) (enc : α → PyData) (h : α → PyData) (hfi : fi ρ0 = .ok (xs.map enc, ρ)) (hs : xs.length ≤ 100000)
    (he : ∀ x ∈ xs, ∃ ρ1, g (enc x) (wipeR ρ vs) = some ρ1 ∧ ∃ ρ3, fe ρ1 = .ok (h x, ρ3) ∧ wipeR ρ3 vs = wipeR ρ vs) :
    fLc fi g (ret true) fe vs ρ0 = .ok (xs.map h, rest ρ ρ vs) := by
  have q := lc_if (tt := ret true) xs enc (fun _ => true) h hfi hs fun d hd => by
    obtain ⟨ρ1, e1, ρ3, e2, e3⟩ := he d hd
    exact ⟨ρ1, e1, ρ1, rfl, fun _ => ⟨ρ3, e2, e3⟩, fun z => by cases z⟩
  rw [q, List.filter_eq_self.mpr fun _ _ => rfl]
theorem asBools_map (bs : List Bool) : asBools (bs.map PyData.bool) = some bs := by
  induction bs with
  | nil => rfl
  | cons b bs ih => simp only [List.map_cons, asBools, ih, Option.map_some]
theorem asInts_map (bs : List Int) : asInts (bs.map PyData.int) = some bs := by
  induction bs with
  | nil => rfl
  | cons b bs ih => simp only [List.map_cons, asInts, ih, Option.map_some]
/-- a comprehension whose turns draw: I tells of what is made so far and the slots -/
theorem lcE_inv {g : PyData → Rho → Option Rho} {fe : M PyData} {vs : List Nat} (I : List PyData → Rho → Prop) : ∀ (ds : List PyData) (acc : List PyData) (ρ : Rho), I acc ρ →
    (∀ d ∈ ds, ∀ acc ρ, I acc ρ → ∃ ρ1 x ρ3, g d (wipeR ρ vs) = some ρ1 ∧ fe ρ1 = .ok (x, ρ3) ∧ I (acc ++ [x]) ρ3) →
    ∃ xs ρ', lcE g (ret true) fe vs ds ρ = .ok (xs, ρ') ∧ I (acc ++ xs) ρ' ∧ xs.length = ds.length
  | [], acc, ρ, h, _ => ⟨[], ρ, rfl, by rw [List.append_nil]; exact h, rfl⟩
  | d :: ds, acc, ρ, h, hs => by
    obtain ⟨ρ1, x, ρ3, e1, e2, h2⟩ := hs d List.mem_cons_self acc ρ h
    obtain ⟨xs, ρ', e3, h3, l3⟩ := lcE_inv I ds (acc ++ [x]) ρ3 h2 fun y hy => hs y (List.mem_cons_of_mem _ hy)
    refine ⟨x :: xs, ρ', ?_, ?_, by simp [l3]⟩
    · unfold lcE
      rw [e1]
      simp only [ret, e2, e3]
    · rw [show acc ++ x :: xs = acc ++ [x] ++ xs from by simp]
      exact h3
@[simp] theorem wipeR_nil (ρ : Rho) : wipeR ρ [] = ρ := rfl
@[simp] theorem wipeR_cons (ρ : Rho) (v : Nat) (vs : List Nat) : wipeR ρ (v :: vs) = (wipeR ρ vs).set v .un := rfl
@[simp] theorem rest_nil (ρ ρ1 : Rho) : rest ρ ρ1 [] = ρ := rfl
@[simp] theorem rest_cons (ρ ρ1 : Rho) (v : Nat) (vs : List Nat) : rest ρ ρ1 (v :: vs) = (rest ρ ρ1 vs).set v (keepFz ρ1[v]?) := rfl
@[simp] theorem keepFz_un : keepFz (some .un) = .un := rfl
@[simp] theorem keepFz_fz (d : PyData) : keepFz (some (.fz d)) = .fz d := rfl
theorem atI_at {α : Type} {xs : List α} {i : Int} {v : α} (h0 : 0 ≤ i) (h : xs[i.toNat]? = some v) : atI xs i = some v := by
  have q := atI_nat h
  rwa [Int.toNat_of_nonneg h0] at q
theorem ixN_in {n : Nat} {i : Int} (h0 : 0 ≤ i) (h : i < n) : ixN n i = some i.toNat := by
  unfold ixN
  rw [if_pos h0, if_pos h]
theorem kSet_in {d : PyData} {i : Int} {ds : List PyData} (h0 : 0 ≤ i) (h : i < ds.length) : kSet d (.int i) ds = some (ds.set i.toNat d) := by
  show (ixN ds.length i).map _ = _
  rw [ixN_in h0 h]
  rfl
theorem runP_1 (n : Nat) (g : Rho → Fl) (a : PyData) : runP n g 1 [a] = toOut (g (stN n [a])) := rfl
theorem runP_2 (n : Nat) (g : Rho → Fl) (a b : PyData) : runP n g 2 [a, b] = toOut (g (stN n [a, b])) := rfl
theorem runP_3 (n : Nat) (g : Rho → Fl) (a b c : PyData) : runP n g 3 [a, b, c] = toOut (g (stN n [a, b, c])) := rfl
theorem runP_4 (n : Nat) (g : Rho → Fl) (a b c d : PyData) : runP n g 4 [a, b, c, d] = toOut (g (stN n [a, b, c, d])) := rfl
theorem runP_5 (n : Nat) (g : Rho → Fl) (a b c d e : PyData) : runP n g 5 [a, b, c, d, e] = toOut (g (stN n [a, b, c, d, e])) := rfl
theorem runI_1 (n : Nat) (g : Rho → Fl) (io : List PyData) : runI n g 1 io [] = toOutI (g (stNI n io [])) := rfl
theorem runI_2 (n : Nat) (g : Rho → Fl) (io : List PyData) (a : PyData) : runI n g 2 io [a] = toOutI (g (stNI n io [a])) := rfl
theorem runI_3 (n : Nat) (g : Rho → Fl) (io : List PyData) (a b : PyData) : runI n g 3 io [a, b] = toOutI (g (stNI n io [a, b])) := rfl
theorem runI_4 (n : Nat) (g : Rho → Fl) (io : List PyData) (a b c : PyData) : runI n g 4 io [a, b, c] = toOutI (g (stNI n io [a, b, c])) := rfl
theorem runI_5 (n : Nat) (g : Rho → Fl) (io : List PyData) (a b c d : PyData) : runI n g 5 io [a, b, c, d] = toOutI (g (stNI n io [a, b, c, d])) := rfl
/-- data without objects, not too wide, of a depth below n -/
def gd : Nat → PyData → Bool
  | 0, _ => false
  | _ + 1, .none => true
  | _ + 1, .bool _ => true
  | _ + 1, .int _ => true
  | _ + 1, .str _ => true
  | n + 1, .list ds => small ds.length && ds.all (gd n)
  | n + 1, .tuple ds => small ds.length && ds.all (gd n)
  | _ + 1, .dict _ => false
end Fx

namespace Fx
open PySem L2
variable [Tabz]
section
variable {X : Cx} {G : Gx} {e a b c : Expr} {es : List Expr} {f g : M PyData} {pos : Pos} {A B : Opd} {As : List Opd} {pn : List Nat} {l h : M (Option Int)} {lo hi : Option Expr} {p2 : Pos}
/-! ### operators whose answer may be new -/
def RdOX (r : R2) (o : PyData → PyData → Option PyData) : Prop := ∀ (Hf H : Hp) (x y : V) (a b d : PyData), Same Hf H → R1 Hf H x a → R1 Hf H y b → o a b = some d → ∀ Q : VK, (∀ v Hf' H', Ext Hf H Hf' H' → Rep Hf' v d → Q v H') → r x y H Q
theorem rd_opX {r : R2} {o : PyData → PyData → Option PyData} (hr : RdOX r o) (σ : St) (H : Hp) (Q : VK) (h : tE G (fOp o A B) σ H Q) : tOp r (A.t G) (B.t G) σ H Q := by
  obtain ⟨Hf, ρ, rp, af⟩ := h
  refine Opd.run (stepO rp af) fun x H1 ⟨a, Hf1, ρ1, n1, ra, af1⟩ => Opd.run (stepO n1.rp af1) fun y H2 ⟨b, Hf2, ρ2, n2, rb, af2⟩ => ?_
  obtain ⟨a', b', ea, eb, af3⟩ := fin2_some af2
  unfold opt at af3
  cases e : o a' b' with
  | none => rw [e] at af3; exact af3.elim
  | some d =>
    rw [e] at af3
    exact hr Hf2 H2 x y a' b' d n2.rp.sub (Opd.end n2.rp (Opd.keep n2 ra) ea) (Opd.end n2.rp rb eb) e Q fun v Hf' H' z rv => af3 v Hf' H' (n2.rp.ext z) rv
@[simp] def oCatT : PyData → PyData → Option PyData
  | .tuple xs, .tuple ys => if small (xs.length + ys.length) then some (.tuple (xs ++ ys)) else none
  | _, _ => none
theorem rd_catT {K : PySem.W.Frag} : RdOX (rCatA K) oCatT := by
  intro Hf H x y a b d sm ha hb e Q q
  cases a <;> cases b <;> simp only [oCatT, reduceCtorEq] at e
  split at e
  · rename_i xs ys hs
    cases e
    have ra := ha.rep fun _ z => nomatch z
    have rb := hb.rep fun _ z => nomatch z
    obtain ⟨p1, vs1, rfl, h1, h2⟩ := ha.tup sm
    obtain ⟨p2, vs2, rfl, h3, h4⟩ := hb.tup sm
    refine ⟨_, _, _, _, rfl, rfl, SqT.of h1, SqT.of h3, by rw [repA_len h2, repA_len h4]; exact small_le hs, fun z => ?_, fun _ z => ?_, fun _ _ p hp => ?_⟩
    · subst z
      cases h2
      exact q _ _ _ .same rb
    · subst z
      cases h4
      rw [List.append_nil] at q
      exact q _ _ _ .same ra
    · exact q _ _ _ (.new hp) (.tup upd_same (repA_same (same_new (sm.free hp)) (repA_append h2 h4)))
  · cases e
theorem fe_catT (ha : PE X a (A.t G)) (hb : PE X b (B.t G)) : PE X (.BinOp a .Add b pos) (tE G (fOp oCatT A B)) := (pe_op op_catA ha hb).imp (rd_opX rd_catT)
/-- t[lo:hi] of a tuple -/
@[simp] def oSlA (lo hi : Option Int) (d : PyData) : Option PyData := match d with
  | .tuple ds => some (.tuple (cut ds lo hi))
  | _ => none
@[simp] def fSlA (f : M PyData) (l h : M (Option Int)) : M PyData := fun ρ => (bnd f fun d => bnd l fun lo => bnd h fun hi => opt (oSlA lo hi d)) ρ
theorem cut_whole {α : Type} {ds : List α} {lo hi : Option Int} (h1 : HT.sIx ds.length 0 lo = 0) (h2 : HT.sIx ds.length ds.length hi = ds.length) : cut ds lo hi = ds := by
  unfold cut
  rw [h1, h2, List.drop_zero, Nat.sub_zero, List.take_length]
theorem fe_sliceA (he : PE X e (tE G f)) (hl : PO X lo (tP G l)) (hh : PO X hi (tP G h)) : PE X (.Subscript e (.Slice lo hi none p2) pos) (tE G (fSlA f l h)) := by
  refine (pe_slice sl_tupA he hl hh).imp fun σ H Q ⟨Hf, ρ, rp, af⟩ => ?_
  refine (step rp af).mono fun x H1 ⟨d, Hf1, ρ1, n1, ra, af1⟩ => (step n1.rp af1).mono fun y H2 ⟨i, Hf2, ρ2, n2, rb, af2⟩ => (step n2.rp af2).mono fun z H3 ⟨j, Hf3, ρ3, n3, rc, af3⟩ => ?_
  subst rb rc
  have ra := rep_same (n2.sub.trans n3.sub) ra
  cases ra with
  | @tup _ vs ds h1 h2 =>
    simp only [oSlA] at af3
    refine ⟨_, _, rfl, SqT.of (n3.rp.sub _ _ h1), fun hw => ?_, fun _ p hp => ?_⟩
    · rw [repA_len h2] at hw
      rw [cut_whole hw.1 hw.2] at af3
      exact fin (R := Rep) n3.rp af3 (.tup h1 h2)
    · exact AfG.new (R := Rep) n3.rp af3 hp (Rep.tup upd_same (repA_same (same_new (n3.rp.sub.free hp)) (repA_cut h2 _ _)))
  | lst _ _ => exact af3.elim
  | non => exact af3.elim
  | bl _ => exact af3.elim
  | int _ => exact af3.elim
  | str _ => exact af3.elim
/-! ### int(x) -/
@[simp] def oInt1 : List PyData → Option PyData
  | [.int i] => some (.int i)
  | [.bool b] => some (.int (if b then 1 else 0))
  | _ => none
theorem rd_int1 : RdC (fun xs H Q => (∃ i, xs = [.int i] ∧ Q (.int i) H) ∨ ∃ k, xs = [.bl k] ∧ Q (.int (if k then 1 else 0)) H) oInt1 := by
  intro Hf H xs as d sm ra e
  unfold oInt1 at e
  split at e
  · cases e
    cases ra with
    | cons h t => cases t; cases h.int; exact ⟨_, .int _, fun Q q => .inl ⟨_, rfl, q⟩⟩
  · cases e
    cases ra with
    | cons h t => cases t; cases h.bool; exact ⟨_, .int _, fun Q q => .inr ⟨_, rfl, q⟩⟩
  · cases e
theorem fe_int1 {p : Pos} (hg : Gl X "int") (hm : X.mg "int" = none) (ha : PA X (e :: es) (tAll G As)) (he : starEach (e :: es) X.env = (false, eval e X.env) :: starEach es X.env := by rfl) (hpl : (backTo pos (starEach es X.env)).any (·.1) = false := by rfl) : PE X (.Call (.Name "int" p) (e :: es) [] pos) (tE G (fCB oInt1 As)) :=
  fe_callTy call_int1 rd_int1 hg hm (by decide +kernel) ha (by decide) (by decide) he hpl
/-! ### lists changed: x[i] op= e, insert, clear -/
theorem get_list : PGet X (rIxL X.K) := by
  intro pins s σ H x y v u Q I rx ry h
  obtain ⟨p, xs, i, z, rfl, rfl, hq, he, q⟩ := h
  cases rx
  obtain ⟨t, rfl⟩ := ry
  obtain ⟨its, r, pl, hz⟩ := I.list hq
  obtain ⟨j, h1, h2, h3, h4, h5⟩ := atI_get he
  obtain ⟨w, ew, rw'⟩ := r.get h2
  have hl := r.length
  have hn := line63
  have fin : EP X pins σ Q w s := ⟨z, H, I, rw', q⟩
  by_cases h0 : 0 ≤ i
  · have hj : i.toNat = j := by
      rw [seqIndex_of h0 h5] at h1
      exact Option.some.inj h1
    exact wpAny_getItem_list pl.isList h0 (by omega) (by rw [hj]; simpa using ew) fin
  · have hj : (i + (its.toArray.size : Int)).toNat = j := by
      rw [seqIndex_neg (by omega) h4] at h1
      rw [List.size_toArray, ← hl]
      exact Option.some.inj h1
    exact wpAny_getItem_list_neg pl.isList (by omega) (by rw [List.size_toArray] <;> omega) (by omega) (by rw [hj]; simpa using ew) fin
/-- the item at a place of an owned list, a number -/
@[simp] def augGet (i : Nat) (j : PyData) (ρ : Rho) : Option Int := match (ρ[i]? : Option Sl) with
  | some (.ow ds) => (match j with
    | .int k => (match atI ds k with
      | some (.int x) => some x
      | _ => none)
    | _ => none)
  | _ => none
theorem augGet_some {i : Nat} {j : PyData} {ρ : Rho} {x : Int} (h : augGet i j ρ = some x) : ∃ ds k, ρ[i]? = some (.ow ds) ∧ j = .int k ∧ atI ds k = some (.int x) := by
  unfold augGet at h
  split at h
  · rename_i ds e
    split at h
    · rename_i k
      split at h
      · rename_i y ey
        cases h
        exact ⟨ds, k, e, rfl, ey⟩
      · cases h
    · cases h
  · cases h
@[simp] def augPut (i : Nat) (op : Int → Int → Int) (x : Int) (j : PyData) (d : PyData) (ρ : Rho) : Fl := match d with
  | .int y => (match mutO i (kSet (.int (op x y)) j) ρ with
    | some ρ3 => .nx ρ3
    | none => .bad)
  | _ => .bad
@[simp] def sAugIx (i : Nat) (op : Int → Int → Int) (g f : M PyData) : Rho → Fl := fun ρ => if isOw i ρ then (sBnd g fun j ρ1 => match augGet i j ρ1 with
    | some x => sBnd f (augPut i op x j) ρ1
    | none => .bad) ρ else .bad
theorem fs_augIx {op : Int → Int → Int} {o : Operator} (i : Nat) {x : Str} {p1 tp : Pos} (hb : PE X b (tE G g)) (he : PE X e (tE G f)) (ho : PIp X o (ipI op)) (hN : X.N[i]? = some x := by rfl) (hv : Vis X.env.scope x := by first | exact Or.inl rfl | exact Or.inr (Or.inl rfl) | exact Or.inr (Or.inr rfl)) (hd : (x == ("__debug__" : Str)) = false := by decide)
    (hcd : (x == ("__classdict__" : Str)) = false := by decide) (ha : ∀ ov iv new, augStore b ov iv new = (do holding [new, ov, iv] (setItem ov iv new); release [new, ov, iv] []; pure .next) := by intros; rfl) :
    PS X (.AugAssign (.Subscript (.Name x p1) b tp) o e pos) (tS G pn (sAugIx i op g f)) := by
  refine (ps_augS (pe_var hN hv hd hcd) hb get_list he ho set_list ha).imp fun D σ H ⟨Hf, ρ, rp, af⟩ => ?_
  unfold sAugIx at af
  cases e0 : isOw i ρ with
  | false => rw [e0] at af; exact False.elim af
  | true =>
    rw [e0, if_pos rfl] at af
    obtain ⟨ds0, h0⟩ := isOw_ow e0
    obtain ⟨p, vs0, s0, _, g0, _⟩ := slok_ow (rp.sl i _ h0)
    refine ⟨_, s0, (stepS rp af).mono fun y H1 ⟨j, Hf1, ρ1, n1, rj, af1⟩ => ?_⟩
    cases em : augGet i j ρ1 with
    | none => rw [em] at af1; exact False.elim af1
    | some x0 =>
      rw [em] at af1
      dsimp only at af1
      obtain ⟨ds, k, h1, rfl, ea⟩ := augGet_some em
      obtain ⟨q, vs, s1, f1, g1, r1⟩ := slok_ow (n1.rp.sl i _ h1)
      rw [s0] at s1
      cases s1
      obtain ⟨v0, ev0, rv0⟩ := repA_at r1 ea
      have ej := rep_int rj
      have ev := rep_int rv0
      subst ej ev
      refine ⟨p, vs, k, _, rfl, rfl, SqL.of g1, ev0, ?_⟩
      refine (stepS n1.rp af1).mono fun v2 H2 ⟨d, Hf2, ρ2, n2, rv2, af2⟩ => ?_
      cases d <;> first | exact False.elim af2 | skip
      rename_i y0
      have e2 := rep_int rv2
      subst e2
      refine ⟨x0, y0, rfl, rfl, ?_⟩
      unfold augPut at af2
      dsimp only at af2
      cases em2 : mutO i (kSet (.int (op x0 y0)) (.int k)) ρ2 with
      | none => rw [em2] at af2; exact False.elim af2
      | some ρ3 =>
        rw [em2] at af2
        dsimp only at af2
        obtain ⟨ds2, es2, k1, k2, rfl⟩ := mutO_some em2
        obtain ⟨q2, vs2, s2, f2, g2, r2⟩ := slok_ow (n2.rp.sl i _ k1)
        rw [s0] at s2
        cases s2
        unfold kSet at k2
        dsimp only at k2
        cases ek : ixN ds2.length k with
        | none => rw [ek] at k2; cases k2
        | some m =>
          rw [ek] at k2
          cases k2
          refine ⟨p, vs2, k, m, rfl, rfl, g2, by rw [repA_len r2]; exact ek, ?_⟩
          exact af2 σ Hf2 _ (n2.rp.mut k1 s0 (repA_set (.int _) m r2)) (.refl _ _)
@[simp] def kIns (j d : PyData) (ds : List PyData) : Option (List PyData) := match j with
  | .int k => if small ds.length && (decide (0 ≤ k) && small k.natAbs) then some (ds.take k.toNat ++ [d] ++ ds.drop k.toNat) else none
  | _ => none
@[simp] def sInsert (i : Nat) (g f : M PyData) : Rho → Fl := fun ρ => sMut i (fCons g (fCons f fNil)) (fun xs ds => match xs with
  | [j, d] => kIns j d ds
  | _ => none) ρ
theorem fs_insert (i : Nat) {x : Str} {p1 ap cp : Pos} (hb : PE X b (tE G g)) (he : PE X e (tE G f)) (hN : X.N[i]? = some x := by rfl) (hv : Vis X.env.scope x := by first | exact Or.inl rfl | exact Or.inr (Or.inl rfl) | exact Or.inr (Or.inr rfl)) (hd : (x == ("__debug__" : Str)) = false := by decide)
    (hcd : (x == ("__classdict__" : Str)) = false := by decide) (hbase : attributeBase (.Name x p1) "insert" X.env (eval (.Name x p1) X.env) = eval (.Name x p1) X.env := by rfl)
    (hfew : ((backTo cp (starEach [b, e] X.env)).all (fun x => !x.1) && (backToKw cp (keywordEach [] X.env)).all (fun x => x.1.isSome) && decide (([b, e] : List Expr).length + ([] : List Keyword).length + (if ([] : List Keyword).isEmpty then 0 else 1) < 30)) = true := by rfl)
    (hline : (ap.endLine == cp.line) = true := by rfl) (hs : starEach [b, e] X.env = (false, eval b X.env) :: starEach [e] X.env := by rfl) (hs2 : starEach [e] X.env = (false, eval e X.env) :: starEach [] X.env := by rfl) (hplain : (backTo cp (starEach [e] X.env)).any (·.1) = false := by rfl)
    (hsw : swapsWith (.Call (.Attribute (.Name x p1) "insert" ap) [b, e] [] cp) none pos.line X.env = pure false := by rfl) : PS X (.Expr (.Call (.Attribute (.Name x p1) "insert" ap) [b, e] [] cp) pos) (tS G pn (sInsert i g f)) := by
  refine (ps_expr (pe_bm PySem.F.plainAttrs_list PySem.F.slot_list_insert PySem.F.type_list_insert mt_insert (pe_var hN hv hd hcd) (fa_cons hb (fa_cons he fa_nil hs2) hs) hbase hfew hline hs hplain) hsw).imp fun D σ H ⟨Hf, ρ, rp, af⟩ => ?_
  unfold sInsert sMut at af
  cases e0 : isOw i ρ with
  | false => rw [e0] at af; exact False.elim af
  | true =>
    rw [e0, if_pos rfl] at af
    obtain ⟨ds0, h0⟩ := isOw_ow e0
    obtain ⟨p, vs0, s0, _, g0, _⟩ := slok_ow (rp.sl i _ h0)
    refine ⟨_, s0, .inl ⟨rfl, _, SqL.of g0⟩, (stepS rp af).mono fun us H1 ⟨xs, Hf1, ρ1, n1, ra, af1⟩ => ?_⟩
    cases ra with
    | nil => simp [mutO] at af1; split at af1 <;> first | exact False.elim af1 | (rename_i hq; split at hq <;> simp at hq)
    | @cons v1 _ j _ ra1 ra =>
      cases ra with
      | nil => simp [mutO] at af1; split at af1 <;> first | exact False.elim af1 | (rename_i hq; split at hq <;> simp at hq)
      | @cons v2 _ d _ ra2 ra =>
        cases ra with
        | cons _ _ => simp [mutO] at af1; split at af1 <;> first | exact False.elim af1 | (rename_i hq; split at hq <;> simp at hq)
        | nil =>
          cases em : mutO i (kIns j d) ρ1 with
          | none => simp only [em] at af1; exact False.elim af1
          | some ρ2 =>
            simp only [em] at af1
            obtain ⟨ds, es, h1, h2, rfl⟩ := mutO_some em
            obtain ⟨q, vs, s1, f1, g1, r1⟩ := slok_ow (n1.rp.sl i _ h1)
            rw [s0] at s1
            cases s1
            cases j <;> simp only [kIns, reduceCtorEq] at h2
            rename_i k
            split at h2
            · rename_i hs
              rw [Bool.and_eq_true] at hs
              have hs3 := hs.2
              rw [Bool.and_eq_true] at hs3
              have hs4 : _ ≤ 100000 := of_decide_eq_true hs3.2
              have hs5 := of_decide_eq_true hs3.1
              have hk : 0 ≤ k ∧ k < 2 ^ 63 := ⟨hs5, by omega⟩
              cases h2
              have ek := rep_int ra1
              subst ek
              refine ⟨p, vs, k, v2, rfl, rfl, g1, by rw [repA_len r1]; exact small_lt hs.1, hk.1, hk.2, ?_⟩
              exact af1 σ Hf1 _ (n1.rp.mut h1 s0 (repA_append (repA_append (repA_take _ r1) (.cons ra2 .nil)) (repA_drop _ r1))) (.refl _ _)
            · cases h2
@[simp] def sClear (i : Nat) : Rho → Fl := fun ρ => match mutO i (fun _ => some []) ρ with
  | some ρ2 => .nx ρ2
  | none => .bad
theorem fs_clear (i : Nat) {x : Str} {p1 ap cp : Pos} (hN : X.N[i]? = some x := by rfl) (hv : Vis X.env.scope x := by first | exact Or.inl rfl | exact Or.inr (Or.inl rfl) | exact Or.inr (Or.inr rfl)) (hd : (x == ("__debug__" : Str)) = false := by decide)
    (hcd : (x == ("__classdict__" : Str)) = false := by decide) (hbase : attributeBase (.Name x p1) "clear" X.env (eval (.Name x p1) X.env) = eval (.Name x p1) X.env := by rfl) (hline : (ap.endLine == cp.line) = true := by rfl)
    (hsw : swapsWith (.Call (.Attribute (.Name x p1) "clear" ap) [] [] cp) none pos.line X.env = pure false := by rfl) : PS X (.Expr (.Call (.Attribute (.Name x p1) "clear" ap) [] [] cp) pos) (tS G pn (sClear i)) := by
  refine (ps_expr (pe_bm0 PySem.F.plainAttrs_list PySem.F.slot_list_clear PySem.F.type_list_clear mt_clear (pe_var hN hv hd hcd) hbase hline) hsw).imp fun D σ H ⟨Hf, ρ, rp, af⟩ => ?_
  unfold sClear at af
  cases em : mutO i (fun _ => some []) ρ with
  | none => rw [em] at af; exact False.elim af
  | some ρ2 =>
    rw [em] at af
    obtain ⟨ds, es, h1, h2, rfl⟩ := mutO_some em
    cases h2
    obtain ⟨p, vs, s1, f1, g1, r1⟩ := slok_ow (rp.sl i _ h1)
    exact ⟨_, s1, .inl ⟨rfl, _, SqL.of g1⟩, p, vs, rfl, rfl, g1, af σ Hf _ (rp.mut h1 s1 .nil) (.refl _ _)⟩
end
end Fx

namespace Fx
open PySem L2
variable [Tabz]
section
variable {X : Cx} {G : Gx} {e a b c tg : Expr} {es : List Expr} {f : M PyData} {fs : M (List PyData)} {pos p : Pos} {A B : Opd} {As : List Opd} {pn : List Nat} {k : Nat} {ps : List Str} {x : Str}
/-! ### a call that looks at its arguments and answers by a scalar -/
@[simp] def callPM (F : List PyData → Out Rt) (xs : List PyData) : M PyData := fun ρ => match F xs with
  | .ok (.fz d) => if (sc d).isSome then .ok (d, ρ) else .bad
  | .ok _ => .bad
  | .exc c => .exc c ρ
  | .bad => .bad
@[simp] def fCallP (F : List PyData → Out Rt) (As : List Opd) : M PyData := fun ρ => (bnd (goAll As) fun as ρ => match atAll As as ρ with
  | some xs => callPM F xs ρ
  | none => .bad) ρ
theorem r1a_full {Hf H : Hp} (sm : Same Hf H) : ∀ {vs : List V} {ds : List PyData}, R1A Hf H vs ds → RepA H vs ds
  | _, _, .nil => .nil
  | _, _, .cons h t => .cons (h.full sm) (r1a_full sm t)
/-- a heap without its tables -/
def ntOf (H : Hp) : Hp := fun a => match H a with
  | some (.tbl _) => none
  | o => o
theorem ntOf_at {H : Hp} {a : Addr} {o : HO} (h : H a = some o) (n : NT o) : ntOf H a = some o := by
  unfold ntOf
  rw [h]
  split
  · rename_i ps e
    exact absurd (Option.some.inj e) (n ps)
  · rfl
theorem ntOf_same {H : Hp} : Same (ntOf H) H := fun a o e => by
  unfold ntOf at e
  split at e
  · cases e
  · exact e
theorem ntOf_nt {H : Hp} : NtH (ntOf H) := fun a ps e => by
  unfold ntOf at e
  split at e
  · cases e
  · rename_i z
    exact z ps e
mutual
theorem rep_nt {H : Hp} : ∀ {v : V} {d : PyData}, Rep H v d → Rep (ntOf H) v d
  | _, _, .non => .non
  | _, _, .bl b => .bl b
  | _, _, .int i => .int i
  | _, _, .str x => .str x
  | _, _, .lst h a => .lst (ntOf_at h NT.lst) (repA_nt a)
  | _, _, .tup h a => .tup (ntOf_at h NT.tup) (repA_nt a)
theorem repA_nt {H : Hp} : ∀ {v : List V} {d : List PyData}, RepA H v d → RepA (ntOf H) v d
  | _, _, .nil => .nil
  | _, _, .cons h a => .cons (rep_nt h) (repA_nt a)
end
theorem callP_run {n : Nat} {F : List PyData → Out Rt} (hn : ∀ ds r, F ds = r → r ≠ .bad → ds.length = n) (σ : St) (H : Hp) (Q : VK) (h : tE G (fCallP F As) σ H Q) : tCallS (spP G.cA n F) (WE G.W) (tAll G As) σ H Q := by
  obtain ⟨Hf, ρ, rp, af⟩ := h
  refine tAll_mono ?_ (stepA rp af)
  rintro vs H1 ⟨as, Hf1, ρ1, n1, ra, af1⟩
  cases ea : atAll As as ρ1 with
  | none => simp only [ea] at af1; exact False.elim af1
  | some xs =>
    simp only [ea] at af1
    have rx := r1a_full n1.rp.sub (rAll1_end n1.rp ra ea)
    have hl : vs.length = n := by
      rw [repA_len rx]
      refine hn xs _ rfl fun z => ?_
      unfold callPM at af1
      rw [z] at af1
      exact af1
    refine ⟨hl, ntOf H1, xs, ⟨ntOf_same, n1.rp.tb, ntOf_nt⟩, repA_nt rx, ?_⟩
    unfold callPM at af1
    cases e : F xs with
    | bad => rw [e] at af1; exact af1.elim
    | exc c =>
      rw [e] at af1
      exact fun H' s => af1 Hf1 H' (nxt_call n1.rp (Same.refl _) (n1.rp.sb.later s) s fun a z => .inl z)
    | ok r =>
      rw [e] at af1
      cases r with
      | ow es => exact False.elim af1
      | fz d =>
        dsimp only at af1
        cases es : sc d with
        | none => rw [es] at af1; exact False.elim af1
        | some u =>
          rw [es] at af1
          intro v Hf' H' h1 h2 h3 h4 h5
          have ev := sc_rep es h5
          subst ev
          exact af1 _ Hf1 H' (nxt_call n1.rp (Same.refl _) (n1.rp.sb.later h3) h3 fun a z => .inl z) (rep_sc es)
theorem fe_calP {F : List PyData → Out Rt} {m : Nat} (hn : ∀ ds r, F ds = r → r ≠ .bad → ds.length = m) (C : Cal X.prog X.w X.K X.mg X.base x k ps (spP G.cA m F)) (hr : Room k X.A) (hg : Gl X x) (tk : Takes X G.W) (ha : PA X (e :: es) (tAll G As)) (hdb : (x == ("__debug__" : Str)) = false := by decide)
    (he : starEach (e :: es) X.env = (false, eval e X.env) :: starEach es X.env := by rfl) (hpl : (backTo pos (starEach es X.env)).any (·.1) = false := by rfl) : PE X (.Call (.Name x p) (e :: es) [] pos) (tE G (fCallP F As)) := by
  obtain ⟨f, fd, F, hm, hk, hb⟩ := C
  exact (pe_callS F hr hg hm hk hb (fun σ => passAt tk σ) ha hdb he hpl).imp (callP_run hn)
/-! ### x = f(..), as it is handed back -/
@[simp] def sSetC (i : Nat) (F : List PyData → Out Rt) (fs : M (List PyData)) : Rho → Fl := fun ρ => (sBnd fs fun ds ρ1 => match F ds with
  | .ok (.fz d) => .nx (ρ1.set i (.fz d))
  | .ok (.ow es) => .nx (ρ1.set i (.ow es))
  | .exc c => .exc c ρ1
  | .bad => .bad) ρ
theorem fs_setC (i : Nat) {y : Str} {pos' sp : Pos} {F : List PyData → Out Rt} {m : Nat} (hN : X.N.Nodup) (hpn : i ∉ pn) (hn : ∀ ds r, F ds = r → r ≠ .bad → ds.length = m) (C : Cal X.prog X.w X.K X.mg X.base x k ps (spP G.cA m F)) (hr : Room k X.A) (hg : Gl X x) (tk : Takes X G.W) (ha : PA X (e :: es) (tA G fs))
    (hi : X.N[i]? = some y := by rfl) (hx : Loc X.env.scope y := by first | exact Or.inl rfl | exact Or.inr rfl) (hdb : (x == ("__debug__" : Str)) = false := by decide)
    (he : starEach (e :: es) X.env = (false, eval e X.env) :: starEach es X.env := by rfl) (hpl : (backTo pos (starEach es X.env)).any (·.1) = false := by rfl) (hs : swapsWith (.Call (.Name x p) (e :: es) [] pos) (some (.Name y pos')) sp.line X.env = pure false := by rfl) (hf : X.fn y = true ∨ X.env.scope.names.lookup y = some .local := by first | exact .inl rfl | exact .inr rfl) :
    PS X (.Assign [.Name y pos'] (.Call (.Name x p) (e :: es) [] pos) sp) (tS G pn (sSetC i F fs)) := by
  obtain ⟨fa, fd, Fo, hm, hk, hb⟩ := C
  refine (ps_set hN hi hx (pe_callS Fo hr hg hm hk hb (fun σ => passAt tk σ) ha hdb he hpl) hs hf).imp fun D σ H ⟨Hf, ρ, rp, af⟩ => ?_
  refine (stepS rp af).mono fun vs H1 ⟨ds, Hf1, ρ1, n1, ra, af1⟩ => ?_
  have hl : vs.length = m := by
    rw [repA_len ra]
    refine hn ds _ rfl fun z => ?_
    simp only [z] at af1
    exact af1
  refine ⟨hl, Hf1, ds, n1.rp.sb, ra, ?_⟩
  cases ef : F ds with
  | bad => simp only [ef] at af1; exact af1
  | exc c =>
    simp only [ef] at af1
    exact fun H' s => af1 σ Hf1 H' (nxt_call n1.rp (Same.refl _) (n1.rp.sb.later s) s fun a z => .inl z) (.refl _ _)
  | ok r =>
    cases r with
    | fz d =>
      simp only [ef] at af1
      intro v Hf' H' h1 h2 h3 h4 h5
      have nn := nxt_call n1.rp h1 h2 h3 h4
      exact af1 _ Hf' H' (nn.trans (nn.rp.put h5)) (pin_set hpn)
    | ow es =>
      simp only [ef] at af1
      rintro v Hf' H' h1 h2 h3 h4 ⟨q, us, rfl, g1, g2, g3, g4⟩
      have nn := nxt_call n1.rp h1 h2 h3 h4
      exact af1 _ Hf' H' (nn.putO g1 g2 (n1.rp.notOwn g1) g3 g4) (pin_set hpn)
/-! ### a comprehension over an owned list, which stays owned -/
open Classical in
noncomputable def lcV (i : Nat) (ds0 : List PyData) (g : PyData → Rho → Option Rho) (tt : M Bool) (fe : M PyData) (vs : List Nat) : List PyData → Rho → Res (List PyData)
  | [], ρ => if look i (wipeR ρ vs) = some (.list ds0) then .ok ([], ρ) else .bad
  | d :: ds, ρ => if look i (wipeR ρ vs) = some (.list ds0) then (match g d (wipeR ρ vs) with
    | none => .bad
    | some ρ1 => match tt ρ1 with
      | .ok (true, ρ2) => (match fe ρ2 with
        | .ok (x, ρ3) => (match lcV i ds0 g tt fe vs ds ρ3 with
          | .ok (xs, ρ4) => .ok (x :: xs, ρ4)
          | _ => .bad)
        | _ => .bad)
      | .ok (false, ρ2) => lcV i ds0 g tt fe vs ds ρ2
      | _ => .bad) else .bad
noncomputable def fLcV (i : Nat) (g : PyData → Rho → Option Rho) (tt : M Bool) (fe : M PyData) (vs : List Nat) : M (List PyData) := fun ρ1 => match look i ρ1 with
  | some (.list ds) => if small ds.length then (match lcV i ds g tt fe vs ds ρ1 with
    | .ok (xs, ρ2) => .ok (xs, rest ρ2 ρ1 vs)
    | _ => .bad) else .bad
  | _ => .bad
theorem iter_v {K : PySem.W.Frag} {σ : St} {ρ : Rho} {Hf H : Hp} {i j : Nat} {q : Addr} {ds : List PyData} (rp : Rp Hf H σ ρ) (hs : σ[i]? = some (some (.ref q))) (h : look i ρ = some (.list ds)) :
    (∀ d, ds[j]? = some d → (Itl K q).go j H ∧ ∀ y H', (Itl K q).yld j H y H' → H' = H ∧ Rep Hf y d) ∧ (ds.length ≤ j → (Itl K q).stop j H) := by
  obtain ⟨v, h1, h2⟩ := look_R1 rp h
  rw [hs] at h1
  cases h1
  obtain ⟨q', vs, e, h3, h4⟩ := h2.lst rp.sub
  cases e
  refine ⟨fun d e => ?_, fun hl => ⟨vs, SqL.of h3, by rw [repA_len h4]; exact hl⟩⟩
  obtain ⟨v, e1, r1⟩ := repA_get h4 e
  refine ⟨⟨vs, v, SqL.of h3, e1⟩, fun y H' ⟨eh, hy⟩ => ⟨eh, ?_⟩⟩
  have z := hy vs (SqL.of h3)
  rw [e1] at z
  cases z
  exact r1
theorem lcV_run {i : Nat} {is vs : List Nat} {g : PyData → Rho → Option Rho} {tt : M Bool} {fe : M PyData} (hiv : i ∉ vs) (hs : ∀ i ∈ is, i ∈ vs) (σ : St) (H : Hp) (Q : VK) (h : tL G (fLcV i g tt fe vs) σ H Q) :
    tLc (iList X.K (tVar i)) (tGt is g) (tT (G0 G) tt) (tE (G0 G) fe) vs σ H Q := by
  obtain ⟨Hf1, ρ1, rp1, af1⟩ := h
  unfold fLcV at af1
  cases el0 : look i ρ1 with
  | none => rw [el0] at af1; exact af1.elim
  | some dd =>
    rw [el0] at af1
    cases dd <;> first | exact False.elim af1 | skip
    rename_i ds
    dsimp only at af1
    obtain ⟨v0, hv0, r0⟩ := look_R1 rp1 el0
    obtain ⟨q, vs0, rfl, hq0, hr0⟩ := r0.lst rp1.sub
    refine ⟨_, hv0, q, rfl, ⟨_, SqL.of hq0⟩, ?_⟩
    intro D0 hD
    cases hsm : small ds.length with
    | false => simp only [hsm] at af1; exact False.elim af1
    | true =>
      simp only [hsm, if_true] at af1
      cases er : lcV i ds g tt fe vs ds ρ1 with
      | exc c _ => rw [er] at af1; exact False.elim af1
      | bad => rw [er] at af1; exact False.elim af1
      | ok x =>
        obtain ⟨xs, ρ2⟩ := x
        rw [er] at af1
        have hDf : Hf1 D0 = none := rp1.sub.free hD
        have w1 := rp1.wipe vs
        have noD : ¬ OwnA (L2.wipe σ vs) (wipeR ρ1 vs) D0 := w1.rp.notOwn hD
        have hsw : (L2.wipe σ vs)[i]? = some (some (.ref q)) := by rw [wipe_get, if_neg hiv]; exact hv0
        refine ⟨fun j m Hc => m = ds.length - j ∧ j ≤ ds.length ∧ ∃ Hfc ρc acc accv ys, Nxt (L2.wipe σ vs) (wipeR ρ1 vs) Hf1 H (L2.wipe σ vs) (wipeR ρc vs) Hfc Hc ∧ Hc D0 = some (.lst accv) ∧ Hfc D0 = none ∧ ¬ OwnA (L2.wipe σ vs) (wipeR ρc vs) D0 ∧
            RepA Hfc accv acc ∧ acc.length ≤ j ∧ lcV i ds g tt fe vs (ds.drop j) ρc = .ok (ys, ρ2) ∧ acc ++ ys = xs,
          ⟨ds.length, by simp, Nat.zero_le _, Hf1, ρ1, [], [], xs, w1.rp.newO hD, upd_same, hDf, noD, .nil, Nat.le_refl _, er, rfl⟩, ?_⟩
        rintro j m Hc ⟨rfl, hj, Hfc, ρc, acc, accv, ys, n, eD, fD, oD, ra, hl, el, ex⟩
        have look_at : look i (wipeR ρc vs) = some (.list ds) := by
          unfold lcV at el
          split at el
          · split at el
            · assumption
            · cases el
          · split at el
            · assumption
            · cases el
        have it := iter_v (K := X.K) (j := j) n.rp hsw look_at
        by_cases hlt : j < ds.length
        · have ed : ds[j]? = some ds[j] := List.getElem?_eq_getElem hlt
          have edr : ds.drop j = ds[j] :: ds.drop (j + 1) := List.drop_eq_getElem_cons hlt
          obtain ⟨hgo, hy⟩ := it.1 _ ed
          rw [edr] at el
          unfold lcV at el
          rw [if_pos look_at] at el
          refine .inr ⟨hgo, fun H' => ∃ Hfc ρc acc accv ys, Nxt (L2.wipe σ vs) (wipeR ρ1 vs) Hf1 H (L2.wipe σ vs) (wipeR ρc vs) Hfc H' ∧ H' D0 = some (.lst accv) ∧ Hfc D0 = none ∧ ¬ OwnA (L2.wipe σ vs) (wipeR ρc vs) D0 ∧
            RepA Hfc accv acc ∧ acc.length ≤ j + 1 ∧ lcV i ds g tt fe vs (ds.drop (j + 1)) ρc = .ok (ys, ρ2) ∧ acc ++ ys = xs, fun H' q => ⟨ds.length - (j + 1), by omega, rfl, hlt, q⟩, fun x H' yx => ?_⟩
          obtain ⟨eH, ry⟩ := hy x H' yx
          subst eH
          have ny := Nxt.refl n.rp
          have carry : ∀ {σ2 : St} {ρ2' : Rho} {Hf2 H2 : Hp}, Nxt (L2.wipe σ vs) (wipeR ρc vs) Hfc H' σ2 ρ2' Hf2 H2 → H2 D0 = some (.lst accv) ∧ Hf2 D0 = none ∧ ¬ OwnA σ2 ρ2' D0 := fun nn => by
            refine ⟨nn.keep _ _ eD NT.lst oD, (nn.fr D0 fD).elim id fun q => q.elim (fun z => ?_) fun z => absurd z oD, fun z => (nn.os D0 z).elim oD fun w => ?_⟩
            · rw [eD] at z; cases z
            · rw [eD] at w; cases w
          cases eg : g ds[j] (wipeR ρc vs) with
          | none => simp only [eg, reduceCtorEq] at el
          | some ρg =>
            simp only [eg] at el
            refine ⟨Hfc, wipeR ρc vs, _, ρg, ny.rp, ry, eg, fun σ2 n2 o2 => ⟨?_, ?_⟩⟩
            · rw [o2.wipe hs, wipe_wipe]
            · have n3 := ny.trans n2
              have ew : L2.wipe σ2 vs = L2.wipe σ vs := by rw [o2.wipe hs, wipe_wipe]
              refine ⟨Hfc, ρg, n3.rp, ?_⟩
              cases et : tt ρg with
              | exc c _ => simp only [et, reduceCtorEq] at el
              | bad => simp only [et, reduceCtorEq] at el
              | ok z =>
                obtain ⟨bt, ρt⟩ := z
                simp only [et] at el
                intro bb Hf4 H4 n4 eb
                subst eb
                have n5 := n3.trans n4
                cases bb with
                | false =>
                  dsimp only at el
                  have n6 := n5.trans (n5.rp.wipe vs)
                  rw [ew] at n6
                  obtain ⟨c1, c2, c3⟩ := carry n6
                  exact ⟨Hf4, ρt, acc, accv, ys, n.trans n6, c1, c2, c3, repA_same n6.sub ra, by omega, el, ex⟩
                | true =>
                  dsimp only at el
                  refine ⟨Hf4, ρt, n5.rp, ?_⟩
                  cases ee : fe ρt with
                  | exc c _ => simp only [ee, reduceCtorEq] at el
                  | bad => simp only [ee, reduceCtorEq] at el
                  | ok z2 =>
                    obtain ⟨y, ρe⟩ := z2
                    simp only [ee] at el
                    intro v Hf7 H7 n7 rv
                    have n8 := n5.trans n7
                    obtain ⟨c1, c2, c3⟩ := carry n8
                    have n9 := n8.trans (n8.rp.wipe vs)
                    rw [ew] at n9
                    obtain ⟨d1, d2, d3⟩ := carry n9
                    refine ⟨accv, c1, ?_, ?_⟩
                    · rw [repA_len ra]
                      exact Nat.lt_of_le_of_lt hl (Nat.lt_trans hlt (small_lt hsm))
                    · cases e5 : lcV i ds g tt fe vs (ds.drop (j + 1)) ρe with
                      | exc c _ => simp only [e5, reduceCtorEq] at el
                      | bad => simp only [e5, reduceCtorEq] at el
                      | ok z3 =>
                        obtain ⟨ys2, ρ5⟩ := z3
                        simp only [e5, Res.ok.injEq, Prod.mk.injEq] at el
                        obtain ⟨e6, e7⟩ := el
                        subst e6 e7
                        refine ⟨Hf7, ρe, acc ++ [y], accv ++ [v], ys2, (n.trans n9).updNew d1 hD d2 d3, upd_same, d2, d3, repA_append (repA_same n9.sub ra) (.cons rv .nil), ?_, e5, ?_⟩
                        · rw [List.length_append, List.length_singleton]; omega
                        · rw [List.append_assoc]; exact ex
        · have ei : j = ds.length := by omega
          subst ei
          rw [List.drop_length] at el
          unfold lcV at el
          rw [if_pos look_at] at el
          cases el
          rw [List.append_nil] at ex
          subst ex
          refine .inl ⟨it.2 (Nat.le_refl _), ?_⟩
          have nr := Nxt.rest rp1 n
          refine af1 D0 accv Hfc Hc nr hD fD (fun z => oD ?_) eD ra
          obtain ⟨j, dd, e1, e2⟩ := z
          rw [rest_get] at e1
          by_cases q : j ∈ vs
          · rw [if_pos q] at e1
            split at e1
            · unfold keepFz at e1
              split at e1 <;> cases e1
            · cases e1
          · rw [if_neg q] at e1
            exact ⟨j, dd, by rw [wipeR_get, if_neg q]; exact e1, by rw [wipe_get, if_neg q]; exact e2⟩
theorem fl_lcV (i : Nat) {x : Str} {p1 : Pos} {elt : Expr} {ifs : List Expr} {scope : Scope} {own : List (Str × Nat)} {is : List Nat} {g : PyData → Rho → Option Rho} {tt : M Bool} {fe : M PyData} (hc : X.calm = true) (hN : X.N.Nodup) (hiv : i ∉ own.map (·.2)) (ok : BlkOk X.N X.env.scope scope own) (his : ∀ i ∈ is, i ∈ own.map (·.2))
    (hg : ∀ (s : Shared) (H : Hp) (C : Addr) (cl : List (Str × Addr)) (fp : List Addr), PG (X.blk s H scope (compEnvC scope cl C X.env) fp) tg (tGt is g)) (ht : ∀ (s : Shared) (H : Hp) (C : Addr) (cl : List (Str × Addr)) (fp : List Addr), PTs (X.blk s H scope (compEnvC scope cl C X.env) fp) ifs (tT (G0 G) tt))
    (he : ∀ (s : Shared) (H : Hp) (C : Addr) (cl : List (Str × Addr)) (fp : List Addr), PE (X.blk s H scope (compEnvC scope cl C X.env) fp) elt (tE (G0 G) fe)) (hi : X.N[i]? = some x := by rfl) (hv : Vis X.env.scope x := by first | exact Or.inl rfl | exact Or.inr (Or.inl rfl) | exact Or.inr (Or.inr rfl)) (hd : (x == ("__debug__" : Str)) = false := by decide)
    (hcd : (x == ("__classdict__" : Str)) = false := by decide) (hs : ∀ y, foldedSetIterable (.Name x p1) X.env y = pure y := by intro _; rfl) :
    PE X (.ListComp elt [⟨tg, .Name x p1, ifs, 0⟩] scope pos) (tL G (fLcV i g tt fe (own.map (·.2)))) := (pe_lc hc hN (pi_list (pe_var hi hv hd hcd)) ok hg ht he hs).imp (lcV_run hiv his)
theorem fs_setLcV (i j : Nat) {x y : Str} {p1 py spos : Pos} {elt : Expr} {ifs : List Expr} {scope : Scope} {own : List (Str × Nat)} {is : List Nat} {g : PyData → Rho → Option Rho} {tt : M Bool} {fe : M PyData} (hc : X.calm = true) (hN : X.N.Nodup) (hpn : j ∉ pn) (hy : X.N[j]? = some y) (hyl : X.env.scope.names.lookup y = some .local)
    (hsw : swapsWith (.ListComp elt [⟨tg, .Name x p1, ifs, 0⟩] scope pos) (some (.Name y py)) spos.line X.env = pure true) (hiv : i ∉ own.map (·.2)) (ok : BlkOk X.N X.env.scope scope own) (his : ∀ i ∈ is, i ∈ own.map (·.2))
    (hg : ∀ (s : Shared) (H : Hp) (C : Addr) (cl : List (Str × Addr)) (fp : List Addr), PG (X.blk s H scope (compEnvC scope cl C X.env) fp) tg (tGt is g)) (ht : ∀ (s : Shared) (H : Hp) (C : Addr) (cl : List (Str × Addr)) (fp : List Addr), PTs (X.blk s H scope (compEnvC scope cl C X.env) fp) ifs (tT (G0 G) tt))
    (he : ∀ (s : Shared) (H : Hp) (C : Addr) (cl : List (Str × Addr)) (fp : List Addr), PE (X.blk s H scope (compEnvC scope cl C X.env) fp) elt (tE (G0 G) fe)) (hi : X.N[i]? = some x := by rfl) (hv : Vis X.env.scope x := by first | exact Or.inl rfl | exact Or.inr (Or.inl rfl) | exact Or.inr (Or.inr rfl)) (hd : (x == ("__debug__" : Str)) = false := by decide)
    (hcd : (x == ("__classdict__" : Str)) = false := by decide) (hs : ∀ y, foldedSetIterable (.Name x p1) X.env y = pure y := by intro _; rfl) :
    PS X (.Assign [.Name y py] (.ListComp elt [⟨tg, .Name x p1, ifs, 0⟩] scope pos) spos) (tS G pn (sSetL j (fLcV i g tt fe (own.map (·.2))))) := by
  refine (ps_setLc hc hN hy hyl hsw (pi_list (pe_var hi hv hd hcd)) ok hg ht he hs).imp fun D σ H h => ?_
  exact lcV_run hiv his σ H _ (rd_setL hpn D σ H h)
end
/-- .. what it gives, where it changes nothing -/
theorem lcV_enc {α : Type} {i : Nat} {ds0 : List PyData} {g : PyData → Rho → Option Rho} {tt : M Bool} {fe : M PyData} {vs : List Nat} {ρ : Rho} (hlk : look i (wipeR ρ vs) = some (.list ds0)) (enc : α → PyData) (c : α → Bool) (h : α → PyData) : ∀ (xs : List α) (ρ0 : Rho), wipeR ρ0 vs = wipeR ρ vs →
    (∀ x ∈ xs, ∃ ρ1, g (enc x) (wipeR ρ vs) = some ρ1 ∧ ∃ ρ2, tt ρ1 = .ok (c x, ρ2) ∧ (c x = true → ∃ ρ3, fe ρ2 = .ok (h x, ρ3) ∧ wipeR ρ3 vs = wipeR ρ vs) ∧ (c x = false → wipeR ρ2 vs = wipeR ρ vs)) →
    ∃ ρ', lcV i ds0 g tt fe vs (xs.map enc) ρ0 = .ok ((xs.filter c).map h, ρ') ∧ wipeR ρ' vs = wipeR ρ vs
  | [], ρ0, h0, _ => ⟨ρ0, by rw [List.map_nil]; unfold lcV; rw [h0, if_pos hlk]; rfl, h0⟩
  | d :: ds, ρ0, h0, hs => by
    obtain ⟨ρ1, e1, ρ2, e2, k1, k2⟩ := hs d List.mem_cons_self
    rw [List.map_cons]
    unfold lcV
    rw [h0, if_pos hlk, e1]
    simp only [e2]
    cases hc : c d with
    | true =>
      obtain ⟨ρ3, e3, w3⟩ := k1 hc
      obtain ⟨ρ', e4, w4⟩ := lcV_enc hlk enc c h ds ρ3 w3 fun x hx => hs x (List.mem_cons_of_mem _ hx)
      refine ⟨ρ', ?_, w4⟩
      simp only [e3, e4]
      rw [List.filter_cons_of_pos hc]
      rfl
    | false =>
      obtain ⟨ρ', e4, w4⟩ := lcV_enc hlk enc c h ds ρ2 (k2 hc) fun x hx => hs x (List.mem_cons_of_mem _ hx)
      refine ⟨ρ', ?_, w4⟩
      simp only [e4]
      rw [List.filter_cons_of_neg (by simp [hc])]
theorem lcv_if {α : Type} {i : Nat} {g : PyData → Rho → Option Rho} {tt : M Bool} {fe : M PyData} {vs : List Nat} {ρ : Rho} (xs : List α) (enc : α → PyData) (c : α → Bool) (h : α → PyData) (hl : look i ρ = some (.list (xs.map enc))) (hlk : look i (wipeR ρ vs) = some (.list (xs.map enc))) (hs : xs.length ≤ 100000)
    (he : ∀ x ∈ xs, ∃ ρ1, g (enc x) (wipeR ρ vs) = some ρ1 ∧ ∃ ρ2, tt ρ1 = .ok (c x, ρ2) ∧ (c x = true → ∃ ρ3, fe ρ2 = .ok (h x, ρ3) ∧ wipeR ρ3 vs = wipeR ρ vs) ∧ (c x = false → wipeR ρ2 vs = wipeR ρ vs)) :
    fLcV i g tt fe vs ρ = .ok ((xs.filter c).map h, rest ρ ρ vs) := by
  obtain ⟨ρ', e, w⟩ := lcV_enc hlk enc c h xs ρ rfl he
  unfold fLcV
  rw [hl]
  simp only [List.length_map, small_of hs, if_true, e, rest_of w]
theorem lcv_all {α : Type} {i : Nat} {g : PyData → Rho → Option Rho} {fe : M PyData} {vs : List Nat} {ρ : Rho} (xs : List α) (enc : α → PyData) (h : α → PyData) (hl : look i ρ = some (.list (xs.map enc))) (hlk : look i (wipeR ρ vs) = some (.list (xs.map enc))) (hs : xs.length ≤ 100000)
    (he : ∀ x ∈ xs, ∃ ρ1, g (enc x) (wipeR ρ vs) = some ρ1 ∧ ∃ ρ3, fe ρ1 = .ok (h x, ρ3) ∧ wipeR ρ3 vs = wipeR ρ vs) :
    fLcV i g (ret true) fe vs ρ = .ok (xs.map h, rest ρ ρ vs) := by
  have q := lcv_if (tt := ret true) xs enc (fun _ => true) h hl hlk hs fun d hd => by
    obtain ⟨ρ1, e1, ρ3, e2, e3⟩ := he d hd
    exact ⟨ρ1, e1, ρ1, rfl, fun _ => ⟨ρ3, e2, e3⟩, fun z => by cases z⟩
  rw [q, List.filter_eq_self.mpr fun _ _ => rfl]
end Fx

namespace Fx
open PySem L2
/-! ### the key of sorted: a lambda over rows of numbers -/
def Kp (h h' : Heap) : Prop := ∀ b o, h.get? b = some o → h'.get? b = some o
theorem Kp.refl (h : Heap) : Kp h h := fun _ _ e => e
theorem Kp.trans {h h1 h2 : Heap} (a : Kp h h1) (b : Kp h1 h2) : Kp h h2 := fun c o e => b c o (a c o e)
/-- e, asked of any heap above h0, gives what P tells; nothing of the heap is lost -/
def KI (prog : Program) (w : World) (A : Around) (env : Env) (h0 : Heap) (e : Expr) (P : Value → Prop) : Prop :=
  ∀ (s : Shared) (E Q : Value → Shared → Prop), Kp h0 s.heap → (∀ v h' tk, Kp s.heap h' → P v → Q v { s with heap := h', toks := tk }) → wpAny (model prog w) A (eval e env) Q E s
def IsI (i : Int) (v : Value) : Prop := ∃ t, v = .int i t
section
variable {prog : Program} {w : World} {A : Around} {env : Env} {h0 : Heap} {a b e : Expr} {pos : Pos} {x : Str} {v : Value} {i j : Int}
theorem ki_local {m : Str → Option Value} (hk : env.scope.kind = .function) (hl : env.kindOf x = some .local) (hn : h0.Ns env.locals m) (hv : m x = some v) (hd : (x == ("__debug__" : Str)) = false) : KI prog w A env h0 (.Name x pos) (· = v) := fun s E Q k h =>
  wpAny_Name (wpAny_loadName_local hk hl (hn.keeps k) hv (h v s.heap s.toks (Kp.refl _) rfl)) hd
theorem ki_free {c : Addr} (hk : env.scope.kind = .function) (hl : env.kindOf x = some .free) (hc : env.cells.lookup x = some c) (hv : h0.IsCell c (some v)) (hd : (x == ("__debug__" : Str)) = false) (hcd : (x == ("__classdict__" : Str)) = false) : KI prog w A env h0 (.Name x pos) (· = v) := fun s E Q k h =>
  wpAny_Name (wpAny_loadName_free hk hl hc (hv.keeps k) (h v s.heap s.toks (Kp.refl _) rfl) hcd) hd
theorem ki_const {n : Nat} : KI prog w A env h0 (.Constant (.int i) n pos) (IsI i) := fun s E Q k h => wpAny_Constant_int (h _ s.heap _ (Kp.refl _) ⟨_, rfl⟩)
theorem KI.imp {P P' : Value → Prop} (h : KI prog w A env h0 e P) (g : ∀ v, P v → P' v) : KI prog w A env h0 e P' := fun s E Q k q => h s E Q k fun v h' tk k' p => q v h' tk k' (g v p)
theorem isList_keeps {h h' : Heap} {l : Addr} {its : Array Value} (x : h.IsList l its) (k : Kp h h') : h'.IsList l its := by
  obtain ⟨o, e, r⟩ := x
  exact ⟨o, k _ _ e, r⟩
theorem ki_item {l : Addr} {its : Array Value} (ha : KI prog w A env h0 a (· = .ref l)) (hb : KI prog w A env h0 b (IsI i)) (hl : h0.IsList l its) (h0' : 0 ≤ i) (h1 : i < 2 ^ 63) (hx : its[i.toNat]? = some v) (hs : PlainIx b) : KI prog w A env h0 (.Subscript a b pos) (· = v) := fun s E Q k h => by
  refine PyProof.Rows.Subscript_ (ha s E _ k fun o h2 tk k2 eo => hb _ E _ (k.trans k2) fun y h3 tk2 k3 ey => ?_)
  subst eo
  obtain ⟨t, rfl⟩ := ey
  exact PyProof.Rows.item_listR (isList_keeps hl ((k.trans k2).trans k3)) h0' h1 hx (h v h3 tk2 (k2.trans k3) rfl) (hs _ _)
theorem ki_itemT {l : Addr} {its : Array Value} {m : Nat} (ha : KI prog w A env h0 a (· = .ref l)) (hb : KI prog w A env h0 b (IsI (m : Int))) (hl : PyProof.Rows.IsTup h0 l its) (h1 : m < 100) (hx : its[m]? = some v) (hs : PlainIx b) : KI prog w A env h0 (.Subscript a b pos) (· = v) := fun s E Q k h => by
  refine PyProof.Rows.Subscript_ (ha s E _ k fun o h2 tk k2 eo => hb _ E _ (k.trans k2) fun y h3 tk2 k3 ey => ?_)
  subst eo
  obtain ⟨t, rfl⟩ := ey
  have ht := hl.keeps ((k.trans k2).trans k3)
  have hsz : m < its.size := by
    rcases Nat.lt_or_ge m its.size with z | z
    · exact z
    · rw [Array.getElem?_eq_none z] at hx; cases hx
  refine PyProof.Rows.subscriptTail_builtinR (x := v) ht.typeIs PyProof.Rows.slot_tuple_getitem.lookup (PyProof.Rows.getItem_tuple (j := m) (Q := fun r s' => r = v ∧ Q r s') ht (by omega) (by omega) ?_ hx ⟨rfl, h v h3 tk2 (k2.trans k3) rfl⟩) (hs _ _)
  rw [seqIndex_of (by omega) (by omega)]
  rfl
theorem ki_sub (ha : KI prog w A env h0 a (IsI i)) (hb : KI prog w A env h0 b (IsI j)) : KI prog w A env h0 (.BinOp a .Sub b pos) (IsI (i - j)) := fun s E Q k h => by
  refine wpAny_BinOp (ha s E _ k fun o h2 tk k2 eo => hb _ E _ (k.trans k2) fun y h3 tk2 k3 ey => ?_)
  obtain ⟨t, rfl⟩ := eo
  obtain ⟨u, rfl⟩ := ey
  exact PySem.P.sub_int (h _ h3 _ (k2.trans k3) ⟨_, rfl⟩)
theorem ki_neg (ha : KI prog w A env h0 a (IsI i)) : KI prog w A env h0 (.UnaryOp .USub a pos) (IsI (-i)) := fun s E Q k h => by
  refine wpAny_UnaryOp (ha s E _ k fun o h2 tk k2 eo => ?_)
  obtain ⟨t, rfl⟩ := eo
  exact PySem.P.neg_int (h _ h2 _ k2 ⟨_, rfl⟩)
end
/-- what stands in the key's tuple: a column, its negative (said in two ways), the place -/
inductive Kx where
  | col (j : Nat)
  | neg (j : Nat)
  | zsub (j : Nat)
  | pl
@[simp] def colI (ds : List PyData) (j : Nat) : Option Int := match ds[j]? with
  | some (.int x) => some x
  | _ => none
@[simp] def Kx.val (ds : List PyData) (k : Int) : Kx → Option Int
  | .col j => colI ds j
  | .neg j => (colI ds j).map fun x => -x
  | .zsub j => (colI ds j).map fun x => 0 - x
  | .pl => some k
/-- the expression, up to places in the text -/
def Kx.is (r a : Str) : Kx → Expr → Prop
  | .col j, e => j < 100 ∧ ∃ n p1 p2 p3 p4 p5, e = .Subscript (.Subscript (.Name r p1) (.Name a p2) p3) (.Constant (.int j) n p4) p5
  | .neg j, e => j < 100 ∧ ∃ n p1 p2 p3 p4 p5 p6, e = .UnaryOp .USub (.Subscript (.Subscript (.Name r p1) (.Name a p2) p3) (.Constant (.int j) n p4) p5) p6
  | .zsub j, e => j < 100 ∧ ∃ n p1 p2 p3 p4 p5 p6 n2 p7, e = .BinOp (.Constant (.int 0) n2 p7) .Sub (.Subscript (.Subscript (.Name r p1) (.Name a p2) p3) (.Constant (.int j) n p4) p5) p6
  | .pl, e => ∃ p, e = .Name a p
inductive KxAll (r a : Str) : List Kx → List Expr → Prop
  | nil : KxAll r a [] []
  | cons {k : Kx} {ks : List Kx} {e : Expr} {es : List Expr} : k.is r a e → KxAll r a ks es → KxAll r a (k :: ks) (e :: es)
@[simp] def valsK (ds : List PyData) (k : Int) : List Kx → Option (List Int)
  | [] => some []
  | x :: xs => (match x.val ds k, valsK ds k xs with
    | some i, some is => some (i :: is)
    | _, _ => none)
/-- the lambda's names, at the heap h: its argument is k, the captured list's row at k is the tuple at q -/
structure LamE (env : Env) (h : Heap) (r a : Str) (k : Int) (l q : Addr) (its us : Array Value) : Prop where
  kind : env.scope.kind = .function
  la : env.kindOf a = some .local
  lr : env.kindOf r = some .free
  na : ∃ m t, h.Ns env.locals m ∧ m a = some (.int k t)
  nr : ∃ c, env.cells.lookup r = some c ∧ h.IsCell c (some (.ref l))
  hl : h.IsList l its
  k0 : 0 ≤ k
  k1 : k < 2 ^ 63
  hx : its[k.toNat]? = some (.ref q)
  hq : PyProof.Rows.IsTup h q us
  da : (a == ("__debug__" : Str)) = false
  dr : (r == ("__debug__" : Str)) = false
  dc : (r == ("__classdict__" : Str)) = false
section
variable {prog : Program} {w : World} {A : Around} {env : Env} {h0 : Heap} {r a : Str} {k : Int} {l q : Addr} {its us : Array Value}
theorem ki_at {p : Pos} (L : LamE env h0 r a k l q its us) : KI prog w A env h0 (.Name a p) (IsI k) := by
  obtain ⟨m, t, h1, h2⟩ := L.na
  exact (ki_local L.kind L.la h1 h2 L.da).imp fun v e => ⟨t, e⟩
theorem ki_col {j n : Nat} {p1 p2 p3 p4 p5 : Pos} {x : Int} (L : LamE env h0 r a k l q its us) (hj : j < 100) (hu : ∃ t, us[j]? = some (.int x t)) : KI prog w A env h0 (.Subscript (.Subscript (.Name r p1) (.Name a p2) p3) (.Constant (.int j) n p4) p5) (IsI x) := by
  obtain ⟨c, h1, h2⟩ := L.nr
  obtain ⟨t, hu⟩ := hu
  exact (ki_itemT (ki_item (ki_free L.kind L.lr h1 h2 L.dr L.dc) (ki_at L) L.hl L.k0 L.k1 L.hx fun _ _ => rfl) ki_const L.hq hj hu fun _ _ => rfl).imp fun v e => ⟨t, e⟩
theorem ki_kx {x : Kx} {e : Expr} {ds : List PyData} {i : Int} (L : LamE env h0 r a k l q its us) (hd : ∀ (j : Nat) (z : Int), ds[j]? = some (PyData.int z) → ∃ t, us[j]? = some (Value.int z t)) (he : x.is r a e) (hv : x.val ds k = some i) : KI prog w A env h0 e (IsI i) := by
  have col : ∀ {j : Nat} {z : Int}, colI ds j = some z → ∃ t, us[j]? = some (Value.int z t) := fun {j z} h => by
    unfold colI at h
    split at h
    · rename_i y hy
      have e : y = z := Option.some.inj h
      exact hd j z (by rw [hy, e])
    · cases h
  cases x with
  | col j =>
    obtain ⟨hj, n, p1, p2, p3, p4, p5, rfl⟩ := he
    exact ki_col L hj (col hv)
  | neg j =>
    obtain ⟨hj, n, p1, p2, p3, p4, p5, p6, rfl⟩ := he
    simp only [Kx.val] at hv
    cases hz : colI ds j with
    | none => rw [hz] at hv; cases hv
    | some z => rw [hz] at hv; cases hv; exact ki_neg (ki_col L hj (col hz))
  | zsub j =>
    obtain ⟨hj, n, p1, p2, p3, p4, p5, p6, n2, p7, rfl⟩ := he
    simp only [Kx.val] at hv
    cases hz : colI ds j with
    | none => rw [hz] at hv; cases hv
    | some z => rw [hz] at hv; cases hv; exact ki_sub ki_const (ki_col L hj (col hz))
  | pl =>
    obtain ⟨p, rfl⟩ := he
    cases hv
    exact ki_at L
theorem kx_plain {x : Kx} {e : Expr} {es : List Expr} (he : x.is r a e) : starEach (e :: es) env = (false, eval e env) :: starEach es env := by
  cases x with
  | col j => obtain ⟨hj, n, p1, p2, p3, p4, p5, rfl⟩ := he; rfl
  | neg j => obtain ⟨hj, n, p1, p2, p3, p4, p5, p6, rfl⟩ := he; rfl
  | zsub j => obtain ⟨hj, n, p1, p2, p3, p4, p5, p6, n2, p7, rfl⟩ := he; rfl
  | pl => obtain ⟨p, rfl⟩ := he; rfl
theorem ki_all {ds : List PyData} {pos : Pos} (L : LamE env h0 r a k l q its us) (hd : ∀ (j : Nat) (z : Int), ds[j]? = some (PyData.int z) → ∃ t, us[j]? = some (Value.int z t)) : ∀ {xs : List Kx} {es : List Expr} {is : List Int}, KxAll r a xs es → valsK ds k xs = some is →
    ∀ (s : Shared) (E : Value → Shared → Prop) (Q : List Value → Shared → Prop), Kp h0 s.heap → (∀ vs h' tk, Kp s.heap h' → PyProof.Rows.IntsAre vs is → Q vs { s with heap := h', toks := tk }) → wpAny (model prog w) A (spliced (backTo pos (starEach es env))) Q E s
  | _, _, is, .nil, hv, s, E, Q, kp, h => by
    cases hv
    exact Calls.spliced_nil (h [] s.heap s.toks (Kp.refl _) .nil)
  | _, _, is, .cons (k := x) (ks := xs) (e := e) (es := es) h1 h2, hv, s, E, Q, kp, h => by
    unfold valsK at hv
    cases e1 : x.val ds k with
    | none => rw [e1] at hv; cases hv
    | some i =>
      cases e2 : valsK ds k xs with
      | none => rw [e1, e2] at hv; cases hv
      | some is' =>
        rw [e1, e2] at hv
        cases hv
        rw [kx_plain h1]
        refine Calls.spliced_cons (ki_kx (prog := prog) (w := w) (A := A) L hd h1 e1 s E _ kp fun v h' tk k1 hi => ?_)
        refine ki_all L hd h2 e2 _ E _ (kp.trans k1) fun vs h2 tk2 k2 hvs => ?_
        obtain ⟨t, rfl⟩ := hi
        exact h _ h2 tk2 (k1.trans k2) (.cons i t hvs)
theorem reads_ints {h : Heap} : ∀ {vs : List Value} {is : List Int}, PyProof.Rows.IntsAre vs is → ReadsAll h vs (is.map PyData.int) []
  | _, _, .nil => .nil
  | _, _, .cons i t r => ReadsAll.cons (as := []) (bs := []) (.int i t) (reads_ints r)
/-- the lambda's body: the key, a tuple of numbers -/
theorem key_body {ds : List PyData} {xs : List Kx} {es : List Expr} {is : List Int} {ctx} {pos : Pos} {s : Shared} {E : Value → Shared → Prop} (L : LamE env h0 r a k l q its us) (hd : ∀ (j : Nat) (z : Int), ds[j]? = some (PyData.int z) → ∃ t, us[j]? = some (Value.int z t)) (hx : KxAll r a xs es) (hv : valsK ds k xs = some is) (hlen : xs.length ≤ 100) (kp : Kp h0 s.heap) :
    wpAny (model prog w) A (eval (.Tuple es ctx pos) env) (fun v s' => PySem.W.KeyPure (.tuple (is.map PyData.int)) s v s') E s := by
  have hl : is.length = xs.length := by
    clear hx hlen
    induction xs generalizing is with
    | nil => cases hv; rfl
    | cons x xs ih =>
      unfold valsK at hv
      cases e1 : x.val ds k with
      | none => rw [e1] at hv; cases hv
      | some i =>
        cases e2 : valsK ds k xs with
        | none => rw [e1, e2] at hv; cases hv
        | some is' => rw [e1, e2] at hv; cases hv; simp [ih e2]
  refine wpAny_Tuple_spliced (ki_all L hd hx hv s E _ kp fun vs h' tk k1 hi => ⟨?_, ?_⟩)
  · have := hi.length
    rw [sizeLine_eq]
    omega
  · refine ⟨_, tk, rfl, fun b o e => Heap.get?_push_of_some _ (k1 b o e), ?_⟩
    exact Reads.tuple (as := []) (Heap.get?_push_size _ rfl) rfl rfl (by rw [List.toList_toArray]; exact reads_ints hi)
end
end Fx

namespace Fx
open PySem L2
variable [Tabz]
/-! ### a lambda is made: what has changed -/
structure Ch (H H1 : Hp) : Prop where
  keep : ∀ b o, H b = some o → NT o → H1 b = some o
  dom : ∀ b, H1 b = none → H b = none
theorem Ch.nxt {σ : St} {ρ : Rho} {Hf H H1 : Hp} (c : Ch H H1) (rp : Rp Hf H σ ρ) (t : Tb H1) : Nxt σ ρ Hf H σ ρ Hf H1 := by
  refine ⟨Same.refl _, fun a o h n _ => c.keep a o h n, fun _ z => .inl z, c.dom, fun _ z => .inl z, rp.grow (Same.refl _) (fun b o e => c.keep b o (rp.sub b o e) fun ps z => rp.nt b ps (z ▸ e)) t rp.nt fun a z => ?_⟩
  obtain ⟨h1, vs, h2⟩ := rp.own z
  exact ⟨h1, by rw [h2]; exact c.keep _ _ h2 NT.lst⟩
section
variable {X : Cx} {pins : List (Addr × Obj)} {σ : St} {H : Hp} {s : Shared}
theorem codeO_nt {c : Addr} {q : Str} : NT (LamX.CodeO c q) := fun ps => LamX.codeO_ne ps
theorem lam_mk {c P : Addr} {params : Arguments} {body : Expr} {scope : Scope} {pos : Pos} {E Q : Value → Shared → Prop} (I : Inv X pins σ H s) (TB : LamX.TabB X.base X.mg c P) (hcode : X.env.code = .ref c) (hm : (P, X.env.qual ++ "<lambda>") ∈ Tabz.T) (hu : ∀ p ∈ Tabz.T, p.1 = P → p.2 = X.env.qual ++ "<lambda>") (hT : Tb H)
    (hdef : defaultsOf params X.env = ([], [])) (hfree : ∀ y ∈ scope.names, y.2 = .free → ∃ c, X.env.cells.lookup y.1 = some c)
    (go : ∀ (f c' : Addr) (pm ctv : Value) (H1 : Hp) (s1 : Shared), Inv X pins σ H1 s1 → Ch H H1 → Tb H1 → s1.heap.get? f = some (PySem.W.kla_obj "<lambda>" (X.env.qual ++ "<lambda>") params body scope (cloFrom X.env.cells scope.names []) pm c' ctv) →
      H1 c' = some (LamX.CodeO c' (X.env.qual ++ "<lambda>")) → Q (.ref f) s1) :
    wpAny (model X.prog X.w) X.A (eval (.Lambda params body scope pos) X.env) Q E s := by
  obtain ⟨ps, tP, tOk, tAll⟩ := hT _ hm
  have gP : s.heap.get? P = some { cls := .none, data := .fields ps } := I.hok P _ tP
  refine PySem.W.kla_eval hdef ?_
  rcases hc : codeAmong pos ps.toList with _ | cv
  · -- a new code object, told in the table
    refine PySem.W.kla_makeFunction (mg := X.mg) (c := c) (P := P) (ps := ps) (closure_ok hfree) I.ok.glob (I.mod.glob.keeps I.bk) hcode (TB.code.keeps I.bk) gP tOk hc TB.gP (TB.bm.keeps I.bk) ?_
    intro c2 ctv h2 tk ext lo hi rec_ tab
    obtain ⟨c3, oc, vs, t, ec, g1, g2, g3⟩ := rec_
    cases ec
    have fr : H c2 = none := I.hok.fresh lo
    have J := LamX.inv_table (t' := tk) (h' := h2.push (PySem.W.kla_obj "<lambda>" (X.env.qual ++ "<lambda>") params body scope (cloFrom X.env.cells scope.names []) ((X.mg "__name__").getD .none) c2 ctv)) (more := #[rawInt pos.line, rawInt pos.col, .ref c2]) I tP
      (fun b o hb e => Heap.get?_push_of_some _ (ext b o hb e)) (Heap.get?_push_of_some _ tab) lo ⟨oc, vs, t, Heap.get?_push_of_some _ g1, g2, g3⟩
    have ch : Ch H (upd (upd H P (.tbl (ps ++ #[rawInt pos.line, rawInt pos.col, .ref c2]))) c2 (LamX.CodeO c2 (X.env.qual ++ "<lambda>"))) := by
      constructor
      · intro b o e n
        have n1 : b ≠ c2 := ne_of_none e fr
        have n2 : b ≠ P := fun z => n ps (by rw [z, tP] at e; exact (Option.some.inj e).symm)
        rw [upd_ne n1, upd_ne n2, e]
      · intro b e
        by_cases z1 : b = c2
        · rw [z1]; exact fr
        · rw [upd_ne z1] at e
          by_cases z2 : b = P
          · rw [z2, upd_same] at e; cases e
          · rw [upd_ne z2] at e; exact e
    refine go _ c2 _ ctv _ _ J ch (fun p hp => ?_) (Heap.get?_push_size _ rfl) upd_same
    have el : (ps ++ #[rawInt pos.line, rawInt pos.col, .ref c2]).toList = ps.toList ++ [rawInt pos.line, rawInt pos.col, .ref c2] := by simp
    by_cases z : p.1 = P
    · rw [z, hu p hp z]
      refine ⟨_, by rw [upd_ne (ne_of_none tP fr), upd_same], by rw [el]; exact PySem.TriplesOk_snoc _ _ _ _ tOk, ?_⟩
      intro q cv hq
      rw [el] at hq
      rcases LamX.among_app _ tOk hq with y | y
      · obtain ⟨c4, y1, y2⟩ := tAll q cv y
        exact ⟨c4, y1, ch.keep _ _ y2 codeO_nt⟩
      · exact ⟨c2, y, upd_same⟩
    · obtain ⟨qs, y1, y2, y3⟩ := hT p hp
      refine ⟨qs, by rw [upd_ne (ne_of_none y1 fr), upd_ne z]; exact y1, y2, ?_⟩
      intro q cv hq
      obtain ⟨c4, y4, y5⟩ := y3 q cv hq
      exact ⟨c4, y4, ch.keep _ _ y5 codeO_nt⟩
  · obtain ⟨c2, rfl, known⟩ := tAll pos cv hc
    refine PySem.W.kla_makeFunctionHit (mg := X.mg) (c := c) (P := P) (ps := ps) (closure_ok hfree) I.ok.glob (I.mod.glob.keeps I.bk) hcode (TB.code.keeps I.bk) gP tOk hc (TB.bm.keeps I.bk) ?_
    intro ctv h2 tk ext hi
    exact go _ c2 _ ctv H _ (I.kept fun b o e => Heap.get?_push_of_some _ (ext b o e)) ⟨fun _ _ e _ => e, fun _ e => e⟩ hT (Heap.get?_push_size _ rfl) known
theorem clo_look {cells : List (Str × Addr)} {names : List (Str × NameKind)} {r : Str} {c : Addr} (hn : names.lookup r = some .free) (hc : cells.lookup r = some c) : (cloFrom cells names []).lookup r = some c := by
  obtain ⟨c2, e⟩ := mem_lookup (cloFrom_has (cells := cells) (acc := []) (PySem.mem_of_lookup hn))
  rcases cloFrom_mem (PySem.mem_of_lookup e) with z | ⟨_, z⟩
  · cases z
  · rw [e, z, hc]
    rfl
end
/-! ### the order of keys -/
@[simp] def lexLe : List Int → List Int → Bool
  | [], _ => true
  | _ :: _, [] => false
  | a :: as, b :: bs => decide (a < b) || (decide (a = b) && lexLe as bs)
@[simp] def keyOf (kx : List Kx) (rows : List PyData) (k : Int) : Option (List Int) := if 0 ≤ k then (match rows[k.toNat]? with
  | some (.tuple ds) => valsK ds k kx
  | _ => none) else none
@[simp] def keyI (kx : List Kx) (rows : List PyData) (k : Int) : List Int := (keyOf kx rows k).getD []
noncomputable def sortKy (kx : List Kx) (rows : List PyData) (ns : List Int) : List Int := ns.mergeSort fun a b => lexLe (keyI kx rows a) (keyI kx rows b)
theorem lexLt_ints : ∀ xs ys : List Int, (!PyProof.Rows.lexLt PyProof.Rows.itemOrd (PySem.W.keyToksAll (ys.map PyData.int)) (PySem.W.keyToksAll (xs.map PyData.int))) = lexLe xs ys := by
  intro xs
  induction xs with
  | nil => intro ys; cases ys <;> simp [PySem.W.keyToksAll, PyProof.Rows.lexLt, PyProof.Rows.itemLt, PySem.W.keyToks]
  | cons x xs ih =>
    intro ys
    cases ys with
    | nil => simp [PySem.W.keyToksAll, PyProof.Rows.lexLt, PyProof.Rows.itemLt, PySem.W.keyToks]
    | cons y ys =>
      simp only [List.map_cons, PySem.W.keyToksAll, PySem.W.keyToks, List.cons_append, List.nil_append, lexLe, ← ih ys]
      simp only [PyProof.Rows.lexLt, PyProof.Rows.itemLt, decide_false, Bool.false_or, Bool.not_false, Bool.true_and, Int.lt_irrefl]
      by_cases h1 : x < y
      · have h2 : ¬ y < x := by omega
        simp [h1, h2]
      · by_cases h2 : x = y
        · simp [h2]
        · have h3 : y < x := by omega
          simp [h1, h2, h3]
theorem dataLe_ints {k : Int → List Int} (a b : Int) : PySem.W.dataLe false (fun n => PyData.tuple ((k n).map PyData.int)) a b = lexLe (k a) (k b) := by
  show (!PyProof.Rows.lexLt PyProof.Rows.itemOrd (PySem.W.keyToks (PyData.tuple ((k b).map PyData.int))) (PySem.W.keyToks (PyData.tuple ((k a).map PyData.int)))) = _
  rw [← lexLt_ints]
  simp only [PySem.W.keyToks]
theorem alike_ints : ∀ xs ys : List Int, PySem.W.alikeAll (xs.map PyData.int) (ys.map PyData.int) = true
  | [], _ => by simp [PySem.W.alikeAll]
  | _ :: _, [] => by simp [PySem.W.alikeAll]
  | x :: xs, y :: ys => by simp [PySem.W.alikeAll, PySem.W.alike, alike_ints xs ys]
theorem depth_ints : ∀ xs : List Int, PyData.depthAll (xs.map PyData.int) ≤ 1
  | [] => by simp [PyData.depthAll]
  | x :: xs => by
    have := depth_ints xs
    simp only [List.map_cons, PyData.depthAll, PyData.depth]
    omega
/-! ### sorted(xs, key=lambda a: (..)) -/
@[simp] noncomputable def oSortK (kx : List Kx) (r d : PyData) : Option (List PyData) := match r, d with
  | .list rs, .list ds => (match asInts ds with
    | some ns => if ns.all fun k => (keyOf kx rs k).isSome then some ((sortKy kx rs ns).map PyData.int) else none
    | none => none)
  | _, _ => none
@[simp] noncomputable def fSortK (i : Nat) (kx : List Kx) (f : M PyData) : M (List PyData) := fun ρ => (bnd f fun d ρ1 => match (ρ1[i]? : Option Sl) with
  | some (.fz r) => opt (oSortK kx r d) ρ1
  | _ => .bad) ρ
theorem oSortK_some {kx : List Kx} {r d : PyData} {xs : List PyData} (h : oSortK kx r d = some xs) : ∃ rs ds ns, r = .list rs ∧ d = .list ds ∧ asInts ds = some ns ∧ (∀ k ∈ ns, ∃ q, keyOf kx rs k = some q) ∧ xs = (sortKy kx rs ns).map PyData.int := by
  unfold oSortK at h
  split at h
  · rename_i rs ds
    split at h
    · rename_i ns hn
      split at h
      · rename_i ha
        refine ⟨rs, ds, ns, rfl, rfl, hn, fun k hk => ?_, (Option.some.inj h).symm⟩
        exact Option.isSome_iff_exists.mp (List.all_eq_true.mp ha k hk)
      · cases h
    · cases h
  · cases h
theorem keyOf_some {kx : List Kx} {rs : List PyData} {k : Int} {q : List Int} (h : keyOf kx rs k = some q) : 0 ≤ k ∧ ∃ ds, rs[k.toNat]? = some (.tuple ds) ∧ valsK ds k kx = some q := by
  unfold keyOf at h
  split at h
  · rename_i h0
    split at h
    · rename_i ds e
      exact ⟨h0, ds, e, h⟩
    · cases h
  · cases h
theorem valsK_len {ds : List PyData} {k : Int} : ∀ {xs : List Kx} {is : List Int}, valsK ds k xs = some is → is.length = xs.length
  | [], is, h => by cases h; rfl
  | x :: xs, is, h => by
    unfold valsK at h
    cases e1 : x.val ds k with
    | none => rw [e1] at h; cases h
    | some i =>
      cases e2 : valsK ds k xs with
      | none => rw [e1, e2] at h; cases h
      | some is' =>
        rw [e1, e2] at h
        cases h
        simp [valsK_len e2]
theorem vals_at : ∀ {vs : List V} {us : List Value} {j : Nat} {v : V}, Vals vs us → vs[j]? = some v → ∃ u, us[j]? = some u ∧ RelV v u
  | _, _, _, _, .nil, e => by simp at e
  | _, _, 0, _, .cons r _, e => by
    have q := Option.some.inj e
    subst q
    exact ⟨_, rfl, r⟩
  | _, _, j + 1, v, .cons _ t, e => vals_at (j := j) (v := v) t e
theorem vals_each : ∀ {ns : List Int} {us : List Value}, Vals (ns.map V.int) us → PySem.W.EachIs (fun v (k : Int) => IsI k v) us ns
  | [], _, .nil => .nil
  | n :: ns, _, .cons r t => by
    obtain ⟨k, rfl⟩ := r
    exact .cons ⟨k, rfl⟩ (vals_each t)
theorem each_vals : ∀ {ns : List Int} {us : List Value}, PySem.W.EachIs (fun v (k : Int) => IsI k v) us ns → Vals (ns.map V.int) us
  | _, _, .nil => .nil
  | _, _, .cons r t => by
    obtain ⟨k, rfl⟩ := r
    exact .cons ⟨k, rfl⟩ (each_vals t)
section
variable {X : Cx} {G : Gx} {e : Expr} {f : M PyData} {pos lp p kp : Pos} {params : Arguments} {scope : Scope} {es : List Expr} {ctx : Nat} {bp : Pos} {r a : Str} {kx : List Kx} {c P : Addr} {k : Nat}
theorem fl_sortK (i : Nat) (hN : X.N[i]? = some r) (hX : KxAll r a kx es) (hk0 : kx ≠ []) (hkl : kx.length ≤ 100) (hg : Gl X "sorted") (hm : X.mg "sorted" = none) (hr : Room k X.A) (TB : LamX.TabB X.base X.mg c P) (hcode : X.env.code = .ref c)
    (hmT : (P, X.env.qual ++ "<lambda>") ∈ Tabz.T) (hu : ∀ p ∈ Tabz.T, p.1 = P → p.2 = X.env.qual ++ "<lambda>") (hdef : defaultsOf params X.env = ([], []))
    (hbind : ∀ (q : Str) (cl : List (Str × Addr)) (pm cv ctv u : Value), bindArgs (PySem.W.kla_fn "<lambda>" q params (.Tuple es ctx bp) scope cl pm cv ctv) ⟨[u], []⟩ = pure [(a, u)])
    (s1 : scope.kind = .function) (s2 : scope.isCoroutine = false) (s3 : scope.isGenerator = false) (s4 : ∀ y ∈ scope.names, y.2 ≠ .cell) (s5 : scope.names.lookup a = some .local) (s6 : scope.names.lookup r = some .free) (s7 : ∀ y ∈ scope.names, y.2 = .free → y.1 = r) (s8 : X.env.scope.names.lookup r = some .cell)
    (he : PE X e (tE G f)) (da : (a == ("__debug__" : Str)) = false := by decide) (dr : (r == ("__debug__" : Str)) = false := by decide) (dc : (r == ("__classdict__" : Str)) = false := by decide)
    (hst : starEach [e] X.env = (false, eval e X.env) :: starEach [] X.env := by rfl) :
    PE X (.Call (.Name "sorted" p) [e] [⟨some "key", .Lambda params (.Tuple es ctx bp) scope lp, kp⟩] pos) (tL G (fSortK i kx f)) := by
  refine ⟨fun pins s σ H Q I h => ?_⟩
  obtain ⟨Hf, ρ, rp, af⟩ := h
  refine wpAny_Call_Name_kw (ld_blt (u := .builtin "sorted") I hg hm (by decide +kernel) ?_)
  refine PyProof.Rows.callWith_kw (env := X.env) (pos := pos) (e := e) (rest := []) (kws := [⟨some "key", .Lambda params (.Tuple es ctx bp) scope lp, kp⟩]) ?_ (by rw [hst]; rfl) (by rw [hst]; rfl) rfl rfl
  rw [hst]
  have go := he.run pins s σ H _ I (stepL (R1 := Rep) rp af)
  refine Calls.spliced_cons (thn go fun v sa ⟨x, H1, I1, rx, d, Hf1, ρ1, n1, rd, af1⟩ => Calls.spliced_nil ?_)
  -- the captured list, the list that is sorted
  cases eslot : (ρ1[i]? : Option Sl) with
  | none => simp only [eslot] at af1; exact False.elim af1
  | some sl =>
    cases sl with
    | un => simp only [eslot] at af1; exact False.elim af1
    | ow ds => simp only [eslot] at af1; exact False.elim af1
    | raw z => simp only [eslot] at af1; exact False.elim af1
    | fz rr =>
      simp only [eslot, opt] at af1
      cases eo : oSortK kx rr d with
      | none => rw [eo] at af1; exact False.elim af1
      | some xs =>
        rw [eo] at af1
        obtain ⟨rs, ds, ns, rfl, rfl, hns, hkey, rfl⟩ := oSortK_some eo
        obtain ⟨rv, hσ, rrep⟩ := slok_fz' (n1.rp.sl i _ eslot)
        cases rd with
        | @lst l vs _ hl1 hl2 =>
          cases rx
          cases rrep with
          | @lst lr ws _ hr1 hr2 =>
            have evs := asInts_rep hl2 hns
            -- the lambda is made
            have hfree : ∀ y ∈ scope.names, y.2 = .free → ∃ c, X.env.cells.lookup y.1 = some c := fun y hy z => by
              rw [s7 y hy z]
              exact I1.ok.has _ (.inl s8)
            refine PyProof.Rows.evalAll_cons ?_
            show wpAny _ _ (do let v ← eval (.Lambda params (.Tuple es ctx bp) scope lp) X.env; standAt pos; pure v) _ _ sa
            refine wpAny_bind (lam_mk (Q := fun v s' => wpAny (model X.prog X.w) X.A (do standAt pos; pure v) _ _ s') I1 TB hcode hmT hu n1.rp.tb hdef hfree fun f' c' pm ctv H2 sb I2 ch t2 hf hc' => ?_)
            refine wpAny_bind (wpAny_standAt (wpAny_pure ?_))
            refine wpAny_evalAll_nil ?_
            have n2 := n1.trans (ch.nxt n1.rp t2)
            have sub2 : Same Hf1 H2 := n2.rp.sub
            obtain ⟨its, rits, plits, lz⟩ := I2.list (SqL.of (sub2 _ _ hl1))
            obtain ⟨wts, rwts, plw, lzw⟩ := I2.list (SqL.of (sub2 _ _ hr1))
            rw [evs] at rits
            show wpAny _ _ (call (.builtin "sorted") [.ref l] [(Str.ofString "key", .ref f')]) _ _ sb
            have kv : ∀ n ∈ ns, ∃ q ds, keyI kx rs n = q ∧ 0 ≤ n ∧ rs[n.toNat]? = some (.tuple ds) ∧ valsK ds n kx = some q := fun n hn => by
              obtain ⟨q, hq⟩ := hkey n hn
              obtain ⟨h1, ds, h2, h3⟩ := keyOf_some hq
              exact ⟨q, ds, by unfold keyI; rw [hq]; rfl, h1, h2, h3⟩
            refine PySem.W.sorted_key_data (b := false) (R := fun v k => IsI k v) (bs := ns) (vs := its) (fun n => PyData.tuple ((keyI kx rs n).map PyData.int)) plits.isList (vals_each rits) ?hal ?hsk ?hL ?hun (PyProof.Rows.ksk_s1 _ _) (fun x => PyProof.Rows.ksk_l1 _ _) (fun x => PyProof.Rows.ksk_t1 _ _) ?turn ?fin
            case hal =>
              intro d1 h1 d2 h2
              obtain ⟨a1, _, rfl⟩ := List.mem_map.mp h1
              obtain ⟨a2, _, rfl⟩ := List.mem_map.mp h2
              simp only [PySem.W.alike, alike_ints]
            case hsk =>
              refine .inl fun d1 h1 => ?_
              obtain ⟨n, hn, rfl⟩ := List.mem_map.mp h1
              obtain ⟨q, ds, e1, _, _, e2⟩ := kv n hn
              rw [e1]
              have := valsK_len e2
              cases q with
              | nil => exact absurd (List.length_eq_zero_iff.mp this.symm) hk0
              | cons z zs => exact ⟨_, _, rfl⟩
            case hL =>
              have := rits.length
              have h3 : vs.length = ns.length := by rw [evs, List.length_map]
              omega
            case hun =>
              intro n hn
              have h1 := hr.un
              have h2 := depth_ints (keyI kx rs n)
              simp only [PyData.depth]
              omega
            case turn =>
              intro v n hv hn h tk kp
              obtain ⟨t, rfl⟩ := hv
              obtain ⟨q, ds, e1, k0, hrow, hvals⟩ := kv n hn
              obtain ⟨wv, ew, rwv⟩ := repA_get hr2 hrow
              cases rwv with
              | @tup qa us _ hq1 hq2 =>
                obtain ⟨uts, ruts, tups, _⟩ := I2.tuple (SqT.of (sub2 _ _ hq1))
                obtain ⟨wu, ewu, rwu⟩ := vals_at rwts ew
                cases rwu
                obtain ⟨m, hnm, hloc⟩ := I2.loc
                obtain ⟨u, ru, cc⟩ := hloc i r (.ref lr) hN hσ (.inr (.inl s8))
                cases ru
                obtain ⟨⟨ocd, cvs, ct, hoc, hdc, hvc⟩, _, _⟩ := I2.hok c' _ hc'
                have J : Inv X pins σ H2 { sb with heap := h, toks := tk } := I2.kept kp
                rcases cc with ⟨hk, _⟩ | ⟨_, c0, hc0, hcell⟩
                · have hk : X.env.scope.names.lookup r = some .local := hk
                  rw [s8] at hk
                  cases hk
                · refine wpAny_call (PySem.W.kla_callFunE (show X.A.depth < recursionLimit from hr.depth) (kp _ _ hf) rfl s2 s3 rfl ⟨c', ocd, cvs, ct, rfl, kp _ _ hoc, hdc, hvc⟩ ?_)
                  rw [hbind]
                  refine wpAny_pure (wpAny_newFunctionEnv (fun y hy => s4 y hy) (fun y hy => by
                    rw [List.mem_singleton.mp hy]
                    exact s5) (fun h₁ hns hsb => ⟨J.nolimit.fresh _ hsb, ?_⟩) s1)
                  have kp1 : Kp h h₁ := fun b o z => hsb.extBut b o (Nat.ne_of_lt (Heap.lt_size z)) (Heap.get?_push_of_some _ z)
                  have kp2 : Kp sb.heap h₁ := fun b o z => kp1 b o (kp b o z)
                  have hlen : n.toNat < rs.length := by
                    rcases Nat.lt_or_ge n.toNat rs.length with z | z
                    · exact z
                    · rw [List.getElem?_eq_none z] at hrow; cases hrow
                  have hz := line63
                  have hws := repA_len hr2
                  refine PySem.W.kla_codeExpr (wpAny_mono (key_body (E := fun _ _ => False) (h0 := h₁) (r := r) (a := a) (k := n) (l := lr) (q := qa) (its := wts.toArray) (us := uts.toArray) ⟨s1, s5, s6, ⟨_, t, hns, by simp⟩, ⟨c0, clo_look s6 hc0, hcell.keeps kp2⟩, isList_keeps plw.isList kp2, k0, by omega, by simpa using ewu, tups.keeps kp2, da, dr, dc⟩ (fun j z hj => ?_) hX hvals hkl (Kp.refl _)) (fun v s' hq => ?_) fun _ _ z => z.elim)
                  · obtain ⟨w1, ew1, rw1⟩ := repA_get hq2 hj
                    cases rw1
                    obtain ⟨w2, ew2, ⟨t2, rfl⟩⟩ := vals_at ruts ew1
                    exact ⟨t2, by simpa using ew2⟩
                  · obtain ⟨h3, tk3, rfl, kp3, rd3⟩ := hq
                    have e1' : keyI kx rs n = q := e1
                    exact ⟨h3, tk3, rfl, kp1.trans kp3, by rw [e1']; exact rd3⟩
            case fin =>
              intro out oc h' tk keep fresh hat hlen each
              have each : PySem.W.EachIs (fun v (k : Int) => IsI k v) out (sortKy kx rs ns) := by
                unfold sortKy
                have e : (fun a b => lexLe (keyI kx rs a) (keyI kx rs b)) = PySem.W.dataLe false (fun n => PyData.tuple ((keyI kx rs n).map PyData.int)) := by
                  funext a b
                  rw [dataLe_ints]
                rw [e]
                exact each
              have rout := each_vals each
              have hp : H2 (sb.heap.objs.size + 1) = none := I2.hok.fresh (Nat.le_succ _)
              refine ⟨.ref (sb.heap.objs.size + 1), upd H2 (sb.heap.objs.size + 1) (.lst ((sortKy kx rs ns).map V.int)), I2.laidN (t' := tk) keep fresh hp ?_, rfl, ?_⟩
              · refine ⟨?_, out, oc, rout, hat⟩
                have := rits.length
                have h3 : vs.length = ns.length := by rw [evs, List.length_map]
                have h4 := rout.length
                rw [List.length_map] at h4
                rw [List.length_map]
                omega
              · have nn := (ch.nxt n1.rp t2).rp.newO (o := .lst ((sortKy kx rs ns).map V.int)) hp
                exact af1 _ _ Hf1 _ ((ch.nxt n1.rp t2).trans nn) (ch.dom _ hp) (sub2.free hp) (fun z => by
                  obtain ⟨_, us, h2⟩ := (ch.nxt n1.rp t2).rp.own z
                  rw [hp] at h2
                  cases h2) upd_same (repA_ints _)
end
end Fx

namespace Fx
open PySem L2
variable [Tabz]
section
variable {X : Cx} {G : Gx} {e a b : Expr} {es : List Expr} {f g : M PyData} {pos : Pos} {A B : Opd} {As : List Opd}
/-! ### the tables, told by the top -/
theorem tp_tab {fa : List Fq} {fn : List He.FnD} {tf : List Str} {K : PySem.W.Frag} {mg : Str → Option Value} {base : Heap} (T : Tp fa fn tf K mg base) {x : Str} (hx : x ∈ tf) : ((He.cT K (x, none)).2, lamQ x) ∈ Tabz.T ∧ ∀ p ∈ Tabz.T, p.1 = (He.cT K (x, none)).2 → p.2 = lamQ x := by
  rw [T.tz]
  refine ⟨List.mem_map.mpr ⟨x, hx, rfl⟩, fun p hp hq => ?_⟩
  obtain ⟨y, hy, rfl⟩ := List.mem_map.mp hp
  have e : ∀ (l : List Str), (l.map fun x => (He.cT K (x, none)).2).Nodup → x ∈ l → y ∈ l → (He.cT K (y, none)).2 = (He.cT K (x, none)).2 → y = x := by
    intro l
    induction l with
    | nil => intro _ h; cases h
    | cons z zs ih =>
      intro nd h1 h2 h3
      rw [List.map_cons, List.nodup_cons] at nd
      rcases List.mem_cons.mp h1 with r1 | r1 <;> rcases List.mem_cons.mp h2 with r2 | r2
      · rw [r1, r2]
      · exact absurd (List.mem_map.mpr ⟨y, r2, by rw [h3, r1]⟩) nd.1
      · exact absurd (List.mem_map.mpr ⟨x, r1, by rw [← h3, r2]⟩) nd.1
      · exact ih nd.2 r1 r2 h3
  rw [e tf T.tnd hx hy hq]
theorem cd_code {K : PySem.W.Frag} {x : Str} {cdv : Value} (h : CdIs K (He.ga K x) cdv) : cdv = .ref (He.cT K (x, none)).1 := by
  obtain ⟨oc, od, fd, osl, lk, ec, c, rfl⟩ := h
  have := He.codeOf_eq (p := (x, none)) lk ec
  show Value.ref c = .ref (He.codeOf K (x, none))
  rw [this]
/-! ### list(range(n)) -/
@[simp] def oLr1 (d : PyData) : Option (List PyData) := match d with
  | .int n => if small n.natAbs then some ((List.range n.toNat).map fun i => PyData.int (i : Nat)) else none
  | _ => none
@[simp] def fLr1 (f : M PyData) : M (List PyData) := fun ρ => (bnd f fun d => opt (oLr1 d)) ρ
theorem fl_lrange1 {p p2 q : Pos} (hc : X.calm = true) (hg : Gl X "list") (hm : X.mg "list" = none) (hg2 : Gl X "range") (hm2 : X.mg "range" = none) (he : PE X e (tE G f)) (na : starEach [e] X.env = (false, eval e X.env) :: starEach [] X.env := by rfl) :
    PE X (.Call (.Name "list" p) [.Call (.Name "range" p2) [e] [] q] [] pos) (tL G (fLr1 f)) := by
  refine (pe_listRg hc hg hm (prg_1 hg2 hm2 he na) rfl).imp fun σ H Q ⟨Hf, ρ, rp, af⟩ => ?_
  refine (stepL (R1 := Rep) rp af).mono fun x H1 ⟨d, Hf1, ρ1, n1, rd, af1⟩ => ?_
  cases d <;> simp only [oLr1, opt] at af1 <;> first | exact False.elim af1 | skip
  rename_i n
  have e := rep_int rd
  subst e
  split at af1
  · rename_i xs hs
    split at hs
    · rename_i hsm
      cases hs
      have h1 : _ ≤ 100000 := of_decide_eq_true hsm
      refine ⟨n, rfl, ⟨by omega, by omega, by omega, by omega, by omega⟩, fun q hq => ?_⟩
      exact af1 q _ Hf1 _ (n1.rp.newO hq) hq (n1.rp.sub.free hq) (fun z => by
        obtain ⟨_, us, h2⟩ := n1.rp.own z
        rw [hq] at h2
        cases h2) upd_same (by
        unfold rgV
        rw [Int.sub_zero]
        have : ((List.range n.toNat).map fun i => V.int (0 + (i : Nat))) = ((List.range n.toNat).map fun i : Nat => (i : Int)).map V.int := by simp
        rw [this]
        have e2 : ((List.range n.toNat).map fun i => PyData.int (i : Nat)) = ((List.range n.toNat).map fun i : Nat => (i : Int)).map PyData.int := by simp
        rw [e2]
        exact repA_ints _)
    · cases hs
  · exact False.elim af1
/-! ### sorted(xs), numbers -/
noncomputable def sortI (ns : List Int) : List Int := ns.mergeSort fun a b => decide (a ≤ b)
theorem sortI_pw (ns : List Int) : (sortI ns).Pairwise (· ≤ ·) := by
  have h := List.pairwise_mergeSort (le := fun a b : Int => decide (a ≤ b)) (fun a b c h1 h2 => by simp at *; omega) (fun a b => by simp; omega) ns
  exact h.imp fun h => of_decide_eq_true h
theorem sortI_perm (ns : List Int) : (sortI ns).Perm ns := List.mergeSort_perm _ _
theorem perm_sorted_eq : ∀ {xs ys : List Int}, xs.Perm ys → xs.Pairwise (· ≤ ·) → ys.Pairwise (· ≤ ·) → xs = ys
  | [], ys, p, _, _ => (List.Perm.nil_eq p)
  | x :: xs, [], p, _, _ => absurd p.length_eq (by simp)
  | x :: xs, y :: ys, p, h1, h2 => by
    rw [List.pairwise_cons] at h1 h2
    have hxy : x = y := by
      have a1 : x ∈ y :: ys := p.mem_iff.mp List.mem_cons_self
      have a2 : y ∈ x :: xs := p.mem_iff.mpr List.mem_cons_self
      rcases List.mem_cons.mp a1 with e | e
      · exact e
      · rcases List.mem_cons.mp a2 with e2 | e2
        · exact e2.symm
        · have := h1.1 y e2
          have := h2.1 x e
          omega
    subst hxy
    rw [perm_sorted_eq (List.Perm.cons_inv p) h1.2 h2.2]
@[simp] noncomputable def oSortI : List PyData → Option (List PyData)
  | [.list ds] => (asInts ds).map fun ns => (sortI ns).map PyData.int
  | _ => none
theorem rd_sortI {K : PySem.W.Frag} : RdL (rSortedI K) oSortI := by
  intro Hf H xs as ds sm ra e Q q
  match as, ra, e with
  | [.list ds], .cons h1 .nil, e =>
    simp only [oSortI] at e
    cases hn : asInts ds with
    | none => rw [hn] at e; cases e
    | some ns =>
      rw [hn] at e
      cases e
      obtain ⟨p, vs, rfl, h2, h3⟩ := h1.lst sm
      refine ⟨p, ns, rfl, by rw [← asInts_rep h3 hn]; exact SqL.of h2, fun ns' l pm pw hl => ?_⟩
      have e : ns' = sortI ns := perm_sorted_eq (pm.trans (sortI_perm ns).symm) pw (sortI_pw ns)
      rw [e]
      exact q l _ hl (repA_ints _)
theorem fl_sortI {p : Pos} (hg : Gl X "sorted") (hm : X.mg "sorted" = none) (ha : PA X (e :: es) (tAll G As)) (he : starEach (e :: es) X.env = (false, eval e X.env) :: starEach es X.env := by rfl) (hpl : (backTo pos (starEach es X.env)).any (·.1) = false := by rfl) : PE X (.Call (.Name "sorted" p) (e :: es) [] pos) (tL G (fLB oSortI As)) :=
  fl_callB cr_sortedI rd_sortI hg hm (by decide +kernel) ha (by decide) (by decide) he hpl
/-! ### xs[::-1] -/
@[simp] def oRev (d : PyData) : Option (List PyData) := match d with
  | .list ds => some ds.reverse
  | _ => none
@[simp] def fRev (f : M PyData) : M (List PyData) := fun ρ => (bnd f fun d => opt (oRev d)) ρ
theorem repA_rev {H : Hp} {vs : List V} {ds : List PyData} (h : RepA H vs ds) : RepA H vs.reverse ds.reverse := by
  induction ds generalizing vs with
  | nil => cases h; exact .nil
  | cons d ds ih =>
    cases h with
    | cons h1 h2 =>
      rw [List.reverse_cons, List.reverse_cons]
      exact repA_append (ih h2) (.cons h1 .nil)
theorem fl_rev {k : Nat} {p1 p2 p3 : Pos} (he : PE X e (tE G f)) : PE X (.Subscript e (.Slice none none (some (.UnaryOp .USub (.Constant (.int 1) k p1) p2)) p3) pos) (tL G (fRev f)) := by
  refine (pe_revL he).imp fun σ H Q ⟨Hf, ρ, rp, af⟩ => ?_
  refine (stepL (R1 := Rep) rp af).mono fun x H1 ⟨d, Hf1, ρ1, n1, rd, af1⟩ => ?_
  cases rd with
  | @lst l vs ds h1 h2 =>
    refine ⟨l, vs, rfl, SqL.of (n1.rp.sub _ _ h1), fun q hq => ?_⟩
    exact af1 q _ Hf1 _ (n1.rp.newO hq) hq (n1.rp.sub.free hq) (fun z => by
      obtain ⟨_, us, h3⟩ := n1.rp.own z
      rw [hq] at h3
      cases h3) upd_same (repA_rev h2)
  | tup _ _ => exact False.elim af1
  | non => exact False.elim af1
  | bl _ => exact False.elim af1
  | int _ => exact False.elim af1
  | str _ => exact False.elim af1
/-! ### max(xs), min(xs) -/
def maxI : List Int → Option Int
  | [] => none
  | x :: xs => some (xs.foldl (fun a b => if b > a then b else a) x)
def minI : List Int → Option Int
  | [] => none
  | x :: xs => some (xs.foldl (fun a b => if b < a then b else a) x)
theorem foldMax : ∀ (xs : List Int) (x : Int), (xs.foldl (fun a b => if b > a then b else a) x ∈ x :: xs) ∧ ∀ y ∈ x :: xs, y ≤ xs.foldl (fun a b => if b > a then b else a) x
  | [], x => ⟨by simp, by simp⟩
  | z :: zs, x => by
    obtain ⟨h1, h2⟩ := foldMax zs (if z > x then z else x)
    simp only [List.foldl_cons]
    refine ⟨?_, fun y hy => ?_⟩
    · rcases List.mem_cons.mp h1 with e | e
      · rw [e]; split <;> simp
      · simp [e]
    · have h3 := h2 _ List.mem_cons_self
      have h4 : x ≤ (if z > x then z else x) := by split <;> omega
      have h5 : z ≤ (if z > x then z else x) := by split <;> omega
      rcases List.mem_cons.mp hy with e | e
      · rw [e]; omega
      · rcases List.mem_cons.mp e with e | e
        · rw [e]; omega
        · exact h2 y (List.mem_cons_of_mem _ e)
theorem foldMin : ∀ (xs : List Int) (x : Int), (xs.foldl (fun a b => if b < a then b else a) x ∈ x :: xs) ∧ ∀ y ∈ x :: xs, xs.foldl (fun a b => if b < a then b else a) x ≤ y
  | [], x => ⟨by simp, by simp⟩
  | z :: zs, x => by
    obtain ⟨h1, h2⟩ := foldMin zs (if z < x then z else x)
    simp only [List.foldl_cons]
    refine ⟨?_, fun y hy => ?_⟩
    · rcases List.mem_cons.mp h1 with e | e
      · rw [e]; split <;> simp
      · simp [e]
    · have h3 := h2 _ List.mem_cons_self
      have h4 : (if z < x then z else x) ≤ x := by split <;> omega
      have h5 : (if z < x then z else x) ≤ z := by split <;> omega
      rcases List.mem_cons.mp hy with e | e
      · rw [e]; omega
      · rcases List.mem_cons.mp e with e | e
        · rw [e]; omega
        · exact h2 y (List.mem_cons_of_mem _ e)
@[simp] def oMaxL : List PyData → Option PyData
  | [.list ds] => (match asInts ds with
    | some ns => (maxI ns).map PyData.int
    | none => none)
  | _ => none
@[simp] def oMinL : List PyData → Option PyData
  | [.list ds] => (match asInts ds with
    | some ns => (minI ns).map PyData.int
    | none => none)
  | _ => none
/-- the greatest is told uniquely -/
theorem rd_maxL {K : PySem.W.Frag} : RdC (rMax K) oMaxL := by
  intro Hf H xs as d sm ra e
  match as, ra, e with
  | [.list ds], .cons h1 .nil, e =>
    simp only [oMaxL] at e
    cases hn : asInts ds with
    | none => rw [hn] at e; cases e
    | some ns =>
      rw [hn] at e
      cases ns with
      | nil => simp [maxI] at e
      | cons x xs =>
        simp only [maxI, Option.map_some, Option.some.injEq] at e
        subst e
        obtain ⟨p, vs, rfl, h2, h3⟩ := h1.lst sm
        obtain ⟨f1, f2⟩ := foldMax xs x
        refine ⟨_, .int _, fun Q q => ⟨p, x :: xs, rfl, by rw [← asInts_rep h3 hn]; exact SqL.of h2, by simp, fun m hm hle => ?_⟩⟩
        have h5 := hle _ f1
        have h6 := f2 m hm
        rw [show m = xs.foldl (fun a b => if b > a then b else a) x from by omega]
        exact q
theorem rd_minL {K : PySem.W.Frag} : RdC (rMin K) oMinL := by
  intro Hf H xs as d sm ra e
  match as, ra, e with
  | [.list ds], .cons h1 .nil, e =>
    simp only [oMinL] at e
    cases hn : asInts ds with
    | none => rw [hn] at e; cases e
    | some ns =>
      rw [hn] at e
      cases ns with
      | nil => simp [minI] at e
      | cons x xs =>
        simp only [minI, Option.map_some, Option.some.injEq] at e
        subst e
        obtain ⟨p, vs, rfl, h2, h3⟩ := h1.lst sm
        obtain ⟨f1, f2⟩ := foldMin xs x
        refine ⟨_, .int _, fun Q q => ⟨p, x :: xs, rfl, by rw [← asInts_rep h3 hn]; exact SqL.of h2, by simp, fun m hm hle => ?_⟩⟩
        have h5 := hle _ f1
        have h6 := f2 m hm
        rw [show m = xs.foldl (fun a b => if b < a then b else a) x from by omega]
        exact q
theorem fe_maxL {p : Pos} (hc : X.calm = true) (hg : Gl X "max") (hm : X.mg "max" = none) (ha : PA X (e :: es) (tAll G As)) (he : starEach (e :: es) X.env = (false, eval e X.env) :: starEach es X.env := by rfl) (hpl : (backTo pos (starEach es X.env)).any (·.1) = false := by rfl) : PE X (.Call (.Name "max" p) (e :: es) [] pos) (tE G (fCB oMaxL As)) := fe_callB (cr_max hc) rd_maxL hg hm (by decide +kernel) ha (by decide) (by decide) he hpl
theorem fe_minL {p : Pos} (hc : X.calm = true) (hg : Gl X "min") (hm : X.mg "min" = none) (ha : PA X (e :: es) (tAll G As)) (he : starEach (e :: es) X.env = (false, eval e X.env) :: starEach es X.env := by rfl) (hpl : (backTo pos (starEach es X.env)).any (·.1) = false := by rfl) : PE X (.Call (.Name "min" p) (e :: es) [] pos) (tE G (fCB oMinL As)) := fe_callB (cr_min hc) rd_minL hg hm (by decide +kernel) ha (by decide) (by decide) he hpl
end
end Fx

namespace Fx
open PySem PyProof.Rows L2
/-! ### set(xs), a list of numbers -/
abbrev sO (w : World) : Obj := { cls := .type "set", dict := none, data := .set #[] 0 (.fresh 0 0 (!w.params.followText "set-order")) }
section
variable {P : Program} {w : World} {A : Around} {E : Value → Shared → Prop} {s : Shared}
theorem set_ofL {l : Addr} {its : Array Value} (ns : List Int) {Q : Value → Shared → Prop} (hh : A.handled = none) (hl : s.heap.IsList l its) (hi : IntsAre its.toList ns) (hb : ns.length + 1 < scanBound)
    (go : ∀ (h2 : Heap) (tk c : Nat), SetR w h2 s.heap.objs.size (fun j => decide (j ∈ ns)) c → c ≤ ns.length → Kp s.heap h2 → Q (.ref s.heap.objs.size) { s with heap := h2, toks := tk }) :
    wpAny (model P w) A (call (.type "set") [.ref l]) Q E s := by
  have sz : its.size = ns.length := by
    have z := IntsAre.length hi
    rwa [Array.length_toList] at z
  obtain ⟨mc, mt, mro⟩ := F.called_set.mro
  have y1 := F.called_set.made
  have y2 := F.called_set.sub
  have y3 := F.called_set.notType
  have y4 := F.called_set.canCreate
  have y5 := F.typeCall_set_1 (.ref l)
  refine wpAny_call (codeAny_of_tree (show wpAny _ _ (callAny (.type "set") _) _ _ _ from ?_))
  refine wpAny_pure ⟨Code.quiet_builtin _ (by decide +kernel), ?_⟩
  refine codeAny_builtin F.entry_type_call ?_
  rw [Around.under_plain (weight_type_call_type "set" [.ref l] []) (by rfl)]
  repeat any_goals first | wp_step | assumption
  refine codeAny_mono (code_set_led1 (.ref l) (E := E) (Q₁ := fun v s' => v = .ref s.heap.objs.size ∧ s' = { s with heap := s.heap.push (sO w) }) ⟨rfl, rfl⟩) fun res s' hres => ?_
  rcases res with er | fl
  · exact hres
  cases fl with
  | ret v =>
    obtain ⟨rfl, rfl⟩ := hres
    have g0 : (s.heap.push (sO w)).get? s.heap.objs.size = some (sO w) := Heap.get?_push_size _ rfl
    have ty : Shared.TypeIs { s with heap := s.heap.push (sO w) } (.ref s.heap.objs.size) "set" := ⟨_, g0, rfl⟩
    have y6 := F.called_set.init.lookup
    have y7 := F.called_set.init.bind (.ref s.heap.objs.size)
    repeat any_goals first | wp_step | assumption
    refine codeAny_mono (codeAny_call_builtin (R := wants (fun v s' => v = .none ∧ ∃ h2 tk c, s' = { s with heap := h2, toks := tk } ∧ SetR w h2 s.heap.objs.size (fun j => decide (j ∈ ns)) c ∧ c ≤ ns.length ∧ Kp s.heap h2) E) F.called_set.init.plain F.entry_set_init (check_set_init_1 ty ?_)) fun res2 s2 hres2 => ?_
    · obtain ⟨⟨k1, k2, k3, k4⟩, gl, c1, n0, c2⟩ := hl
      simp only at c1 c2
      subst c1 c2
      have g1 : (s.heap.push (sO w)).get? l = some { cls := .type "list", dict := k2, data := .seq its n0, slots := k4 } := Heap.get?_push_of_some _ gl
      have y8 := F.sub_list_set
      have y9 := F.sub_list_frozenset
      have y10 : (Value.type "list" == Value.type "dict") = false := by decide
      have isl : (s.heap.push (sO w)).IsList l its := ⟨_, g1, rfl, n0, rfl⟩
      unfold Builtin.«set.__init__»
      unfold noKeywords Builtin.Frozenset.updateFrom
      generalize hz : pyIter = Z
      wp_walk
      subst hz
      refine wpAny_pyIter_list isl (wpAny_bind (wpAny_runValue ?_))
      have lt : l < s.heap.objs.size := Heap.lt_size gl
      have z1 : (s.heap.push (sO w)).objs.size = s.heap.objs.size + 1 := Heap.size_push ..
      have hand : A.in1.in1.in1.handled = none := by simp [hh]
      have ne1 : l ≠ (s.heap.push (sO w)).objs.size := by
        rw [z1]
        exact Nat.ne_of_lt (Nat.lt_succ_of_lt lt)
      have out : s.heap.objs.size ∉ [(s.heap.push (sO w)).objs.size, l] := by
        intro z
        rcases List.mem_cons.mp z with z | z
        · rw [z1] at z; exact absurd z (Nat.ne_of_lt (Nat.lt_succ_self _))
        · exact absurd (List.mem_singleton.mp z) (Nat.ne_of_gt lt)
      have item : ∀ (i : Nat) (v : Value), its[i]? = some v → ∃ k t, ns[i]? = some k ∧ v = .int k t := by
        intro i v hv
        have il : i < ns.length := by rw [← sz]; exact (Array.getElem?_eq_some_iff.mp hv).1
        obtain ⟨t, e⟩ := IntsAre.int_at hi i v (by rw [Array.getElem?_toList]; exact hv)
        refine ⟨ns[i], t, List.getElem?_eq_getElem il, ?_⟩
        rw [e, List.getD_eq_getElem?_getD, List.getElem?_eq_getElem il]
        rfl
      refine set_update_ints ((Walks.list hand _ l ne1 its).toS) s.heap.objs.size out ns sz hb item (its.size - 0) 0 _ (by omega) (Nat.zero_le _) ⟨⟨_, Heap.get?_push_size _ rfl, rfl, rfl⟩, isl.push _⟩ ⟨0, Nat.le_refl 0, setR_new_at (Heap.get?_push_of_some _ g0)⟩ ?_
      rintro ⟨h2, g2, d2, t2, o2⟩ c moved hc hset
      have q1 : g2 = s.gens := moved.gens
      have q2 : d2 = s.drawn := moved.drawn
      have q3 : o2 = s.os := moved.os
      subst q1 q2 q3
      refine wpAny_pure (show wpAny _ _ (PySem.ret Value.none) _ _ _ from wpAny_pure ⟨rfl, h2, t2, c, rfl, hset, by rw [sz] at hc; exact hc, fun b o e => ?_⟩)
      have lb := Heap.lt_size e
      refine moved.heap b o (fun z => ?_) (Heap.get?_push_of_some _ (Heap.get?_push_of_some _ e))
      rcases List.mem_cons.mp z with z | z
      · exact absurd z (Nat.ne_of_lt lb)
      · rw [z1] at z
        exact absurd (List.mem_singleton.mp z) (Nat.ne_of_lt (Nat.lt_succ_of_lt lb))
    · rcases res2 with er2 | fl2
      · exact hres2
      cases fl2 with
      | ret v2 =>
        obtain ⟨rfl, h2, tk, c, rfl, r1, r2, r3⟩ := hres2
        repeat any_goals first | wp_step | assumption
        exact go _ _ _ r1 r2 r3
      | _ => exact hres2.elim
  | _ => exact hres.elim
end
variable [Tabz]
/-! ### sorted(set(xs)), numbers, fewer than 64 -/
noncomputable def dedI (ns : List Int) : List Int := (sortI ns).eraseDups
def tSortSet (K : PySem.W.Frag) (te : TE) : TE := fun σ H Q => te σ H fun x H1 => ∃ (l : Addr) (ns : List Int), x = .ref l ∧ SqL K H1 l (ns.map V.int) ∧ ns.length < 64 ∧
  ∀ (ms : List Int) (p : Addr), ms.Pairwise (· < ·) → (∀ k, k ∈ ms ↔ k ∈ ns) → H1 p = none → Q (.ref p) (upd H1 p (.lst (ms.map V.int)))
section
variable {X : Cx} {G : Gx} {a e : Expr} {f : M PyData} {ta : TE} {p p2 q pos : Pos}
theorem pe_sortSet (hc : X.calm = true) (hg : Gl X "sorted") (hm : X.mg "sorted" = none) (hg2 : Gl X "set") (hm2 : X.mg "set" = none) (ha : PE X a ta) (na : starEach [a] X.env = (false, eval a X.env) :: starEach [] X.env := by rfl) :
    PE X (.Call (.Name "sorted" p) [.Call (.Name "set" p2) [a] [] q] [] pos) (tSortSet X.K ta) := by
  refine ⟨fun pins s σ H Q I h => ?_⟩
  refine Call_ (ld_blt (u := .builtin "sorted") I hg hm (by decide +kernel) ?_)
  refine callWith_builtin1 (args_cons ?_ rfl) rfl rfl
  refine Call_ (ld_blt (u := .type "set") I hg2 hm2 (by decide +kernel) ?_)
  refine callWith_type1 (args_cons (thn (ha.run pins s σ H _ I h) fun v sa ⟨x, H1, I1, rx, l, ns, ex, hq, h64, go⟩ => args_nil ?_) na) na rfl
  subst ex
  cases rx
  obtain ⟨its, r, pl, hz⟩ := I1.list hq
  have hli : IntsAre its ns := RZ.intsAre_vals r
  refine set_ofL ns (I1.ok.hd hc) pl.isList (by simpa using hli) (by unfold scanBound; omega) fun h2 tk c hS hcl kp => ?_
  refine args_nil ?_
  have I2 : Inv X pins σ H1 { sa with heap := h2, toks := tk } := I1.kept kp
  refine sorted_set hS (I2.ok.hd hc) (by omega) fun s' p out c2 ms k2 g o hp hg hi hs hm hl => ?_
  have hlen : (ms.map V.int).length ≤ sizeLine := by rw [List.length_map, hl, sizeLine_eq]; omega
  have hn : H1 p = none := I2.hok.fresh hp
  have J := I2.call (ch := []) (g' := s'.gens) (d' := s'.drawn) (t' := s'.toks) (Un.laid k2 hp hn) (I2.hok.laid k2 hp (o := .lst (ms.map V.int)) ⟨hlen, out.toList, c2, vals_of_ints hi, hg⟩) (by rw [g]; exact I2.bare) (fun _ z => nomatch z)
  have e : s' = { sa with heap := s'.heap, gens := s'.gens, drawn := s'.drawn, toks := s'.toks } := by
    rcases s' with ⟨z1, z2, z3, z4, z5⟩
    have o : z5 = sa.os := o
    rw [o]
  rw [e]
  exact ⟨.ref p, _, J, rfl, go ms p hs (fun k => by rw [hm]; exact ⟨fun z => of_decide_eq_true z, fun z => decide_eq_true z⟩) hn⟩
theorem lt_unique : ∀ {xs ys : List Int}, xs.Pairwise (· < ·) → ys.Pairwise (· < ·) → (∀ k, k ∈ xs ↔ k ∈ ys) → xs = ys
  | [], [], _, _, _ => rfl
  | [], y :: ys, _, _, h => absurd ((h y).mpr List.mem_cons_self) (by simp)
  | x :: xs, [], _, _, h => absurd ((h x).mp List.mem_cons_self) (by simp)
  | x :: xs, y :: ys, h1, h2, h => by
    rw [List.pairwise_cons] at h1 h2
    have hxy : x = y := by
      rcases List.mem_cons.mp ((h x).mp List.mem_cons_self) with e | e
      · exact e
      · rcases List.mem_cons.mp ((h y).mpr List.mem_cons_self) with e2 | e2
        · exact e2.symm
        · have := h1.1 y e2
          have := h2.1 x e
          omega
    subst hxy
    rw [lt_unique h1.2 h2.2 fun k => ?_]
    have hk := h k
    constructor
    · intro z
      rcases List.mem_cons.mp (hk.mp (List.mem_cons_of_mem _ z)) with e | e
      · have := h1.1 k z; omega
      · exact e
    · intro z
      rcases List.mem_cons.mp (hk.mpr (List.mem_cons_of_mem _ z)) with e | e
      · have := h2.1 k z; omega
      · exact e
/-- the members, rising, each once -/
def insU (x : Int) : List Int → List Int
  | [] => [x]
  | y :: ys => if x < y then x :: y :: ys else if x = y then y :: ys else y :: insU x ys
def sortU (ns : List Int) : List Int := ns.foldr insU []
theorem mem_insU {x k : Int} : ∀ {ys : List Int}, k ∈ insU x ys ↔ k = x ∨ k ∈ ys
  | [] => by simp [insU]
  | y :: ys => by
    unfold insU
    split
    · simp
    · split
      · rename_i h; subst h; simp
      · rw [List.mem_cons, mem_insU (ys := ys), List.mem_cons]
        constructor
        · rintro (h | h | h)
          · exact .inr (.inl h)
          · exact .inl h
          · exact .inr (.inr h)
        · rintro (h | h | h)
          · exact .inr (.inl h)
          · exact .inl h
          · exact .inr (.inr h)
theorem pw_insU {x : Int} : ∀ {ys : List Int}, ys.Pairwise (· < ·) → (insU x ys).Pairwise (· < ·)
  | [], _ => by simp [insU]
  | y :: ys, h => by
    have h0 := h
    rw [List.pairwise_cons] at h
    unfold insU
    split
    · rename_i hlt
      rw [List.pairwise_cons]
      refine ⟨fun k hk => ?_, h0⟩
      rcases List.mem_cons.mp hk with e | e
      · omega
      · have := h.1 k e; omega
    · split
      · exact h0
      · rw [List.pairwise_cons]
        refine ⟨fun k hk => ?_, pw_insU h.2⟩
        rcases mem_insU.mp hk with e | e
        · omega
        · exact h.1 k e
theorem sortU_pw : ∀ ns : List Int, (sortU ns).Pairwise (· < ·)
  | [] => List.Pairwise.nil
  | n :: ns => pw_insU (sortU_pw ns)
theorem mem_sortU {k : Int} : ∀ {ns : List Int}, k ∈ sortU ns ↔ k ∈ ns
  | [] => Iff.rfl
  | n :: ns => by
    show k ∈ insU n (sortU ns) ↔ _
    rw [mem_insU, mem_sortU (ns := ns), List.mem_cons]
@[simp] def oSortU (d : PyData) : Option (List PyData) := match d with
  | .list ds => (match asInts ds with
    | some ns => if decide (ns.length < 64) then some ((sortU ns).map PyData.int) else none
    | none => none)
  | _ => none
@[simp] def fSortU (f : M PyData) : M (List PyData) := fun ρ => (bnd f fun d => opt (oSortU d)) ρ
theorem fl_sortU (hc : X.calm = true) (hg : Gl X "sorted") (hm : X.mg "sorted" = none) (hg2 : Gl X "set") (hm2 : X.mg "set" = none) (he : PE X e (tE G f)) (na : starEach [e] X.env = (false, eval e X.env) :: starEach [] X.env := by rfl) :
    PE X (.Call (.Name "sorted" p) [.Call (.Name "set" p2) [e] [] q] [] pos) (tL G (fSortU f)) := by
  refine (pe_sortSet hc hg hm hg2 hm2 he na).imp fun σ H Q ⟨Hf, ρ, rp, af⟩ => ?_
  refine (stepL (R1 := Rep) rp af).mono fun x H1 ⟨d, Hf1, ρ1, n1, rd, af1⟩ => ?_
  cases rd with
  | @lst l vs ds h1 h2 =>
    simp only [oSortU] at af1
    cases hn : asInts ds with
    | none => simp only [hn] at af1; exact False.elim af1
    | some ns =>
      simp only [hn] at af1
      by_cases h64 : ns.length < 64
      · simp only [h64, decide_true, if_true] at af1
        refine ⟨l, ns, rfl, by rw [← asInts_rep h2 hn]; exact SqL.of (n1.rp.sub _ _ h1), h64, fun ms q pw mm hq => ?_⟩
        have e2 : ms = sortU ns := lt_unique pw (sortU_pw ns) fun k => by rw [mm, mem_sortU]
        rw [e2]
        exact af1 q _ Hf1 _ (n1.rp.newO hq) hq (n1.rp.sub.free hq) (fun z => by
          obtain ⟨_, us, h3⟩ := n1.rp.own z
          rw [hq] at h3
          cases h3) upd_same (repA_ints _)
      · simp only [h64, decide_false, Bool.false_eq_true, if_false] at af1
        exact False.elim af1
  | tup _ _ => exact False.elim af1
  | non => exact False.elim af1
  | bl _ => exact False.elim af1
  | int _ => exact False.elim af1
  | str _ => exact False.elim af1
end
/-! ### the key's parts, told by their expressions -/
section
variable {r a : Str} {j n n2 : Nat} {p1 p2 p3 p4 p5 p6 p7 : Pos}
theorem kx_col (h : j < 100) : (Kx.col j).is r a (.Subscript (.Subscript (.Name r p1) (.Name a p2) p3) (.Constant (.int j) n p4) p5) := ⟨h, n, p1, p2, p3, p4, p5, rfl⟩
theorem kx_neg (h : j < 100) : (Kx.neg j).is r a (.UnaryOp .USub (.Subscript (.Subscript (.Name r p1) (.Name a p2) p3) (.Constant (.int j) n p4) p5) p6) := ⟨h, n, p1, p2, p3, p4, p5, p6, rfl⟩
theorem kx_zsub (h : j < 100) : (Kx.zsub j).is r a (.BinOp (.Constant (.int 0) n2 p7) .Sub (.Subscript (.Subscript (.Name r p1) (.Name a p2) p3) (.Constant (.int j) n p4) p5) p6) := ⟨h, n, p1, p2, p3, p4, p5, p6, n2, p7, rfl⟩
theorem kx_pl : Kx.pl.is r a (.Name a p1) := ⟨p1, rfl⟩
end
end Fx

namespace Fx
open PySem L2
variable [Tabz]
/-! ### range(i, j, c) -/
def rngC (lo c : Int) (n : Nat) : List PyData := (List.range n).map fun (i : Nat) => PyData.int (lo + i * c)
theorem iter_rngC {Hf : Hp} {lo c : Int} {n : Nat} : IterOk Hf (Itc lo c n) (rngC lo c n) := by
  intro i Hf1 H σ ρ s1 rp
  refine ⟨fun d e => ?_, fun hl => (by simpa [rngC] using hl : n ≤ i)⟩
  unfold rngC at e
  rw [List.getElem?_map] at e
  cases q : (List.range n)[i]? with
  | none => rw [q] at e; cases e
  | some j =>
    rw [q] at e
    cases e
    obtain ⟨h1, h2⟩ := List.getElem?_eq_some_iff.mp q
    rw [List.length_range] at h1
    rw [List.getElem_range] at h2
    subst h2
    refine ⟨h1, fun x H' ⟨e1, e2⟩ => ?_⟩
    subst e1 e2
    exact ⟨Hf1, .refl rp, .int _⟩
def okRC (i j c : Int) : Bool := decide (0 < c ∧ c.natAbs < 1073741824 ∧ Builtin.Range.small i j c = true ∧ (0 : Int) ≤ Builtin.Range.rangeSize i j c)
def oRng3 : List PyData → Option (List PyData)
  | [.int i, .int j, .int c] => if okRC i j c then some (rngC i c (Builtin.Range.rangeSize i j c).toNat) else none
  | _ => none
section
variable {X : Cx} {G : Gx} {e e2 e3 tg : Expr} {fs : M (List PyData)} {pos p : Pos}
theorem fi_rng3 (hg : Gl X "range") (hm : X.mg "range" = none) (ha : PA X [e, e2, e3] (tA G fs)) (he : starEach [e, e2, e3] X.env = (false, eval e X.env) :: starEach [e2, e3] X.env := by rfl) (hpl : (backTo pos (starEach [e2, e3] X.env)).any (·.1) = false := by rfl) : PI X tg (.Call (.Name "range" p) [e, e2, e3] [] pos) (tI G (fAB oRng3 fs)) := by
  refine (pi_range3 hg hm ha he hpl).imp fun σ H R ⟨Hf, ρ, rp, af⟩ => ?_
  refine (step rp af).mono fun x H1 ⟨as, Hf1, ρ1, n1, ra, af1⟩ => ?_
  unfold oRng3 at af1
  split at af1
  · rename_i i j c
    cases ra with
    | cons h1 h2 => cases h2 with
      | cons h3 h4 => cases h4 with
        | cons h5 h6 =>
          cases h6; cases h1; cases h3; cases h5
          cases hd : okRC i j c with
          | true =>
            simp only [hd] at af1
            obtain ⟨q1, q2, q3, q4⟩ := of_decide_eq_true hd
            exact ⟨i, j, c, _, rfl, ⟨by omega, q2, q3, by omega⟩, fin (R := IterOk) n1.rp af1 iter_rngC⟩
          | false =>
            simp only [hd] at af1
            exact False.elim af1
  · exact False.elim af1
end
end Fx

namespace Fx
open PySem L2
variable [Tabz]
section
variable {X : Cx}
/-! ### is True, is not True, of booleans -/
@[simp] def oIsB : PyData → PyData → Option PyData
  | .bool a, .bool b => some (.bool (decide (a = b)))
  | _, _ => none
@[simp] def oNotB : PyData → PyData → Option PyData
  | .bool a, .bool b => some (.bool (!decide (a = b)))
  | _, _ => none
theorem rd_isB : RdO (fun x y H Q => ∃ a b, x = .bl a ∧ y = .bl b ∧ Q (.bl (decide (a = b))) H) oIsB := by
  intro Hf H x y a b d _ ha hb e
  cases a <;> cases b <;> simp only [oIsB, reduceCtorEq, Option.some.injEq] at e
  subst e
  cases ha.bool; cases hb.bool
  exact ⟨_, .bl _, fun Q q => ⟨_, _, rfl, rfl, q⟩⟩
theorem rd_notB : RdO (fun x y H Q => ∃ a b, x = .bl a ∧ y = .bl b ∧ Q (.bl (!decide (a = b))) H) oNotB := by
  intro Hf H x y a b d _ ha hb e
  cases a <;> cases b <;> simp only [oNotB, reduceCtorEq, Option.some.injEq] at e
  subst e
  cases ha.bool; cases hb.bool
  exact ⟨_, .bl _, fun Q q => ⟨_, _, rfl, rfl, q⟩⟩
/-! ### in, not in, lists and tuples of data -/
def oNotIn : PyData → PyData → Option PyData
  | a, .list ds => if SeqAt.shaped a && SeqAt.shaped (.list ds) then some (.bool (!ds.any fun z => PyData.eqv z a)) else none
  | a, .tuple ds => if SeqAt.shaped a && SeqAt.shaped (.tuple ds) then some (.bool (!ds.any fun z => PyData.eqv z a)) else none
  | _, _ => none
theorem rd_In {K : PySem.W.Frag} : RdO (rInD K) oIn := by
  intro Hf H x y a b d sm ha hb e
  unfold oIn at e
  split at e
  · split at e
    · rename_i hs
      cases e
      exact ⟨_, .bl _, fun Q q => ⟨_, _, rep_dp (ha.full sm), rep_dp (hb.full sm), (Bool.and_eq_true_iff.mp hs).1, (Bool.and_eq_true_iff.mp hs).2, q⟩⟩
    · cases e
  · cases e
def rNotInT (K : PySem.W.Frag) : R2 := fun x y H Q => ∃ d ds, Dp K H x d ∧ Dp K H y (.tuple ds) ∧ SeqAt.shaped d = true ∧ SeqAt.shaped (.tuple ds) = true ∧ Q (.bl (!ds.any fun z => PyData.eqv z d)) H
theorem op_notInT (hu : X.A.units + 65 < cLine) : OpR X (compareOp .NotIn) (rNotInT X.K) := by
  intro pins s σ H x y v u Q I rx ry h
  obtain ⟨d, ds, hd, he, sd, se, q⟩ := h
  obtain ⟨as, r1⟩ := Dp.reads I d x v hd rx
  obtain ⟨bs, r2⟩ := Dp.reads I (.tuple ds) y u he ry
  exact SeqAt.notIn_tuple_reads r2 r1 (SeqAt.canLay_of_shaped se) (SeqAt.canLay_of_shaped sd) (PyProof.Rows.room_in_shaped sd hu) ⟨.bl _, H, I, rfl, q⟩
theorem op_NotIn (hu : X.A.units + 65 < cLine) : OpR X (compareOp .NotIn) (fun x y H Q => rNotInD X.K x y H Q ∨ rNotInT X.K x y H Q) := op_or (op_notInD hu) (op_notInT hu)
theorem rd_NotIn {K : PySem.W.Frag} : RdO (fun x y H Q => rNotInD K x y H Q ∨ rNotInT K x y H Q) oNotIn := by
  intro Hf H x y a b d sm ha hb e
  unfold oNotIn at e
  split at e
  · split at e
    · rename_i hs
      cases e
      exact ⟨_, .bl _, fun Q q => .inl ⟨_, _, rep_dp (ha.full sm), rep_dp (hb.full sm), (Bool.and_eq_true_iff.mp hs).1, (Bool.and_eq_true_iff.mp hs).2, q⟩⟩
    · cases e
  · split at e
    · rename_i hs
      cases e
      exact ⟨_, .bl _, fun Q q => .inr ⟨_, _, rep_dp (ha.full sm), rep_dp (hb.full sm), (Bool.and_eq_true_iff.mp hs).1, (Bool.and_eq_true_iff.mp hs).2, q⟩⟩
    · cases e
  · cases e
end
end Fx

/-! zip of three lists -/
namespace Fx
open PySem PySem.Spec PyProof.Rows L2
/-- the lists at a, b and c as they stand at each turn, the items in new tuples -/
def Itz3 (K : PySem.W.Frag) (a b c : Addr) : It :=
  ⟨fun i H => ∃ (xs ys zs : List V) (x y z : V), SqL K H a xs ∧ SqL K H b ys ∧ SqL K H c zs ∧ xs[i]? = some x ∧ ys[i]? = some y ∧ zs[i]? = some z,
    fun i H v H' => ∃ T x y z, v = .ref T ∧ H T = none ∧ H' = upd H T (.tup [x, y, z]) ∧ (∀ xs, SqL K H a xs → xs[i]? = some x) ∧ (∀ ys, SqL K H b ys → ys[i]? = some y) ∧ ∀ zs, SqL K H c zs → zs[i]? = some z,
    fun i H => ∃ xs ys zs : List V, SqL K H a xs ∧ SqL K H b ys ∧ SqL K H c zs ∧ (xs.length ≤ i ∨ ys.length ≤ i ∨ zs.length ≤ i)⟩
/-- an iterator of a list at or behind its end -/
theorem draws_end {prog : Program} {w : World} {A : Around} (hh : A.handled = none) (it l : Addr) (items : Array Value) (n : Nat) (hn : items.size ≤ n) :
    Draws prog w A it [it, l] n (fun i v => items[i]? = some v) (fun i h => i = n ∧ h.IsListIter it l i ∧ h.IsList l items) where
  live := fun _ _ st => let ⟨o, ho, _⟩ := st.2.1; ⟨o, ho⟩
  frame := fun _ _ _ st hk => ⟨st.1, st.2.1.at fun o e => hk it (by simp) o e, st.2.2.at fun o e => hk l (by simp) o e⟩
  item := fun i s Q E hi st hQ => by
    have := st.1
    omega
  done := fun s Q E st hE => wpAny_nextOf_list_end hh st.2.1 st.2.2 (by simp; omega) hE
/-- an iterator of a list, its state with the index bounded -/
theorem draws_any {prog : Program} {w : World} {A : Around} (hh : A.handled = none) (it l : Addr) (hne : l ≠ it) (items : Array Value) (i : Nat) :
    ∃ (n : Nat) (P : Nat → Value → Prop) (St : Nat → Heap → Prop), Draws prog w A it [it, l] n P St ∧ i ≤ n ∧ (items.size ≤ i → n = i) ∧ (∀ h, h.IsListIter it l i → h.IsList l items → St i h) := by
  by_cases h : items.size ≤ i
  · exact ⟨i, _, _, draws_end hh it l items i h, Nat.le_refl _, fun _ => rfl, fun h a b => ⟨rfl, a, b⟩⟩
  · exact ⟨items.size, _, _, Draws.list hh it l hne items, by omega, fun z => absurd z h, fun h a b => ⟨a, b⟩⟩
theorem turn_zip3 {P : Program} {w : World} {K : PySem.W.Frag} {elts : List Expr} {kk : Nat} {tpos : Pos} {a b c z TI TO i1 i2 i3 : Addr} (D : ZipSep3 z TI TO i1 i2 i3 [i1, a] [i2, b] [i3, c]) (ha : a ≠ i1) (hb : b ≠ i2) (hcc : c ≠ i3) :
    Turn P w K (.Tuple elts kk tpos) (Itz3 K a b c) [z, TI, TO, i1, i2, i3] z (fun i h => IsZip h z TI TO .none ∧ IsTupOf3 h TI (.ref i1) (.ref i2) (.ref i3) ∧ (∃ x y u, IsTupOf3 h TO x y u) ∧ h.IsListIter i1 a i ∧ h.IsListIter i2 b i ∧ h.IsListIter i3 c i) where
  mem := by simp
  obj := fun i h st q hq => by
    obtain ⟨hz, hTI, ⟨x, y, u, hTO⟩, ⟨o1, e1, _, d1⟩, ⟨o2, e2, _, d2⟩, ⟨o3, e3, _, d3⟩⟩ := st
    have e' : q = z ∨ q = TI ∨ q = TO ∨ q = i1 ∨ q = i2 ∨ q = i3 := by simpa using hq
    rcases e' with q | q | q | q | q | q
    · rw [q]; exact ⟨_, hz, fun v q => nomatch q⟩
    · rw [q]; exact ⟨_, hTI, fun v q => nomatch q⟩
    · rw [q]; exact ⟨_, hTO, fun v q => nomatch q⟩
    · rw [q]; exact ⟨o1, e1, fun v q => by rw [d1] at q; cases q⟩
    · rw [q]; exact ⟨o2, e2, fun v q => by rw [d2] at q; cases q⟩
    · rw [q]; exact ⟨o3, e3, fun v q => by rw [d3] at q; cases q⟩
  keep := fun i h h' st k => by
    obtain ⟨hz, hTI, ⟨x, y, u, hTO⟩, h1, h2, h3⟩ := st
    exact ⟨k z (by simp) _ hz, k TI (by simp) _ hTI, ⟨x, y, u, k TO (by simp) _ hTO⟩, h1.at fun o q => k i1 (by simp) o q, h2.at fun o q => k i2 (by simp) o q, h3.at fun o q => k i3 (by simp) o q⟩
  item := by
    intro X hP hw hK hc i pins s σ H E I hf st hg
    subst hP hw hK
    obtain ⟨hz, hTI, ⟨x0, y0, u0, hTO⟩, h1, h2, h3⟩ := st
    obtain ⟨xs, ys, zs, x, y, u, hqx, hqy, hqz, hx, hy, hu⟩ := hg
    obtain ⟨its, rv, p, _⟩ := I.list hqx
    obtain ⟨its2, rv2, p2, _⟩ := I.list hqy
    obtain ⟨its3, rv3, p3, _⟩ := I.list hqz
    obtain ⟨v1, hv1, ru1⟩ := rv.get hx
    obtain ⟨v2, hv2, ru2⟩ := rv2.get hy
    obtain ⟨v3, hv3, ru3⟩ := rv3.get hu
    have hh : X.A.in1.handled = none := I.ok.hd hc
    have W := WalksT.zipD3 (A := X.A) D (Draws.list (prog := X.prog) (w := X.w) hh i1 a ha its.toArray) (Draws.list (prog := X.prog) (w := X.w) hh i2 b hb its2.toArray) (Draws.list (prog := X.prog) (w := X.w) hh i3 c hcc its3.toArray)
    have b1 : i < its.length := (List.getElem?_eq_some_iff.mp hv1).1
    have b2 : i < its2.length := (List.getElem?_eq_some_iff.mp hv2).1
    have b3 : i < its3.length := (List.getElem?_eq_some_iff.mp hv3).1
    refine W.item i s _ _ (by simp; omega) ⟨hz, hTI, ⟨_, _, _, hTO⟩, ⟨h1, p.isList⟩, ⟨h2, p2.isList⟩, ⟨h3, p3.isList⟩⟩ fun T vals h' tk hv hTs hT mid k1 => ⟨_, rfl, ?_⟩
    refine W.go elts kk tpos i T { s with heap := h', toks := tk } _ _ mid fun h'' st'' k2 => ?_
    obtain ⟨w1, w2, w3, f1, f2, f3, rfl⟩ := hv
    have e1 : w1 = v1 := by
      have : its.toArray[i]? = some w1 := f1
      rw [List.getElem?_toArray, hv1] at this
      exact (Option.some.inj this).symm
    have e2 : w2 = v2 := by
      have : its2.toArray[i]? = some w2 := f2
      rw [List.getElem?_toArray, hv2] at this
      exact (Option.some.inj this).symm
    have e3 : w3 = v3 := by
      have : its3.toArray[i]? = some w3 := f3
      rw [List.getElem?_toArray, hv3] at this
      exact (Option.some.inj this).symm
    subst e1 e2 e3
    have nT : T ∉ [z, TO, i1, i2, i3] := W.apart i T h' mid
    have hT2 : h''.IsTuple T #[w1, w2, w3] := hT.at fun o q => k2 T o nT q
    have new : ObjOk X.prog X.w (upd H T (.tup [x, y, u])) h'' T (.tup [x, y, u]) :=
      ⟨by show 3 ≤ sizeLine; decide, [w1, w2, w3], .cons ru1 (.cons ru2 (.cons ru3 .nil)), hT2⟩
    have I1 : Inv X pins σ (upd H T (.tup [x, y, u])) { s with heap := h'', toks := tk } :=
      I.turnedNew (t' := tk) (ch := [z, TI, TO, i1, i2, i3]) (fun q o hb q' => by
        have nb : q ∉ [z, TO, i1, i2, i3] := fun m => hb (by
          have e' : q = z ∨ q = TO ∨ q = i1 ∨ q = i2 ∨ q = i3 := by simpa using m
          rcases e' with e | e | e | e | e <;> simp [e])
        exact k2 q o nb (k1 q o nb q')) hf hTs new
    obtain ⟨hz', hTI', hTO', ⟨h1', _⟩, ⟨h2', _⟩, ⟨h3', _⟩⟩ := st''
    refine ⟨.ref T, _, I1, rfl, ⟨_, x, y, u, rfl, I.hok.fresh hTs, rfl, fun l hl => by rw [I.list_inj hl hqx]; exact hx, fun l hl => by rw [I.list_inj hl hqy]; exact hy, fun l hl => by rw [I.list_inj hl hqz]; exact hu⟩, ⟨hz', hTI', hTO', h1', h2', h3'⟩, fun q hq => ?_⟩
    have hlt : q < s.heap.objs.size := by
      have e' : q = z ∨ q = TI ∨ q = TO ∨ q = i1 ∨ q = i2 ∨ q = i3 := by simpa using hq
      rcases e' with q' | q' | q' | q' | q' | q'
      · rw [q']; exact Heap.lt_size hz
      · rw [q']; exact Heap.lt_size hTI
      · rw [q']; exact Heap.lt_size hTO
      · rw [q']; obtain ⟨_, e1, _⟩ := h1; exact Heap.lt_size e1
      · rw [q']; obtain ⟨_, e2, _⟩ := h2; exact Heap.lt_size e2
      · rw [q']; obtain ⟨_, e3, _⟩ := h3; exact Heap.lt_size e3
    rw [upd_ne (Nat.ne_of_lt (Nat.lt_of_lt_of_le hlt hTs))]
    exact (hf q hq).1
  done := by
    intro X hP hw hK hc i pins s σ H E I hf st hg
    subst hP hw hK
    obtain ⟨hz, hTI, ⟨x0, y0, u0, hTO⟩, h1, h2, h3⟩ := st
    obtain ⟨xs, ys, zs, hqx, hqy, hqz, hend⟩ := hg
    obtain ⟨its, rv, p, _⟩ := I.list hqx
    obtain ⟨its2, rv2, p2, _⟩ := I.list hqy
    obtain ⟨its3, rv3, p3, _⟩ := I.list hqz
    have l1 := rv.length
    have l2 := rv2.length
    have l3 := rv3.length
    have hh : X.A.in1.handled = none := I.ok.hd hc
    obtain ⟨n1, P1, S1, D1, g1, t1, q1⟩ := draws_any (prog := X.prog) (w := X.w) hh i1 a ha its.toArray i
    obtain ⟨n2, P2, S2, D2, g2, t2, q2⟩ := draws_any (prog := X.prog) (w := X.w) hh i2 b hb its2.toArray i
    obtain ⟨n3, P3, S3, D3, g3, t3, q3⟩ := draws_any (prog := X.prog) (w := X.w) hh i3 c hcc its3.toArray i
    have W := WalksT.zipD3 (A := X.A) D D1 D2 D3
    have en : min (min n1 n2) n3 = i := by
      rcases hend with e | e | e
      · have := t1 (by simp; omega); omega
      · have := t2 (by simp; omega); omega
      · have := t3 (by simp; omega); omega
    rw [en] at W
    refine W.done s _ _ ⟨hz, hTI, ⟨_, _, _, hTO⟩, q1 _ h1 p.isList, q2 _ h2 p2.isList, q3 _ h3 p3.isList⟩ fun h' tk k => ⟨rfl, I.turnedL (t' := tk) (ch := [z, TI, TO, i1, i2, i3]) (fun q o hb q' => k q o (fun m => hb (by
      have e' : q = z ∨ q = TO ∨ q = i1 ∨ q = i2 ∨ q = i3 := by simpa using m
      rcases e' with e | e | e | e | e <;> simp [e])) q') hf⟩
  self := fun A i s Q E st h => wpAny_pyIter_zip st.1 h
def iZip3 (K : PySem.W.Frag) (ta : TA) : TI := fun σ H R => ta σ H fun vs H1 => ∃ a b c xs ys zs, vs = [.ref a, .ref b, .ref c] ∧ SqL K H1 a xs ∧ SqL K H1 b ys ∧ SqL K H1 c zs ∧ R (Itz3 K a b c) H1
theorem pi_zip3 {X : Cx} {e e2 e3 : Expr} {ta : TA} {p pos tpos : Pos} {elts : List Expr} {kk : Nat} (hg : Gl X "zip") (hm : X.mg "zip" = none) (ha : PA X [e, e2, e3] ta)
    (hs : starEach [e, e2, e3] X.env = (false, eval e X.env) :: starEach [e2, e3] X.env := by rfl) (hpl : (backTo pos (starEach [e2, e3] X.env)).any (·.1) = false := by rfl) :
    PI X (.Tuple elts kk tpos) (.Call (.Name "zip" p) [e, e2, e3] [] pos) (iZip3 X.K ta) := by
  refine ⟨fun pins s σ H R I h => ?_⟩
  refine Call_ (ld_blt I hg hm PyProof.Rows.boot_zip (PyProof.Rows.callWith_type1 (thn (ha.run pos pins s σ H _ I h) fun us s1 ⟨vs, H1, I1, r1, q1⟩ => ?_) hs hpl))
  obtain ⟨a, b, c, xs, ys, zs, ex, hqx, hqy, hqz, q⟩ := q1
  subst ex
  cases r1 with
  | cons r rr =>
    cases rr with
    | cons r' rr =>
      cases rr with
      | cons r'' rr =>
        cases rr
        cases r
        cases r'
        cases r''
        have fresh6 : ∀ q, q ∈ [s1.heap.objs.size + 5, s1.heap.objs.size + 3, s1.heap.objs.size + 4, s1.heap.objs.size, s1.heap.objs.size + 1, s1.heap.objs.size + 2] → FpOk X pins H1 q := fun q hcm => by
          have e' : q = s1.heap.objs.size + 5 ∨ q = s1.heap.objs.size + 3 ∨ q = s1.heap.objs.size + 4 ∨ q = s1.heap.objs.size ∨ q = s1.heap.objs.size + 1 ∨ q = s1.heap.objs.size + 2 := by simpa using hcm
          have hle : s1.heap.objs.size ≤ q := by
            rcases e' with z | z | z | z | z | z
            · rw [z]; exact Nat.le_add_right _ _
            · rw [z]; exact Nat.le_add_right _ _
            · rw [z]; exact Nat.le_add_right _ _
            · rw [z]; exact Nat.le_refl _
            · rw [z]; exact Nat.le_add_right _ _
            · rw [z]; exact Nat.le_add_right _ _
          exact I1.fpOk hle (I1.hok.fresh hle)
        obtain ⟨its, rv, p1, _⟩ := I1.list hqx
        obtain ⟨its2, rv2, p2, _⟩ := I1.list hqy
        obtain ⟨its3, rv3, p3, _⟩ := I1.list hqz
        have sep := zip_sep3 (N := s1.heap.objs.size) (fp1 := [a]) (fp2 := [b]) (fp3 := [c]) (by intro q hq; rw [List.mem_singleton] at hq; rw [hq]; exact p1.lt) (by intro q hq; rw [List.mem_singleton] at hq; rw [hq]; exact p2.lt) (by intro q hq; rw [List.mem_singleton] at hq; rw [hq]; exact p3.lt)
        refine zip_begins3 (begins_list a its.toArray) (begins_list b its2.toArray) (begins_list c its3.toArray) p1.isList p2.isList p3.isList fun h' hz hTI hTO h1 h2 h3 hsz hk => wpAny_pyIter_zip hz ?_
        have I2 : Inv X pins σ H1 { s1 with heap := h' } := I1.kept (t' := s1.toks) hk
        exact ⟨s1.heap.objs.size + 5, [s1.heap.objs.size + 5, s1.heap.objs.size + 3, s1.heap.objs.size + 4, s1.heap.objs.size, s1.heap.objs.size + 1, s1.heap.objs.size + 2], _, _, H1, rfl, I2, turn_zip3 sep (Nat.ne_of_lt p1.lt) (Nat.ne_of_lt (Nat.lt_of_lt_of_le p2.lt (Nat.le_add_right _ _))) (Nat.ne_of_lt (Nat.lt_of_lt_of_le p3.lt (Nat.le_add_right _ _))), ⟨hz, hTI, ⟨_, _, _, hTO⟩, ⟨_, h1, rfl, rfl⟩, ⟨_, h2, rfl, rfl⟩, ⟨_, h3, rfl, rfl⟩⟩, fresh6, q⟩
variable [Tabz]
def zip3D (xs ys zs : List PyData) : List PyData := ((xs.zip ys).zip zs).map fun (p : (PyData × PyData) × PyData) => PyData.tuple [p.1.1, p.1.2, p.2]
def oZip3 : List PyData → Option (List PyData)
  | [.list xs, .list ys, .list zs] => some (zip3D xs ys zs)
  | _ => none
theorem zip3_get {xs ys zs : List PyData} {i : Nat} {d : PyData} (e : (zip3D xs ys zs)[i]? = some d) : ∃ x y z, xs[i]? = some x ∧ ys[i]? = some y ∧ zs[i]? = some z ∧ d = .tuple [x, y, z] := by
  unfold zip3D at e
  rw [List.getElem?_map] at e
  cases q : ((xs.zip ys).zip zs)[i]? with
  | none => rw [q] at e; cases e
  | some p =>
    rw [q] at e
    cases e
    obtain ⟨h1, h2⟩ := List.getElem?_zip_eq_some.mp q
    obtain ⟨h3, h4⟩ := List.getElem?_zip_eq_some.mp h1
    exact ⟨p.1.1, p.1.2, p.2, h3, h4, h2, rfl⟩
theorem iter_zip3 {K : PySem.W.Frag} {Hf : Hp} {p q r : Addr} {vs ws us : List V} {xs ys zs : List PyData} (h : Hf p = some (.lst vs)) (rr : RepA Hf vs xs) (h' : Hf q = some (.lst ws)) (r' : RepA Hf ws ys) (h'' : Hf r = some (.lst us)) (r'' : RepA Hf us zs) : IterOk Hf (Itz3 K p q r) (zip3D xs ys zs) := by
  intro i Hf1 H σ ρ s1 rp
  have hq : SqL K H p vs := SqL.of (rp.sub _ _ (s1 _ _ h))
  have hq' : SqL K H q ws := SqL.of (rp.sub _ _ (s1 _ _ h'))
  have hq'' : SqL K H r us := SqL.of (rp.sub _ _ (s1 _ _ h''))
  refine ⟨fun d e => ?_, fun hl => ⟨vs, ws, us, hq, hq', hq'', by rw [repA_len rr, repA_len r', repA_len r'']; simp only [zip3D, List.length_map, List.length_zip] at hl; omega⟩⟩
  obtain ⟨x, y, z, e1, e2, e3, rfl⟩ := zip3_get e
  obtain ⟨v, f1, r1⟩ := repA_get rr e1
  obtain ⟨w, f2, r2⟩ := repA_get r' e2
  obtain ⟨u, f3, r3⟩ := repA_get r'' e3
  refine ⟨⟨vs, ws, us, v, w, u, hq, hq', hq'', f1, f2, f3⟩, fun z H' ⟨T, a, b, c, ex, hT, eh, hy, hz, hw⟩ => ?_⟩
  subst ex eh
  have z1 := hy vs hq
  have z2 := hz ws hq'
  have z3 := hw us hq''
  rw [f1] at z1
  rw [f2] at z2
  rw [f3] at z3
  cases z1
  cases z2
  cases z3
  have sn := same_new (o := .tup [v, w, u]) (rp.sub.free hT)
  exact ⟨_, rp.new hT, .tup upd_same (.cons (rep_same sn (rep_same s1 r1)) (.cons (rep_same sn (rep_same s1 r2)) (.cons (rep_same sn (rep_same s1 r3)) .nil)))⟩
section
variable {X : Cx} {G : Gx} {fs : M (List PyData)}
theorem fi_zip3 {e e2 e3 : Expr} {pos p tpos : Pos} {elts : List Expr} {kk : Nat} (hg : Gl X "zip") (hm : X.mg "zip" = none) (ha : PA X [e, e2, e3] (tA G fs)) (hs : starEach [e, e2, e3] X.env = (false, eval e X.env) :: starEach [e2, e3] X.env := by rfl) (hpl : (backTo pos (starEach [e2, e3] X.env)).any (·.1) = false := by rfl) :
    PI X (.Tuple elts kk tpos) (.Call (.Name "zip" p) [e, e2, e3] [] pos) (tI G (fAB oZip3 fs)) := by
  refine (pi_zip3 hg hm ha hs hpl).imp fun σ H R ⟨Hf, ρ, rp, af⟩ => ?_
  refine (step rp af).mono fun x H1 ⟨as, Hf1, ρ1, n1, ra, af1⟩ => ?_
  unfold oZip3 at af1
  split at af1
  · cases ra with
    | cons h1 h2 => cases h2 with
      | cons h3 h4 => cases h4 with
        | cons h5 h6 => cases h6; cases h1 with
          | lst a1 a2 => cases h3 with
            | lst b1 b2 => cases h5 with
              | lst c1 c2 => exact ⟨_, _, _, _, _, _, rfl, SqL.of (n1.rp.sub _ _ a1), SqL.of (n1.rp.sub _ _ b1), SqL.of (n1.rp.sub _ _ c1), fin (R := IterOk) n1.rp af1 (iter_zip3 a1 a2 b1 b2 c1 c2)⟩
  · exact False.elim af1
end
end Fx

/-! sorted(xs), pairs of numbers -/
namespace Fx
open PySem L2
variable [Tabz]
def asPairs : List PyData → Option (List (Int × Int))
  | [] => some []
  | .tuple [.int a, .int b] :: r => (asPairs r).map ((a, b) :: ·)
  | _ => none
def encPr (p : Int × Int) : PyData := .tuple [.int p.1, .int p.2]
theorem asPairs_map : ∀ ps : List (Int × Int), asPairs (ps.map encPr) = some ps
  | [] => rfl
  | p :: ps => by
    show (asPairs (ps.map encPr)).map _ = _
    rw [asPairs_map ps]; rfl
def leP (a b : Int × Int) : Bool := decide (a.1 < b.1 ∨ a.1 = b.1 ∧ a.2 ≤ b.2)
noncomputable def sortP (ps : List (Int × Int)) : List (Int × Int) := ps.mergeSort leP
theorem leP_iff {a b : Int × Int} : leP a b = true ↔ a.1 < b.1 ∨ a.1 = b.1 ∧ a.2 ≤ b.2 := by simp [leP]
theorem sortP_pw (ps : List (Int × Int)) : (sortP ps).Pairwise fun a b => leP a b = true :=
  List.pairwise_mergeSort (le := leP) (fun a b c h1 h2 => by rw [leP_iff] at *; omega) (fun a b => by rw [Bool.or_eq_true, leP_iff, leP_iff]; omega) ps
theorem sortP_perm (ps : List (Int × Int)) : (sortP ps).Perm ps := List.mergeSort_perm _ _
theorem perm_sorted_eqP : ∀ {xs ys : List (Int × Int)}, xs.Perm ys → xs.Pairwise (fun a b => leP a b = true) → ys.Pairwise (fun a b => leP a b = true) → xs = ys
  | [], ys, p, _, _ => (List.Perm.nil_eq p)
  | x :: xs, [], p, _, _ => absurd p.length_eq (by simp)
  | x :: xs, y :: ys, p, h1, h2 => by
    rw [List.pairwise_cons] at h1 h2
    have hxy : x = y := by
      have a1 : x ∈ y :: ys := p.mem_iff.mp List.mem_cons_self
      have a2 : y ∈ x :: xs := p.mem_iff.mpr List.mem_cons_self
      rcases List.mem_cons.mp a1 with e | e
      · exact e
      · rcases List.mem_cons.mp a2 with e2 | e2
        · exact e2.symm
        · have z1 := leP_iff.mp (h1.1 y e2)
          have z2 := leP_iff.mp (h2.1 x e)
          exact Prod.ext (by omega) (by omega)
    subst hxy
    rw [perm_sorted_eqP (List.Perm.cons_inv p) h1.2 h2.2]
@[simp] noncomputable def oSortP : List PyData → Option (List PyData)
  | [.list ds] => (asPairs ds).map fun ps => (sortP ps).map encPr
  | _ => none
/-- the pair that stands at a value -/
def kP (H : Hp) : V → Int × Int
  | .ref t => match H t with
    | some (.tup [.int a, .int b]) => (a, b)
    | _ => (0, 0)
  | _ => (0, 0)
theorem pairs_rep {H : Hp} : ∀ {vs : List V} {ds : List PyData} {ps : List (Int × Int)}, RepA H vs ds → asPairs ds = some ps → (∀ x ∈ vs, ∃ t, x = V.ref t ∧ H t = some (.tup [.int (kP H x).1, .int (kP H x).2])) ∧ vs.map (kP H) = ps
  | [], _, ps, .nil, e => by
    cases e
    exact ⟨fun x hx => (by cases hx), rfl⟩
  | v :: vs, _, ps, .cons (d := d) (ds := ds) h r, e => by
    unfold asPairs at e
    split at e
    · rename_i heq
      cases heq
    · rename_i a b r' heq
      cases heq
      cases q : asPairs ds with
      | none => rw [q] at e; cases e
      | some ps' =>
        rw [q] at e
        cases e
        obtain ⟨h1, h2⟩ := pairs_rep r q
        cases h with
        | tup ht hr =>
          cases hr with
          | cons ha hr =>
            cases hr with
            | cons hb hr =>
              cases hr
              cases ha
              cases hb
              rename_i t
              have ek : kP H (V.ref t) = (a, b) := by
                show (match H t with
                  | some (.tup [.int a, .int b]) => (a, b)
                  | _ => (0, 0)) = (a, b)
                rw [ht]
              refine ⟨fun x hx => ?_, by rw [List.map_cons, ek, h2]⟩
              rcases List.mem_cons.mp hx with z | z
              · subst z
                exact ⟨t, rfl, by rw [ek]; exact ht⟩
              · exact h1 x z
    · cases e
theorem rep_pairs {H : Hp} : ∀ {vs : List V}, (∀ x ∈ vs, ∃ t, x = V.ref t ∧ H t = some (.tup [.int (kP H x).1, .int (kP H x).2])) → RepA H vs ((vs.map (kP H)).map encPr)
  | [], _ => .nil
  | v :: vs, h => by
    obtain ⟨t, e, ht⟩ := h v List.mem_cons_self
    refine .cons ?_ (rep_pairs fun x hx => h x (List.mem_cons_of_mem _ hx))
    rw [e] at ht ⊢
    exact .tup ht (.cons (.int _) (.cons (.int _) .nil))
section
variable {X : Cx} {G : Gx} {e : Expr} {es : List Expr} {As : List Opd} {pos : Pos}
theorem rd_sortP {K : PySem.W.Frag} : RdL (rSortedPO K) oSortP := by
  intro Hf H xs as ds sm ra e Q q
  match as, ra, e with
  | [.list ds], .cons h1 .nil, e =>
    simp only [oSortP] at e
    cases hn : asPairs ds with
    | none => rw [hn] at e; cases e
    | some ps =>
      rw [hn] at e
      cases e
      obtain ⟨p, vs, rfl, h2, h3⟩ := h1.lst sm
      obtain ⟨k1, k2⟩ := pairs_rep h3 hn
      refine ⟨p, vs, kP Hf, rfl, SqL.of h2, fun x hx => ?_, fun ys l srt stb hl => ?_⟩
      · obtain ⟨t, e, ht⟩ := k1 x hx
        exact ⟨t, e, sm _ _ ht⟩
      · have ky : ∀ x ∈ ys, ∃ t, x = V.ref t ∧ Hf t = some (.tup [.int (kP Hf x).1, .int (kP Hf x).2]) := fun x hx => k1 x (stb.perm.mem_iff.mp hx)
        have e : ys.map (kP Hf) = sortP ps := by
          refine perm_sorted_eqP ((stb.perm.map (kP Hf)).trans ?_) ?_ (sortP_pw ps)
          · rw [k2]; exact (sortP_perm ps).symm
          · rw [List.pairwise_map]
            refine List.Pairwise.imp (fun {a b} h => ?_) srt
            have := SrtO.lexB_no.mp h
            rw [leP_iff]
            omega
        have r := rep_pairs ky
        rw [e] at r
        exact q l _ hl r
theorem fl_sortP {p : Pos} (hg : Gl X "sorted") (hm : X.mg "sorted" = none) (ha : PA X (e :: es) (tAll G As)) (he : starEach (e :: es) X.env = (false, eval e X.env) :: starEach es X.env := by rfl) (hpl : (backTo pos (starEach es X.env)).any (·.1) = false := by rfl) : PE X (.Call (.Name "sorted" p) (e :: es) [] pos) (tL G (fLB oSortP As)) :=
  fl_callB cr_sortedPO rd_sortP hg hm (by decide +kernel) ha (by decide) (by decide) he hpl
end
end Fx

/-! the meanings of defs that stand in many laws; written by gen.py -/
namespace Mm
open PySem L2 Fx
variable [Tabz]
noncomputable def g_need_day : Rho → Fl := (sIf (tOrM (fB (fOp oLt (.v 0) (.e (ret (.int 1))))) (fB (fOp oGt (.v 0) (.e (ret (.int 999)))))) (sRaise "BadDay") sNil)
noncomputable abbrev F_need_day := runP 1 g_need_day 1
noncomputable def g_need_term : Rho → Fl := (sIf (tOrM (fB (fOp oLt (.v 0) (.e (ret (.int 0))))) (fB (fOp oGt (.v 0) (.e (ret (.int 400)))))) (sRaise "BadTerm") sNil)
noncomputable abbrev F_need_term := runP 1 g_need_term 1
noncomputable def g_is_stretch : Rho → Fl := (sSeq (sAsg (gTp (gsCons (gSet 1) (gsCons (gSet 2) gsNil))) (fVar 0))
    (sRet (vAnd (fOp oLe (.e (ret (.int 1))) (.v 1)) (vAnd (fOp oLe (.v 1) (.v 2)) (fOp oLe (.v 2) (.e (ret (.int 999))))))))
noncomputable abbrev F_is_stretch := runP 3 g_is_stretch 1
noncomputable def g_need_stretch : Rho → Fl := (sIf (tNotM (fB (fCall F_is_stretch (fCons (fVar 0) fNil)))) (sRaise "BadStretch") sNil)
noncomputable abbrev F_need_stretch := runP 1 g_need_stretch 1
noncomputable def g_reach : Rho → Fl := (sSeq (sDrop (fCall F_need_day (fCons (fVar 0) fNil)))
    (sSeq (sDrop (fCall F_need_term (fCons (fVar 1) fNil)))
    (sRet (fTup (fCons (fCB oMax2 [(.e (ret (.int 1))), (.e (fOp oSub (.v 0) (.v 1)))]) (fCons (fVar 0) fNil))))))
noncomputable abbrev F_reach := runP 2 g_reach 2
noncomputable def g_goes_against : Rho → Fl := (sSeq (sAsg (gTp (gsCons (gSet 3) (gsCons (gSet 4) gsNil))) (fVar 0))
    (sRet (vAnd (fOp oLe (.v 3) (.v 1)) (fOp oLe (.v 1) (.e (fOp oAdd (.v 4) (.v 2)))))))
noncomputable abbrev F_goes_against := runP 5 g_goes_against 3
noncomputable def g_meets : Rho → Fl := (sSeq (sDrop (fCall F_need_stretch (fCons (fVar 0) fNil)))
    (sSeq (sDrop (fCall F_need_day (fCons (fVar 1) fNil)))
    (sSeq (sDrop (fCall F_need_term (fCons (fVar 2) fNil)))
    (sRet (fCall F_goes_against (fCons (fVar 0) (fCons (fVar 1) (fCons (fVar 2) fNil))))))))
noncomputable abbrev F_meets := runP 3 g_meets 3
noncomputable def g_l_pick : Rho → Fl := (sSeq (sIf (tAndM (fB (fOp oLt (.e (fOp oIx (.v 0) (.e (ret (.int 2))))) (.v 1))) (fB (fOp oLt (.e (fOp oIx (.v 0) (.e (ret (.int 1))))) (.e (fCB oLen [(.e (fOp oIx (.v 0) (.e (ret (.int 0)))))]))))) (sSeq (sSet 2 (fOp oIx (.e (fOp oIx (.v 0) (.e (ret (.int 0))))) (.e (fOp oIx (.v 0) (.e (ret (.int 1)))))))
    (sSeq (sSetIx 0 (fOp oAdd (.e (fOp oIx (.v 0) (.e (ret (.int 1))))) (.e (ret (.int 1)))) (ret (.int 1)))
    (sSeq (sSetIx 0 (ret (.int 0)) (ret (.int 2)))
    (sIf (fB (fOp oGe (.v 2) (.e (fOp oPow (.e (ret (.int 10))) (.e (ret (.int 18))))))) (sSetIx 0 (fVar 2) (ret (.int 2))) (sSetIx 0 (fOp oMod (.e (fOp oAdd (.e (fOp oIx (.v 0) (.e (ret (.int 3))))) (.v 2))) (.e (ret (.int 1000000007)))) (ret (.int 3))))))) sNil)
    (sSeq (sIf (fB (fOp oGe (.e (fOp oIx (.v 0) (.e (ret (.int 2))))) (.v 1))) (sSeq (sSet 3 (fOp oMod (.e (fOp oIx (.v 0) (.e (ret (.int 2))))) (.v 1)))
    (sSeq (sSetIx 0 (fOp oDiv (.e (fOp oIx (.v 0) (.e (ret (.int 2))))) (.v 1)) (ret (.int 2)))
    (sRetV0 3))) sNil)
    (sSeq (sSetIx 0 (fOp oAdd (.e (fOp oIx (.v 0) (.e (ret (.int 4))))) (.e (ret (.int 1)))) (ret (.int 4)))
    (sSeq (sSetIx 0 (fOp oMod (.e (fOp oAdd (.e (fOp oAdd (.e (fOp oPow (.e (fOp oIx (.v 0) (.e (ret (.int 3))))) (.e (ret (.int 3))))) (.e (fOp oMul (.e (ret (.int 40503))) (.e (fOp oIx (.v 0) (.e (ret (.int 4))))))))) (.e (ret (.int 17))))) (.e (ret (.int 1000000007)))) (ret (.int 3)))
    (sRet (fOp oMod (.e (fOp oDiv (.e (fOp oIx (.v 0) (.e (ret (.int 3))))) (.e (ret (.int 5))))) (.v 1)))))))
noncomputable abbrev F_l_pick := runI 4 g_l_pick 2
noncomputable def g_l_some_term : Rho → Fl := (sRet (fOp oIx (.e (fTup (fCons (ret (.int 0)) (fCons (ret (.int 1)) (fCons (ret (.int 3)) (fCons (fCallI 0 F_l_pick (fCons (ret (.int 12)) fNil)) (fCons (fCallI 0 F_l_pick (fCons (ret (.int 60)) fNil)) (fCons (ret (.int 400)) fNil)))))))) (.e (fCallI 0 F_l_pick (fCons (ret (.int 6)) fNil)))))
noncomputable abbrev F_l_some_term := runI 1 g_l_some_term 1
noncomputable def g_l_odd : Rho → Fl := (sSeq (sSet 1 (fLst (fLs (fCons (fUn oNeg (.e (fOp oPow (.e (ret (.int 10))) (.e (ret (.int 29)))))) (fCons (fUn oNeg (.e (ret (.int 1)))) (fCons (ret (.int 0)) (fCons (ret (.int 1)) (fCons (ret (.int 40)) (fCons (ret (.int 41)) (fCons (ret (.int 100)) (fCons (ret (.int 101)) (fCons (ret (.int 400)) (fCons (ret (.int 401)) (fCons (ret (.int 999)) (fCons (ret (.int 1000)) (fCons (fOp oPow (.e (ret (.int 10))) (.e (ret (.int 6)))) (fCons (fOp oAdd (.e (fOp oPow (.e (ret (.int 10))) (.e (ret (.int 6))))) (.e (ret (.int 1)))) (fCons (fOp oPow (.e (ret (.int 10))) (.e (ret (.int 10)))) (fCons (fOp oAdd (.e (fOp oPow (.e (ret (.int 10))) (.e (ret (.int 10))))) (.e (ret (.int 1)))) fNil)))))))))))))))))))
    (sSeq (sSet 1 (fLst (fOpL oCat (.v 1) (.e (fLst (fLs (fCons (fOp oPow (.e (ret (.int 10))) (.e (ret (.int 29)))) fNil)))))))
    (sRet (fOp oIx (.v 1) (.e (fCallI 0 F_l_pick (fCons (fCB oLen [(.v 1)]) fNil)))))))
noncomputable abbrev F_l_odd := runI 2 g_l_odd 1
noncomputable def g_l_same (Fr : List PyData → Out Rt) : Rho → Fl := (sSeq (sIf (fB (fUn oIsN (.v 1))) (sRet (fUn oIsN (.v 0))) sNil)
    (sSeq (sIf (tOrM (fB (fUn (oIs "bool") (.v 1))) (fB (fUn (oIs "bool") (.v 0)))) (sRet (vAnd (fUn (oIs "bool") (.v 1)) (vAnd (fUn (oIs "bool") (.v 0)) (fOp oEQ (.v 0) (.v 1))))) sNil)
    (sSeq (sIf (fB (fUn (oIs2 "int" "str") (.v 1))) (sRet (vAnd (fOp oEQ (.e (fUn (oIs "int") (.v 0))) (.e (fUn (oIs "int") (.v 1)))) (vAnd (fUn (oIs2 "int" "str") (.v 0)) (fOp oEQ (.v 0) (.v 1))))) sNil)
    (sSeq (sIf (tOrM (fB (fOp oNE (.e (fUn (oIs "list") (.v 0))) (.e (fUn (oIs "list") (.v 1))))) (fB (fOp oNE (.e (fUn (oIs "tuple") (.v 0))) (.e (fUn (oIs "tuple") (.v 1)))))) (sRet (ret (.bool false))) sNil)
    (sSeq (sIf (fB (fOp oNE (.e (fCB oLen [(.v 0)])) (.e (fCB oLen [(.v 1)])))) (sRet (ret (.bool false))) sNil)
    (sRet (fCB oAll [(.e (fLst (fLc (fAB oZip (fCons (fVar 0) (fCons (fVar 1) fNil))) (gTp (gsCons (gSet 2) (gsCons (gSet 3) gsNil))) (ret true) (fCall Fr (fCons (fVar 2) (fCons (fVar 3) fNil))) [2, 3])))])))))))
noncomputable def F_l_same_at : Nat → List PyData → Out Rt
  | 0 => fun _ => .bad
  | n + 1 => runP 4 (g_l_same (F_l_same_at n)) 2
theorem F_l_same_len : ∀ n ds r, F_l_same_at n ds = r → r ≠ .bad → ds.length = 2
  | 0, _, _, e, h => absurd e.symm h
  | n + 1, ds, r, e, h => runP_len ds r e h
noncomputable def F_l_same := F_l_same_at 8
noncomputable def g_need_count : Rho → Fl := (sIf (tOrM (fB (fOp oLt (.v 0) (.e (ret (.int 1))))) (fB (fOp oGt (.v 0) (.e (ret (.int 10000000000)))))) (sRaise "BadCount") sNil)
noncomputable abbrev F_need_count := runP 1 g_need_count 1
noncomputable def g_need_duty : Rho → Fl := (sIf (tOrM (fB (fOp oLt (.v 0) (.e (ret (.int 1))))) (fB (fOp oGt (.v 0) (.e (ret (.int 1000000)))))) (sRaise "BadDuty") sNil)
noncomputable abbrev F_need_duty := runP 1 g_need_duty 1
noncomputable def b_checked_lots_1 : Rho → Fl := (sSeq (sDrop (fCall F_need_day (fCons (fVar 1) fNil)))
    (sSeq (sDrop (fCall F_need_count (fCons (fVar 2) fNil)))
    (sDrop (fCall F_need_duty (fCons (fVar 3) fNil)))))
noncomputable def g_checked_lots : Rho → Fl := (sSeq (sIf (fB (fOp oGt (.e (fCB oLen [(.v 0)])) (.e (ret (.int 30))))) (sRaise "BadRows") sNil)
    (sSeq (sFor (fItL (fVar 0)) (gTp (gsCons (gSet 1) (gsCons (gSet 2) (gsCons (gSet 3) gsNil)))) b_checked_lots_1)
    (sRetL (fLB oList [(.v 0)]))))
noncomputable abbrev F_checked_lots := runP 4 g_checked_lots 1
noncomputable def b_checked_outs_1 : Rho → Fl := (sSeq (sDrop (fCall F_need_day (fCons (fVar 1) fNil)))
    (sDrop (fCall F_need_count (fCons (fVar 2) fNil))))
noncomputable def g_checked_outs : Rho → Fl := (sSeq (sIf (fB (fOp oGt (.e (fCB oLen [(.v 0)])) (.e (ret (.int 30))))) (sRaise "BadRows") sNil)
    (sSeq (sFor (fItL (fVar 0)) (gTp (gsCons (gSet 1) (gsCons (gSet 2) gsNil))) b_checked_outs_1)
    (sRetL (fLB oList [(.v 0)]))))
noncomputable abbrev F_checked_outs := runP 3 g_checked_outs 1
noncomputable def g_l_span : Rho → Fl := (sSeq (sSet 1 (fOp oIx (.e (fTup (fCons (ret (.int 6)) (fCons (ret (.int 20)) (fCons (ret (.int 60)) (fCons (ret (.int 999)) fNil)))))) (.e (fCallI 0 F_l_pick (fCons (ret (.int 4)) fNil)))))
    (sRet (fTup (fCons (fOp oAdd (.e (ret (.int 1))) (.e (fCallI 0 F_l_pick (fCons (fOp oSub (.e (ret (.int 1000))) (.v 1)) fNil)))) (fCons (fVar 1) fNil)))))
noncomputable abbrev F_l_span := runI 2 g_l_span 1
noncomputable def b_l_some_lots_1 : Rho → Fl := (sSeq (sSet 7 (fOp oAdd (.e (fOp oIx (.v 2) (.e (ret (.int 0))))) (.e (fCallI 0 F_l_pick (fCons (fOp oIx (.v 2) (.e (ret (.int 1)))) fNil)))))
    (sSeq (sSet 8 (fOp oAdd (.e (ret (.int 1))) (.e (fCallI 0 F_l_pick (fCons (fVar 3) fNil)))))
    (sMut 5 (fTup (fCons (fVar 7) (fCons (fVar 8) (fCons (fOp oAdd (.e (ret (.int 1))) (.e (fCallI 0 F_l_pick (fCons (fVar 4) fNil)))) fNil)))) kAppend)))
noncomputable def g_l_some_lots : Rho → Fl := (sSeq (sSet 4 (fOp oIx (.e (fTup (fCons (ret (.int 2)) (fCons (ret (.int 5)) (fCons (ret (.int 40)) (fCons (fOp oPow (.e (ret (.int 10))) (.e (ret (.int 6)))) fNil)))))) (.e (fCallI 0 F_l_pick (fCons (ret (.int 4)) fNil)))))
    (sSeq (sSetL 5 (fLs fNil))
    (sSeq (sFor (fAB oRng1 (fCons (fCallI 0 F_l_pick (fCons (fOp oAdd (.v 1) (.e (ret (.int 1)))) fNil)) fNil)) (gSet 6) b_l_some_lots_1)
    (sRetV0 5))))
noncomputable abbrev F_l_some_lots := runI 9 g_l_some_lots 4
noncomputable def b_l_some_outs_1 : Rho → Fl := (sSeq (sSet 6 (fOp oAdd (.e (fOp oIx (.v 2) (.e (ret (.int 0))))) (.e (fCallI 0 F_l_pick (fCons (fOp oIx (.v 2) (.e (ret (.int 1)))) fNil)))))
    (sMut 4 (fTup (fCons (fVar 6) (fCons (fOp oAdd (.e (ret (.int 1))) (.e (fCallI 0 F_l_pick (fCons (fVar 3) fNil)))) fNil))) kAppend))
noncomputable def g_l_some_outs : Rho → Fl := (sSeq (sSetL 4 (fLs fNil))
    (sSeq (sFor (fAB oRng1 (fCons (fCallI 0 F_l_pick (fCons (fOp oAdd (.v 1) (.e (ret (.int 1)))) fNil)) fNil)) (gSet 5) b_l_some_outs_1)
    (sRetV0 4)))
noncomputable abbrev F_l_some_outs := runI 7 g_l_some_outs 4
noncomputable def g_l_case : Rho → Fl := (sSeq (sSet 2 (fCallI 0 F_l_span fNil))
    (sSeq (sSet 3 (fCallI 0 F_l_some_term fNil))
    (sSeq (sSet 4 (fOp oIx (.e (fTup (fCons (ret (.int 3)) (fCons (ret (.int 12)) (fCons (ret (.int 1000)) (fCons (fOp oPow (.e (ret (.int 10))) (.e (ret (.int 10)))) fNil)))))) (.e (fCallI 0 F_l_pick (fCons (ret (.int 4)) fNil)))))
    (sSeq (sSet 5 (fCallI 0 F_l_some_lots (fCons (fVar 1) (fCons (fVar 2) (fCons (fVar 4) fNil)))))
    (sRet (fTup (fCons (fVar 5) (fCons (fCallI 0 F_l_some_outs (fCons (fVar 1) (fCons (fVar 2) (fCons (fVar 4) fNil)))) (fCons (fVar 3) fNil)))))))))
noncomputable abbrev F_l_case := runI 6 g_l_case 2
noncomputable def b_checked_taken_1 : Rho → Fl := (sIf (tOrM (fB (fOp oLt (.v 3) (.e (ret (.int 0))))) (fB (fOp oGt (.v 3) (.e (fOp oIx (.e (fOp oIx (.v 0) (.v 2))) (.e (ret (.int 1)))))))) (sRaise "BadTaken") sNil)
noncomputable def g_checked_taken : Rho → Fl := (sSeq (sIf (fB (fOp oNE (.e (fCB oLen [(.v 1)])) (.e (fCB oLen [(.v 0)])))) (sRaise "BadTaken") sNil)
    (sSeq (sFor (fAB oEnum (fCons (fVar 1) fNil)) (gTp (gsCons (gSet 2) (gsCons (gSet 3) gsNil))) b_checked_taken_1)
    (sRetL (fLB oList [(.v 1)]))))
noncomputable abbrev F_checked_taken := runP 4 g_checked_taken 2
noncomputable def q_value_1 : M (List PyData) := (fLc (fAB oRng1 (fCons (fCB oLen [(.v 0)]) fNil)) (gSet 2) (ret true) (fOp oMul (.e (fOp oIx (.e (fOp oIx (.v 0) (.v 2))) (.e (ret (.int 2))))) (.e (fOp oIx (.v 1) (.v 2)))) [2])
noncomputable def g_value : Rho → Fl := (sRet (fCB oSum [(.e (fLst q_value_1))]))
noncomputable abbrev F_value := runP 3 g_value 2
noncomputable def g_refund : Rho → Fl := (sSeq (sSet 2 (fLst (fCallL F_checked_lots (fCons (fVar 0) fNil))))
    (sRet (fCall F_value (fCons (fVar 2) (fCons (fLst (fCallL F_checked_taken (fCons (fVar 2) (fCons (fVar 1) fNil)))) fNil)))))
noncomputable abbrev F_refund := runP 3 g_refund 2
noncomputable def q_out_against_1 : M (List PyData) := (fLc (fItL (fVar 0)) (gTp (gsCons (gSet 3) (gsCons (gSet 4) gsNil))) (fB (fCall F_goes_against (fCons (fVar 2) (fCons (fVar 3) (fCons (fVar 1) fNil))))) (fVar 4) [3, 4])
noncomputable def g_out_against : Rho → Fl := (sRet (fCB oSum [(.e (fLst q_out_against_1))]))
noncomputable abbrev F_out_against := runP 5 g_out_against 3
noncomputable def g_against : Rho → Fl := (sSeq (sSet 3 (fLst (fCallL F_checked_outs (fCons (fVar 0) fNil))))
    (sSeq (sDrop (fCall F_need_term (fCons (fVar 1) fNil)))
    (sSeq (sDrop (fCall F_need_stretch (fCons (fVar 2) fNil)))
    (sRet (fCall F_out_against (fCons (fVar 3) (fCons (fVar 1) (fCons (fVar 2) fNil))))))))
noncomputable abbrev F_against := runP 4 g_against 3
noncomputable def g_l_one : Rho → Fl := (sRet (fOp oIx (.v 1) (.e (fCallI 0 F_l_pick (fCons (fCB oLen [(.v 1)]) fNil)))))
noncomputable abbrev F_l_one := runI 2 g_l_one 2
noncomputable def b_summed_1 : Rho → Fl := (sAugIx 2 (fun m n => m + n) (fVar 3) (fVar 5))
noncomputable def g_summed : Rho → Fl := (sSeq (sSetL 2 (fOpL oRep (.e (fLst (fLs (fCons (ret (.int 0)) fNil)))) (.v 0)))
    (sSeq (sFor (fItL (fVar 1)) (gTp (gsCons (gSet 3) (gsCons (gSet 4) (gsCons (gSet 5) gsNil)))) b_summed_1)
    (sRetV 2)))
noncomputable abbrev F_summed := runP 6 g_summed 2
noncomputable def b_counts_of_1 : Rho → Fl := (sIf (tOrM (fB (fOp oLt (.v 3) (.e (ret (.int 0))))) (fB (fOp oGe (.v 3) (.e (fCB oLen [(.v 2)]))))) (sRaise "NoPlace") sNil)
noncomputable def g_counts_of : Rho → Fl := (sSeq (sSet 2 (fLst (fCallL F_checked_lots (fCons (fVar 0) fNil))))
    (sSeq (sFor (fItL (fVar 1)) (gTp (gsCons (gSet 3) (gsCons (gSet 4) (gsCons (gSet 5) gsNil)))) b_counts_of_1)
    (sRetL (fCallL F_summed (fCons (fCB oLen [(.v 2)]) (fCons (fVar 1) fNil))))))
noncomputable abbrev F_counts_of := runP 6 g_counts_of 2
noncomputable def q_days_of_1 : M (List PyData) := (fLc (fItL (fVar 0)) (gSet 1) (ret true) (fOp oIx (.v 1) (.e (ret (.int 0)))) [1])
noncomputable def g_days_of : Rho → Fl := (sRetL (fSortU (fLst q_days_of_1)))
noncomputable abbrev F_days_of := runP 2 g_days_of 1
noncomputable def q_all_stretches_1 : M (List PyData) := (fLc (fItL (fLst (fSl (.v 1) (fP (fVar 3)) fNoP))) (gSet 5) (ret true) (fTup (fCons (fVar 4) (fCons (fVar 5) fNil))) [5])
noncomputable def b_all_stretches_1 : Rho → Fl := (sMut 2 (fLst q_all_stretches_1) kExtend)
noncomputable def g_all_stretches : Rho → Fl := (sSeq (sSet 1 (fLst (fCallL F_days_of (fCons (fVar 0) fNil))))
    (sSeq (sSetL 2 (fLs fNil))
    (sSeq (sFor (fAB oEnum (fCons (fVar 1) fNil)) (gTp (gsCons (gSet 3) (gsCons (gSet 4) gsNil))) b_all_stretches_1)
    (sRetV 2))))
noncomputable abbrev F_all_stretches := runP 6 g_all_stretches 1
noncomputable def q_in_stretch_1 : M (List PyData) := (fLc (fAB oRng1 (fCons (fCB oLen [(.v 0)]) fNil)) (gSet 5) (tAndM (fB (fOp oLe (.v 3) (.e (fOp oIx (.e (fOp oIx (.v 0) (.v 5))) (.e (ret (.int 0))))))) (fB (fOp oLe (.e (fOp oIx (.e (fOp oIx (.v 0) (.v 5))) (.e (ret (.int 0))))) (.v 4)))) (fOp oIx (.v 1) (.v 5)) [5])
noncomputable def g_in_stretch : Rho → Fl := (sSeq (sAsg (gTp (gsCons (gSet 3) (gsCons (gSet 4) gsNil))) (fVar 2))
    (sRet (fCB oSum [(.e (fLst q_in_stretch_1))])))
noncomputable abbrev F_in_stretch := runP 6 g_in_stretch 3
noncomputable def g_spare : Rho → Fl := (sRet (fOp oSub (.e (fCall F_out_against (fCons (fVar 1) (fCons (fVar 2) (fCons (fVar 4) fNil))))) (.e (fCall F_in_stretch (fCons (fVar 0) (fCons (fVar 3) (fCons (fVar 4) fNil)))))))
noncomputable abbrev F_spare := runP 5 g_spare 5
noncomputable def q_fits_1 : M (List PyData) := (fLc (fItL (fLst (fCallL F_all_stretches (fCons (fVar 0) fNil)))) (gSet 4) (ret true) (fOp oGe (.e (fCall F_spare (fCons (fVar 0) (fCons (fVar 1) (fCons (fVar 2) (fCons (fVar 3) (fCons (fVar 4) fNil))))))) (.e (ret (.int 0)))) [4])
noncomputable def g_fits : Rho → Fl := (sRet (fCB oAll [(.e (fLst q_fits_1))]))
noncomputable abbrev F_fits := runP 5 g_fits 4
noncomputable def b_room_at_1 : Rho → Fl := (sIf (tAndM (fB (fOp oLe (.e (fOp oIx (.v 7) (.e (ret (.int 0))))) (.v 5))) (fB (fOp oLe (.v 5) (.e (fOp oIx (.v 7) (.e (ret (.int 1)))))))) (sSet 6 (fCB oMin2 [(.v 6), (.e (fCall F_spare (fCons (fVar 0) (fCons (fVar 1) (fCons (fVar 2) (fCons (fVar 3) (fCons (fVar 7) fNil)))))))])) sNil)
noncomputable def g_room_at : Rho → Fl := (sSeq (sSet 5 (fOp oIx (.e (fOp oIx (.v 0) (.v 4))) (.e (ret (.int 0)))))
    (sSeq (sSet 6 (fOp oSub (.e (fOp oIx (.e (fOp oIx (.v 0) (.v 4))) (.e (ret (.int 1))))) (.e (fOp oIx (.v 3) (.v 4)))))
    (sSeq (sFor (fItL (fLst (fCallL F_all_stretches (fCons (fVar 0) fNil)))) (gSet 7) b_room_at_1)
    (sRetV 6))))
noncomputable abbrev F_room_at := runP 8 g_room_at 5
noncomputable def g_need_place : Rho → Fl := (sIf (tOrM (fB (fOp oLt (.v 1) (.e (ret (.int 0))))) (fB (fOp oGe (.v 1) (.e (fCB oLen [(.v 0)]))))) (sRaise "NoPlace") sNil)
noncomputable abbrev F_need_place := runP 2 g_need_place 2
noncomputable def g_need_fitting : Rho → Fl := (sIf (tNotM (fB (fCall F_fits (fCons (fVar 0) (fCons (fVar 1) (fCons (fVar 2) (fCons (fVar 3) fNil))))))) (sRaise "NotDealable") sNil)
noncomputable abbrev F_need_fitting := runP 4 g_need_fitting 4
noncomputable def g_room : Rho → Fl := (sSeq (sSet 5 (fLst (fCallL F_checked_lots (fCons (fVar 0) fNil))))
    (sSeq (sSet 6 (fLst (fCallL F_checked_outs (fCons (fVar 1) fNil))))
    (sSeq (sDrop (fCall F_need_term (fCons (fVar 2) fNil)))
    (sSeq (sSet 7 (fLst (fCallL F_checked_taken (fCons (fVar 5) (fCons (fVar 3) fNil)))))
    (sSeq (sDrop (fCall F_need_fitting (fCons (fVar 5) (fCons (fVar 6) (fCons (fVar 2) (fCons (fVar 7) fNil))))))
    (sSeq (sDrop (fCall F_need_place (fCons (fVar 5) (fCons (fVar 4) fNil))))
    (sRet (fCall F_room_at (fCons (fVar 5) (fCons (fVar 6) (fCons (fVar 2) (fCons (fVar 7) (fCons (fVar 4) fNil)))))))))))))
noncomputable abbrev F_room := runP 8 g_room 5
noncomputable def g_l_dearest : Rho → Fl := (sRetL (fSortK 0 [.neg 2, .col 0, .pl] (fLst (fLr1 (fCB oLen [(.v 0)])))))
noncomputable abbrev F_l_dearest := runP 1 g_l_dearest 1
noncomputable def g_l_eldest : Rho → Fl := (sRetL (fSortK 0 [.col 0, .pl] (fLst (fLr1 (fCB oLen [(.v 0)])))))
noncomputable abbrev F_l_eldest := runP 1 g_l_eldest 1
noncomputable def b_l_deal_1 : Rho → Fl := (sSeq (sSet 11 (fCB oMin2 [(.v 9), (.e (fOp oIx (.v 4) (.v 10)))]))
    (sIf (tAndM (fB (fOp oGt (.v 11) (.e (ret (.int 0))))) (tAndM (fB (fOp oLe (.e (fOp oSub (.v 8) (.v 2))) (.e (fOp oIx (.e (fOp oIx (.v 0) (.v 10))) (.e (ret (.int 0))))))) (fB (fOp oLe (.e (fOp oIx (.e (fOp oIx (.v 0) (.v 10))) (.e (ret (.int 0))))) (.v 8))))) (sSeq (sMut 5 (fTup (fCons (fVar 10) (fCons (fVar 7) (fCons (fVar 11) fNil)))) kAppend)
    (sSeq (sSetIx 4 (fOp oSub (.e (fOp oIx (.v 4) (.v 10))) (.v 11)) (fVar 10))
    (sSet 9 (fOp oSub (.v 9) (.v 11))))) sNil))
noncomputable def b_l_deal_2 : Rho → Fl := (sSeq (sAsg (gTp (gsCons (gSet 8) (gsCons (gSet 9) gsNil))) (fOp oIx (.v 1) (.v 7)))
    (sFor (fItL (fVar 6)) (gSet 10) b_l_deal_1))
noncomputable def g_l_deal : Rho → Fl := (sSeq (sSetL 4 (fLB oList [(.v 3)]))
    (sSeq (sSetL 5 (fLs fNil))
    (sSeq (sSet 6 (fLst (fCallL F_l_eldest (fCons (fVar 0) fNil))))
    (sSeq (sFor (fItL (fLst (fCallL F_l_eldest (fCons (fVar 1) fNil)))) (gSet 7) b_l_deal_2)
    (sRet (fTup (fCons (fVar 5) (fCons (fCB oSum [(.v 4)]) fNil))))))))
noncomputable abbrev F_l_deal := runP 12 g_l_deal 4
noncomputable def t_l_most_1 : M Bool := (fB (fOp oLt (.v 5) (.v 6)))
noncomputable def b_l_most_1 : Rho → Fl := (sSeq (sSet 7 (fOp oDiv (.e (fOp oAdd (.e (fOp oAdd (.v 5) (.v 6))) (.e (ret (.int 1))))) (.e (ret (.int 2)))))
    (sSeq (sSet 8 (fLst (fOpL oCat (.e (fLst (fOpL oCat (.e (fLst (fSl (.v 3) fNoP (fP (fVar 4))))) (.e (fLst (fLs (fCons (fOp oAdd (.e (fOp oIx (.v 3) (.v 4))) (.v 7)) fNil))))))) (.e (fLst (fSl (.v 3) (fP (fOp oAdd (.v 4) (.e (ret (.int 1))))) fNoP))))))
    (sIf (fB (fOp oEQ (.e (fOp oIx (.e (fCall F_l_deal (fCons (fVar 0) (fCons (fVar 1) (fCons (fVar 2) (fCons (fVar 8) fNil)))))) (.e (ret (.int 1))))) (.e (ret (.int 0))))) (sSet 5 (fVar 7)) (sSet 6 (fOp oSub (.v 7) (.e (ret (.int 1))))))))
noncomputable def g_l_most : Rho → Fl := (sSeq (sSet 5 (ret (.int 0)))
    (sSeq (sSet 6 (fOp oSub (.e (fOp oIx (.e (fOp oIx (.v 0) (.v 4))) (.e (ret (.int 1))))) (.e (fOp oIx (.v 3) (.v 4)))))
    (sSeq (whE t_l_most_1 b_l_most_1 1000)
    (sRetV 5))))
noncomputable abbrev F_l_most := runP 9 g_l_most 5
noncomputable def b_l_best_1 : Rho → Fl := (sSetIx 3 (fCallP F_l_most [(.v 0), (.v 1), (.v 2), (.v 3), (.v 4)]) (fVar 4))
noncomputable def g_l_best : Rho → Fl := (sSeq (sSetL 3 (fOpL oRep (.e (fLst (fLs (fCons (ret (.int 0)) fNil)))) (.e (fCB oLen [(.v 0)]))))
    (sSeq (sFor (fItL (fLst (fCallL F_l_dearest (fCons (fVar 0) fNil)))) (gSet 4) b_l_best_1)
    (sRetV 3)))
noncomputable abbrev F_l_best := runP 5 g_l_best 3
noncomputable def q_l_some_counts_1 : M (List PyData) := (fLc (fItL (fVar 4)) (gSet 6) (ret true) (fCallI 0 F_l_pick (fCons (fOp oAdd (.v 6) (.e (ret (.int 1)))) fNil)) [6])
noncomputable def q_l_some_counts_2 : M (List PyData) := (fLc (fItL (fVar 1)) (gSet 9) (ret true) (fCallI 0 F_l_pick (fCons (fOp oAdd (.e (fOp oIx (.v 9) (.e (ret (.int 1))))) (.e (ret (.int 1)))) fNil)) [9])
noncomputable def g_l_some_counts : Rho → Fl := (sSeq (sSetL 4 (fCallL F_l_best (fCons (fVar 1) (fCons (fVar 2) (fCons (fVar 3) fNil)))))
    (sSeq (sSet 5 (fCallI 0 F_l_pick (fCons (ret (.int 4)) fNil)))
    (sSeq (sIf (fB (fOp oEQ (.v 5) (.e (ret (.int 0))))) (sRetV0 4) sNil)
    (sSeq (sIf (fB (fOp oEQ (.v 5) (.e (ret (.int 1))))) (sRetL0 q_l_some_counts_1) sNil)
    (sSeq (sIf (tAndM (fB (fOp oEQ (.v 5) (.e (ret (.int 2))))) (fB (fOp oNE (.v 1) (.e (fLst (fLs fNil)))))) (sSeq (sSet 7 (fCallI 0 F_l_pick (fCons (fCB oLen [(.v 1)]) fNil)))
    (sSeq (sSet 8 (fOp oAdd (.e (fOp oAdd (.e (fOp oIx (.v 4) (.v 7))) (.e (ret (.int 1))))) (.e (fCallI 0 F_l_pick (fCons (ret (.int 2)) fNil)))))
    (sRetL0 (fOpL oCat (.e (fLst (fOpL oCat (.e (fLst (fSl (.v 4) fNoP (fP (fVar 7))))) (.e (fLst (fLs (fCons (fCB oMin2 [(.e (fOp oIx (.e (fOp oIx (.v 1) (.v 7))) (.e (ret (.int 1))))), (.v 8)]) fNil))))))) (.e (fLst (fSl (.v 4) (fP (fOp oAdd (.v 7) (.e (ret (.int 1))))) fNoP))))))) sNil)
    (sRetL0 q_l_some_counts_2))))))
noncomputable abbrev F_l_some_counts := runI 10 g_l_some_counts 4
noncomputable def g_by_age : Rho → Fl := (sRetL (fSortK 0 [.col 0, .pl] (fLst (fLr1 (fCB oLen [(.v 0)])))))
noncomputable abbrev F_by_age := runP 1 g_by_age 1
noncomputable def b_handed_out_1 : Rho → Fl := (sIf (tAndM (fB (fOp oLe (.e (fOp oSub (.v 3) (.v 4))) (.e (fOp oIx (.e (fOp oIx (.v 2) (.v 7))) (.e (ret (.int 0))))))) (fB (fOp oLe (.e (fOp oIx (.e (fOp oIx (.v 2) (.v 7))) (.e (ret (.int 0))))) (.v 3)))) (sSeq (sSet 8 (fCB oMin2 [(.v 5), (.e (fOp oIx (.v 0) (.v 7)))]))
    (sIf (fB (fOp oGt (.v 8) (.e (ret (.int 0))))) (sSeq (sMut 6 (fTup (fCons (fVar 7) (fCons (fVar 8) fNil))) kAppend)
    (sSeq (sAugIx 0 (fun m n => m - n) (fVar 7) (fVar 8))
    (sAug 5 (oI0 fun m n => .int (m - n)) (fVar 8)))) sNil)) sNil)
noncomputable def g_handed_out : Rho → Fl := (sSeq (sSetL 6 (fLs fNil))
    (sSeq (sFor (fItL (fVar 1)) (gSet 7) b_handed_out_1)
    (sRetV0 6)))
noncomputable abbrev F_handed_out := runI 9 g_handed_out 6
noncomputable def q_dealing_1 : M (List PyData) := (fLc (fItL (fCallI 4 F_handed_out (fCons (fVar 5) (fCons (fVar 0) (fCons (fVar 8) (fCons (fVar 2) (fCons (fVar 9) fNil))))))) (gTp (gsCons (gSet 10) (gsCons (gSet 11) gsNil))) (ret true) (fTup (fCons (fVar 10) (fCons (fVar 7) (fCons (fVar 11) fNil)))) [10, 11])
noncomputable def b_dealing_1 : Rho → Fl := (sSeq (sAsg (gTp (gsCons (gSet 8) (gsCons (gSet 9) gsNil))) (fOp oIx (.v 1) (.v 7)))
    (sMut 6 (fLst q_dealing_1) kExtend))
noncomputable def g_dealing : Rho → Fl := (sSeq (sSetL 4 (fLB oList [(.v 3)]))
    (sSeq (sSet 5 (fLst (fCallL F_by_age (fCons (fVar 0) fNil))))
    (sSeq (sSetL 6 (fLs fNil))
    (sSeq (sFor (fItL (fLst (fCallL F_by_age (fCons (fVar 1) fNil)))) (gSet 7) b_dealing_1)
    (sRetV 6)))))
noncomputable abbrev F_dealing := runP 12 g_dealing 4
noncomputable def g_dealt : Rho → Fl := (sSeq (sSet 4 (fLst (fCallL F_checked_lots (fCons (fVar 0) fNil))))
    (sSeq (sSet 5 (fLst (fCallL F_checked_outs (fCons (fVar 1) fNil))))
    (sSeq (sDrop (fCall F_need_term (fCons (fVar 2) fNil)))
    (sSeq (sSet 6 (fLst (fCallL F_checked_taken (fCons (fVar 4) (fCons (fVar 3) fNil)))))
    (sSeq (sDrop (fCall F_need_fitting (fCons (fVar 4) (fCons (fVar 5) (fCons (fVar 2) (fCons (fVar 6) fNil))))))
    (sRetL (fCallL F_dealing (fCons (fVar 4) (fCons (fVar 5) (fCons (fVar 2) (fCons (fVar 6) fNil)))))))))))
noncomputable abbrev F_dealt := runP 7 g_dealt 4
noncomputable def g_by_duty : Rho → Fl := (sRetL (fSortK 0 [.zsub 2, .col 0, .pl] (fLst (fLr1 (fCB oLen [(.v 0)])))))
noncomputable abbrev F_by_duty := runP 1 g_by_duty 1
noncomputable def b_best_counts_1 : Rho → Fl := (sSetIx 3 (fCallP F_room_at [(.v 0), (.v 1), (.v 2), (.v 3), (.v 4)]) (fVar 4))
noncomputable def g_best_counts : Rho → Fl := (sSeq (sSetL 3 (fOpL oRep (.e (fLst (fLs (fCons (ret (.int 0)) fNil)))) (.e (fCB oLen [(.v 0)]))))
    (sSeq (sFor (fItL (fLst (fCallL F_by_duty (fCons (fVar 0) fNil)))) (gSet 4) b_best_counts_1)
    (sRetV 3)))
noncomputable abbrev F_best_counts := runP 5 g_best_counts 3
noncomputable def g_best : Rho → Fl := (sSeq (sSet 3 (fLst (fCallL F_checked_lots (fCons (fVar 0) fNil))))
    (sSeq (sSet 4 (fLst (fCallL F_checked_outs (fCons (fVar 1) fNil))))
    (sSeq (sDrop (fCall F_need_term (fCons (fVar 2) fNil)))
    (sRetL (fCallL F_best_counts (fCons (fVar 3) (fCons (fVar 4) (fCons (fVar 2) fNil))))))))
noncomputable abbrev F_best := runP 5 g_best 3
noncomputable def g_greatest : Rho → Fl := (sSeq (sSet 3 (fLst (fCallL F_checked_lots (fCons (fVar 0) fNil))))
    (sRet (fCall F_value (fCons (fVar 3) (fCons (fLst (fCallL F_best (fCons (fVar 0) (fCons (fVar 1) (fCons (fVar 2) fNil))))) fNil)))))
noncomputable abbrev F_greatest := runP 4 g_greatest 3
noncomputable def q_l_value_1 : M (List PyData) := (fLc (fAB oRng1 (fCons (fCB oLen [(.v 0)]) fNil)) (gSet 2) (ret true) (fOp oMul (.e (fOp oIx (.e (fOp oIx (.v 0) (.v 2))) (.e (ret (.int 2))))) (.e (fOp oIx (.v 1) (.v 2)))) [2])
noncomputable def g_l_value : Rho → Fl := (sRet (fCB oSum [(.e (fLst q_l_value_1))]))
noncomputable abbrev F_l_value := runP 3 g_l_value 2
noncomputable def g_dealable : Rho → Fl := (sSeq (sSet 4 (fLst (fCallL F_checked_lots (fCons (fVar 0) fNil))))
    (sSeq (sSet 5 (fLst (fCallL F_checked_outs (fCons (fVar 1) fNil))))
    (sSeq (sDrop (fCall F_need_term (fCons (fVar 2) fNil)))
    (sRet (fCall F_fits (fCons (fVar 4) (fCons (fVar 5) (fCons (fVar 2) (fCons (fLst (fCallL F_checked_taken (fCons (fVar 4) (fCons (fVar 3) fNil)))) fNil)))))))))
noncomputable abbrev F_dealable := runP 6 g_dealable 4
noncomputable def g_top : Rho → Fl := (sRet (fCall F_value (fCons (fVar 0) (fCons (fLst (fCallL F_best_counts (fCons (fVar 0) (fCons (fVar 1) (fCons (fVar 2) fNil))))) fNil))))
noncomputable abbrev F_top := runP 3 g_top 3
noncomputable def g_lot_more : Rho → Fl := (sSeq (sSet 5 (fLst (fCallL F_checked_lots (fCons (fVar 0) fNil))))
    (sSeq (sSet 6 (fLst (fCallL F_checked_outs (fCons (fVar 1) fNil))))
    (sSeq (sDrop (fCall F_need_term (fCons (fVar 2) fNil)))
    (sSeq (sDrop (fCall F_need_day (fCons (fVar 3) fNil)))
    (sSeq (sDrop (fCall F_need_duty (fCons (fVar 4) fNil)))
    (sRet (fOp oSub (.e (fCall F_top (fCons (fLst (fOpL oCat (.v 5) (.e (fLst (fLs (fCons (fTup (fCons (fVar 3) (fCons (ret (.int 1)) (fCons (fVar 4) fNil)))) fNil)))))) (fCons (fVar 6) (fCons (fVar 2) fNil))))) (.e (fCall F_top (fCons (fVar 5) (fCons (fVar 6) (fCons (fVar 2) fNil))))))))))))
noncomputable abbrev F_lot_more := runP 7 g_lot_more 5
noncomputable def g_out_more : Rho → Fl := (sSeq (sSet 4 (fLst (fCallL F_checked_lots (fCons (fVar 0) fNil))))
    (sSeq (sSet 5 (fLst (fCallL F_checked_outs (fCons (fVar 1) fNil))))
    (sSeq (sDrop (fCall F_need_term (fCons (fVar 2) fNil)))
    (sSeq (sDrop (fCall F_need_day (fCons (fVar 3) fNil)))
    (sRet (fOp oSub (.e (fCall F_top (fCons (fVar 4) (fCons (fLst (fOpL oCat (.v 5) (.e (fLst (fLs (fCons (fTup (fCons (fVar 3) (fCons (ret (.int 1)) fNil))) fNil)))))) (fCons (fVar 2) fNil))))) (.e (fCall F_top (fCons (fVar 4) (fCons (fVar 5) (fCons (fVar 2) fNil)))))))))))
noncomputable abbrev F_out_more := runP 6 g_out_more 4
noncomputable def g_l_top : Rho → Fl := (sRet (fCall F_l_value (fCons (fVar 0) (fCons (fLst (fCallL F_l_best (fCons (fVar 0) (fCons (fVar 1) (fCons (fVar 2) fNil))))) fNil))))
noncomputable abbrev F_l_top := runP 3 g_l_top 3
noncomputable def g_l_day_near : Rho → Fl := (sSeq (sSet 2 (fOp oAdd (.e (ret (.int 1))) (.e (fCallI 0 F_l_pick (fCons (ret (.int 999)) fNil)))))
    (sSeq (sIf (tAndM (fB (fOp oNE (.v 1) (.e (fLst (fLs fNil))))) (fB (fOp oGt (.e (fCallI 0 F_l_pick (fCons (ret (.int 4)) fNil))) (.e (ret (.int 0)))))) (sSet 2 (fOp oSub (.e (fOp oAdd (.e (fOp oIx (.e (fCallI 0 F_l_one (fCons (fVar 1) fNil))) (.e (ret (.int 0))))) (.e (fCallI 0 F_l_pick (fCons (ret (.int 5)) fNil))))) (.e (ret (.int 2))))) sNil)
    (sRet (fCB oMax2 [(.e (ret (.int 1))), (.e (fCB oMin2 [(.e (ret (.int 999))), (.v 2)]))]))))
noncomputable abbrev F_l_day_near := runI 3 g_l_day_near 2
noncomputable def g_less_one : Rho → Fl := (sSeq (sSet 2 (fOp oIx (.v 0) (.v 1)))
    (sSeq (sIf (fB (fOp oEQ (.e (fOp oIx (.v 2) (.e (ret (.int 1))))) (.e (ret (.int 1))))) (sRetL (fOpL oCat (.e (fLst (fSl (.v 0) fNoP (fP (fVar 1))))) (.e (fLst (fSl (.v 0) (fP (fOp oAdd (.v 1) (.e (ret (.int 1))))) fNoP))))) sNil)
    (sRetL (fOpL oCat (.e (fLst (fOpL oCat (.e (fLst (fSl (.v 0) fNoP (fP (fVar 1))))) (.e (fLst (fLs (fCons (fOp oCatT (.e (fTup (fCons (fOp oIx (.v 2) (.e (ret (.int 0)))) (fCons (fOp oSub (.e (fOp oIx (.v 2) (.e (ret (.int 1))))) (.e (ret (.int 1)))) fNil)))) (.e (fSlA (fVar 2) (fP (ret (.int 2))) fNoP))) fNil))))))) (.e (fLst (fSl (.v 0) (fP (fOp oAdd (.v 1) (.e (ret (.int 1))))) fNoP)))))))
noncomputable abbrev F_less_one := runP 3 g_less_one 2
noncomputable def g_lot_less : Rho → Fl := (sSeq (sSet 4 (fLst (fCallL F_checked_lots (fCons (fVar 0) fNil))))
    (sSeq (sSet 5 (fLst (fCallL F_checked_outs (fCons (fVar 1) fNil))))
    (sSeq (sDrop (fCall F_need_term (fCons (fVar 2) fNil)))
    (sSeq (sDrop (fCall F_need_place (fCons (fVar 4) (fCons (fVar 3) fNil))))
    (sRet (fOp oSub (.e (fCall F_top (fCons (fVar 4) (fCons (fVar 5) (fCons (fVar 2) fNil))))) (.e (fCall F_top (fCons (fLst (fCallL F_less_one (fCons (fVar 4) (fCons (fVar 3) fNil)))) (fCons (fVar 5) (fCons (fVar 2) fNil)))))))))))
noncomputable abbrev F_lot_less := runP 6 g_lot_less 4
noncomputable def g_out_less : Rho → Fl := (sSeq (sSet 4 (fLst (fCallL F_checked_lots (fCons (fVar 0) fNil))))
    (sSeq (sSet 5 (fLst (fCallL F_checked_outs (fCons (fVar 1) fNil))))
    (sSeq (sDrop (fCall F_need_term (fCons (fVar 2) fNil)))
    (sSeq (sDrop (fCall F_need_place (fCons (fVar 5) (fCons (fVar 3) fNil))))
    (sRet (fOp oSub (.e (fCall F_top (fCons (fVar 4) (fCons (fVar 5) (fCons (fVar 2) fNil))))) (.e (fCall F_top (fCons (fVar 4) (fCons (fLst (fCallL F_less_one (fCons (fVar 5) (fCons (fVar 3) fNil)))) (fCons (fVar 2) fNil)))))))))))
noncomputable abbrev F_out_less := runP 6 g_out_less 4
noncomputable def g_l_less_one : Rho → Fl := (sSeq (sSet 2 (fOp oIx (.v 0) (.v 1)))
    (sSeq (sIf (fB (fOp oEQ (.e (fOp oIx (.v 2) (.e (ret (.int 1))))) (.e (ret (.int 1))))) (sRetL (fOpL oCat (.e (fLst (fSl (.v 0) fNoP (fP (fVar 1))))) (.e (fLst (fSl (.v 0) (fP (fOp oAdd (.v 1) (.e (ret (.int 1))))) fNoP))))) sNil)
    (sRetL (fOpL oCat (.e (fLst (fOpL oCat (.e (fLst (fSl (.v 0) fNoP (fP (fVar 1))))) (.e (fLst (fLs (fCons (fOp oCatT (.e (fTup (fCons (fOp oIx (.v 2) (.e (ret (.int 0)))) (fCons (fOp oSub (.e (fOp oIx (.v 2) (.e (ret (.int 1))))) (.e (ret (.int 1)))) fNil)))) (.e (fSlA (fVar 2) (fP (ret (.int 2))) fNoP))) fNil))))))) (.e (fLst (fSl (.v 0) (fP (fOp oAdd (.v 1) (.e (ret (.int 1))))) fNoP)))))))
noncomputable abbrev F_l_less_one := runP 3 g_l_less_one 2
noncomputable def b_line_of_1 : Rho → Fl := (sMut 7 (fCall F_top (fCons (fVar 5) (fCons (fLst (fOpL oCat (.v 6) (.e (fLst (fLs (fCons (fTup (fCons (fVar 3) (fCons (fVar 8) fNil))) fNil)))))) (fCons (fVar 2) fNil)))) kAppend)
noncomputable def g_line_of : Rho → Fl := (sSeq (sSet 5 (fLst (fCallL F_checked_lots (fCons (fVar 0) fNil))))
    (sSeq (sSet 6 (fLst (fCallL F_checked_outs (fCons (fVar 1) fNil))))
    (sSeq (sDrop (fCall F_need_term (fCons (fVar 2) fNil)))
    (sSeq (sDrop (fCall F_need_day (fCons (fVar 3) fNil)))
    (sSeq (sIf (tOrM (fB (fOp oLt (.v 4) (.e (ret (.int 0))))) (fB (fOp oGt (.v 4) (.e (ret (.int 40)))))) (sRaise "BadCount") sNil)
    (sSeq (sSetL 7 (fLs (fCons (fCall F_top (fCons (fVar 5) (fCons (fVar 6) (fCons (fVar 2) fNil)))) fNil)))
    (sSeq (sFor (fAB oRng2 (fCons (ret (.int 1)) (fCons (fOp oAdd (.v 4) (.e (ret (.int 1)))) fNil))) (gSet 8) b_line_of_1)
    (sRetV 7))))))))
noncomputable abbrev F_line_of := runP 9 g_line_of 5
noncomputable def b_checked_paid_1 : Rho → Fl := (sSeq (sDrop (fCall F_need_day (fCons (fVar 1) fNil)))
    (sIf (fB (fOp oLt (.v 2) (.e (ret (.int 1))))) (sRaise "BadCount") sNil))
noncomputable def g_checked_paid : Rho → Fl := (sSeq (sIf (fB (fOp oGt (.e (fCB oLen [(.v 0)])) (.e (ret (.int 60))))) (sRaise "BadRows") sNil)
    (sSeq (sFor (fItL (fVar 0)) (gTp (gsCons (gSet 1) (gsCons (gSet 2) gsNil))) b_checked_paid_1)
    (sRetL (fLB oList [(.v 0)]))))
noncomputable abbrev F_checked_paid := runP 3 g_checked_paid 1
noncomputable def q_held_on_1 : M (List PyData) := (fLc (fItL (fVar 0)) (gTp (gsCons (gSet 3) (gsCons (gSet 4) gsNil))) (tAndM (fB (fOp oLe (.e (fOp oSub (.v 2) (.v 1))) (.v 3))) (fB (fOp oLe (.v 3) (.v 2)))) (fVar 4) [3, 4])
noncomputable def g_held_on : Rho → Fl := (sRet (fCB oSum [(.e (fLst q_held_on_1))]))
noncomputable abbrev F_held_on := runP 5 g_held_on 3
noncomputable def q_greatest_held_1 : M (List PyData) := (fLc (fItL (fVar 0)) (gSet 4) (ret true) (fOp oIx (.v 4) (.e (ret (.int 0)))) [4])
noncomputable def b_greatest_held_1 : Rho → Fl := (sSeq (sSet 5 (fCall F_held_on (fCons (fVar 0) (fCons (fVar 1) (fCons (fVar 3) fNil)))))
    (sIf (fB (fOp oGt (.v 5) (.e (fOp oIx (.v 2) (.e (ret (.int 0))))))) (sSet 2 (fTup (fCons (fVar 5) (fCons (fVar 3) fNil)))) sNil))
noncomputable def g_greatest_held : Rho → Fl := (sSeq (sSet 2 (fTup (fCons (ret (.int 0)) (fCons (ret (.int 0)) fNil))))
    (sSeq (sFor (fItL (fLst (fSortU (fLst q_greatest_held_1)))) (gSet 3) b_greatest_held_1)
    (sRetV 2)))
noncomputable abbrev F_greatest_held := runP 6 g_greatest_held 2
noncomputable def g_vouched : Rho → Fl := (sSeq (sSet 3 (fLst (fCallL F_checked_paid (fCons (fVar 0) fNil))))
    (sSeq (sDrop (fCall F_need_term (fCons (fVar 1) fNil)))
    (sSeq (sDrop (fCall F_need_day (fCons (fVar 2) fNil)))
    (sRet (fCall F_held_on (fCons (fVar 3) (fCons (fVar 1) (fCons (fVar 2) fNil))))))))
noncomputable abbrev F_vouched := runP 4 g_vouched 3
noncomputable def g_surety : Rho → Fl := (sSeq (sSet 2 (fLst (fCallL F_checked_paid (fCons (fVar 0) fNil))))
    (sSeq (sDrop (fCall F_need_term (fCons (fVar 1) fNil)))
    (sRet (fCall F_greatest_held (fCons (fVar 2) (fCons (fVar 1) fNil))))))
noncomputable abbrev F_surety := runP 3 g_surety 2
noncomputable def b_l_row_fault_1 : Rho → Fl := (sIf (tOrM (fB (fOp oLt (.e (fOp oIx (.v 1) (.v 2))) (.e (ret (.int 1))))) (fB (fOp oGt (.e (fOp oIx (.v 1) (.v 2))) (.v 3)))) (sRet (fOp oIx (.e (fTup (fCons (ret (.str "BadDay")) (fCons (ret (.str "BadCount")) (fCons (ret (.str "BadDuty")) fNil))))) (.v 2))) sNil)
noncomputable def b_l_row_fault_2 : Rho → Fl := (sFor (fAB oEnum (fCons (fLst (fSl (.e (fLst (fLs (fCons (ret (.int 999)) (fCons (fOp oPow (.e (ret (.int 10))) (.e (ret (.int 10)))) (fCons (fOp oPow (.e (ret (.int 10))) (.e (ret (.int 6)))) fNil)))))) fNoP (fP (fCB oLen [(.v 1)])))) fNil)) (gTp (gsCons (gSet 2) (gsCons (gSet 3) gsNil))) b_l_row_fault_1)
noncomputable def g_l_row_fault : Rho → Fl := (sSeq (sIf (fB (fOp oGt (.e (fCB oLen [(.v 0)])) (.e (ret (.int 30))))) (sRet (ret (.str "BadRows"))) sNil)
    (sSeq (sFor (fItL (fVar 0)) (gSet 1) b_l_row_fault_2)
    (sRet (ret (.str "")))))
noncomputable abbrev F_l_row_fault := runP 4 g_l_row_fault 1
noncomputable def g_l_fault : Rho → Fl := (sSeq (sIf (tAndM (fB (fUn oNotN (.v 0))) (fB (fOp oNE (.e (fCall F_l_row_fault (fCons (fVar 0) fNil))) (.e (ret (.str "")))))) (sRet (fCall F_l_row_fault (fCons (fVar 0) fNil))) sNil)
    (sSeq (sIf (fB (fOp oNE (.e (fCall F_l_row_fault (fCons (fVar 1) fNil))) (.e (ret (.str ""))))) (sRet (fCall F_l_row_fault (fCons (fVar 1) fNil))) sNil)
    (sRet (fIf (tOrM (fB (fOp oLt (.v 2) (.e (ret (.int 0))))) (fB (fOp oGt (.v 2) (.e (ret (.int 400)))))) (ret (.str "BadTerm")) (ret (.str ""))))))
noncomputable abbrev F_l_fault := runP 3 g_l_fault 3
noncomputable def g_l_spoilt : Rho → Fl := (sSeq (sIf (fB (fOp oEQ (.e (fCallI 0 F_l_pick (fCons (ret (.int 7)) fNil))) (.e (ret (.int 1))))) (sRetL0 (fSl (.e (fLst (fOpL oCat (.v 1) (.e (fLst (fOpL oRep (.e (fLst (fLs (fCons (fSlA (fTup (fCons (ret (.int 9)) (fCons (ret (.int 1)) (fCons (ret (.int 1)) fNil)))) fNoP (fP (fVar 2))) fNil)))) (.e (ret (.int 31))))))))) fNoP (fP (ret (.int 31))))) sNil)
    (sSeq (sIf (tOrM (fB (fOp oEQ (.v 1) (.e (fLst (fLs fNil))))) (fB (fOp oEQ (.e (fCallI 0 F_l_pick (fCons (ret (.int 2)) fNil))) (.e (ret (.int 0)))))) (sRetV0 1) sNil)
    (sSeq (sSet 3 (fCallI 0 F_l_pick (fCons (fCB oLen [(.v 1)]) fNil)))
    (sSeq (sSet 4 (fCallI 0 F_l_pick (fCons (fCB oLen [(.e (fOp oIx (.v 1) (.v 3)))]) fNil)))
    (sSeq (sSet 5 (fOp oCatT (.e (fOp oCatT (.e (fSlA (fOp oIx (.v 1) (.v 3)) fNoP (fP (fVar 4)))) (.e (fTup (fCons (fCallI 0 F_l_odd fNil) fNil))))) (.e (fSlA (fOp oIx (.v 1) (.v 3)) (fP (fOp oAdd (.v 4) (.e (ret (.int 1))))) fNoP))))
    (sRetL0 (fOpL oCat (.e (fLst (fOpL oCat (.e (fLst (fSl (.v 1) fNoP (fP (fVar 3))))) (.e (fLst (fLs (fCons (fVar 5) fNil))))))) (.e (fLst (fSl (.v 1) (fP (fOp oAdd (.v 3) (.e (ret (.int 1))))) fNoP))))))))))
noncomputable abbrev F_l_spoilt := runI 6 g_l_spoilt 3
noncomputable def g_l_spoilt_case : Rho → Fl := (sSeq (sAsg (gTp (gsCons (gSet 2) (gsCons (gSet 3) (gsCons (gSet 4) gsNil)))) (fCallI 0 F_l_case (fCons (fVar 1) fNil)))
    (sSeq (sIf (fB (fOp oEQ (.e (fCallI 0 F_l_pick (fCons (ret (.int 3)) fNil))) (.e (ret (.int 0))))) (sSet 2 (fCallI 0 F_l_spoilt (fCons (fVar 2) (fCons (ret (.int 3)) fNil)))) sNil)
    (sSeq (sIf (fB (fOp oEQ (.e (fCallI 0 F_l_pick (fCons (ret (.int 3)) fNil))) (.e (ret (.int 0))))) (sSet 3 (fCallI 0 F_l_spoilt (fCons (fVar 3) (fCons (ret (.int 2)) fNil)))) sNil)
    (sSeq (sIf (fB (fOp oEQ (.e (fCallI 0 F_l_pick (fCons (ret (.int 4)) fNil))) (.e (ret (.int 0))))) (sSet 4 (fCallI 0 F_l_odd fNil)) sNil)
    (sRet (fTup (fCons (fVar 2) (fCons (fVar 3) (fCons (fVar 4) fNil)))))))))
noncomputable abbrev F_l_spoilt_case := runI 5 g_l_spoilt_case 2
noncomputable def g_holds_day : Rho → Fl := (sRet (vAnd (fOp oLe (.e (fOp oIx (.v 0) (.e (ret (.int 0))))) (.v 1)) (fOp oLe (.v 1) (.e (fOp oIx (.v 0) (.e (ret (.int 1))))))))
noncomputable abbrev F_holds_day := runP 2 g_holds_day 2
noncomputable def b_in_order_1 : Rho → Fl := (sIf (tOrM (tNotM (fB (fCall F_is_stretch (fCons (fVar 2) fNil)))) (tAndM (fB (fOp oGt (.v 1) (.e (ret (.int 0))))) (fB (fOp oLe (.e (fOp oIx (.v 2) (.e (ret (.int 0))))) (.e (fOp oIx (.e (fOp oIx (.v 0) (.e (fOp oSub (.v 1) (.e (ret (.int 1))))))) (.e (ret (.int 1))))))))) (sRet (ret (.bool false))) sNil)
noncomputable def g_in_order : Rho → Fl := (sSeq (sFor (fAB oEnum (fCons (fVar 0) fNil)) (gTp (gsCons (gSet 1) (gsCons (gSet 2) gsNil))) b_in_order_1)
    (sRet (ret (.bool true))))
noncomputable abbrev F_in_order := runP 3 g_in_order 1
noncomputable def q_outside_1 : M (List PyData) := (fLc (fItL (fVar 2)) (gSet 7) (ret true) (fCall F_holds_day (fCons (fVar 7) (fCons (fVar 4) fNil))) [7])
noncomputable def b_outside_1 : Rho → Fl := (sIf (tAndM (fB (fOp oGe (.v 6) (.v 1))) (tNotM (fB (fCB oAny [(.e (fLst q_outside_1))])))) (sAug 3 (oI0 fun m n => .int (m + n)) (fVar 5)) sNil)
noncomputable def g_outside : Rho → Fl := (sSeq (sSet 3 (ret (.int 0)))
    (sSeq (sFor (fItL (fVar 0)) (gTp (gsCons (gSet 4) (gsCons (gSet 5) (gsCons (gSet 6) gsNil)))) b_outside_1)
    (sRetV 3)))
noncomputable abbrev F_outside := runP 8 g_outside 3
noncomputable def q_good_paper_1 : M (List PyData) := (fLc (fItL (fVar 8)) (gSet 10) (ret true) (fCall F_out_against (fCons (fVar 5) (fCons (fVar 2) (fCons (fVar 10) fNil)))) [10])
noncomputable def g_good_paper : Rho → Fl := (sSeq (sSet 4 (fLst (fCallL F_checked_lots (fCons (fVar 0) fNil))))
    (sSeq (sSet 5 (fLst (fCallL F_checked_outs (fCons (fVar 1) fNil))))
    (sSeq (sDrop (fCall F_need_term (fCons (fVar 2) fNil)))
    (sSeq (sAsg (gTp (gsCons (gSet 6) (gsCons (gSet 7) (gsCons (gSet 8) gsNil)))) (fVar 3))
    (sSeq (sIf (tNotM (fB (fCall F_in_order (fCons (fVar 8) fNil)))) (sRet (ret (.bool false))) sNil)
    (sSeq (sSet 9 (fCB oSum [(.e (fLst q_good_paper_1))]))
    (sRet (fOp oEQ (.e (fOp oAdd (.e (fCall F_outside (fCons (fVar 4) (fCons (fVar 6) (fCons (fVar 8) fNil))))) (.v 9))) (.v 7)))))))))
noncomputable abbrev F_good_paper := runP 11 g_good_paper 4
noncomputable def b_joined_1 : Rho → Fl := (sIf (tAndM (fB (fOp oGt (.e (fCB oLen [(.v 1)])) (.e (ret (.int 0))))) (fB (fOp oLe (.v 2) (.e (fOp oIx (.e (fOp oIx (.v 1) (.e (fUn oNeg (.e (ret (.int 1))))))) (.e (ret (.int 1)))))))) (sSetIx 1 (fTup (fCons (fOp oIx (.e (fOp oIx (.v 1) (.e (fUn oNeg (.e (ret (.int 1))))))) (.e (ret (.int 0)))) (fCons (fCB oMax2 [(.e (fOp oIx (.e (fOp oIx (.v 1) (.e (fUn oNeg (.e (ret (.int 1))))))) (.e (ret (.int 1))))), (.v 3)]) fNil))) (fUn oNeg (.e (ret (.int 1))))) (sMut 1 (fTup (fCons (fVar 2) (fCons (fVar 3) fNil))) kAppend))
noncomputable def g_joined : Rho → Fl := (sSeq (sSetL 1 (fLs fNil))
    (sSeq (sFor (fItL (fLst (fLB oSortP [(.v 0)]))) (gTp (gsCons (gSet 2) (gsCons (gSet 3) gsNil))) b_joined_1)
    (sRetV 1)))
noncomputable abbrev F_joined := runP 4 g_joined 1
noncomputable def q_shut_days_1 : M (List PyData) := (fLc (fAB oRng1 (fCons (fCB oLen [(.v 0)]) fNil)) (gSet 2) (fB (fOp oLt (.e (fOp oIx (.v 1) (.v 2))) (.e (fOp oIx (.e (fOp oIx (.v 0) (.v 2))) (.e (ret (.int 1))))))) (fOp oIx (.e (fOp oIx (.v 0) (.v 2))) (.e (ret (.int 0)))) [2])
noncomputable def g_shut_days : Rho → Fl := (sRetL q_shut_days_1)
noncomputable abbrev F_shut_days := runP 3 g_shut_days 2
noncomputable def q_barring_1 : M (List PyData) := (fLc (fItL (fVar 4)) (gSet 7) (ret true) (fCall F_holds_day (fCons (fVar 6) (fCons (fVar 7) fNil))) [7])
noncomputable def b_barring_1 : Rho → Fl := (sIf (tAndM (fB (fOp oEQ (.e (fCall F_spare (fCons (fVar 0) (fCons (fVar 1) (fCons (fVar 2) (fCons (fVar 3) (fCons (fVar 6) fNil))))))) (.e (ret (.int 0))))) (fB (fCB oAny [(.e (fLst q_barring_1))]))) (sMut 5 (fVar 6) kAppend) sNil)
noncomputable def g_barring : Rho → Fl := (sSeq (sSet 4 (fLst (fCallL F_shut_days (fCons (fVar 0) (fCons (fVar 3) fNil)))))
    (sSeq (sSetL 5 (fLs fNil))
    (sSeq (sFor (fItL (fLst (fCallL F_all_stretches (fCons (fVar 0) fNil)))) (gSet 6) b_barring_1)
    (sRetL (fCallL F_joined (fCons (fVar 5) fNil))))))
noncomputable abbrev F_barring := runP 8 g_barring 4
noncomputable def q_papers_of_1 : M (List PyData) := (fLc (fItL (fVar 0)) (gSet 6) (ret true) (fOp oIx (.v 6) (.e (ret (.int 2)))) [6])
noncomputable def q_papers_of_2 : M (List PyData) := (fLc (fAB oRng1 (fCons (fCB oLen [(.v 0)]) fNil)) (gSet 8) (fB (fOp oGe (.e (fOp oIx (.e (fOp oIx (.v 0) (.v 8))) (.e (ret (.int 2))))) (.v 5))) (fVar 8) [8])
noncomputable def q_papers_of_3 : M (List PyData) := (fLc (fItL (fVar 7)) (gSet 8) (ret true) (fOp oIx (.v 0) (.v 8)) [8])
noncomputable def q_papers_of_4 : M (List PyData) := (fLc (fItL (fVar 7)) (gSet 8) (ret true) (fOp oIx (.v 3) (.v 8)) [8])
noncomputable def b_papers_of_1 : Rho → Fl := (sSeq (sSetL 7 q_papers_of_2)
    (sSeq (sSetL 9 q_papers_of_3)
    (sSeq (sSetL 10 q_papers_of_4)
    (sMut 4 (fTup (fCons (fVar 5) (fCons (fCB oSum [(.v 10)]) (fCons (fLst (fCallL F_barring (fCons (fVar 9) (fCons (fVar 1) (fCons (fVar 2) (fCons (fVar 10) fNil)))))) fNil)))) kAppend))))
noncomputable def g_papers_of : Rho → Fl := (sSeq (sSet 3 (fLst (fCallL F_best_counts (fCons (fVar 0) (fCons (fVar 1) (fCons (fVar 2) fNil))))))
    (sSeq (sSetL 4 (fLs fNil))
    (sSeq (sFor (fItL (fLst (fRev (fLst (fSortU (fLst q_papers_of_1)))))) (gSet 5) b_papers_of_1)
    (sRetV 4))))
noncomputable abbrev F_papers_of := runP 11 g_papers_of 3
noncomputable def g_papers : Rho → Fl := (sSeq (sSet 3 (fLst (fCallL F_checked_lots (fCons (fVar 0) fNil))))
    (sSeq (sSet 4 (fLst (fCallL F_checked_outs (fCons (fVar 1) fNil))))
    (sSeq (sDrop (fCall F_need_term (fCons (fVar 2) fNil)))
    (sRetL (fCallL F_papers_of (fCons (fVar 3) (fCons (fVar 4) (fCons (fVar 2) fNil))))))))
noncomputable abbrev F_papers := runP 5 g_papers 3
end Mm

namespace K18
open PySem L2 Fx Mm
variable [Tabz]

noncomputable def q_l_some_stretches_1 : M (List PyData) := (fLc (fItL (fVar 1)) (gSet 3) (ret true) (fOp oIx (.v 3) (.e (ret (.int 0)))) [3])
noncomputable def q_l_some_stretches_2 : M (List PyData) := (fLc (fAB oRng1 (fCons (ret (.int 3)) fNil)) (gSet 4) (ret true) (fOp oAdd (.e (ret (.int 1))) (.e (fCallI 0 F_l_pick (fCons (ret (.int 999)) fNil)))) [4])
noncomputable def q_l_some_stretches_3 : M (List PyData) := (fLc (fItL (fVar 2)) (gSet 8) (fB (fOp oGt (.v 8) (.v 6))) (fVar 8) [8])
noncomputable def q_l_some_stretches_4 : M (List PyData) := (fLc (fItL (fVar 7)) (gSet 8) (fB (fOp oGe (.v 8) (.v 9))) (fVar 8) [8])
noncomputable def b_l_some_stretches_1 : Rho → Fl := (sSeq (sSetL 7 q_l_some_stretches_3)
    (sIf (fB (fOp oNE (.v 7) (.e (fLst (fLs fNil))))) (sSeq (sSet 9 (fCallI 0 F_l_one (fCons (fVar 7) fNil)))
    (sSeq (sSet 10 (fCallI 0 F_l_one (fCons (fLst q_l_some_stretches_4) fNil)))
    (sSeq (sMut 5 (fTup (fCons (fVar 9) (fCons (fVar 10) fNil))) kAppend)
    (sSet 6 (fVar 10))))) sNil))
noncomputable def g_l_some_stretches : Rho → Fl := (sSeq (sSet 2 (fLst (fLB oSortI [(.e (fLst (fOpL oCat (.e (fLst q_l_some_stretches_1)) (.e (fLst q_l_some_stretches_2)))))])))
    (sSeq (sSetL 5 (fLs fNil))
    (sSeq (sSet 6 (ret (.int 0)))
    (sSeq (sFor (fAB oRng1 (fCons (fCallI 0 F_l_pick (fCons (ret (.int 4)) fNil)) fNil)) (gSet 4) b_l_some_stretches_1)
    (sRetV0 5)))))
noncomputable abbrev F_l_some_stretches := runI 11 g_l_some_stretches 2
noncomputable def q_l_sum_of_1 : M (List PyData) := (fLc (fItL (fVar 1)) (gTp (gsCons (gSet 8) (gsCons (gSet 9) gsNil))) (tAndM (fB (fOp oLe (.v 6) (.v 8))) (fB (fOp oLe (.v 8) (.e (fOp oAdd (.v 7) (.v 2)))))) (fVar 9) [8, 9])
noncomputable def b_l_sum_of_1 : Rho → Fl := (sSet 5 (fOp oAdd (.v 5) (.e (fCB oSum [(.e (fLst q_l_sum_of_1))]))))
noncomputable def q_l_sum_of_2 : M (List PyData) := (fLc (fItL (fVar 4)) (gSet 12) (tAndM (fB (fOp oLe (.e (fOp oIx (.v 12) (.e (ret (.int 0))))) (.v 8))) (fB (fOp oLe (.v 8) (.e (fOp oIx (.v 12) (.e (ret (.int 1)))))))) (fVar 12) [12])
noncomputable def b_l_sum_of_2 : Rho → Fl := (sSeq (sSetL 11 q_l_sum_of_2)
    (sSet 5 (fOp oAdd (.v 5) (.e (fOp oMul (.v 9) (.e (fCB oInt1 [(.e (vAnd (fOp oGe (.v 10) (.v 3)) (fOp oEQ (.v 11) (.e (fLst (fLs fNil))))))])))))))
noncomputable def g_l_sum_of : Rho → Fl := (sSeq (sSet 5 (ret (.int 0)))
    (sSeq (sFor (fItL (fVar 4)) (gTp (gsCons (gSet 6) (gsCons (gSet 7) gsNil))) b_l_sum_of_1)
    (sSeq (sFor (fItL (fVar 0)) (gTp (gsCons (gSet 8) (gsCons (gSet 9) (gsCons (gSet 10) gsNil)))) b_l_sum_of_2)
    (sRetV 5))))
noncomputable abbrev F_l_sum_of := runP 13 g_l_sum_of 5
noncomputable def g_l_changed : Rho → Fl := (sSeq (sIf (fB (fOp oEQ (.v 1) (.e (fLst (fLs fNil))))) (sRetL0 (fLs fNil)) sNil)
    (sSeq (sSet 2 (fCallI 0 F_l_pick (fCons (fCB oLen [(.v 1)]) fNil)))
    (sSeq (sAsg (gTp (gsCons (gSet 3) (gsCons (gSet 4) gsNil))) (fOp oIx (.v 1) (.v 2)))
    (sSeq (sIf (fB (fOp oEQ (.e (fCallI 0 F_l_pick (fCons (ret (.int 2)) fNil))) (.e (ret (.int 0))))) (sRetL0 (fOpL oCat (.e (fLst (fSl (.v 1) fNoP (fP (fVar 2))))) (.e (fLst (fSl (.v 1) (fP (fOp oAdd (.v 2) (.e (ret (.int 1))))) fNoP))))) sNil)
    (sRetL0 (fOpL oCat (.e (fLst (fOpL oCat (.e (fLst (fSl (.v 1) fNoP (fP (fVar 2))))) (.e (fLst (fLs (fCons (fTup (fCons (fVar 3) (fCons (fOp oAdd (.v 3) (.e (fOp oDiv (.e (fOp oSub (.v 4) (.v 3))) (.e (ret (.int 2)))))) fNil))) fNil))))))) (.e (fLst (fSl (.v 1) (fP (fOp oAdd (.v 2) (.e (ret (.int 1))))) fNoP)))))))))
noncomputable abbrev F_l_changed := runI 5 g_l_changed 2
noncomputable def q_law_1 : M (List PyData) := (fLc (fAB oRng1 (fCons (fCB oLen [(.v 2)]) fNil)) (gSet 9) (fB (fOp oGe (.e (fOp oIx (.e (fOp oIx (.v 2) (.v 9))) (.e (ret (.int 2))))) (.v 6))) (fOp oIx (.v 5) (.v 9)) [9])
noncomputable def b_law_1 : Rho → Fl := (sSeq (sSet 11 (fCall F_l_sum_of (fCons (fVar 2) (fCons (fVar 3) (fCons (fVar 4) (fCons (fVar 6) (fCons (fVar 10) fNil)))))))
    (sSeq (sIf (fB (fOp oLt (.v 11) (.v 7))) (sRet (ret (.bool false))) sNil)
    (sSeq (sIf (fB (fOp oNotB (.e (fCall F_good_paper (fCons (fVar 2) (fCons (fVar 3) (fCons (fVar 4) (fCons (fTup (fCons (fVar 6) (fCons (fVar 11) (fCons (fVar 10) fNil)))) fNil)))))) (.e (ret (.bool true))))) (sRet (ret (.bool false))) sNil)
    (sIf (fB (fOp oNotB (.e (fCall F_good_paper (fCons (fVar 2) (fCons (fVar 3) (fCons (fVar 4) (fCons (fTup (fCons (fVar 6) (fCons (fOp oSub (.v 11) (.e (ret (.int 1)))) (fCons (fVar 10) fNil)))) fNil)))))) (.e (ret (.bool false))))) (sRet (ret (.bool false))) sNil))))
noncomputable def b_law_2 : Rho → Fl := (sSeq (sIf (fB (fOp oNE (.v 7) (.e (fCB oSum [(.e (fLst q_law_1))])))) (sRet (ret (.bool false))) sNil)
    (sFor (fItL (fLst (fLs (fCons (fVar 8) (fCons (fCallI 1 F_l_some_stretches (fCons (fVar 2) fNil)) (fCons (fCallI 1 F_l_changed (fCons (fVar 8) fNil)) fNil)))))) (gSet 10) b_law_1))
noncomputable def g_law : Rho → Fl := (sSeq (sAsg (gTp (gsCons (gSet 2) (gsCons (gSet 3) (gsCons (gSet 4) gsNil)))) (fCallI 1 F_l_case (fCons (ret (.int 9)) fNil)))
    (sSeq (sSet 5 (fLst (fCallL F_best (fCons (fVar 2) (fCons (fVar 3) (fCons (fVar 4) fNil))))))
    (sSeq (sFor (fItL (fLst (fCallL F_papers (fCons (fVar 2) (fCons (fVar 3) (fCons (fVar 4) fNil)))))) (gTp (gsCons (gSet 6) (gsCons (gSet 7) (gsCons (gSet 8) gsNil)))) b_law_2)
    (sRet (fOp oIsB (.e (fCall F_good_paper (fCons (fVar 2) (fCons (fVar 3) (fCons (fVar 4) (fCons (fTup (fCons (fOp oAdd (.e (fOp oPow (.e (ret (.int 10))) (.e (ret (.int 6))))) (.e (ret (.int 1)))) (fCons (ret (.int 0)) (fCons (fLst (fLs fNil)) fNil)))) fNil)))))) (.e (ret (.bool true))))))))
end K18

namespace K18
open PySem L2 Fx Mm
variable [Tabz]
def top (i : Nat) : Stmt := PySem.Challenge.pw_drawback_k18_whole_papers_bar_a_unit_mor.main.body.getD i (.Pass ⟨0, 0, 0, 0⟩)
abbrev s_need_day : Stmt := top 10
abbrev s_need_term : Stmt := top 11
abbrev s_is_stretch : Stmt := top 12
abbrev s_goes_against : Stmt := top 13
abbrev s_need_count : Stmt := top 18
abbrev s_need_duty : Stmt := top 19
abbrev s_checked_lots : Stmt := top 20
abbrev s_checked_outs : Stmt := top 21
abbrev s_by_duty : Stmt := top 22
abbrev s_out_against : Stmt := top 24
abbrev s_days_of : Stmt := top 25
abbrev s_all_stretches : Stmt := top 26
abbrev s_in_stretch : Stmt := top 27
abbrev s_spare : Stmt := top 28
abbrev s_room_at : Stmt := top 29
abbrev s_best_counts : Stmt := top 31
abbrev s_best : Stmt := top 32
abbrev s_joined : Stmt := top 34
abbrev s_holds_day : Stmt := top 35
abbrev s_shut_days : Stmt := top 36
abbrev s_barring : Stmt := top 37
abbrev s_papers_of : Stmt := top 38
abbrev s_papers : Stmt := top 39
abbrev s_in_order : Stmt := top 40
abbrev s_outside : Stmt := top 41
abbrev s_good_paper : Stmt := top 42
abbrev s__law_pick : Stmt := top 44
abbrev s__law_begin : Stmt := top 45
abbrev s__law_span : Stmt := top 46
abbrev s__law_some_term : Stmt := top 47
abbrev s__law_some_lots : Stmt := top 48
abbrev s__law_some_outs : Stmt := top 49
abbrev s__law_case : Stmt := top 50
abbrev s__law_one : Stmt := top 51
abbrev s__law_some_stretches : Stmt := top 52
abbrev s__law_sum_of : Stmt := top 53
abbrev s__law_changed : Stmt := top 54
abbrev s_law : Stmt := top 55
theorem sc_need_day : FnScope ["day"] ["day"] (defScope s_need_day) := ⟨rfl, rfl, rfl, by decide +kernel, rfl, by decide +kernel, by decide +kernel⟩
theorem sc_need_term : FnScope ["term"] ["term"] (defScope s_need_term) := ⟨rfl, rfl, rfl, by decide +kernel, rfl, by decide +kernel, by decide +kernel⟩
theorem sc_is_stretch : FnScope ["stretch", "first", "last"] ["stretch"] (defScope s_is_stretch) := ⟨rfl, rfl, rfl, by decide +kernel, rfl, by decide +kernel, by decide +kernel⟩
theorem sc_goes_against : FnScope ["stretch", "day", "term", "first", "last"] ["stretch", "day", "term"] (defScope s_goes_against) := ⟨rfl, rfl, rfl, by decide +kernel, rfl, by decide +kernel, by decide +kernel⟩
theorem sc_need_count : FnScope ["count"] ["count"] (defScope s_need_count) := ⟨rfl, rfl, rfl, by decide +kernel, rfl, by decide +kernel, by decide +kernel⟩
theorem sc_need_duty : FnScope ["duty"] ["duty"] (defScope s_need_duty) := ⟨rfl, rfl, rfl, by decide +kernel, rfl, by decide +kernel, by decide +kernel⟩
theorem sc_checked_lots : FnScope ["lots", "day", "count", "duty"] ["lots"] (defScope s_checked_lots) := ⟨rfl, rfl, rfl, by decide +kernel, rfl, by decide +kernel, by decide +kernel⟩
theorem sc_checked_outs : FnScope ["outs", "day", "count"] ["outs"] (defScope s_checked_outs) := ⟨rfl, rfl, rfl, by decide +kernel, rfl, by decide +kernel, by decide +kernel⟩
theorem sc_by_duty : FnScope ["lots"] ["lots"] (defScope s_by_duty) := ⟨rfl, rfl, rfl, by decide +kernel, rfl, by decide +kernel, by decide +kernel⟩
theorem sc_out_against : FnScope ["outs", "term", "stretch", "day", "count"] ["outs", "term", "stretch"] (defScope s_out_against) := ⟨rfl, rfl, rfl, by decide +kernel, rfl, by decide +kernel, by decide +kernel⟩
theorem sc_days_of : FnScope ["lots", "lot"] ["lots"] (defScope s_days_of) := ⟨rfl, rfl, rfl, by decide +kernel, rfl, by decide +kernel, by decide +kernel⟩
theorem sc_all_stretches : FnScope ["lots", "days", "found", "at", "first", "last"] ["lots"] (defScope s_all_stretches) := ⟨rfl, rfl, rfl, by decide +kernel, rfl, by decide +kernel, by decide +kernel⟩
theorem sc_in_stretch : FnScope ["lots", "taken", "stretch", "first", "last", "at"] ["lots", "taken", "stretch"] (defScope s_in_stretch) := ⟨rfl, rfl, rfl, by decide +kernel, rfl, by decide +kernel, by decide +kernel⟩
theorem sc_spare : FnScope ["lots", "outs", "term", "taken", "stretch"] ["lots", "outs", "term", "taken", "stretch"] (defScope s_spare) := ⟨rfl, rfl, rfl, by decide +kernel, rfl, by decide +kernel, by decide +kernel⟩
theorem sc_room_at : FnScope ["lots", "outs", "term", "taken", "at", "day", "found", "stretch"] ["lots", "outs", "term", "taken", "at"] (defScope s_room_at) := ⟨rfl, rfl, rfl, by decide +kernel, rfl, by decide +kernel, by decide +kernel⟩
theorem sc_best_counts : FnScope ["lots", "outs", "term", "taken", "at"] ["lots", "outs", "term"] (defScope s_best_counts) := ⟨rfl, rfl, rfl, by decide +kernel, rfl, by decide +kernel, by decide +kernel⟩
theorem sc_best : FnScope ["lots", "outs", "term", "mine", "theirs"] ["lots", "outs", "term"] (defScope s_best) := ⟨rfl, rfl, rfl, by decide +kernel, rfl, by decide +kernel, by decide +kernel⟩
theorem sc_joined : FnScope ["stretches", "found", "first", "last"] ["stretches"] (defScope s_joined) := ⟨rfl, rfl, rfl, by decide +kernel, rfl, by decide +kernel, by decide +kernel⟩
theorem sc_holds_day : FnScope ["stretch", "day"] ["stretch", "day"] (defScope s_holds_day) := ⟨rfl, rfl, rfl, by decide +kernel, rfl, by decide +kernel, by decide +kernel⟩
theorem sc_shut_days : FnScope ["dear", "taken", "at"] ["dear", "taken"] (defScope s_shut_days) := ⟨rfl, rfl, rfl, by decide +kernel, rfl, by decide +kernel, by decide +kernel⟩
theorem sc_barring : FnScope ["dear", "outs", "term", "taken", "shut", "found", "stretch", "day"] ["dear", "outs", "term", "taken"] (defScope s_barring) := ⟨rfl, rfl, rfl, by decide +kernel, rfl, by decide +kernel, by decide +kernel⟩
theorem sc_papers_of : FnScope ["lots", "outs", "term", "taken", "found", "duty", "lot", "places", "at", "dear", "some"] ["lots", "outs", "term"] (defScope s_papers_of) := ⟨rfl, rfl, rfl, by decide +kernel, rfl, by decide +kernel, by decide +kernel⟩
theorem sc_papers : FnScope ["lots", "outs", "term", "mine", "theirs"] ["lots", "outs", "term"] (defScope s_papers) := ⟨rfl, rfl, rfl, by decide +kernel, rfl, by decide +kernel, by decide +kernel⟩
theorem sc_in_order : FnScope ["stretches", "at", "stretch"] ["stretches"] (defScope s_in_order) := ⟨rfl, rfl, rfl, by decide +kernel, rfl, by decide +kernel, by decide +kernel⟩
theorem sc_outside : FnScope ["lots", "duty", "stretches", "found", "day", "count", "own", "stretch"] ["lots", "duty", "stretches"] (defScope s_outside) := ⟨rfl, rfl, rfl, by decide +kernel, rfl, by decide +kernel, by decide +kernel⟩
theorem sc_good_paper : FnScope ["lots", "outs", "term", "paper", "mine", "theirs", "duty", "units", "stretches", "barred", "stretch"] ["lots", "outs", "term", "paper"] (defScope s_good_paper) := ⟨rfl, rfl, rfl, by decide +kernel, rfl, by decide +kernel, by decide +kernel⟩
theorem sc__law_pick : FnScope ["_law_draw", "_law_many", "_law_cell", "_law_got"] ["_law_draw", "_law_many"] (defScope s__law_pick) := ⟨rfl, rfl, rfl, by decide +kernel, rfl, by decide +kernel, by decide +kernel⟩
theorem sc__law_begin : FnScope ["_law_script"] ["_law_script"] (defScope s__law_begin) := ⟨rfl, rfl, rfl, by decide +kernel, rfl, by decide +kernel, by decide +kernel⟩
theorem sc__law_span : FnScope ["_law_draw", "_law_span_here"] ["_law_draw"] (defScope s__law_span) := ⟨rfl, rfl, rfl, by decide +kernel, rfl, by decide +kernel, by decide +kernel⟩
theorem sc__law_some_term : FnScope ["_law_draw"] ["_law_draw"] (defScope s__law_some_term) := ⟨rfl, rfl, rfl, by decide +kernel, rfl, by decide +kernel, by decide +kernel⟩
theorem sc__law_some_lots : FnScope ["_law_draw", "_law_most", "_law_days", "_law_scale", "_law_dear", "_law_found", "_law_k", "_law_day", "_law_count"] ["_law_draw", "_law_most", "_law_days", "_law_scale"] (defScope s__law_some_lots) := ⟨rfl, rfl, rfl, by decide +kernel, rfl, by decide +kernel, by decide +kernel⟩
theorem sc__law_some_outs : FnScope ["_law_draw", "_law_most", "_law_days", "_law_scale", "_law_found", "_law_k", "_law_day"] ["_law_draw", "_law_most", "_law_days", "_law_scale"] (defScope s__law_some_outs) := ⟨rfl, rfl, rfl, by decide +kernel, rfl, by decide +kernel, by decide +kernel⟩
theorem sc__law_case : FnScope ["_law_draw", "_law_most", "_law_days", "_law_term", "_law_scale", "_law_lots"] ["_law_draw", "_law_most"] (defScope s__law_case) := ⟨rfl, rfl, rfl, by decide +kernel, rfl, by decide +kernel, by decide +kernel⟩
theorem sc__law_one : FnScope ["_law_draw", "_law_some"] ["_law_draw", "_law_some"] (defScope s__law_one) := ⟨rfl, rfl, rfl, by decide +kernel, rfl, by decide +kernel, by decide +kernel⟩
theorem sc__law_some_stretches : FnScope ["_law_draw", "_law_lots", "_law_days", "_law_lot", "_law_k", "_law_found", "_law_ahead", "_law_later", "_law_day", "_law_first", "_law_last"] ["_law_draw", "_law_lots"] (defScope s__law_some_stretches) := ⟨rfl, rfl, rfl, by decide +kernel, rfl, by decide +kernel, by decide +kernel⟩
theorem sc__law_sum_of : FnScope ["_law_lots", "_law_outs", "_law_term", "_law_duty", "_law_stretches", "_law_found", "_law_first", "_law_last", "_law_day", "_law_count", "_law_own", "_law_inside", "_law_one_here"] ["_law_lots", "_law_outs", "_law_term", "_law_duty", "_law_stretches"] (defScope s__law_sum_of) := ⟨rfl, rfl, rfl, by decide +kernel, rfl, by decide +kernel, by decide +kernel⟩
theorem sc__law_changed : FnScope ["_law_draw", "_law_stretches", "_law_at", "_law_first", "_law_last"] ["_law_draw", "_law_stretches"] (defScope s__law_changed) := ⟨rfl, rfl, rfl, by decide +kernel, rfl, by decide +kernel, by decide +kernel⟩
theorem sc_law : FnScope ["_law_script", "_law_draw", "_law_lots", "_law_outs", "_law_term", "_law_most", "_law_duty", "_law_units", "_law_told", "_law_at", "_law_stretches", "_law_some"] ["_law_script"] (defScope s_law) := ⟨rfl, rfl, rfl, by decide +kernel, rfl, by decide +kernel, by decide +kernel⟩
def fa : List Fq := [.f (.int "LAST_DAY" 999),
  .f (.exc "BadDay"),
  .f (.glo "BadDay"),
  .f (.int "LONGEST" 400),
  .f (.exc "BadTerm"),
  .f (.glo "BadTerm"),
  .f (.int "MOST_UNITS" 10000000000),
  .f (.exc "BadCount"),
  .f (.glo "BadCount"),
  .f (.int "MOST_DUTY" 1000000),
  .f (.exc "BadDuty"),
  .f (.glo "BadDuty"),
  .f (.free "len"),
  .f (.int "MOST_ROWS" 30),
  .f (.exc "BadRows"),
  .f (.glo "BadRows"),
  .f (.free "list"),
  .f (.free "range"),
  .f (.free "sorted"),
  .f (.free "sum"),
  .f (.free "set"),
  .f (.free "enumerate"),
  .f (.free "min"),
  .f (.free "max"),
  .f (.free "any"),
  .f (.free "int"),
  .f (.glo "need_day"),
  .f (.glo "need_term"),
  .f (.glo "is_stretch"),
  .f (.glo "goes_against"),
  .f (.glo "need_count"),
  .f (.glo "need_duty"),
  .f (.glo "checked_lots"),
  .f (.glo "checked_outs"),
  .f (.glo "by_duty"),
  .f (.glo "out_against"),
  .f (.glo "days_of"),
  .f (.glo "all_stretches"),
  .f (.glo "in_stretch"),
  .f (.glo "spare"),
  .f (.glo "room_at"),
  .f (.glo "best_counts"),
  .f (.glo "best"),
  .f (.glo "joined"),
  .f (.glo "holds_day"),
  .f (.glo "shut_days"),
  .f (.glo "barring"),
  .f (.glo "papers_of"),
  .f (.glo "papers"),
  .f (.glo "in_order"),
  .f (.glo "outside"),
  .f (.glo "good_paper"),
  .f (.glo "_law_pick"),
  .f (.glo "_law_begin"),
  .f (.glo "_law_span"),
  .f (.glo "_law_some_term"),
  .f (.glo "_law_some_lots"),
  .f (.glo "_law_some_outs"),
  .f (.glo "_law_case"),
  .f (.glo "_law_one"),
  .f (.glo "_law_some_stretches"),
  .f (.glo "_law_sum_of"),
  .f (.glo "_law_changed"),
  .f (.glo "law")]
def tf : List Str := ["by_duty"]
def fn : List He.FnD := [mkD "need_day" s_need_day, mkD "need_term" s_need_term, mkD "is_stretch" s_is_stretch, mkD "goes_against" s_goes_against, mkD "need_count" s_need_count, mkD "need_duty" s_need_duty, mkD "checked_lots" s_checked_lots, mkD "checked_outs" s_checked_outs, mkD "by_duty" s_by_duty, mkD "out_against" s_out_against, mkD "days_of" s_days_of, mkD "all_stretches" s_all_stretches, mkD "in_stretch" s_in_stretch, mkD "spare" s_spare, mkD "room_at" s_room_at, mkD "best_counts" s_best_counts, mkD "best" s_best, mkD "joined" s_joined, mkD "holds_day" s_holds_day, mkD "shut_days" s_shut_days, mkD "barring" s_barring, mkD "papers_of" s_papers_of, mkD "papers" s_papers, mkD "in_order" s_in_order, mkD "outside" s_outside, mkD "good_paper" s_good_paper, mkD "_law_pick" s__law_pick, mkD "_law_begin" s__law_begin, mkD "_law_span" s__law_span, mkD "_law_some_term" s__law_some_term, mkD "_law_some_lots" s__law_some_lots, mkD "_law_some_outs" s__law_some_outs, mkD "_law_case" s__law_case, mkD "_law_one" s__law_one, mkD "_law_some_stretches" s__law_some_stretches, mkD "_law_sum_of" s__law_sum_of, mkD "_law_changed" s__law_changed, mkD "law" s_law]
section
variable {P : Program} {w : World} {K : PySem.W.Frag} {mg : Str → Option Value} {base : Heap}
theorem c_need_day (T : Tp fa fn tf K mg base) : Cal P w K mg base "need_day" 1 ["day"] (spP (He.ga K) 1 F_need_day) := by
  refine cal_pure T.toTop 26 0 rfl rfl sc_need_day (fun _ _ _ _ _ _ us hl => match us, hl with | [_], _ => rfl) (fun cdv A outer s H E hr => ?_)
  exact (fss_one (fs_if (ft_pw (fw_or (ft_cmp op_lt rd_lt (vO 0) (eO fe_int) (nomark _)) (fw_or1 (ft_cmp op_gt rd_gt (vO 0) (eO (fe_globI (by rfl) (T.int 0).choose_spec)) (nomark _))))) (fss_one (fs_raise rfl (takes_of rfl rfl rfl rfl) PySem.F.excBase_ValueError (T.exc 1).1 (T.glo 2) (T.exc 1).2.1 (raises_own (T.exc 1).2.2.1 (T.exc 1).2.2.2) (by rfl))) fss_nil))
theorem c_need_term (T : Tp fa fn tf K mg base) : Cal P w K mg base "need_term" 1 ["term"] (spP (He.ga K) 1 F_need_term) := by
  refine cal_pure T.toTop 27 1 rfl rfl sc_need_term (fun _ _ _ _ _ _ us hl => match us, hl with | [_], _ => rfl) (fun cdv A outer s H E hr => ?_)
  exact (fss_one (fs_if (ft_pw (fw_or (ft_cmp op_lt rd_lt (vO 0) (eO fe_int) (nomark _)) (fw_or1 (ft_cmp op_gt rd_gt (vO 0) (eO (fe_globI (by rfl) (T.int 3).choose_spec)) (nomark _))))) (fss_one (fs_raise rfl (takes_of rfl rfl rfl rfl) PySem.F.excBase_ValueError (T.exc 4).1 (T.glo 5) (T.exc 4).2.1 (raises_own (T.exc 4).2.2.1 (T.exc 4).2.2.2) (by rfl))) fss_nil))
theorem c_is_stretch (T : Tp fa fn tf K mg base) : Cal P w K mg base "is_stretch" 1 ["stretch"] (spP (He.ga K) 1 F_is_stretch) := by
  refine cal_pure T.toTop 28 2 rfl rfl sc_is_stretch (fun _ _ _ _ _ _ us hl => match us, hl with | [_], _ => rfl) (fun cdv A outer s H E hr => ?_)
  exact (fss_cons (fs_asg (by decide) (fe_var 0) (fg_tup rfl (fgs_cons (fg_name 1 sc_is_stretch.nd) (fgs_cons (fg_name 2 sc_is_stretch.nd) fgs_nil)) (gs_len (gs_len gs_len0))))
      (fss_one (fs_ret (fe_and (fe_cmp op_le rd_le (eO fe_int) (vO 1) (nomark _)) (fe_and (fe_cmp op_le rd_le (vO 1) (vO 2) (nomark _)) (fe_one (fe_cmp op_le rd_le (vO 2) (eO (fe_globI (by rfl) (T.int 0).choose_spec)) (nomark _))))))))
theorem c_goes_against (T : Tp fa fn tf K mg base) : Cal P w K mg base "goes_against" 1 ["stretch", "day", "term"] (spP (He.ga K) 3 F_goes_against) := by
  refine cal_pure T.toTop 29 3 rfl rfl sc_goes_against (fun _ _ _ _ _ _ us hl => match us, hl with | [_, _, _], _ => rfl) (fun cdv A outer s H E hr => ?_)
  exact (fss_cons (fs_asg (by decide) (fe_var 0) (fg_tup rfl (fgs_cons (fg_name 3 sc_goes_against.nd) (fgs_cons (fg_name 4 sc_goes_against.nd) fgs_nil)) (gs_len (gs_len gs_len0))))
      (fss_one (fs_ret (fe_and (fe_cmp op_le rd_le (vO 3) (vO 1) (nomark _)) (fe_one (fe_cmp op_le rd_le (vO 1) (eO (fe_add (vO 4) (vO 2))) (nomark _)))))))
theorem c_need_count (T : Tp fa fn tf K mg base) : Cal P w K mg base "need_count" 1 ["count"] (spP (He.ga K) 1 F_need_count) := by
  refine cal_pure T.toTop 30 4 rfl rfl sc_need_count (fun _ _ _ _ _ _ us hl => match us, hl with | [_], _ => rfl) (fun cdv A outer s H E hr => ?_)
  exact (fss_one (fs_if (ft_pw (fw_or (ft_cmp op_lt rd_lt (vO 0) (eO fe_int) (nomark _)) (fw_or1 (ft_cmp op_gt rd_gt (vO 0) (eO (fe_globI (by rfl) (T.int 6).choose_spec)) (nomark _))))) (fss_one (fs_raise rfl (takes_of rfl rfl rfl rfl) PySem.F.excBase_ValueError (T.exc 7).1 (T.glo 8) (T.exc 7).2.1 (raises_own (T.exc 7).2.2.1 (T.exc 7).2.2.2) (by rfl))) fss_nil))
theorem c_need_duty (T : Tp fa fn tf K mg base) : Cal P w K mg base "need_duty" 1 ["duty"] (spP (He.ga K) 1 F_need_duty) := by
  refine cal_pure T.toTop 31 5 rfl rfl sc_need_duty (fun _ _ _ _ _ _ us hl => match us, hl with | [_], _ => rfl) (fun cdv A outer s H E hr => ?_)
  exact (fss_one (fs_if (ft_pw (fw_or (ft_cmp op_lt rd_lt (vO 0) (eO fe_int) (nomark _)) (fw_or1 (ft_cmp op_gt rd_gt (vO 0) (eO (fe_globI (by rfl) (T.int 9).choose_spec)) (nomark _))))) (fss_one (fs_raise rfl (takes_of rfl rfl rfl rfl) PySem.F.excBase_ValueError (T.exc 10).1 (T.glo 11) (T.exc 10).2.1 (raises_own (T.exc 10).2.2.1 (T.exc 10).2.2.2) (by rfl))) fss_nil))
theorem c_checked_lots (T : Tp fa fn tf K mg base) : Cal P w K mg base "checked_lots" 2 ["lots"] (spP (He.ga K) 1 F_checked_lots) := by
  refine cal_pure T.toTop 32 6 rfl rfl sc_checked_lots (fun _ _ _ _ _ _ us hl => match us, hl with | [_], _ => rfl) (fun cdv A outer s H E hr => ?_)
  exact (fss_cons (fs_if (ft_cmp op_gt rd_gt (eO (fe_len (by rfl) (T.free 12) (oa_cons (vO 0) oa_nil))) (eO (fe_globI (by rfl) (T.int 13).choose_spec)) (nomark _)) (fss_one (fs_raise rfl (takes_of rfl rfl rfl rfl) PySem.F.excBase_ValueError (T.exc 14).1 (T.glo 15) (T.exc 14).2.1 (raises_own (T.exc 14).2.2.1 (T.exc 14).2.2.2) (by rfl))) fss_nil)
      (fss_cons (fs_for (passes_of rfl) rfl (by decide) (fi_list (fe_var 0)) (fg_tup rfl (fgs_cons (fg_name 1 sc_checked_lots.nd) (fgs_cons (fg_name 2 sc_checked_lots.nd) (fgs_cons (fg_name 3 sc_checked_lots.nd) fgs_nil))) (gs_len (gs_len (gs_len gs_len0)))) (fss_cons (fs_expr (fe_cal (c_need_day T) (hr.mono (by decide)) (by rfl) (takes_of rfl rfl rfl rfl) (fa_cons (fe_var 1) fa_nil)))
      (fss_cons (fs_expr (fe_cal (c_need_count T) (hr.mono (by decide)) (by rfl) (takes_of rfl rfl rfl rfl) (fa_cons (fe_var 2) fa_nil)))
      (fss_one (fs_expr (fe_cal (c_need_duty T) (hr.mono (by decide)) (by rfl) (takes_of rfl rfl rfl rfl) (fa_cons (fe_var 3) fa_nil)))))))
      (fss_one (fs_retL rfl (fl_list (by rfl) (T.free 16) (oa_cons (vO 0) oa_nil))))))
theorem c_checked_outs (T : Tp fa fn tf K mg base) : Cal P w K mg base "checked_outs" 2 ["outs"] (spP (He.ga K) 1 F_checked_outs) := by
  refine cal_pure T.toTop 33 7 rfl rfl sc_checked_outs (fun _ _ _ _ _ _ us hl => match us, hl with | [_], _ => rfl) (fun cdv A outer s H E hr => ?_)
  exact (fss_cons (fs_if (ft_cmp op_gt rd_gt (eO (fe_len (by rfl) (T.free 12) (oa_cons (vO 0) oa_nil))) (eO (fe_globI (by rfl) (T.int 13).choose_spec)) (nomark _)) (fss_one (fs_raise rfl (takes_of rfl rfl rfl rfl) PySem.F.excBase_ValueError (T.exc 14).1 (T.glo 15) (T.exc 14).2.1 (raises_own (T.exc 14).2.2.1 (T.exc 14).2.2.2) (by rfl))) fss_nil)
      (fss_cons (fs_for (passes_of rfl) rfl (by decide) (fi_list (fe_var 0)) (fg_tup rfl (fgs_cons (fg_name 1 sc_checked_outs.nd) (fgs_cons (fg_name 2 sc_checked_outs.nd) fgs_nil)) (gs_len (gs_len gs_len0))) (fss_cons (fs_expr (fe_cal (c_need_day T) (hr.mono (by decide)) (by rfl) (takes_of rfl rfl rfl rfl) (fa_cons (fe_var 1) fa_nil)))
      (fss_one (fs_expr (fe_cal (c_need_count T) (hr.mono (by decide)) (by rfl) (takes_of rfl rfl rfl rfl) (fa_cons (fe_var 2) fa_nil))))))
      (fss_one (fs_retL rfl (fl_list (by rfl) (T.free 16) (oa_cons (vO 0) oa_nil))))))
theorem c_by_duty (T : Tp fa fn tf K mg base) : Cal P w K mg base "by_duty" 1 ["lots"] (spP (He.ga K) 1 F_by_duty) := by
  refine cal_pureT T.toTop 34 8 rfl rfl sc_by_duty (fun _ _ _ _ _ _ us hl => match us, hl with | [_], _ => rfl) (fun cdv ci A outer s H E hr => ?_)
  exact (fss_one (fs_retL rfl (fl_sortK (kx := [.zsub 2, .col 0, .pl]) (r := "lots") (a := "at") 0 rfl (.cons (kx_zsub (by decide)) (.cons (kx_col (by decide)) (.cons kx_pl .nil))) (by decide) (by decide) (by rfl) (T.free 18) hr (T.tbs "by_duty" (show ("by_duty" : Str) ∈ tf by decide +kernel)) (cd_code ci) (tp_tab T (show ("by_duty" : Str) ∈ tf by decide +kernel)).1 (tp_tab T (show ("by_duty" : Str) ∈ tf by decide +kernel)).2 rfl (fun _ _ _ _ _ _ => rfl) rfl rfl rfl (by decide +kernel) rfl rfl (by decide +kernel) rfl (fe_ofL (fl_lrange1 rfl (by rfl) (T.free 16) (by rfl) (T.free 17) (fe_len (by rfl) (T.free 12) (oa_cons (vO 0) oa_nil)))))))
theorem c_out_against (T : Tp fa fn tf K mg base) : Cal P w K mg base "out_against" 2 ["outs", "term", "stretch"] (spP (He.ga K) 3 F_out_against) := by
  refine cal_pure T.toTop 35 9 rfl rfl sc_out_against (fun _ _ _ _ _ _ us hl => match us, hl with | [_, _, _], _ => rfl) (fun cdv A outer s H E hr => ?_)
  exact (fss_one (fs_ret (fe_sum rfl (by rfl) (T.free 19) (oa_cons (eO (fe_ofL (fl_lc (own := [("day", 3), ("count", 4)]) rfl sc_out_against.nd (blkOk_by (own := [("day", 3), ("count", 4)]) (N := ["outs", "term", "stretch", "day", "count"]) (sc := (defScope s_out_against)) (by decide +kernel)) (by decide) (fi_list (fe_var 0)) (fun _ _ _ _ _ => (fg_tup rfl (fgs_cons (fg_name 3 sc_out_against.nd) (fgs_cons (fg_name 4 sc_out_against.nd) fgs_nil)) (gs_len (gs_len gs_len0)))) (fun _ _ _ _ _ => (fts_one (ft_val (fe_cal (c_goes_against T) (hr.mono (by decide)) (by rfl) takes0 (fa_cons (fe_var 2) (fa_cons (fe_var 3) (fa_cons (fe_var 1) fa_nil))))))) (fun _ _ _ _ _ => (fe_var 4))))) oa_nil))))
theorem c_days_of (T : Tp fa fn tf K mg base) : Cal P w K mg base "days_of" 1 ["lots"] (spP (He.ga K) 1 F_days_of) := by
  refine cal_pure T.toTop 36 10 rfl rfl sc_days_of (fun _ _ _ _ _ _ us hl => match us, hl with | [_], _ => rfl) (fun cdv A outer s H E hr => ?_)
  exact (fss_one (fs_retL rfl (fl_sortU rfl (by rfl) (T.free 18) (by rfl) (T.free 20) (fe_ofL (fl_lc (own := [("lot", 1)]) rfl sc_days_of.nd (blkOk_by (own := [("lot", 1)]) (N := ["lots", "lot"]) (sc := (defScope s_days_of)) (by decide +kernel)) (by decide) (fi_list (fe_var 0)) (fun _ _ _ _ _ => (fg_name 1 sc_days_of.nd)) (fun _ _ _ _ _ => fts_nil) (fun _ _ _ _ _ => (fe_ix (vO 1) (eO fe_int))))))))
theorem c_all_stretches (T : Tp fa fn tf K mg base) : Cal P w K mg base "all_stretches" 2 ["lots"] (spP (He.ga K) 1 F_all_stretches) := by
  refine cal_pure T.toTop 37 11 rfl rfl sc_all_stretches (fun _ _ _ _ _ _ us hl => match us, hl with | [_], _ => rfl) (fun cdv A outer s H E hr => ?_)
  exact (fss_cons (fs_set 1 sc_all_stretches.nd (by decide) (fe_ofL (fl_cal (c_days_of T) (hr.mono (by decide)) (by rfl) (takes_of rfl rfl rfl rfl) (fa_cons (fe_var 0) fa_nil))))
      (fss_cons (fs_setL 2 sc_all_stretches.nd (by decide) (fl_lst fa_nil))
      (fss_cons (fs_for (passes_of rfl) rfl (by decide) (fi_enum (by rfl) (T.free 21) (fa_cons (fe_var 1) fa_nil)) (fg_tup rfl (fgs_cons (fg_name 3 sc_all_stretches.nd) (fgs_cons (fg_name 4 sc_all_stretches.nd) fgs_nil)) (gs_len (gs_len gs_len0))) (fss_one (fs_extend 2 (fe_ofL (fl_lc (own := [("last", 5)]) rfl sc_all_stretches.nd (blkOk_by (own := [("last", 5)]) (N := ["lots", "days", "found", "at", "first", "last"]) (sc := (defScope s_all_stretches)) (by decide +kernel)) (by decide) (fi_list (fe_ofL (fl_slice (vO 1) (fp_some (fe_var 3)) fp_none))) (fun _ _ _ _ _ => (fg_name 5 sc_all_stretches.nd)) (fun _ _ _ _ _ => fts_nil) (fun _ _ _ _ _ => (fe_tup (fa_cons (fe_var 4) (fa_cons (fe_var 5) fa_nil)))))))))
      (fss_one (fs_retV 2 rfl)))))
theorem c_in_stretch (T : Tp fa fn tf K mg base) : Cal P w K mg base "in_stretch" 1 ["lots", "taken", "stretch"] (spP (He.ga K) 3 F_in_stretch) := by
  refine cal_pure T.toTop 38 12 rfl rfl sc_in_stretch (fun _ _ _ _ _ _ us hl => match us, hl with | [_, _, _], _ => rfl) (fun cdv A outer s H E hr => ?_)
  exact (fss_cons (fs_asg (by decide) (fe_var 2) (fg_tup rfl (fgs_cons (fg_name 3 sc_in_stretch.nd) (fgs_cons (fg_name 4 sc_in_stretch.nd) fgs_nil)) (gs_len (gs_len gs_len0))))
      (fss_one (fs_ret (fe_sum rfl (by rfl) (T.free 19) (oa_cons (eO (fe_ofL (fl_lc (own := [("at", 5)]) rfl sc_in_stretch.nd (blkOk_by (own := [("at", 5)]) (N := ["lots", "taken", "stretch", "first", "last", "at"]) (sc := (defScope s_in_stretch)) (by decide +kernel)) (by decide) (fi_rng1 (by rfl) (T.free 17) (fa_cons (fe_len (by rfl) (T.free 12) (oa_cons (vO 0) oa_nil)) fa_nil)) (fun _ _ _ _ _ => (fg_name 5 sc_in_stretch.nd)) (fun _ _ _ _ _ => (fts_one (ft_pw (fw_and (ft_cmp op_le rd_le (vO 3) (eO (fe_ix (eO (fe_ix (vO 0) (vO 5))) (eO fe_int))) (nomark _)) (fw_and1 (ft_cmp op_le rd_le (eO (fe_ix (eO (fe_ix (vO 0) (vO 5))) (eO fe_int))) (vO 4) (nomark _))))))) (fun _ _ _ _ _ => (fe_ix (vO 1) (vO 5)))))) oa_nil)))))
theorem c_spare (T : Tp fa fn tf K mg base) : Cal P w K mg base "spare" 3 ["lots", "outs", "term", "taken", "stretch"] (spP (He.ga K) 5 F_spare) := by
  refine cal_pure T.toTop 39 13 rfl rfl sc_spare (fun _ _ _ _ _ _ us hl => match us, hl with | [_, _, _, _, _], _ => rfl) (fun cdv A outer s H E hr => ?_)
  exact (fss_one (fs_ret (fe_sub (eO (fe_cal (c_out_against T) (hr.mono (by decide)) (by rfl) (takes_of rfl rfl rfl rfl) (fa_cons (fe_var 1) (fa_cons (fe_var 2) (fa_cons (fe_var 4) fa_nil))))) (eO (fe_cal (c_in_stretch T) (hr.mono (by decide)) (by rfl) (takes_of rfl rfl rfl rfl) (fa_cons (fe_var 0) (fa_cons (fe_var 3) (fa_cons (fe_var 4) fa_nil))))))))
theorem c_room_at (T : Tp fa fn tf K mg base) : Cal P w K mg base "room_at" 4 ["lots", "outs", "term", "taken", "at"] (spP (He.ga K) 5 F_room_at) := by
  refine cal_pure T.toTop 40 14 rfl rfl sc_room_at (fun _ _ _ _ _ _ us hl => match us, hl with | [_, _, _, _, _], _ => rfl) (fun cdv A outer s H E hr => ?_)
  exact (fss_cons (fs_set 5 sc_room_at.nd (by decide) (fe_ix (eO (fe_ix (vO 0) (vO 4))) (eO fe_int)))
      (fss_cons (fs_set 6 sc_room_at.nd (by decide) (fe_sub (eO (fe_ix (eO (fe_ix (vO 0) (vO 4))) (eO fe_int))) (eO (fe_ix (vO 3) (vO 4)))))
      (fss_cons (fs_for (passes_of rfl) rfl (by decide) (fi_list (fe_ofL (fl_cal (c_all_stretches T) (hr.mono (by decide)) (by rfl) (takes_of rfl rfl rfl rfl) (fa_cons (fe_var 0) fa_nil)))) (fg_name 7 sc_room_at.nd) (fss_one (fs_if (ft_pw (fw_and (ft_cmp op_le rd_le (eO (fe_ix (vO 7) (eO fe_int))) (vO 5) (nomark _)) (fw_and1 (ft_cmp op_le rd_le (vO 5) (eO (fe_ix (vO 7) (eO fe_int))) (nomark _))))) (fss_one (fs_set 6 sc_room_at.nd (by decide) (fe_min2 rfl (by rfl) (T.free 22) (oa_cons (vO 6) (oa_cons (eO (fe_cal (c_spare T) (hr.mono (by decide)) (by rfl) (takes_of rfl rfl rfl rfl) (fa_cons (fe_var 0) (fa_cons (fe_var 1) (fa_cons (fe_var 2) (fa_cons (fe_var 3) (fa_cons (fe_var 7) fa_nil))))))) oa_nil))))) fss_nil)))
      (fss_one (fs_retV 6 rfl)))))
theorem c_best_counts (T : Tp fa fn tf K mg base) : Cal P w K mg base "best_counts" 5 ["lots", "outs", "term"] (spP (He.ga K) 3 F_best_counts) := by
  refine cal_pure T.toTop 41 15 rfl rfl sc_best_counts (fun _ _ _ _ _ _ us hl => match us, hl with | [_, _, _], _ => rfl) (fun cdv A outer s H E hr => ?_)
  exact (fss_cons (fs_setL 3 sc_best_counts.nd (by decide) (fl_rep (eO (fe_ofL (fl_lst (fa_cons fe_int fa_nil)))) (eO (fe_len (by rfl) (T.free 12) (oa_cons (vO 0) oa_nil)))))
      (fss_cons (fs_for (passes_of rfl) rfl (by decide) (fi_list (fe_ofL (fl_cal (c_by_duty T) (hr.mono (by decide)) (by rfl) (takes_of rfl rfl rfl rfl) (fa_cons (fe_var 0) fa_nil)))) (fg_name 4 sc_best_counts.nd) (fss_one (fs_setIx 3 (fe_calP runP_len (c_room_at T) (hr.mono (by decide)) (by rfl) (takes_of rfl rfl rfl rfl) (oa_cons (vO 0) (oa_cons (vO 1) (oa_cons (vO 2) (oa_cons (vO 3) (oa_cons (vO 4) oa_nil)))))) (fe_var 4))))
      (fss_one (fs_retV 3 rfl))))
theorem c_best (T : Tp fa fn tf K mg base) : Cal P w K mg base "best" 6 ["lots", "outs", "term"] (spP (He.ga K) 3 F_best) := by
  refine cal_pure T.toTop 42 16 rfl rfl sc_best (fun _ _ _ _ _ _ us hl => match us, hl with | [_, _, _], _ => rfl) (fun cdv A outer s H E hr => ?_)
  exact (fss_cons (fs_set 3 sc_best.nd (by decide) (fe_ofL (fl_cal (c_checked_lots T) (hr.mono (by decide)) (by rfl) (takes_of rfl rfl rfl rfl) (fa_cons (fe_var 0) fa_nil))))
      (fss_cons (fs_set 4 sc_best.nd (by decide) (fe_ofL (fl_cal (c_checked_outs T) (hr.mono (by decide)) (by rfl) (takes_of rfl rfl rfl rfl) (fa_cons (fe_var 1) fa_nil))))
      (fss_cons (fs_expr (fe_cal (c_need_term T) (hr.mono (by decide)) (by rfl) (takes_of rfl rfl rfl rfl) (fa_cons (fe_var 2) fa_nil)))
      (fss_one (fs_retL rfl (fl_cal (c_best_counts T) (hr.mono (by decide)) (by rfl) (takes_of rfl rfl rfl rfl) (fa_cons (fe_var 3) (fa_cons (fe_var 4) (fa_cons (fe_var 2) fa_nil)))))))))
theorem c_joined (T : Tp fa fn tf K mg base) : Cal P w K mg base "joined" 1 ["stretches"] (spP (He.ga K) 1 F_joined) := by
  refine cal_pure T.toTop 43 17 rfl rfl sc_joined (fun _ _ _ _ _ _ us hl => match us, hl with | [_], _ => rfl) (fun cdv A outer s H E hr => ?_)
  exact (fss_cons (fs_setL 1 sc_joined.nd (by decide) (fl_lst fa_nil))
      (fss_cons (fs_for (passes_of rfl) rfl (by decide) (fi_list (fe_ofL (fl_sortP (by rfl) (T.free 18) (oa_cons (vO 0) oa_nil)))) (fg_tup rfl (fgs_cons (fg_name 2 sc_joined.nd) (fgs_cons (fg_name 3 sc_joined.nd) fgs_nil)) (gs_len (gs_len gs_len0))) (fss_one (fs_if (ft_pw (fw_and (ft_cmp op_gt rd_gt (eO (fe_len (by rfl) (T.free 12) (oa_cons (vO 1) oa_nil))) (eO fe_int) (nomark _)) (fw_and1 (ft_cmp op_le rd_le (vO 2) (eO (fe_ix (eO (fe_ix (vO 1) (eO (fe_neg (eO fe_int))))) (eO fe_int))) (nomark _))))) (fss_one (fs_setIx 1 (fe_tup (fa_cons (fe_ix (eO (fe_ix (vO 1) (eO (fe_neg (eO fe_int))))) (eO fe_int)) (fa_cons (fe_max2 rfl (by rfl) (T.free 23) (oa_cons (eO (fe_ix (eO (fe_ix (vO 1) (eO (fe_neg (eO fe_int))))) (eO fe_int))) (oa_cons (vO 3) oa_nil))) fa_nil))) (fe_neg (eO fe_int)))) (fss_one (fs_append 1 (fe_tup (fa_cons (fe_var 2) (fa_cons (fe_var 3) fa_nil))))))))
      (fss_one (fs_retV 1 rfl))))
theorem c_holds_day (T : Tp fa fn tf K mg base) : Cal P w K mg base "holds_day" 1 ["stretch", "day"] (spP (He.ga K) 2 F_holds_day) := by
  refine cal_pure T.toTop 44 18 rfl rfl sc_holds_day (fun _ _ _ _ _ _ us hl => match us, hl with | [_, _], _ => rfl) (fun cdv A outer s H E hr => ?_)
  exact (fss_one (fs_ret (fe_and (fe_cmp op_le rd_le (eO (fe_ix (vO 0) (eO fe_int))) (vO 1) (nomark _)) (fe_one (fe_cmp op_le rd_le (vO 1) (eO (fe_ix (vO 0) (eO fe_int))) (nomark _))))))
theorem c_shut_days (T : Tp fa fn tf K mg base) : Cal P w K mg base "shut_days" 1 ["dear", "taken"] (spP (He.ga K) 2 F_shut_days) := by
  refine cal_pure T.toTop 45 19 rfl rfl sc_shut_days (fun _ _ _ _ _ _ us hl => match us, hl with | [_, _], _ => rfl) (fun cdv A outer s H E hr => ?_)
  exact (fss_one (fs_retL rfl (fl_lc (own := [("at", 2)]) rfl sc_shut_days.nd (blkOk_by (own := [("at", 2)]) (N := ["dear", "taken", "at"]) (sc := (defScope s_shut_days)) (by decide +kernel)) (by decide) (fi_rng1 (by rfl) (T.free 17) (fa_cons (fe_len (by rfl) (T.free 12) (oa_cons (vO 0) oa_nil)) fa_nil)) (fun _ _ _ _ _ => (fg_name 2 sc_shut_days.nd)) (fun _ _ _ _ _ => (fts_one (ft_cmp op_lt rd_lt (eO (fe_ix (vO 1) (vO 2))) (eO (fe_ix (eO (fe_ix (vO 0) (vO 2))) (eO fe_int))) (nomark _)))) (fun _ _ _ _ _ => (fe_ix (eO (fe_ix (vO 0) (vO 2))) (eO fe_int))))))
theorem c_barring (T : Tp fa fn tf K mg base) : Cal P w K mg base "barring" 4 ["dear", "outs", "term", "taken"] (spP (He.ga K) 4 F_barring) := by
  refine cal_pure T.toTop 46 20 rfl rfl sc_barring (fun _ _ _ _ _ _ us hl => match us, hl with | [_, _, _, _], _ => rfl) (fun cdv A outer s H E hr => ?_)
  exact (fss_cons (fs_set 4 sc_barring.nd (by decide) (fe_ofL (fl_cal (c_shut_days T) (hr.mono (by decide)) (by rfl) (takes_of rfl rfl rfl rfl) (fa_cons (fe_var 0) (fa_cons (fe_var 3) fa_nil)))))
      (fss_cons (fs_setL 5 sc_barring.nd (by decide) (fl_lst fa_nil))
      (fss_cons (fs_for (passes_of rfl) rfl (by decide) (fi_list (fe_ofL (fl_cal (c_all_stretches T) (hr.mono (by decide)) (by rfl) (takes_of rfl rfl rfl rfl) (fa_cons (fe_var 0) fa_nil)))) (fg_name 6 sc_barring.nd) (fss_one (fs_if (ft_pw (fw_and (ft_cmp (op_EQ (u64s hr)) rd_EQ (eO (fe_cal (c_spare T) (hr.mono (by decide)) (by rfl) (takes_of rfl rfl rfl rfl) (fa_cons (fe_var 0) (fa_cons (fe_var 1) (fa_cons (fe_var 2) (fa_cons (fe_var 3) (fa_cons (fe_var 6) fa_nil))))))) (eO fe_int) (nomark _)) (fw_and1 (ft_val (fe_any rfl (by rfl) (T.free 24) (oa_cons (eO (fe_ofL (fl_lc (own := [("day", 7)]) rfl sc_barring.nd (blkOk_by (own := [("day", 7)]) (N := ["dear", "outs", "term", "taken", "shut", "found", "stretch", "day"]) (sc := (defScope s_barring)) (by decide +kernel)) (by decide) (fi_list (fe_var 4)) (fun _ _ _ _ _ => (fg_name 7 sc_barring.nd)) (fun _ _ _ _ _ => fts_nil) (fun _ _ _ _ _ => (fe_cal (c_holds_day T) (hr.mono (by decide)) (by rfl) takes0 (fa_cons (fe_var 6) (fa_cons (fe_var 7) fa_nil))))))) oa_nil)))))) (fss_one (fs_append 5 (fe_var 6))) fss_nil)))
      (fss_one (fs_retL rfl (fl_cal (c_joined T) (hr.mono (by decide)) (by rfl) (takes_of rfl rfl rfl rfl) (fa_cons (fe_var 5) fa_nil)))))))
theorem c_papers_of (T : Tp fa fn tf K mg base) : Cal P w K mg base "papers_of" 6 ["lots", "outs", "term"] (spP (He.ga K) 3 F_papers_of) := by
  refine cal_pure T.toTop 47 21 rfl rfl sc_papers_of (fun _ _ _ _ _ _ us hl => match us, hl with | [_, _, _], _ => rfl) (fun cdv A outer s H E hr => ?_)
  exact (fss_cons (fs_set 3 sc_papers_of.nd (by decide) (fe_ofL (fl_cal (c_best_counts T) (hr.mono (by decide)) (by rfl) (takes_of rfl rfl rfl rfl) (fa_cons (fe_var 0) (fa_cons (fe_var 1) (fa_cons (fe_var 2) fa_nil))))))
      (fss_cons (fs_setL 4 sc_papers_of.nd (by decide) (fl_lst fa_nil))
      (fss_cons (fs_for (passes_of rfl) rfl (by decide) (fi_list (fe_ofL (fl_rev (fe_ofL (fl_sortU rfl (by rfl) (T.free 18) (by rfl) (T.free 20) (fe_ofL (fl_lc (own := [("lot", 6)]) rfl sc_papers_of.nd (blkOk_by (own := [("lot", 6)]) (N := ["lots", "outs", "term", "taken", "found", "duty", "lot", "places", "at", "dear", "some"]) (sc := (defScope s_papers_of)) (by decide +kernel)) (by decide) (fi_list (fe_var 0)) (fun _ _ _ _ _ => (fg_name 6 sc_papers_of.nd)) (fun _ _ _ _ _ => fts_nil) (fun _ _ _ _ _ => (fe_ix (vO 6) (eO fe_int)))))))))) (fg_name 5 sc_papers_of.nd) (fss_cons (fs_setLc 7 (own := [("at", 8)]) rfl sc_papers_of.nd (by decide) rfl rfl (sw_true rfl rfl rfl (by decide +kernel)) (blkOk_by (own := [("at", 8)]) (N := ["lots", "outs", "term", "taken", "found", "duty", "lot", "places", "at", "dear", "some"]) (sc := (defScope s_papers_of)) (by decide +kernel)) (by decide) (fi_rng1 (by rfl) (T.free 17) (fa_cons (fe_len (by rfl) (T.free 12) (oa_cons (vO 0) oa_nil)) fa_nil)) (fun _ _ _ _ _ => (fg_name 8 sc_papers_of.nd)) (fun _ _ _ _ _ => (fts_one (ft_cmp op_ge rd_ge (eO (fe_ix (eO (fe_ix (vO 0) (vO 8))) (eO fe_int))) (vO 5) (nomark _)))) (fun _ _ _ _ _ => (fe_var 8)))
      (fss_cons (fs_setLc 9 (own := [("at", 8)]) rfl sc_papers_of.nd (by decide) rfl rfl (sw_true rfl rfl rfl (by decide +kernel)) (blkOk_by (own := [("at", 8)]) (N := ["lots", "outs", "term", "taken", "found", "duty", "lot", "places", "at", "dear", "some"]) (sc := (defScope s_papers_of)) (by decide +kernel)) (by decide) (fi_list (fe_var 7)) (fun _ _ _ _ _ => (fg_name 8 sc_papers_of.nd)) (fun _ _ _ _ _ => fts_nil) (fun _ _ _ _ _ => (fe_ix (vO 0) (vO 8))))
      (fss_cons (fs_setLc 10 (own := [("at", 8)]) rfl sc_papers_of.nd (by decide) rfl rfl (sw_true rfl rfl rfl (by decide +kernel)) (blkOk_by (own := [("at", 8)]) (N := ["lots", "outs", "term", "taken", "found", "duty", "lot", "places", "at", "dear", "some"]) (sc := (defScope s_papers_of)) (by decide +kernel)) (by decide) (fi_list (fe_var 7)) (fun _ _ _ _ _ => (fg_name 8 sc_papers_of.nd)) (fun _ _ _ _ _ => fts_nil) (fun _ _ _ _ _ => (fe_ix (vO 3) (vO 8))))
      (fss_one (fs_append 4 (fe_tup (fa_cons (fe_var 5) (fa_cons (fe_sum rfl (by rfl) (T.free 19) (oa_cons (vO 10) oa_nil)) (fa_cons (fe_ofL (fl_cal (c_barring T) (hr.mono (by decide)) (by rfl) (takes_of rfl rfl rfl rfl) (fa_cons (fe_var 9) (fa_cons (fe_var 1) (fa_cons (fe_var 2) (fa_cons (fe_var 10) fa_nil)))))) fa_nil))))))))))
      (fss_one (fs_retV 4 rfl)))))
theorem c_papers (T : Tp fa fn tf K mg base) : Cal P w K mg base "papers" 7 ["lots", "outs", "term"] (spP (He.ga K) 3 F_papers) := by
  refine cal_pure T.toTop 48 22 rfl rfl sc_papers (fun _ _ _ _ _ _ us hl => match us, hl with | [_, _, _], _ => rfl) (fun cdv A outer s H E hr => ?_)
  exact (fss_cons (fs_set 3 sc_papers.nd (by decide) (fe_ofL (fl_cal (c_checked_lots T) (hr.mono (by decide)) (by rfl) (takes_of rfl rfl rfl rfl) (fa_cons (fe_var 0) fa_nil))))
      (fss_cons (fs_set 4 sc_papers.nd (by decide) (fe_ofL (fl_cal (c_checked_outs T) (hr.mono (by decide)) (by rfl) (takes_of rfl rfl rfl rfl) (fa_cons (fe_var 1) fa_nil))))
      (fss_cons (fs_expr (fe_cal (c_need_term T) (hr.mono (by decide)) (by rfl) (takes_of rfl rfl rfl rfl) (fa_cons (fe_var 2) fa_nil)))
      (fss_one (fs_retL rfl (fl_cal (c_papers_of T) (hr.mono (by decide)) (by rfl) (takes_of rfl rfl rfl rfl) (fa_cons (fe_var 3) (fa_cons (fe_var 4) (fa_cons (fe_var 2) fa_nil)))))))))
theorem c_in_order (T : Tp fa fn tf K mg base) : Cal P w K mg base "in_order" 2 ["stretches"] (spP (He.ga K) 1 F_in_order) := by
  refine cal_pure T.toTop 49 23 rfl rfl sc_in_order (fun _ _ _ _ _ _ us hl => match us, hl with | [_], _ => rfl) (fun cdv A outer s H E hr => ?_)
  exact (fss_cons (fs_for (passes_of rfl) rfl (by decide) (fi_enum (by rfl) (T.free 21) (fa_cons (fe_var 0) fa_nil)) (fg_tup rfl (fgs_cons (fg_name 1 sc_in_order.nd) (fgs_cons (fg_name 2 sc_in_order.nd) fgs_nil)) (gs_len (gs_len gs_len0))) (fss_one (fs_if (ft_pw (fw_or (ft_not (ft_val (fe_cal (c_is_stretch T) (hr.mono (by decide)) (by rfl) (takes_of rfl rfl rfl rfl) (fa_cons (fe_var 2) fa_nil)))) (fw_or1 (ft_pw (fw_and (ft_cmp op_gt rd_gt (vO 1) (eO fe_int) (nomark _)) (fw_and1 (ft_cmp op_le rd_le (eO (fe_ix (vO 2) (eO fe_int))) (eO (fe_ix (eO (fe_ix (vO 0) (eO (fe_sub (vO 1) (eO fe_int))))) (eO fe_int))) (nomark _)))))))) (fss_one (fs_ret fe_bool)) fss_nil)))
      (fss_one (fs_ret fe_bool)))
theorem c_outside (T : Tp fa fn tf K mg base) : Cal P w K mg base "outside" 2 ["lots", "duty", "stretches"] (spP (He.ga K) 3 F_outside) := by
  refine cal_pure T.toTop 50 24 rfl rfl sc_outside (fun _ _ _ _ _ _ us hl => match us, hl with | [_, _, _], _ => rfl) (fun cdv A outer s H E hr => ?_)
  exact (fss_cons (fs_set 3 sc_outside.nd (by decide) fe_int)
      (fss_cons (fs_for (passes_of rfl) rfl (by decide) (fi_list (fe_var 0)) (fg_tup rfl (fgs_cons (fg_name 4 sc_outside.nd) (fgs_cons (fg_name 5 sc_outside.nd) (fgs_cons (fg_name 6 sc_outside.nd) fgs_nil))) (gs_len (gs_len (gs_len gs_len0)))) (fss_one (fs_if (ft_pw (fw_and (ft_cmp op_ge rd_ge (vO 6) (vO 1) (nomark _)) (fw_and1 (ft_not (ft_val (fe_any rfl (by rfl) (T.free 24) (oa_cons (eO (fe_ofL (fl_lc (own := [("stretch", 7)]) rfl sc_outside.nd (blkOk_by (own := [("stretch", 7)]) (N := ["lots", "duty", "stretches", "found", "day", "count", "own", "stretch"]) (sc := (defScope s_outside)) (by decide +kernel)) (by decide) (fi_list (fe_var 2)) (fun _ _ _ _ _ => (fg_name 7 sc_outside.nd)) (fun _ _ _ _ _ => fts_nil) (fun _ _ _ _ _ => (fe_cal (c_holds_day T) (hr.mono (by decide)) (by rfl) takes0 (fa_cons (fe_var 7) (fa_cons (fe_var 4) fa_nil))))))) oa_nil))))))) (fss_one (fs_aug 3 sc_outside.nd (by decide) (fe_var 5) ip_add)) fss_nil)))
      (fss_one (fs_retV 3 rfl))))
theorem c_good_paper (T : Tp fa fn tf K mg base) : Cal P w K mg base "good_paper" 3 ["lots", "outs", "term", "paper"] (spP (He.ga K) 4 F_good_paper) := by
  refine cal_pure T.toTop 51 25 rfl rfl sc_good_paper (fun _ _ _ _ _ _ us hl => match us, hl with | [_, _, _, _], _ => rfl) (fun cdv A outer s H E hr => ?_)
  exact (fss_cons (fs_set 4 sc_good_paper.nd (by decide) (fe_ofL (fl_cal (c_checked_lots T) (hr.mono (by decide)) (by rfl) (takes_of rfl rfl rfl rfl) (fa_cons (fe_var 0) fa_nil))))
      (fss_cons (fs_set 5 sc_good_paper.nd (by decide) (fe_ofL (fl_cal (c_checked_outs T) (hr.mono (by decide)) (by rfl) (takes_of rfl rfl rfl rfl) (fa_cons (fe_var 1) fa_nil))))
      (fss_cons (fs_expr (fe_cal (c_need_term T) (hr.mono (by decide)) (by rfl) (takes_of rfl rfl rfl rfl) (fa_cons (fe_var 2) fa_nil)))
      (fss_cons (fs_asg (by decide) (fe_var 3) (fg_tup rfl (fgs_cons (fg_name 6 sc_good_paper.nd) (fgs_cons (fg_name 7 sc_good_paper.nd) (fgs_cons (fg_name 8 sc_good_paper.nd) fgs_nil))) (gs_len (gs_len (gs_len gs_len0)))))
      (fss_cons (fs_if (ft_not (ft_val (fe_cal (c_in_order T) (hr.mono (by decide)) (by rfl) (takes_of rfl rfl rfl rfl) (fa_cons (fe_var 8) fa_nil)))) (fss_one (fs_ret fe_bool)) fss_nil)
      (fss_cons (fs_set 9 sc_good_paper.nd (by decide) (fe_sum rfl (by rfl) (T.free 19) (oa_cons (eO (fe_ofL (fl_lc (own := [("stretch", 10)]) rfl sc_good_paper.nd (blkOk_by (own := [("stretch", 10)]) (N := ["lots", "outs", "term", "paper", "mine", "theirs", "duty", "units", "stretches", "barred", "stretch"]) (sc := (defScope s_good_paper)) (by decide +kernel)) (by decide) (fi_list (fe_var 8)) (fun _ _ _ _ _ => (fg_name 10 sc_good_paper.nd)) (fun _ _ _ _ _ => fts_nil) (fun _ _ _ _ _ => (fe_cal (c_out_against T) (hr.mono (by decide)) (by rfl) takes0 (fa_cons (fe_var 5) (fa_cons (fe_var 2) (fa_cons (fe_var 10) fa_nil)))))))) oa_nil)))
      (fss_one (fs_ret (fe_cmp (op_EQ (u64s hr)) rd_EQ (eO (fe_add (eO (fe_cal (c_outside T) (hr.mono (by decide)) (by rfl) (takes_of rfl rfl rfl rfl) (fa_cons (fe_var 4) (fa_cons (fe_var 6) (fa_cons (fe_var 8) fa_nil))))) (vO 9))) (vO 7) (nomark _))))))))))
theorem c__law_pick (T : Tp fa fn tf K mg base) : Cal P w K mg base "_law_pick" 1 ["_law_draw", "_law_many"] (spI (He.ga K) 2 F_l_pick) := by
  refine cal_io T.toTop 52 26 rfl rfl sc__law_pick (fun _ _ _ _ _ _ us hl => match us, hl with | [_, _], _ => rfl) (fun cdv A outer s H E hr => ?_)
  exact (fss_cons (fs_if (ft_pw (fw_and (ft_cmp op_lt rd_lt (eO (fe_ix (vO 0) (eO fe_int))) (vO 1) (nomark _)) (fw_and1 (ft_cmp op_lt rd_lt (eO (fe_ix (vO 0) (eO fe_int))) (eO (fe_len (by rfl) (T.free 12) (oa_cons (eO (fe_ix (vO 0) (eO fe_int))) oa_nil))) (nomark _))))) (fss_cons (fs_set 2 sc__law_pick.nd (by decide) (fe_ix (eO (fe_ix (vO 0) (eO fe_int))) (eO (fe_ix (vO 0) (eO fe_int)))))
      (fss_cons (fs_setIx 0 (fe_add (eO (fe_ix (vO 0) (eO fe_int))) (eO fe_int)) fe_int)
      (fss_cons (fs_setIx 0 fe_int fe_int)
      (fss_one (fs_if (ft_cmp op_ge rd_ge (vO 2) (eO (fe_pow (eO fe_int) (eO fe_int))) (nomark _)) (fss_one (fs_setIx 0 (fe_var 2) fe_int)) (fss_one (fs_setIx 0 (fe_mod (eO (fe_add (eO (fe_ix (vO 0) (eO fe_int))) (vO 2))) (eO fe_int)) fe_int))))))) fss_nil)
      (fss_cons (fs_if (ft_cmp op_ge rd_ge (eO (fe_ix (vO 0) (eO fe_int))) (vO 1) (nomark _)) (fss_cons (fs_set 3 sc__law_pick.nd (by decide) (fe_mod (eO (fe_ix (vO 0) (eO fe_int))) (vO 1)))
      (fss_cons (fs_setIx 0 (fe_div (eO (fe_ix (vO 0) (eO fe_int))) (vO 1)) fe_int)
      (fss_one (fs_retV0 3 rfl (by decide))))) fss_nil)
      (fss_cons (fs_setIx 0 (fe_add (eO (fe_ix (vO 0) (eO fe_int))) (eO fe_int)) fe_int)
      (fss_cons (fs_setIx 0 (fe_mod (eO (fe_add (eO (fe_add (eO (fe_pow (eO (fe_ix (vO 0) (eO fe_int))) (eO fe_int))) (eO (fe_mul (eO fe_int) (eO (fe_ix (vO 0) (eO fe_int))))))) (eO fe_int))) (eO fe_int)) fe_int)
      (fss_one (fs_ret (fe_mod (eO (fe_div (eO (fe_ix (vO 0) (eO fe_int))) (eO fe_int))) (vO 1))))))))
theorem c__law_begin (T : Tp fa fn tf K mg base) : Cal P w K mg base "_law_begin" 1 ["_law_script"] (spBegin K) := by
  have F := T.def_ (x := "_law_begin") (st := s__law_begin) 27
  exact ⟨_, _, ok_begin F sc__law_begin (T.free 16) (.inl rfl) (fun _ _ _ _ _ _ => by rfl) rfl, T.glo 53, F.kp, F.binds (fun _ _ _ _ _ _ us hl => match us, hl with | [_], _ => rfl)⟩
theorem c__law_span (T : Tp fa fn tf K mg base) : Cal P w K mg base "_law_span" 2 ["_law_draw"] (spI (He.ga K) 1 F_l_span) := by
  refine cal_io T.toTop 54 28 rfl rfl sc__law_span (fun _ _ _ _ _ _ us hl => match us, hl with | [_], _ => rfl) (fun cdv A outer s H E hr => ?_)
  exact (fss_cons (fs_set 1 sc__law_span.nd (by decide) (fe_ix (eO (fe_tup (fa_cons fe_int (fa_cons fe_int (fa_cons fe_int (fa_cons fe_int fa_nil)))))) (eO (fe_calI 0 (c__law_pick T) (hr.mono (by decide)) (by rfl) (takes_of rfl rfl rfl rfl) (fa_cons fe_int fa_nil)))))
      (fss_one (fs_ret (fe_tup (fa_cons (fe_add (eO fe_int) (eO (fe_calI 0 (c__law_pick T) (hr.mono (by decide)) (by rfl) (takes_of rfl rfl rfl rfl) (fa_cons (fe_sub (eO fe_int) (vO 1)) fa_nil)))) (fa_cons (fe_var 1) fa_nil))))))
theorem c__law_some_term (T : Tp fa fn tf K mg base) : Cal P w K mg base "_law_some_term" 2 ["_law_draw"] (spI (He.ga K) 1 F_l_some_term) := by
  refine cal_io T.toTop 55 29 rfl rfl sc__law_some_term (fun _ _ _ _ _ _ us hl => match us, hl with | [_], _ => rfl) (fun cdv A outer s H E hr => ?_)
  exact (fss_one (fs_ret (fe_ix (eO (fe_tup (fa_cons fe_int (fa_cons fe_int (fa_cons fe_int (fa_cons (fe_calI 0 (c__law_pick T) (hr.mono (by decide)) (by rfl) (takes_of rfl rfl rfl rfl) (fa_cons fe_int fa_nil)) (fa_cons (fe_calI 0 (c__law_pick T) (hr.mono (by decide)) (by rfl) (takes_of rfl rfl rfl rfl) (fa_cons fe_int fa_nil)) (fa_cons fe_int fa_nil)))))))) (eO (fe_calI 0 (c__law_pick T) (hr.mono (by decide)) (by rfl) (takes_of rfl rfl rfl rfl) (fa_cons fe_int fa_nil))))))
theorem c__law_some_lots (T : Tp fa fn tf K mg base) : Cal P w K mg base "_law_some_lots" 2 ["_law_draw", "_law_most", "_law_days", "_law_scale"] (spI (He.ga K) 4 F_l_some_lots) := by
  refine cal_io T.toTop 56 30 rfl rfl sc__law_some_lots (fun _ _ _ _ _ _ us hl => match us, hl with | [_, _, _, _], _ => rfl) (fun cdv A outer s H E hr => ?_)
  exact (fss_cons (fs_set 4 sc__law_some_lots.nd (by decide) (fe_ix (eO (fe_tup (fa_cons fe_int (fa_cons fe_int (fa_cons fe_int (fa_cons (fe_pow (eO fe_int) (eO fe_int)) fa_nil)))))) (eO (fe_calI 0 (c__law_pick T) (hr.mono (by decide)) (by rfl) (takes_of rfl rfl rfl rfl) (fa_cons fe_int fa_nil)))))
      (fss_cons (fs_setL 5 sc__law_some_lots.nd (by decide) (fl_lst fa_nil))
      (fss_cons (fs_for (passes_of rfl) rfl (by decide) (fi_rng1 (by rfl) (T.free 17) (fa_cons (fe_calI 0 (c__law_pick T) (hr.mono (by decide)) (by rfl) (takes_of rfl rfl rfl rfl) (fa_cons (fe_add (vO 1) (eO fe_int)) fa_nil)) fa_nil)) (fg_name 6 sc__law_some_lots.nd) (fss_cons (fs_set 7 sc__law_some_lots.nd (by decide) (fe_add (eO (fe_ix (vO 2) (eO fe_int))) (eO (fe_calI 0 (c__law_pick T) (hr.mono (by decide)) (by rfl) (takes_of rfl rfl rfl rfl) (fa_cons (fe_ix (vO 2) (eO fe_int)) fa_nil)))))
      (fss_cons (fs_set 8 sc__law_some_lots.nd (by decide) (fe_add (eO fe_int) (eO (fe_calI 0 (c__law_pick T) (hr.mono (by decide)) (by rfl) (takes_of rfl rfl rfl rfl) (fa_cons (fe_var 3) fa_nil)))))
      (fss_one (fs_append 5 (fe_tup (fa_cons (fe_var 7) (fa_cons (fe_var 8) (fa_cons (fe_add (eO fe_int) (eO (fe_calI 0 (c__law_pick T) (hr.mono (by decide)) (by rfl) (takes_of rfl rfl rfl rfl) (fa_cons (fe_var 4) fa_nil)))) fa_nil)))))))))
      (fss_one (fs_retV0 5 rfl (by decide))))))
theorem c__law_some_outs (T : Tp fa fn tf K mg base) : Cal P w K mg base "_law_some_outs" 2 ["_law_draw", "_law_most", "_law_days", "_law_scale"] (spI (He.ga K) 4 F_l_some_outs) := by
  refine cal_io T.toTop 57 31 rfl rfl sc__law_some_outs (fun _ _ _ _ _ _ us hl => match us, hl with | [_, _, _, _], _ => rfl) (fun cdv A outer s H E hr => ?_)
  exact (fss_cons (fs_setL 4 sc__law_some_outs.nd (by decide) (fl_lst fa_nil))
      (fss_cons (fs_for (passes_of rfl) rfl (by decide) (fi_rng1 (by rfl) (T.free 17) (fa_cons (fe_calI 0 (c__law_pick T) (hr.mono (by decide)) (by rfl) (takes_of rfl rfl rfl rfl) (fa_cons (fe_add (vO 1) (eO fe_int)) fa_nil)) fa_nil)) (fg_name 5 sc__law_some_outs.nd) (fss_cons (fs_set 6 sc__law_some_outs.nd (by decide) (fe_add (eO (fe_ix (vO 2) (eO fe_int))) (eO (fe_calI 0 (c__law_pick T) (hr.mono (by decide)) (by rfl) (takes_of rfl rfl rfl rfl) (fa_cons (fe_ix (vO 2) (eO fe_int)) fa_nil)))))
      (fss_one (fs_append 4 (fe_tup (fa_cons (fe_var 6) (fa_cons (fe_add (eO fe_int) (eO (fe_calI 0 (c__law_pick T) (hr.mono (by decide)) (by rfl) (takes_of rfl rfl rfl rfl) (fa_cons (fe_var 3) fa_nil)))) fa_nil)))))))
      (fss_one (fs_retV0 4 rfl (by decide)))))
theorem c__law_case (T : Tp fa fn tf K mg base) : Cal P w K mg base "_law_case" 3 ["_law_draw", "_law_most"] (spI (He.ga K) 2 F_l_case) := by
  refine cal_io T.toTop 58 32 rfl rfl sc__law_case (fun _ _ _ _ _ _ us hl => match us, hl with | [_, _], _ => rfl) (fun cdv A outer s H E hr => ?_)
  exact (fss_cons (fs_set 2 sc__law_case.nd (by decide) (fe_calI 0 (c__law_span T) (hr.mono (by decide)) (by rfl) (takes_of rfl rfl rfl rfl) fa_nil))
      (fss_cons (fs_set 3 sc__law_case.nd (by decide) (fe_calI 0 (c__law_some_term T) (hr.mono (by decide)) (by rfl) (takes_of rfl rfl rfl rfl) fa_nil))
      (fss_cons (fs_set 4 sc__law_case.nd (by decide) (fe_ix (eO (fe_tup (fa_cons fe_int (fa_cons fe_int (fa_cons fe_int (fa_cons (fe_pow (eO fe_int) (eO fe_int)) fa_nil)))))) (eO (fe_calI 0 (c__law_pick T) (hr.mono (by decide)) (by rfl) (takes_of rfl rfl rfl rfl) (fa_cons fe_int fa_nil)))))
      (fss_cons (fs_set 5 sc__law_case.nd (by decide) (fe_calI 0 (c__law_some_lots T) (hr.mono (by decide)) (by rfl) (takes_of rfl rfl rfl rfl) (fa_cons (fe_var 1) (fa_cons (fe_var 2) (fa_cons (fe_var 4) fa_nil)))))
      (fss_one (fs_ret (fe_tup (fa_cons (fe_var 5) (fa_cons (fe_calI 0 (c__law_some_outs T) (hr.mono (by decide)) (by rfl) (takes_of rfl rfl rfl rfl) (fa_cons (fe_var 1) (fa_cons (fe_var 2) (fa_cons (fe_var 4) fa_nil)))) (fa_cons (fe_var 3) fa_nil))))))))))
theorem c__law_one (T : Tp fa fn tf K mg base) : Cal P w K mg base "_law_one" 2 ["_law_draw", "_law_some"] (spI (He.ga K) 2 F_l_one) := by
  refine cal_io T.toTop 59 33 rfl rfl sc__law_one (fun _ _ _ _ _ _ us hl => match us, hl with | [_, _], _ => rfl) (fun cdv A outer s H E hr => ?_)
  exact (fss_one (fs_ret (fe_ix (vO 1) (eO (fe_calI 0 (c__law_pick T) (hr.mono (by decide)) (by rfl) (takes_of rfl rfl rfl rfl) (fa_cons (fe_len (by rfl) (T.free 12) (oa_cons (vO 1) oa_nil)) fa_nil))))))
theorem c__law_some_stretches (T : Tp fa fn tf K mg base) : Cal P w K mg base "_law_some_stretches" 3 ["_law_draw", "_law_lots"] (spI (He.ga K) 2 F_l_some_stretches) := by
  refine cal_io T.toTop 60 34 rfl rfl sc__law_some_stretches (fun _ _ _ _ _ _ us hl => match us, hl with | [_, _], _ => rfl) (fun cdv A outer s H E hr => ?_)
  exact (fss_cons (fs_set 2 sc__law_some_stretches.nd (by decide) (fe_ofL (fl_sortI (by rfl) (T.free 18) (oa_cons (eO (fe_ofL (fl_cat (eO (fe_ofL (fl_lc (own := [("_law_lot", 3)]) rfl sc__law_some_stretches.nd (blkOk_by (own := [("_law_lot", 3)]) (N := ["_law_draw", "_law_lots", "_law_days", "_law_lot", "_law_k", "_law_found", "_law_ahead", "_law_later", "_law_day", "_law_first", "_law_last"]) (sc := (defScope s__law_some_stretches)) (by decide +kernel)) (by decide) (fi_list (fe_var 1)) (fun _ _ _ _ _ => (fg_name 3 sc__law_some_stretches.nd)) (fun _ _ _ _ _ => fts_nil) (fun _ _ _ _ _ => (fe_ix (vO 3) (eO fe_int)))))) (eO (fe_ofL (fl_lc (own := [("_law_k", 4)]) rfl sc__law_some_stretches.nd (blkOk_by (own := [("_law_k", 4)]) (N := ["_law_draw", "_law_lots", "_law_days", "_law_lot", "_law_k", "_law_found", "_law_ahead", "_law_later", "_law_day", "_law_first", "_law_last"]) (sc := (defScope s__law_some_stretches)) (by decide +kernel)) (by decide) (fi_rng1 (by rfl) (T.free 17) (fa_cons fe_int fa_nil)) (fun _ _ _ _ _ => (fg_name 4 sc__law_some_stretches.nd)) (fun _ _ _ _ _ => fts_nil) (fun _ _ _ _ _ => (fe_add (eO fe_int) (eO (fe_calI 0 (c__law_pick T) (hr.mono (by decide)) (by rfl) takes0 (fa_cons fe_int fa_nil))))))))))) oa_nil))))
      (fss_cons (fs_setL 5 sc__law_some_stretches.nd (by decide) (fl_lst fa_nil))
      (fss_cons (fs_set 6 sc__law_some_stretches.nd (by decide) fe_int)
      (fss_cons (fs_for (passes_of rfl) rfl (by decide) (fi_rng1 (by rfl) (T.free 17) (fa_cons (fe_calI 0 (c__law_pick T) (hr.mono (by decide)) (by rfl) (takes_of rfl rfl rfl rfl) (fa_cons fe_int fa_nil)) fa_nil)) (fg_name 4 sc__law_some_stretches.nd) (fss_cons (fs_setLc 7 (own := [("_law_day", 8)]) rfl sc__law_some_stretches.nd (by decide) rfl rfl (sw_true rfl rfl rfl (by decide +kernel)) (blkOk_by (own := [("_law_day", 8)]) (N := ["_law_draw", "_law_lots", "_law_days", "_law_lot", "_law_k", "_law_found", "_law_ahead", "_law_later", "_law_day", "_law_first", "_law_last"]) (sc := (defScope s__law_some_stretches)) (by decide +kernel)) (by decide) (fi_list (fe_var 2)) (fun _ _ _ _ _ => (fg_name 8 sc__law_some_stretches.nd)) (fun _ _ _ _ _ => (fts_one (ft_cmp op_gt rd_gt (vO 8) (vO 6) (nomark _)))) (fun _ _ _ _ _ => (fe_var 8)))
      (fss_one (fs_if (ft_cmp (op_NE (u64s hr)) rd_NE (vO 7) (eO (fe_ofL (fl_lst fa_nil))) (nomark _)) (fss_cons (fs_set 9 sc__law_some_stretches.nd (by decide) (fe_calI 0 (c__law_one T) (hr.mono (by decide)) (by rfl) (takes_of rfl rfl rfl rfl) (fa_cons (fe_var 7) fa_nil)))
      (fss_cons (fs_set 10 sc__law_some_stretches.nd (by decide) (fe_calI 0 (c__law_one T) (hr.mono (by decide)) (by rfl) (takes_of rfl rfl rfl rfl) (fa_cons (fe_ofL (fl_lc (own := [("_law_day", 8)]) rfl sc__law_some_stretches.nd (blkOk_by (own := [("_law_day", 8)]) (N := ["_law_draw", "_law_lots", "_law_days", "_law_lot", "_law_k", "_law_found", "_law_ahead", "_law_later", "_law_day", "_law_first", "_law_last"]) (sc := (defScope s__law_some_stretches)) (by decide +kernel)) (by decide) (fi_list (fe_var 7)) (fun _ _ _ _ _ => (fg_name 8 sc__law_some_stretches.nd)) (fun _ _ _ _ _ => (fts_one (ft_cmp op_ge rd_ge (vO 8) (vO 9) (nomark _)))) (fun _ _ _ _ _ => (fe_var 8)))) fa_nil)))
      (fss_cons (fs_append 5 (fe_tup (fa_cons (fe_var 9) (fa_cons (fe_var 10) fa_nil))))
      (fss_one (fs_set 6 sc__law_some_stretches.nd (by decide) (fe_var 10)))))) fss_nil))))
      (fss_one (fs_retV0 5 rfl (by decide)))))))
theorem c__law_sum_of (T : Tp fa fn tf K mg base) : Cal P w K mg base "_law_sum_of" 1 ["_law_lots", "_law_outs", "_law_term", "_law_duty", "_law_stretches"] (spP (He.ga K) 5 F_l_sum_of) := by
  refine cal_pure T.toTop 61 35 rfl rfl sc__law_sum_of (fun _ _ _ _ _ _ us hl => match us, hl with | [_, _, _, _, _], _ => rfl) (fun cdv A outer s H E hr => ?_)
  exact (fss_cons (fs_set 5 sc__law_sum_of.nd (by decide) fe_int)
      (fss_cons (fs_for (passes_of rfl) rfl (by decide) (fi_list (fe_var 4)) (fg_tup rfl (fgs_cons (fg_name 6 sc__law_sum_of.nd) (fgs_cons (fg_name 7 sc__law_sum_of.nd) fgs_nil)) (gs_len (gs_len gs_len0))) (fss_one (fs_set 5 sc__law_sum_of.nd (by decide) (fe_add (vO 5) (eO (fe_sum rfl (by rfl) (T.free 19) (oa_cons (eO (fe_ofL (fl_lc (own := [("_law_day", 8), ("_law_count", 9)]) rfl sc__law_sum_of.nd (blkOk_by (own := [("_law_day", 8), ("_law_count", 9)]) (N := ["_law_lots", "_law_outs", "_law_term", "_law_duty", "_law_stretches", "_law_found", "_law_first", "_law_last", "_law_day", "_law_count", "_law_own", "_law_inside", "_law_one_here"]) (sc := (defScope s__law_sum_of)) (by decide +kernel)) (by decide) (fi_list (fe_var 1)) (fun _ _ _ _ _ => (fg_tup rfl (fgs_cons (fg_name 8 sc__law_sum_of.nd) (fgs_cons (fg_name 9 sc__law_sum_of.nd) fgs_nil)) (gs_len (gs_len gs_len0)))) (fun _ _ _ _ _ => (fts_one (ft_pw (fw_and (ft_cmp op_le rd_le (vO 6) (vO 8) (nomark _)) (fw_and1 (ft_cmp op_le rd_le (vO 8) (eO (fe_add (vO 7) (vO 2))) (nomark _))))))) (fun _ _ _ _ _ => (fe_var 9))))) oa_nil)))))))
      (fss_cons (fs_for (passes_of rfl) rfl (by decide) (fi_list (fe_var 0)) (fg_tup rfl (fgs_cons (fg_name 8 sc__law_sum_of.nd) (fgs_cons (fg_name 9 sc__law_sum_of.nd) (fgs_cons (fg_name 10 sc__law_sum_of.nd) fgs_nil))) (gs_len (gs_len (gs_len gs_len0)))) (fss_cons (fs_setLc 11 (own := [("_law_one_here", 12)]) rfl sc__law_sum_of.nd (by decide) rfl rfl (sw_true rfl rfl rfl (by decide +kernel)) (blkOk_by (own := [("_law_one_here", 12)]) (N := ["_law_lots", "_law_outs", "_law_term", "_law_duty", "_law_stretches", "_law_found", "_law_first", "_law_last", "_law_day", "_law_count", "_law_own", "_law_inside", "_law_one_here"]) (sc := (defScope s__law_sum_of)) (by decide +kernel)) (by decide) (fi_list (fe_var 4)) (fun _ _ _ _ _ => (fg_name 12 sc__law_sum_of.nd)) (fun _ _ _ _ _ => (fts_one (ft_pw (fw_and (ft_cmp op_le rd_le (eO (fe_ix (vO 12) (eO fe_int))) (vO 8) (nomark _)) (fw_and1 (ft_cmp op_le rd_le (vO 8) (eO (fe_ix (vO 12) (eO fe_int))) (nomark _))))))) (fun _ _ _ _ _ => (fe_var 12)))
      (fss_one (fs_set 5 sc__law_sum_of.nd (by decide) (fe_add (vO 5) (eO (fe_mul (vO 9) (eO (fe_int1 (by rfl) (T.free 25) (oa_cons (eO (fe_and (fe_cmp op_ge rd_ge (vO 10) (vO 3) (nomark _)) (fe_one (fe_cmp (op_EQ (u64s hr)) rd_EQ (vO 11) (eO (fe_ofL (fl_lst fa_nil))) (nomark _))))) oa_nil))))))))))
      (fss_one (fs_retV 5 rfl)))))
theorem c__law_changed (T : Tp fa fn tf K mg base) : Cal P w K mg base "_law_changed" 2 ["_law_draw", "_law_stretches"] (spI (He.ga K) 2 F_l_changed) := by
  refine cal_io T.toTop 62 36 rfl rfl sc__law_changed (fun _ _ _ _ _ _ us hl => match us, hl with | [_, _], _ => rfl) (fun cdv A outer s H E hr => ?_)
  exact (fss_cons (fs_if (ft_cmp (op_EQ (u64s hr)) rd_EQ (vO 1) (eO (fe_ofL (fl_lst fa_nil))) (nomark _)) (fss_one (fs_retL0 rfl (fl_lst fa_nil))) fss_nil)
      (fss_cons (fs_set 2 sc__law_changed.nd (by decide) (fe_calI 0 (c__law_pick T) (hr.mono (by decide)) (by rfl) (takes_of rfl rfl rfl rfl) (fa_cons (fe_len (by rfl) (T.free 12) (oa_cons (vO 1) oa_nil)) fa_nil)))
      (fss_cons (fs_asg (by decide) (fe_ix (vO 1) (vO 2)) (fg_tup rfl (fgs_cons (fg_name 3 sc__law_changed.nd) (fgs_cons (fg_name 4 sc__law_changed.nd) fgs_nil)) (gs_len (gs_len gs_len0))))
      (fss_cons (fs_if (ft_cmp (op_EQ (u64s hr)) rd_EQ (eO (fe_calI 0 (c__law_pick T) (hr.mono (by decide)) (by rfl) (takes_of rfl rfl rfl rfl) (fa_cons fe_int fa_nil))) (eO fe_int) (nomark _)) (fss_one (fs_retL0 rfl (fl_cat (eO (fe_ofL (fl_slice (vO 1) fp_none (fp_some (fe_var 2))))) (eO (fe_ofL (fl_slice (vO 1) (fp_some (fe_add (vO 2) (eO fe_int))) fp_none)))))) fss_nil)
      (fss_one (fs_retL0 rfl (fl_cat (eO (fe_ofL (fl_cat (eO (fe_ofL (fl_slice (vO 1) fp_none (fp_some (fe_var 2))))) (eO (fe_ofL (fl_lst (fa_cons (fe_tup (fa_cons (fe_var 3) (fa_cons (fe_add (vO 3) (eO (fe_div (eO (fe_sub (vO 4) (vO 3))) (eO fe_int)))) fa_nil))) fa_nil))))))) (eO (fe_ofL (fl_slice (vO 1) (fp_some (fe_add (vO 2) (eO fe_int))) fp_none))))))))))
theorem c_law (T : Tp fa fn tf K mg base) : FnOk P w K mg base CX0 8 (He.ga K "law") (fdOf K "law") ["_law_script"] (spLaw K 12 g_law) := by
  refine ok_law (st := (defBody s_law).head (by decide)) (rest := (defBody s_law).tail) (T.def_ (x := "law") (st := s_law) 37) sc_law (by decide) rfl (fun cdv A outer s H E hr => ?_) (fun cdv A outer s H E hr => ?_)
  · obtain ⟨f, fd, F, hm, hk, hb⟩ := c__law_begin (P := P) (w := w) (base := base) T
    exact ps_set (i := 1) sc_law.nd rfl (Or.inl rfl) (pe_callS F (hr.mono (by decide)) (by rfl) hm hk hb (fun σ => passAt takes0 σ) (pa_cons (pv 0) pa_nil))
  · exact (fss_cons (fs_asg (by decide) (fe_calI 1 (c__law_case T) (hr.mono (by decide)) (by rfl) takes0 (fa_cons fe_int fa_nil)) (fg_tup rfl (fgs_cons (fg_name 2 sc_law.nd) (fgs_cons (fg_name 3 sc_law.nd) (fgs_cons (fg_name 4 sc_law.nd) fgs_nil))) (gs_len (gs_len (gs_len gs_len0)))))
      (fss_cons (fs_set 5 sc_law.nd (by decide) (fe_ofL (fl_cal (c_best T) (hr.mono (by decide)) (by rfl) takes0 (fa_cons (fe_var 2) (fa_cons (fe_var 3) (fa_cons (fe_var 4) fa_nil))))))
      (fss_cons (fs_for PassesOwn.never rfl (by decide) (fi_list (fe_ofL (fl_cal (c_papers T) (hr.mono (by decide)) (by rfl) takes0 (fa_cons (fe_var 2) (fa_cons (fe_var 3) (fa_cons (fe_var 4) fa_nil)))))) (fg_tup rfl (fgs_cons (fg_name 6 sc_law.nd) (fgs_cons (fg_name 7 sc_law.nd) (fgs_cons (fg_name 8 sc_law.nd) fgs_nil))) (gs_len (gs_len (gs_len gs_len0)))) (fss_cons (fs_if (ft_cmp (op_NE (u64s hr)) rd_NE (vO 7) (eO (fe_sum rfl (by rfl) (T.free 19) (oa_cons (eO (fe_ofL (fl_lc (own := [("_law_at", 9)]) rfl sc_law.nd (blkOk_by (own := [("_law_at", 9)]) (N := ["_law_script", "_law_draw", "_law_lots", "_law_outs", "_law_term", "_law_most", "_law_duty", "_law_units", "_law_told", "_law_at", "_law_stretches", "_law_some"]) (sc := (defScope s_law)) (by decide +kernel)) (by decide) (fi_rng1 (by rfl) (T.free 17) (fa_cons (fe_len (by rfl) (T.free 12) (oa_cons (vO 2) oa_nil)) fa_nil)) (fun _ _ _ _ _ => (fg_name 9 sc_law.nd)) (fun _ _ _ _ _ => (fts_one (ft_cmp op_ge rd_ge (eO (fe_ix (eO (fe_ix (vO 2) (vO 9))) (eO fe_int))) (vO 6) (nomark _)))) (fun _ _ _ _ _ => (fe_ix (vO 5) (vO 9)))))) oa_nil))) (nomark _)) (fss_one (fs_ret fe_bool)) fss_nil)
      (fss_one (fs_for PassesOwn.never rfl (by decide) (fi_list (fe_ofL (fl_lst (fa_cons (fe_var 8) (fa_cons (fe_calI 1 (c__law_some_stretches T) (hr.mono (by decide)) (by rfl) takes0 (fa_cons (fe_var 2) fa_nil)) (fa_cons (fe_calI 1 (c__law_changed T) (hr.mono (by decide)) (by rfl) takes0 (fa_cons (fe_var 8) fa_nil)) fa_nil)))))) (fg_name 10 sc_law.nd) (fss_cons (fs_set 11 sc_law.nd (by decide) (fe_cal (c__law_sum_of T) (hr.mono (by decide)) (by rfl) takes0 (fa_cons (fe_var 2) (fa_cons (fe_var 3) (fa_cons (fe_var 4) (fa_cons (fe_var 6) (fa_cons (fe_var 10) fa_nil)))))))
      (fss_cons (fs_if (ft_cmp op_lt rd_lt (vO 11) (vO 7) (nomark _)) (fss_one (fs_ret fe_bool)) fss_nil)
      (fss_cons (fs_if (ft_cmp op_isnot_bl rd_notB (eO (fe_cal (c_good_paper T) (hr.mono (by decide)) (by rfl) takes0 (fa_cons (fe_var 2) (fa_cons (fe_var 3) (fa_cons (fe_var 4) (fa_cons (fe_tup (fa_cons (fe_var 6) (fa_cons (fe_var 11) (fa_cons (fe_var 10) fa_nil)))) fa_nil)))))) (eO fe_bool) (nomark _)) (fss_one (fs_ret fe_bool)) fss_nil)
      (fss_one (fs_if (ft_cmp op_isnot_bl rd_notB (eO (fe_cal (c_good_paper T) (hr.mono (by decide)) (by rfl) takes0 (fa_cons (fe_var 2) (fa_cons (fe_var 3) (fa_cons (fe_var 4) (fa_cons (fe_tup (fa_cons (fe_var 6) (fa_cons (fe_sub (vO 11) (eO fe_int)) (fa_cons (fe_var 10) fa_nil)))) fa_nil)))))) (eO fe_bool) (nomark _)) (fss_one (fs_ret fe_bool)) fss_nil)))))))))
      (fss_one (fs_ret (fe_cmp op_is_bl rd_isB (eO (fe_cal (c_good_paper T) (hr.mono (by decide)) (by rfl) takes0 (fa_cons (fe_var 2) (fa_cons (fe_var 3) (fa_cons (fe_var 4) (fa_cons (fe_tup (fa_cons (fe_add (eO (fe_pow (eO fe_int) (eO fe_int))) (eO fe_int)) (fa_cons fe_int (fa_cons (fe_ofL (fl_lst fa_nil)) fa_nil)))) fa_nil)))))) (eO fe_bool) (nomark _)))))))
end
end K18

namespace Mm
open PySem L2 Fx
variable [Tabz]
theorem F_need_day_eq (d : Int) : F_need_day [.int d] = if d < 1 ∨ 999 < d then .exc "BadDay" else .ok (.fz .none) := by
  show toOut (g_need_day _) = _
  by_cases h1 : d < 1
  · simp [g_need_day, h1]
  · by_cases h2 : 999 < d <;> simp [g_need_day, h1, h2]
theorem F_need_term_eq (d : Int) : F_need_term [.int d] = if d < 0 ∨ 400 < d then .exc "BadTerm" else .ok (.fz .none) := by
  show toOut (g_need_term _) = _
  by_cases h1 : d < 0
  · simp [g_need_term, h1]
  · by_cases h2 : 400 < d <;> simp [g_need_term, h1, h2]
theorem F_is_stretch_eq (a b : Int) : F_is_stretch [.tuple [.int a, .int b]] = .ok (.fz (.bool (decide (1 ≤ a ∧ a ≤ b ∧ b ≤ 999)))) := by
  show toOut (g_is_stretch _) = _
  by_cases h1 : 1 ≤ a
  · by_cases h2 : a ≤ b
    · by_cases h3 : b ≤ 999 <;> simp [g_is_stretch, h1, h2, h3]
    · simp [g_is_stretch, h1, h2]
  · simp [g_is_stretch, h1]
theorem F_need_stretch_eq (a b : Int) : F_need_stretch [.tuple [.int a, .int b]] = if 1 ≤ a ∧ a ≤ b ∧ b ≤ 999 then .ok (.fz .none) else .exc "BadStretch" := by
  show toOut (g_need_stretch _) = _
  by_cases h : 1 ≤ a ∧ a ≤ b ∧ b ≤ 999 <;> simp [g_need_stretch, F_is_stretch_eq, h]
theorem F_reach_eq (d t : Int) : F_reach [.int d, .int t] = if d < 1 ∨ 999 < d then .exc "BadDay" else if t < 0 ∨ 400 < t then .exc "BadTerm" else .ok (.fz (.tuple [.int (max 1 (d - t)), .int d])) := by
  show toOut (g_reach _) = _
  by_cases h : d < 1 ∨ 999 < d
  · simp [g_reach, F_need_day_eq, h]
  · by_cases h2 : t < 0 ∨ 400 < t
    · simp [g_reach, F_need_day_eq, F_need_term_eq, h, h2]
    · simp [g_reach, F_need_day_eq, F_need_term_eq, h, h2, mkT, small]
      omega
theorem F_goes_against_eq (a b d t : Int) : F_goes_against [.tuple [.int a, .int b], .int d, .int t] = .ok (.fz (.bool (decide (a ≤ d ∧ d ≤ b + t)))) := by
  show toOut (g_goes_against _) = _
  by_cases h1 : a ≤ d
  · by_cases h2 : d ≤ b + t <;> simp [g_goes_against, h1, h2]
  · simp [g_goes_against, h1]
theorem F_meets_eq (a b d t : Int) : F_meets [.tuple [.int a, .int b], .int d, .int t] = if 1 ≤ a ∧ a ≤ b ∧ b ≤ 999 then (if d < 1 ∨ 999 < d then .exc "BadDay" else if t < 0 ∨ 400 < t then .exc "BadTerm" else .ok (.fz (.bool (decide (a ≤ d ∧ d ≤ b + t))))) else .exc "BadStretch" := by
  show toOut (g_meets _) = _
  by_cases h0 : 1 ≤ a ∧ a ≤ b ∧ b ≤ 999
  · by_cases h : d < 1 ∨ 999 < d
    · simp [g_meets, F_need_stretch_eq, F_need_day_eq, h, h0]
    · by_cases h2 : t < 0 ∨ 400 < t
      · simp [g_meets, F_need_stretch_eq, F_need_day_eq, F_need_term_eq, h0, h, h2]
      · simp [g_meets, F_need_stretch_eq, F_need_day_eq, F_need_term_eq, F_goes_against_eq, h0, h, h2]
  · simp [g_meets, F_need_stretch_eq, h0]
/-! ### draws -/
/-- the draw's list -/
def drw (cs : List Int) (i j a b : Int) : List PyData := [.list (cs.map PyData.int), .int i, .int j, .int a, .int b]
def Dw (io : List PyData) : Prop := ∃ cs i j a b, io = drw cs i j a b ∧ 0 ≤ i ∧ 0 ≤ j ∧ 0 ≤ a ∧ a < 1000000007 ∧ 0 ≤ b
theorem drw_ix0 (cs : List Int) (i j a b : Int) : atI (drw cs i j a b) 0 = some (.list (cs.map PyData.int)) := rfl
theorem drw_ix1 (cs : List Int) (i j a b : Int) : atI (drw cs i j a b) 1 = some (.int i) := rfl
theorem drw_ix2 (cs : List Int) (i j a b : Int) : atI (drw cs i j a b) 2 = some (.int j) := rfl
theorem drw_ix3 (cs : List Int) (i j a b : Int) : atI (drw cs i j a b) 3 = some (.int a) := rfl
theorem drw_ix4 (cs : List Int) (i j a b : Int) : atI (drw cs i j a b) 4 = some (.int b) := rfl
theorem drw_set1 (cs : List Int) (i j a b x : Int) : kSet (.int x) (.int 1) (drw cs i j a b) = some (drw cs x j a b) := rfl
theorem drw_set2 (cs : List Int) (i j a b x : Int) : kSet (.int x) (.int 2) (drw cs i j a b) = some (drw cs i x a b) := rfl
theorem drw_set3 (cs : List Int) (i j a b x : Int) : kSet (.int x) (.int 3) (drw cs i j a b) = some (drw cs i j x b) := rfl
theorem drw_set4 (cs : List Int) (i j a b x : Int) : kSet (.int x) (.int 4) (drw cs i j a b) = some (drw cs i j a x) := rfl
/-- the second half of a draw -/
def g_pick2 : Rho → Fl := (sSeq (sIf (fB (fOp oGe (.e (fOp oIx (.v 0) (.e (ret (.int 2))))) (.v 1))) (sSeq (sSet 3 (fOp oMod (.e (fOp oIx (.v 0) (.e (ret (.int 2))))) (.v 1)))
    (sSeq (sSetIx 0 (fOp oDiv (.e (fOp oIx (.v 0) (.e (ret (.int 2))))) (.v 1)) (ret (.int 2)))
    (sRetV0 3))) sNil)
    (sSeq (sSetIx 0 (fOp oAdd (.e (fOp oIx (.v 0) (.e (ret (.int 4))))) (.e (ret (.int 1)))) (ret (.int 4)))
    (sSeq (sSetIx 0 (fOp oMod (.e (fOp oAdd (.e (fOp oAdd (.e (fOp oPow (.e (fOp oIx (.v 0) (.e (ret (.int 3))))) (.e (ret (.int 3))))) (.e (fOp oMul (.e (ret (.int 40503))) (.e (fOp oIx (.v 0) (.e (ret (.int 4))))))))) (.e (ret (.int 17))))) (.e (ret (.int 1000000007)))) (ret (.int 3)))
    (sRet (fOp oMod (.e (fOp oDiv (.e (fOp oIx (.v 0) (.e (ret (.int 3))))) (.e (ret (.int 5))))) (.v 1))))))
theorem pick2_ok (cs : List Int) (i j a b m : Int) (s2 : Sl) (hi : 0 ≤ i) (hj : 0 ≤ j) (ha : 0 ≤ a) (ha2 : a < 1000000007) (hb : 0 ≤ b) (hm : 0 < m) (hm2 : m.natAbs.log2 < 9000) :
    ∃ r io, toOutI (g_pick2 [.ow (drw cs i j a b), .fz (.int m), s2, .un]) = .ok (.fz (.int r), io) ∧ Dw io ∧ 0 ≤ r ∧ r < m := by
  have d1 : cMod j m = true := decide_eq_true hm
  have d2 : cDiv j m = true := decide_eq_true ⟨hm, hm2⟩
  by_cases h : m ≤ j
  · refine ⟨j % m, drw cs i (j / m) a b, ?_, ⟨cs, i, j / m, a, b, rfl, hi, Int.ediv_nonneg hj (by omega), ha, ha2, hb⟩, Int.emod_nonneg _ (by omega), Int.emod_lt_of_pos _ hm⟩
    simp [g_pick2, drw_ix0, drw_ix1, drw_ix2, drw_ix3, drw_ix4, drw_set1, drw_set2, drw_set3, drw_set4, h, d1, d2]
  · have p1 : cPow a 3 = true := decide_eq_true ⟨by decide, by decide, by omega⟩
    have p2 : ∀ x, cMul 40503 x = true := fun x => decide_eq_true (.inl (by decide))
    have p3 : ∀ x, cMod x 1000000007 = true := fun x => decide_eq_true (by decide)
    have p4 : ∀ x, cDiv x 5 = true := fun x => decide_eq_true ⟨by decide, by decide +kernel⟩
    have p5 : ∀ x, cMod x m = true := fun x => decide_eq_true hm
    refine ⟨((a ^ 3 + 40503 * (b + 1) + 17) % 1000000007) / 5 % m, drw cs i j ((a ^ 3 + 40503 * (b + 1) + 17) % 1000000007) (b + 1), ?_, ⟨cs, i, j, _, b + 1, rfl, hi, hj, Int.emod_nonneg _ (by decide), Int.emod_lt_of_pos _ (by decide), by omega⟩, Int.emod_nonneg _ (by omega), Int.emod_lt_of_pos _ hm⟩
    simp [g_pick2, drw_ix0, drw_ix1, drw_ix2, drw_ix3, drw_ix4, drw_set1, drw_set2, drw_set3, drw_set4, h, p1, p2, p3, p4, p5]
theorem pick_ok {io : List PyData} {m : Int} (hd : Dw io) (hm : 0 < m) (hm2 : m ≤ 10 ^ 40) : ∃ r io', F_l_pick io [.int m] = .ok (.fz (.int r), io') ∧ Dw io' ∧ 0 ≤ r ∧ r < m := by
  have hl : m.natAbs.log2 < 9000 := by
    have h1 : m.natAbs < 2 ^ 200 := by omega
    have := PySem.Flt.log2_lt_of (k := 200) (by decide) h1
    omega
  obtain ⟨cs, i, j, a, b, rfl, hi, hj, ha, ha2, hb⟩ := hd
  show ∃ r io', toOutI (g_l_pick [.ow (drw cs i j a b), .fz (.int m), .un, .un]) = .ok (.fz (.int r), io') ∧ Dw io' ∧ 0 ≤ r ∧ r < m
  have eg : g_l_pick = sSeq (sIf (tAndM (fB (fOp oLt (.e (fOp oIx (.v 0) (.e (ret (.int 2))))) (.v 1))) (fB (fOp oLt (.e (fOp oIx (.v 0) (.e (ret (.int 1))))) (.e (fCB oLen [(.e (fOp oIx (.v 0) (.e (ret (.int 0)))))]))))) (sSeq (sSet 2 (fOp oIx (.e (fOp oIx (.v 0) (.e (ret (.int 0))))) (.e (fOp oIx (.v 0) (.e (ret (.int 1)))))))
    (sSeq (sSetIx 0 (fOp oAdd (.e (fOp oIx (.v 0) (.e (ret (.int 1))))) (.e (ret (.int 1)))) (ret (.int 1)))
    (sSeq (sSetIx 0 (ret (.int 0)) (ret (.int 2)))
    (sIf (fB (fOp oGe (.v 2) (.e (fOp oPow (.e (ret (.int 10))) (.e (ret (.int 18))))))) (sSetIx 0 (fVar 2) (ret (.int 2))) (sSetIx 0 (fOp oMod (.e (fOp oAdd (.e (fOp oIx (.v 0) (.e (ret (.int 3))))) (.v 2))) (.e (ret (.int 1000000007)))) (ret (.int 3))))))) sNil) g_pick2 := rfl
  have p2 : cPow 10 18 = true := by decide
  have p3 : ∀ x, cMod x 1000000007 = true := fun x => decide_eq_true (by decide)
  by_cases h1 : j < m
  · by_cases h2 : i < (cs.length : Int)
    · obtain ⟨c, hc⟩ : ∃ c, cs[i.toNat]? = some c := ⟨cs[i.toNat]'(by omega), List.getElem?_eq_getElem (by omega)⟩
      have hc2 : atI (cs.map PyData.int) i = some (.int c) := atI_at hi (by rw [List.getElem?_map, hc]; rfl)
      by_cases h3 : (10 : Int) ^ 18 ≤ c
      · have h3' : (1000000000000000000 : Int) ≤ c := by omega
        have e : g_l_pick [.ow (drw cs i j a b), .fz (.int m), .un, .un] = g_pick2 [.ow (drw cs (i + 1) c a b), .fz (.int m), .fz (.int c), .un] := by
          rw [eg]
          simp [drw_ix0, drw_ix1, drw_ix2, drw_ix3, drw_ix4, drw_set1, drw_set2, drw_set3, drw_set4, h1, h2, hc2, h3', p2, p3]
        rw [e]
        exact pick2_ok cs (i + 1) c a b m _ (by omega) (by omega) ha ha2 hb hm hl
      · have h3' : ¬ (1000000000000000000 : Int) ≤ c := by omega
        have e : g_l_pick [.ow (drw cs i j a b), .fz (.int m), .un, .un] = g_pick2 [.ow (drw cs (i + 1) 0 ((a + c) % 1000000007) b), .fz (.int m), .fz (.int c), .un] := by
          rw [eg]
          simp [drw_ix0, drw_ix1, drw_ix2, drw_ix3, drw_ix4, drw_set1, drw_set2, drw_set3, drw_set4, h1, h2, hc2, h3', p2, p3]
        rw [e]
        exact pick2_ok cs (i + 1) 0 _ b m _ (by omega) (by omega) (Int.emod_nonneg _ (by decide)) (Int.emod_lt_of_pos _ (by decide)) hb hm hl
    · have e : g_l_pick [.ow (drw cs i j a b), .fz (.int m), .un, .un] = g_pick2 [.ow (drw cs i j a b), .fz (.int m), .un, .un] := by
        rw [eg]
        simp [drw_ix0, drw_ix1, drw_ix2, drw_ix3, drw_ix4, h1, h2]
      rw [e]
      exact pick2_ok cs i j a b m _ hi hj ha ha2 hb hm hl
  · have e : g_l_pick [.ow (drw cs i j a b), .fz (.int m), .un, .un] = g_pick2 [.ow (drw cs i j a b), .fz (.int m), .un, .un] := by
      rw [eg]
      simp [drw_ix0, drw_ix1, drw_ix2, drw_ix3, drw_ix4, h1]
    rw [e]
    exact pick2_ok cs i j a b m _ hi hj ha ha2 hb hm hl
theorem dw_cells (ns : List Int) : Dw (cells ns) := ⟨ns, 0, 0, 1, 0, rfl, by decide, by decide, by decide, by decide, by decide⟩
/-- an item of a written list or tuple -/
theorem pick_item {ds : List PyData} {P : PyData → Prop} (h : ∀ d ∈ ds, P d) {r : Int} (h0 : 0 ≤ r) (h1 : r < (ds.length : Int)) : ∃ d, atI ds r = some d ∧ P d :=
  ⟨ds[r.toNat]'(by omega), atI_at h0 (List.getElem?_eq_getElem (by omega)), h _ (List.getElem_mem _)⟩
theorem some_term_ok {io : List PyData} (hd : Dw io) : ∃ r io', F_l_some_term io [] = .ok (.fz (.int r), io') ∧ Dw io' ∧ 0 ≤ r ∧ r ≤ 400 := by
  obtain ⟨r1, io1, e1, d1, a1, b1⟩ := pick_ok (m := 12) hd (by decide) (by decide)
  obtain ⟨r2, io2, e2, d2, a2, b2⟩ := pick_ok (m := 60) d1 (by decide) (by decide)
  obtain ⟨r3, io3, e3, d3, a3, b3⟩ := pick_ok (m := 6) d2 (by decide) (by decide)
  obtain ⟨x, ex, v, rfl, hv0, hv1⟩ := pick_item (ds := [.int 0, .int 1, .int 3, .int r1, .int r2, .int 400]) (P := fun d => ∃ v, d = .int v ∧ 0 ≤ v ∧ v ≤ 400) (by
    intro d hm
    simp only [List.mem_cons, List.not_mem_nil, or_false] at hm
    rcases hm with rfl | rfl | rfl | rfl | rfl | rfl
    · exact ⟨_, rfl, by decide, by decide⟩
    · exact ⟨_, rfl, by decide, by decide⟩
    · exact ⟨_, rfl, by decide, by decide⟩
    · exact ⟨_, rfl, by omega, by omega⟩
    · exact ⟨_, rfl, by omega, by omega⟩
    · exact ⟨_, rfl, by decide, by decide⟩) a3 (by simpa using b3)
  refine ⟨v, io3, ?_, d3, hv0, hv1⟩
  show toOutI (g_l_some_term _) = _
  simp [g_l_some_term, e1, e2, e3, mkT, small, ex]
/-- the odd numbers -/
def odds : List PyData := [.int (-100000000000000000000000000000), .int (-1), .int 0, .int 1, .int 40, .int 41, .int 100, .int 101, .int 400, .int 401, .int 999, .int 1000, .int 1000000, .int 1000001, .int 10000000000, .int 10000000001, .int 100000000000000000000000000000]
theorem odd_ok {io : List PyData} (hd : Dw io) : ∃ r io', F_l_odd io [] = .ok (.fz (.int r), io') ∧ Dw io' ∧ -(10 ^ 29) ≤ r ∧ r ≤ 10 ^ 29 := by
  obtain ⟨r1, io1, e1, d1, a1, b1⟩ := pick_ok (m := 17) hd (by decide) (by decide)
  obtain ⟨x, ex, v, rfl, hv0, hv1⟩ := pick_item (ds := odds) (P := fun d => ∃ v, d = .int v ∧ -(10 ^ 29) ≤ v ∧ v ≤ 10 ^ 29) (by
    intro d hm
    simp only [odds, List.mem_cons, List.not_mem_nil, or_false] at hm
    rcases hm with rfl | rfl | rfl | rfl | rfl | rfl | rfl | rfl | rfl | rfl | rfl | rfl | rfl | rfl | rfl | rfl | rfl <;> exact ⟨_, rfl, by decide, by decide⟩) a1 (by simpa [odds] using b1)
  refine ⟨v, io1, ?_, d1, hv0, hv1⟩
  have c1 : cPow 10 29 = true := by decide
  have c2 : cPow 10 6 = true := by decide
  have c3 : cPow 10 10 = true := by decide
  show toOutI (g_l_odd _) = _
  simp only [odds] at ex
  simp [g_l_odd, c1, c2, c3, mkL, small, e1, ex]
/-! ### same(x, x) -/
theorem zipD_self (ds : List PyData) : zipD ds ds = ds.map fun d => PyData.tuple [d, d] := by
  unfold zipD
  rw [List.zip_eq_zipWith, List.zipWith_self, List.map_map]
  rfl
theorem all_map_true (ds : List PyData) : asBools (ds.map fun _ => PyData.bool true) = some (ds.map fun _ => true) := by
  induction ds with
  | nil => rfl
  | cons d ds ih => simp only [List.map_cons, asBools, ih, Option.map_some]
theorem all_true (ds : List PyData) : (ds.map fun _ => true).all id = true := by simp
theorem same_refl : ∀ (n : Nat) (d : PyData), gd n d = true → F_l_same_at n [d, d] = .ok (.fz (.bool true))
  | 0, _, h => by cases h
  | n + 1, d, h => by
    show toOut (g_l_same (F_l_same_at n) _) = _
    have step : ∀ (ds : List PyData) (x : PyData), ds.all (gd n) = true → small ds.length = true → (x = .list ds ∨ x = .tuple ds) →
        fLc (fAB oZip (fCons (fVar 0) (fCons (fVar 1) fNil))) (gTp (gsCons (gSet 2) (gsCons (gSet 3) gsNil))) (ret true) (fCall (F_l_same_at n) (fCons (fVar 2) (fCons (fVar 3) fNil))) [2, 3] [.fz x, .fz x, .un, .un] = .ok (ds.map fun _ => .bool true, [.fz x, .fz x, .un, .un]) := by
      intro ds x hds hs hx
      have hl : ds.length ≤ 100000 := of_decide_eq_true hs
      rw [lc_map (fun _ => .bool true) (ds := zipD ds ds) (ρ := [.fz x, .fz x, .un, .un]) (by rcases hx with rfl | rfl <;> simp [oZip]) (by rw [zipD_self, List.length_map]; exact hl) ?_]
      · rw [zipD_self, List.map_map]
        simp
      · intro d hd
        rw [zipD_self] at hd
        obtain ⟨y, hy, rfl⟩ := List.mem_map.mp hd
        have ey := same_refl n y (List.all_eq_true.mp hds y hy)
        refine ⟨[.fz x, .fz x, .fz y, .fz y], by simp, [.fz x, .fz x, .fz y, .fz y], by simp [ey], by simp⟩
    cases d with
    | none => simp [g_l_same]
    | bool b => simp [g_l_same, isTy, isTyN, tyName, oEQ]
    | int i => simp [g_l_same, isTy, isTyN, tyName, oEQ]
    | str x => simp [g_l_same, isTy, isTyN, tyName, oEQ]
    | dict kvs => cases h
    | list ds =>
      obtain ⟨h1, h2⟩ := Bool.and_eq_true_iff.mp (show (small ds.length && ds.all (gd n)) = true from h)
      simp [g_l_same, isTy, isTyN, tyName, oEQ, oNE, step ds (.list ds) h2 h1 (.inl rfl), all_map_true]
    | tuple ds =>
      obtain ⟨h1, h2⟩ := Bool.and_eq_true_iff.mp (show (small ds.length && ds.all (gd n)) = true from h)
      simp [g_l_same, isTy, isTyN, tyName, oEQ, oNE, step ds (.tuple ds) h2 h1 (.inr rfl), all_map_true]
theorem F_same_refl {d : PyData} (h : gd 8 d = true) : F_l_same [d, d] = .ok (.fz (.bool true)) := same_refl 8 d h
end Mm

namespace Mm
open PySem L2 Fx
variable [Tabz]
/-! ### lots and outs -/
abbrev Lot := Int × Int × Int
abbrev Ot := Int × Int
def encL (l : Lot) : PyData := .tuple [.int l.1, .int l.2.1, .int l.2.2]
def encO (o : Ot) : PyData := .tuple [.int o.1, .int o.2]
def encI (i : Int) : PyData := .int i
structure GoodL (l : Lot) : Prop where
  d1 : 1 ≤ l.1
  d2 : l.1 ≤ 999
  c1 : 1 ≤ l.2.1
  c2 : l.2.1 ≤ 10000000000
  u1 : 1 ≤ l.2.2
  u2 : l.2.2 ≤ 1000000
structure GoodO (l : Ot) : Prop where
  d1 : 1 ≤ l.1
  d2 : l.1 ≤ 999
  c1 : 1 ≤ l.2
  c2 : l.2 ≤ 10000000000
theorem F_need_count_eq (d : Int) : F_need_count [.int d] = if d < 1 ∨ 10000000000 < d then .exc "BadCount" else .ok (.fz .none) := by
  show toOut (g_need_count _) = _
  by_cases h1 : d < 1
  · simp [g_need_count, h1]
  · by_cases h2 : 10000000000 < d <;> simp [g_need_count, h1, h2]
theorem F_need_duty_eq (d : Int) : F_need_duty [.int d] = if d < 1 ∨ 1000000 < d then .exc "BadDuty" else .ok (.fz .none) := by
  show toOut (g_need_duty _) = _
  by_cases h1 : d < 1
  · simp [g_need_duty, h1]
  · by_cases h2 : 1000000 < d <;> simp [g_need_duty, h1, h2]
/-- what is wrong with a lot -/
def errL (l : Lot) : Option Str := if l.1 < 1 ∨ 999 < l.1 then some "BadDay" else if l.2.1 < 1 ∨ 10000000000 < l.2.1 then some "BadCount" else if l.2.2 < 1 ∨ 1000000 < l.2.2 then some "BadDuty" else none
def errO (l : Ot) : Option Str := if l.1 < 1 ∨ 999 < l.1 then some "BadDay" else if l.2 < 1 ∨ 10000000000 < l.2 then some "BadCount" else none
def errLs (ls : List Lot) : Option Str := if 30 < ls.length then some "BadRows" else ls.findSome? errL
def errOs (ls : List Ot) : Option Str := if 30 < ls.length then some "BadRows" else ls.findSome? errO
def outE (c : Option Str) (r : Rt) : Out Rt := match c with
  | some c => .exc c
  | none => .ok r
theorem lots_turn (x : Sl) (l : Lot) : b_checked_lots_1 [x, .fz (.int l.1), .fz (.int l.2.1), .fz (.int l.2.2)] = match errL l with
    | some c => .exc c [x, .fz (.int l.1), .fz (.int l.2.1), .fz (.int l.2.2)]
    | none => .nx [x, .fz (.int l.1), .fz (.int l.2.1), .fz (.int l.2.2)] := by
  unfold errL
  by_cases h1 : l.1 < 1 ∨ 999 < l.1
  · simp [b_checked_lots_1, F_need_day_eq, h1]
  · by_cases h2 : l.2.1 < 1 ∨ 10000000000 < l.2.1
    · simp [b_checked_lots_1, F_need_day_eq, F_need_count_eq, h1, h2]
    · by_cases h3 : l.2.2 < 1 ∨ 1000000 < l.2.2 <;> simp [b_checked_lots_1, F_need_day_eq, F_need_count_eq, F_need_duty_eq, h1, h2, h3]
theorem lots_loop (x : Sl) : ∀ (ls : List Lot) (a b c : Sl), (∃ a' b' c', forE (gTp (gsCons (gSet 1) (gsCons (gSet 2) (gsCons (gSet 3) gsNil)))) b_checked_lots_1 (ls.map encL) [x, a, b, c] = match ls.findSome? errL with
    | some e => .exc e [x, a', b', c']
    | none => .nx [x, a', b', c'])
  | [], a, b, c => ⟨a, b, c, rfl⟩
  | l :: ls, a, b, c => by
    rw [List.map_cons, List.findSome?_cons]
    unfold forE
    have e : gTp (gsCons (gSet 1) (gsCons (gSet 2) (gsCons (gSet 3) gsNil))) (encL l) [x, a, b, c] = some [x, .fz (.int l.1), .fz (.int l.2.1), .fz (.int l.2.2)] := rfl
    simp only [e, lots_turn]
    cases errL l with
    | some c => exact ⟨_, _, _, rfl⟩
    | none => exact lots_loop x ls _ _ _
theorem F_checked_lots_eq (ls : List Lot) : F_checked_lots [.list (ls.map encL)] = outE (errLs ls) (.ow (ls.map encL)) := by
  show toOut (g_checked_lots _) = _
  unfold errLs
  by_cases h : 30 < ls.length
  · have h' : (30 : Int) < (ls.length : Int) := by omega
    simp [g_checked_lots, h, h', outE]
  · have h' : ¬ (30 : Int) < (ls.length : Int) := by omega
    obtain ⟨a, b, c, e⟩ := lots_loop (.fz (.list (ls.map encL))) ls .un .un .un
    have e2 : sFor (fItL (fVar 0)) (gTp (gsCons (gSet 1) (gsCons (gSet 2) (gsCons (gSet 3) gsNil)))) b_checked_lots_1 [.fz (.list (ls.map encL)), .un, .un, .un] = _ := (sFor_eq (by simp)).trans e
    cases q : ls.findSome? errL with
    | some c => rw [q] at e2; simp [g_checked_lots, h, h', e2, q, outE]
    | none => rw [q] at e2; simp [g_checked_lots, h, h', e2, q, outE]
theorem outs_turn (x : Sl) (l : Ot) : b_checked_outs_1 [x, .fz (.int l.1), .fz (.int l.2)] = match errO l with
    | some c => .exc c [x, .fz (.int l.1), .fz (.int l.2)]
    | none => .nx [x, .fz (.int l.1), .fz (.int l.2)] := by
  unfold errO
  by_cases h1 : l.1 < 1 ∨ 999 < l.1
  · simp [b_checked_outs_1, F_need_day_eq, h1]
  · by_cases h2 : l.2 < 1 ∨ 10000000000 < l.2 <;> simp [b_checked_outs_1, F_need_day_eq, F_need_count_eq, h1, h2]
theorem outs_loop (x : Sl) : ∀ (ls : List Ot) (a b : Sl), (∃ a' b', forE (gTp (gsCons (gSet 1) (gsCons (gSet 2) gsNil))) b_checked_outs_1 (ls.map encO) [x, a, b] = match ls.findSome? errO with
    | some e => .exc e [x, a', b']
    | none => .nx [x, a', b'])
  | [], a, b => ⟨a, b, rfl⟩
  | l :: ls, a, b => by
    rw [List.map_cons, List.findSome?_cons]
    unfold forE
    have e : gTp (gsCons (gSet 1) (gsCons (gSet 2) gsNil)) (encO l) [x, a, b] = some [x, .fz (.int l.1), .fz (.int l.2)] := rfl
    simp only [e, outs_turn]
    cases errO l with
    | some c => exact ⟨_, _, rfl⟩
    | none => exact outs_loop x ls _ _
theorem F_checked_outs_eq (ls : List Ot) : F_checked_outs [.list (ls.map encO)] = outE (errOs ls) (.ow (ls.map encO)) := by
  show toOut (g_checked_outs _) = _
  unfold errOs
  by_cases h : 30 < ls.length
  · have h' : (30 : Int) < (ls.length : Int) := by omega
    simp [g_checked_outs, h, h', outE]
  · have h' : ¬ (30 : Int) < (ls.length : Int) := by omega
    obtain ⟨a, b, e⟩ := outs_loop (.fz (.list (ls.map encO))) ls .un .un
    have e2 : sFor (fItL (fVar 0)) (gTp (gsCons (gSet 1) (gsCons (gSet 2) gsNil))) b_checked_outs_1 [.fz (.list (ls.map encO)), .un, .un] = _ := (sFor_eq (by simp)).trans e
    cases q : ls.findSome? errO with
    | some c => rw [q] at e2; simp [g_checked_outs, h, h', e2, q, outE]
    | none => rw [q] at e2; simp [g_checked_outs, h, h', e2, q, outE]
theorem errLs_good {ls : List Lot} (hl : ls.length ≤ 30) (h : ∀ l ∈ ls, GoodL l) : errLs ls = none := by
  unfold errLs
  rw [if_neg (by omega), List.findSome?_eq_none_iff]
  intro l hm
  obtain ⟨a, b, c, d, e, f⟩ := h l hm
  unfold errL
  rw [if_neg (by omega), if_neg (by omega), if_neg (by omega)]
theorem errOs_good {ls : List Ot} (hl : ls.length ≤ 30) (h : ∀ l ∈ ls, GoodO l) : errOs ls = none := by
  unfold errOs
  rw [if_neg (by omega), List.findSome?_eq_none_iff]
  intro l hm
  obtain ⟨a, b, c, d⟩ := h l hm
  unfold errO
  rw [if_neg (by omega), if_neg (by omega)]
/-! ### drawn cases -/
theorem span_ok {io : List PyData} (hd : Dw io) : ∃ a b io', F_l_span io [] = .ok (.fz (.tuple [.int a, .int b]), io') ∧ Dw io' ∧ 1 ≤ a ∧ 1 ≤ b ∧ a + b ≤ 1000 := by
  obtain ⟨r1, io1, e1, d1, a1, b1⟩ := pick_ok (m := 4) hd (by decide) (by decide)
  obtain ⟨x, ex, v, rfl, hv0, hv1⟩ := pick_item (ds := [.int 6, .int 20, .int 60, .int 999]) (P := fun d => ∃ v, d = .int v ∧ 1 ≤ v ∧ v ≤ 999) (by
    intro d hm
    simp only [List.mem_cons, List.not_mem_nil, or_false] at hm
    rcases hm with rfl | rfl | rfl | rfl <;> exact ⟨_, rfl, by decide, by decide⟩) a1 (by simpa using b1)
  obtain ⟨r2, io2, e2, d2, a2, b2⟩ := pick_ok (m := 1000 - v) d1 (by omega) (by omega)
  refine ⟨1 + r2, v, io2, ?_, d2, by omega, by omega, by omega⟩
  show toOutI (g_l_span _) = _
  simp [g_l_span, e1, e2, mkT, small, ex]
theorem kAppend_of {d : PyData} {ds : List PyData} (h : ds.length ≤ 100000) : kAppend d ds = some (ds ++ [d]) := by
  unfold kAppend
  rw [if_pos (small_of h)]
theorem rng_len (a : Int) (n : Nat) : (rng a n).length = n := by simp [rng]
theorem oRng1_of {j : Int} (h0 : 0 ≤ j) (h : j < 100000) : oRng1 [.int j] = some (rng 0 j.toNat) := by
  have e : small j.natAbs = true := decide_eq_true (by omega)
  simp [oRng1, e]
theorem oRng2_of {i j : Int} (h1 : i.natAbs ≤ 100000) (h2 : j.natAbs ≤ 100000) : oRng2 [.int i, .int j] = some (rng i (j - i).toNat) := by
  have e1 : small i.natAbs = true := decide_eq_true h1
  have e2 : small j.natAbs = true := decide_eq_true h2
  simp [oRng2, e1, e2]
theorem rng_get {a : Int} {n j : Nat} {x : PyData} (h : (rng a n)[j]? = some x) : j < n ∧ x = .int (a + j) := by
  unfold rng at h
  rw [List.getElem?_map] at h
  cases q : (List.range n)[j]? with
  | none => rw [q] at h; cases h
  | some m =>
    rw [q] at h
    cases h
    obtain ⟨h1, h2⟩ := List.getElem?_eq_some_iff.mp q
    rw [List.length_range] at h1
    rw [List.getElem_range] at h2
    exact ⟨h1, by rw [h2]⟩
/-- lots as they are drawn -/
structure DrawL (a b sc : Int) (l : Lot) : Prop where
  d1 : a ≤ l.1
  d2 : l.1 < a + b
  c1 : 1 ≤ l.2.1
  c2 : l.2.1 ≤ sc
  u1 : 1 ≤ l.2.2
  u2 : l.2.2 ≤ 1000000
structure DrawO (a b sc : Int) (l : Ot) : Prop where
  d1 : a ≤ l.1
  d2 : l.1 < a + b
  c1 : 1 ≤ l.2
  c2 : l.2 ≤ sc
theorem two_ix0 (a b : Int) : atI [PyData.int a, .int b] 0 = some (.int a) := rfl
theorem two_ix1 (a b : Int) : atI [PyData.int a, .int b] 1 = some (.int b) := rfl
theorem some_lots_ok {io : List PyData} {most a b sc : Int} (hd : Dw io) (hm : 0 ≤ most) (hm2 : most ≤ 1000) (hb : 1 ≤ b) (hb2 : b ≤ 1000) (hs : 1 ≤ sc) (hs2 : sc ≤ 10 ^ 30) :
    ∃ (ls : List Lot) (io' : List PyData), F_l_some_lots io [.int most, .tuple [.int a, .int b], .int sc] = .ok (.ow (ls.map encL), io') ∧ Dw io' ∧ (ls.length : Int) ≤ most ∧ ∀ l ∈ ls, DrawL a b sc l := by
  obtain ⟨r1, io1, e1, d1, a1, b1⟩ := pick_ok (m := 4) hd (by decide) (by decide)
  obtain ⟨x, ex, dear, rfl, hv0, hv1⟩ := pick_item (ds := [.int 2, .int 5, .int 40, .int 1000000]) (P := fun d => ∃ v, d = .int v ∧ 1 ≤ v ∧ v ≤ 1000000) (by
    intro d hm
    simp only [List.mem_cons, List.not_mem_nil, or_false] at hm
    rcases hm with rfl | rfl | rfl | rfl <;> exact ⟨_, rfl, by decide, by decide⟩) a1 (by simpa using b1)
  obtain ⟨n, io2, e2, d2, a2, b2⟩ := pick_ok (m := most + 1) d1 (by omega) (by omega)
  have p6 : cPow 10 6 = true := by decide
  obtain ⟨ρ', ef, io3, ls, s6, s7, s8, rfl, d3, hl, hg⟩ := forE_inv (g := gSet 6) (s := b_l_some_lots_1) (fun k ρ => ∃ (io : List PyData) (ls : List Lot) (s6 s7 s8 : Sl), ρ = [.ow io, .fz (.int most), .fz (.tuple [.int a, .int b]), .fz (.int sc), .fz (.int dear), .ow ((ls : List Lot).map encL), s6, s7, s8] ∧ Dw io ∧ ls.length = k ∧ ∀ l ∈ ls, DrawL a b sc l) (rng 0 n.toNat) 0
    [.ow io2, .fz (.int most), .fz (.tuple [.int a, .int b]), .fz (.int sc), .fz (.int dear), .ow [], .un, .un, .un] ⟨io2, [], _, _, _, rfl, d2, rfl, fun l h => absurd h List.not_mem_nil⟩ (by
      rintro j y ρ hy ⟨io, ls, s6, s7, s8, rfl, d, hl, hg⟩
      obtain ⟨hj, rfl⟩ := rng_get hy
      obtain ⟨x1, i1, p1, q1, l1, u1⟩ := pick_ok (m := b) d (by omega) (by omega)
      obtain ⟨x2, i2, p2, q2, l2, u2⟩ := pick_ok (m := sc) q1 (by omega) (by omega)
      obtain ⟨x3, i3, p3, q3, l3, u3⟩ := pick_ok (m := dear) q2 (by omega) (by omega)
      refine ⟨_, [.ow i3, .fz (.int most), .fz (.tuple [.int a, .int b]), .fz (.int sc), .fz (.int dear), .ow ((ls ++ [(a + x1, 1 + x2, 1 + x3)]).map encL), .fz (.int (0 + j)), .fz (.int (a + x1)), .fz (.int (1 + x2))], rfl, .inl ?_, i3, ls ++ [(a + x1, 1 + x2, 1 + x3)], _, _, _, rfl, q3, by simp [hl], ?_⟩
      · have hk : kAppend (.tuple [.int (a + x1), .int (1 + x2), .int (1 + x3)]) (ls.map encL) = some (ls.map encL ++ [.tuple [.int (a + x1), .int (1 + x2), .int (1 + x3)]]) := kAppend_of (by rw [List.length_map]; omega)
        simp [b_l_some_lots_1, two_ix0, two_ix1, p1, p2, p3, mkT, small, hk, encL]
      · intro l h
        rw [List.mem_append, List.mem_singleton] at h
        rcases h with h | rfl
        · exact hg l h
        · exact ⟨by dsimp; omega, by dsimp; omega, by dsimp; omega, by dsimp; omega, by dsimp; omega, by dsimp; omega⟩)
  refine ⟨ls, io3, ?_, d3, by rw [hl, rng_len]; omega, hg⟩
  show toOutI (g_l_some_lots _) = _
  have e3 : sFor (fAB oRng1 (fCons (fCallI 0 F_l_pick (fCons (fOp oAdd (.v 1) (.e (ret (.int 1)))) fNil)) fNil)) (gSet 6) b_l_some_lots_1 [.ow io1, .fz (.int most), .fz (.tuple [.int a, .int b]), .fz (.int sc), .fz (.int dear), .ow [], .un, .un, .un] = _ := (sFor_eq (by simp [e2, oRng1_of a2 (by omega)])).trans ef
  simp [g_l_some_lots, e1, p6, mkT, small, ex, mkL, e3]
theorem some_outs_ok {io : List PyData} {most a b sc : Int} (hd : Dw io) (hm : 0 ≤ most) (hm2 : most ≤ 1000) (hb : 1 ≤ b) (hb2 : b ≤ 1000) (hs : 1 ≤ sc) (hs2 : sc ≤ 10 ^ 30) :
    ∃ (ls : List Ot) (io' : List PyData), F_l_some_outs io [.int most, .tuple [.int a, .int b], .int sc] = .ok (.ow (ls.map encO), io') ∧ Dw io' ∧ (ls.length : Int) ≤ most ∧ ∀ l ∈ ls, DrawO a b sc l := by
  obtain ⟨n, io2, e2, d2, a2, b2⟩ := pick_ok (m := most + 1) hd (by omega) (by omega)
  obtain ⟨ρ', ef, io3, ls, s6, s7, rfl, d3, hl, hg⟩ := forE_inv (g := gSet 5) (s := b_l_some_outs_1) (fun k ρ => ∃ (io : List PyData) (ls : List Ot) (s6 s7 : Sl), ρ = [.ow io, .fz (.int most), .fz (.tuple [.int a, .int b]), .fz (.int sc), .ow ((ls : List Ot).map encO), s6, s7] ∧ Dw io ∧ ls.length = k ∧ ∀ l ∈ ls, DrawO a b sc l) (rng 0 n.toNat) 0
    [.ow io2, .fz (.int most), .fz (.tuple [.int a, .int b]), .fz (.int sc), .ow [], .un, .un] ⟨io2, [], _, _, rfl, d2, rfl, fun l h => absurd h List.not_mem_nil⟩ (by
      rintro j y ρ hy ⟨io, ls, s6, s7, rfl, d, hl, hg⟩
      obtain ⟨hj, rfl⟩ := rng_get hy
      obtain ⟨x1, i1, p1, q1, l1, u1⟩ := pick_ok (m := b) d (by omega) (by omega)
      obtain ⟨x2, i2, p2, q2, l2, u2⟩ := pick_ok (m := sc) q1 (by omega) (by omega)
      refine ⟨_, [.ow i2, .fz (.int most), .fz (.tuple [.int a, .int b]), .fz (.int sc), .ow ((ls ++ [(a + x1, 1 + x2)]).map encO), .fz (.int (0 + j)), .fz (.int (a + x1))], rfl, .inl ?_, i2, ls ++ [(a + x1, 1 + x2)], _, _, rfl, q2, by simp [hl], ?_⟩
      · have hk : kAppend (.tuple [.int (a + x1), .int (1 + x2)]) (ls.map encO) = some (ls.map encO ++ [.tuple [.int (a + x1), .int (1 + x2)]]) := kAppend_of (by rw [List.length_map]; omega)
        simp [b_l_some_outs_1, two_ix0, two_ix1, p1, p2, mkT, small, hk, encO]
      · intro l h
        rw [List.mem_append, List.mem_singleton] at h
        rcases h with h | rfl
        · exact hg l h
        · exact ⟨by dsimp; omega, by dsimp; omega, by dsimp; omega, by dsimp; omega⟩)
  refine ⟨ls, io3, ?_, d3, by rw [hl, rng_len]; omega, hg⟩
  show toOutI (g_l_some_outs _) = _
  have e3 : sFor (fAB oRng1 (fCons (fCallI 0 F_l_pick (fCons (fOp oAdd (.v 1) (.e (ret (.int 1)))) fNil)) fNil)) (gSet 5) b_l_some_outs_1 [.ow io, .fz (.int most), .fz (.tuple [.int a, .int b]), .fz (.int sc), .ow [], .un, .un] = _ := (sFor_eq (by simp [e2, oRng1_of a2 (by omega)])).trans ef
  simp [g_l_some_outs, mkL, small, e3]
/-- a drawn case: good lots and outs, a term -/
theorem case_ok {io : List PyData} {most : Int} (hd : Dw io) (hm : 0 ≤ most) (hm2 : most ≤ 1000) :
    ∃ (ls : List Lot) (os : List Ot) (t : Int) (io' : List PyData), F_l_case io [.int most] = .ok (.fz (.tuple [.list (ls.map encL), .list (os.map encO), .int t]), io') ∧ Dw io' ∧ (ls.length : Int) ≤ most ∧ (os.length : Int) ≤ most ∧ (∀ l ∈ ls, GoodL l) ∧ (∀ o ∈ os, GoodO o) ∧ 0 ≤ t ∧ t ≤ 400 := by
  obtain ⟨a, b, io1, e1, d1, ha, hb, hab⟩ := span_ok hd
  obtain ⟨t, io2, e2, d2, ht0, ht1⟩ := some_term_ok d1
  obtain ⟨r1, io3, e3, d3, a3, b3⟩ := pick_ok (m := 4) d2 (by decide) (by decide)
  obtain ⟨x, ex, sc, rfl, hv0, hv1⟩ := pick_item (ds := [.int 3, .int 12, .int 1000, .int 10000000000]) (P := fun d => ∃ v, d = .int v ∧ 1 ≤ v ∧ v ≤ 10000000000) (by
    intro d hm
    simp only [List.mem_cons, List.not_mem_nil, or_false] at hm
    rcases hm with rfl | rfl | rfl | rfl <;> exact ⟨_, rfl, by decide, by decide⟩) a3 (by simpa using b3)
  obtain ⟨ls, io4, e4, d4, l4, g4⟩ := some_lots_ok (most := most) (a := a) (b := b) (sc := sc) d3 hm hm2 hb (by omega) hv0 (by omega)
  obtain ⟨os, io5, e5, d5, l5, g5⟩ := some_outs_ok (most := most) (a := a) (b := b) (sc := sc) d4 hm hm2 hb (by omega) hv0 (by omega)
  have p10 : cPow 10 10 = true := by decide
  refine ⟨ls, os, t, io5, ?_, d5, l4, l5, fun l h => ?_, fun o h => ?_, ht0, ht1⟩
  · show toOutI (g_l_case _) = _
    simp [g_l_case, e1, e2, e3, p10, mkT, small, ex, e4, e5]
  · obtain ⟨h1, h2, h3, h4, h5, h6⟩ := g4 l h
    exact ⟨by omega, by omega, h3, by omega, h5, h6⟩
  · obtain ⟨h1, h2, h3, h4⟩ := g5 o h
    exact ⟨by omega, by omega, h3, by omega⟩
end Mm

namespace Mm
open PySem L2 Fx
variable [Tabz]
/-! ### data of numbers: equal to itself -/
def gi : Nat → PyData → Bool
  | 0, _ => false
  | _ + 1, .none => true
  | _ + 1, .bool _ => true
  | _ + 1, .int _ => true
  | n + 1, .list ds => ds.all (gi n)
  | n + 1, .tuple ds => ds.all (gi n)
  | _ + 1, _ => false
theorem gi_all {n : Nat} (ih : ∀ d, gi n d = true → d.canLay0 = true ∧ d.depth ≤ n) : ∀ ds : List PyData, ds.all (gi n) = true → PyData.canLayAll0 ds = true ∧ PyData.depthAll ds ≤ n
  | [], _ => ⟨by simp [PyData.canLayAll0], by simp [PyData.depthAll]⟩
  | d :: ds, h => by
    rw [List.all_cons, Bool.and_eq_true] at h
    obtain ⟨h1, h2⟩ := ih d h.1
    obtain ⟨h3, h4⟩ := gi_all ih ds h.2
    refine ⟨by simp [PyData.canLayAll0, h1, h3], ?_⟩
    simp only [PyData.depthAll]
    omega
theorem gi_ok : ∀ (n : Nat) (d : PyData), gi n d = true → d.canLay0 = true ∧ d.depth ≤ n
  | 0, _, h => by cases h
  | n + 1, d, h => by
    cases d with
    | none => exact ⟨by simp [PyData.canLay0], by simp [PyData.depth]⟩
    | bool b => exact ⟨by simp [PyData.canLay0], by simp [PyData.depth]⟩
    | int b => exact ⟨by simp [PyData.canLay0], by simp [PyData.depth]⟩
    | str b => cases h
    | dict b => cases h
    | list ds =>
      obtain ⟨h3, h4⟩ := gi_all (gi_ok n) ds h
      exact ⟨by simp [PyData.canLay0, h3], by simp only [PyData.depth]; omega⟩
    | tuple ds =>
      obtain ⟨h3, h4⟩ := gi_all (gi_ok n) ds h
      exact ⟨by simp [PyData.canLay0, h3], by simp only [PyData.depth]; omega⟩
theorem gi_shaped {n : Nat} {d : PyData} (hn : n ≤ 64) (h : gi n d = true) : SeqAt.shaped d = true := by
  obtain ⟨h1, h2⟩ := gi_ok n d h
  show (d.canLay0 && decide (d.depth ≤ 64)) = true
  rw [Bool.and_eq_true]
  exact ⟨h1, decide_eq_true (by omega)⟩
theorem gi_encL (n : Nat) (ls : List Lot) : (ls.map encL).all (gi (n + 2)) = true := by
  rw [List.all_map, List.all_eq_true]
  intro l _
  simp [encL, gi]
theorem gi_encO (n : Nat) (ls : List Ot) : (ls.map encO).all (gi (n + 2)) = true := by
  rw [List.all_map, List.all_eq_true]
  intro l _
  simp [encO, gi]
theorem gi_ints (n : Nat) (ls : List Int) : (ls.map PyData.int).all (gi (n + 1)) = true := by
  rw [List.all_map, List.all_eq_true]
  intro l _
  simp [gi]
theorem oEQ_self {n : Nat} {d : PyData} (hn : n ≤ 64) (h : gi n d = true) : oEQ d d = some (.bool true) := by
  have hs := gi_shaped hn h
  have he := SeqAt.eqv_refl d (gi_ok n d h).1
  cases d with
  | int i => simp [oEQ]
  | bool i => simp [oEQ]
  | str i => cases n <;> cases h
  | dict i => cases n <;> cases h
  | none => simp [oEQ, hs, he]
  | list ds => simp [oEQ, hs, he]
  | tuple ds => simp [oEQ, hs, he]
theorem oNE_self {n : Nat} {d : PyData} (hn : n ≤ 64) (h : gi n d = true) : oNE d d = some (.bool false) := by
  have hs := gi_shaped hn h
  have he := SeqAt.eqv_refl d (gi_ok n d h).1
  cases d with
  | int i => simp [oNE]
  | bool i => simp [oNE]
  | str i => cases n <;> cases h
  | dict i => cases n <;> cases h
  | none => simp [oNE, hs, he]
  | list ds => simp [oNE, hs, he]
  | tuple ds => simp [oNE, hs, he]
/-- is a list empty -/
theorem oNE_nil {n : Nat} {ds : List PyData} (hn : n ≤ 64) (h : gi n (.list ds) = true) : oNE (.list ds) (.list []) = some (.bool (!ds.isEmpty)) := by
  have hs := gi_shaped hn h
  have hs0 : SeqAt.shaped (.list []) = true := gi_shaped (n := 1) (by decide) rfl
  cases ds with
  | nil =>
    have he := SeqAt.eqv_refl (.list []) (gi_ok 1 (.list []) rfl).1
    simp [oNE, hs0, he]
  | cons d ds => simp [oNE, hs, hs0, PyData.eqv, PyData.eqvAll]
theorem oEQ_nil {n : Nat} {ds : List PyData} (hn : n ≤ 64) (h : gi n (.list ds) = true) : oEQ (.list ds) (.list []) = some (.bool ds.isEmpty) := by
  have hs := gi_shaped hn h
  have hs0 : SeqAt.shaped (.list []) = true := gi_shaped (n := 1) (by decide) rfl
  cases ds with
  | nil =>
    have he := SeqAt.eqv_refl (.list []) (gi_ok 1 (.list []) rfl).1
    simp [oEQ, hs0, he]
  | cons d ds => simp [oEQ, hs, hs0, PyData.eqv, PyData.eqvAll]
theorem oNE_nn : oNE (.list []) (.list []) = some (.bool false) := oNE_nil (n := 1) (ds := []) (by decide) rfl
theorem oEQ_nn : oEQ (.list []) (.list []) = some (.bool true) := oEQ_nil (n := 1) (ds := []) (by decide) rfl
/-! ### what goes out against a stretch -/
def outAgL (os : List Ot) (t a b : Int) : List Int := (os.filter fun o => decide (a ≤ o.1 ∧ o.1 ≤ b + t)).map fun o => o.2
def outAg (os : List Ot) (t a b : Int) : Int := (outAgL os t a b).sum
theorem q_out_against (os : List Ot) (t a b : Int) (hl : os.length ≤ 100000) : q_out_against_1 [.fz (.list (os.map encO)), .fz (.int t), .fz (.tuple [.int a, .int b]), .un, .un] =
    .ok ((outAgL os t a b).map PyData.int, [.fz (.list (os.map encO)), .fz (.int t), .fz (.tuple [.int a, .int b]), .un, .un]) := by
  unfold q_out_against_1 outAgL
  rw [lc_if os encO (fun o => decide (a ≤ o.1 ∧ o.1 ≤ b + t)) (fun o => PyData.int o.2) (ρ := [.fz (.list (os.map encO)), .fz (.int t), .fz (.tuple [.int a, .int b]), .un, .un]) (by simp) hl ?_]
  · simp
  · intro o _
    refine ⟨[.fz (.list (os.map encO)), .fz (.int t), .fz (.tuple [.int a, .int b]), .fz (.int o.1), .fz (.int o.2)], rfl, [.fz (.list (os.map encO)), .fz (.int t), .fz (.tuple [.int a, .int b]), .fz (.int o.1), .fz (.int o.2)], ?_, fun _ => ⟨[.fz (.list (os.map encO)), .fz (.int t), .fz (.tuple [.int a, .int b]), .fz (.int o.1), .fz (.int o.2)], by simp, by simp⟩, fun _ => by simp⟩
    simp [F_goes_against_eq]
theorem F_out_against_eq (os : List Ot) (t a b : Int) (hl : os.length ≤ 100000) : F_out_against [.list (os.map encO), .int t, .tuple [.int a, .int b]] = .ok (.fz (.int (outAg os t a b))) := by
  show toOut (g_out_against _) = _
  simp [g_out_against, q_out_against os t a b hl, asInts_map, outAg]
theorem F_against_eq (os : List Ot) (t a b : Int) : F_against [.list (os.map encO), .int t, .tuple [.int a, .int b]] = match errOs os with
    | some c => .exc c
    | none => if t < 0 ∨ 400 < t then .exc "BadTerm" else if 1 ≤ a ∧ a ≤ b ∧ b ≤ 999 then .ok (.fz (.int (outAg os t a b))) else .exc "BadStretch" := by
  show toOut (g_against _) = _
  cases e : errOs os with
  | some c => simp [g_against, F_checked_outs_eq, outE, e]
  | none =>
    have hl : os.length ≤ 100000 := by
      unfold errOs at e
      by_cases h : 30 < os.length
      · rw [if_pos h] at e; cases e
      · omega
    by_cases h1 : t < 0 ∨ 400 < t
    · simp [g_against, F_checked_outs_eq, outE, e, F_need_term_eq, h1]
    · by_cases h2 : 1 ≤ a ∧ a ≤ b ∧ b ≤ 999
      · simp [g_against, F_checked_outs_eq, outE, e, F_need_term_eq, h1, F_need_stretch_eq, h2, F_out_against_eq os t a b hl]
      · simp [g_against, F_checked_outs_eq, outE, e, F_need_term_eq, h1, F_need_stretch_eq, h2]
/-- one of some rows -/
theorem one_ok {io : List PyData} {ds : List PyData} {P : PyData → Prop} (hd : Dw io) (hn : ds ≠ []) (hl : ds.length ≤ 100000) (h : ∀ d ∈ ds, P d) : ∃ d io', F_l_one io [.list ds] = .ok (.fz d, io') ∧ Dw io' ∧ P d := by
  have hpos : 0 < ds.length := List.length_pos_iff.mpr hn
  obtain ⟨r, io1, e1, d1, a1, b1⟩ := pick_ok (m := (ds.length : Int)) hd (by omega) (by omega)
  obtain ⟨d, ed, hp⟩ := pick_item h a1 b1
  refine ⟨d, io1, ?_, d1, hp⟩
  show toOutI (g_l_one _) = _
  simp [g_l_one, e1, ed]
end Mm

namespace Mm
open PySem L2 Fx
variable [Tabz]
/-! ### taken counts -/
theorem at_map {α : Type} (f : α → PyData) {xs : List α} {k : Nat} {x : α} (h : xs[k]? = some x) : atI (xs.map f) (k : Int) = some (f x) :=
  atI_nat (by rw [List.getElem?_map, h]; rfl)
theorem encL_ix0 (l : Lot) : atI [PyData.int l.1, .int l.2.1, .int l.2.2] 0 = some (.int l.1) := rfl
theorem encL_ix1 (l : Lot) : atI [PyData.int l.1, .int l.2.1, .int l.2.2] 1 = some (.int l.2.1) := rfl
theorem encL_ix2 (l : Lot) : atI [PyData.int l.1, .int l.2.1, .int l.2.2] 2 = some (.int l.2.2) := rfl
def okTk : List Lot → List Int → Bool
  | [], [] => true
  | l :: ls, t :: ts => decide (0 ≤ t ∧ t ≤ l.2.1) && okTk ls ts
  | _, _ => false
theorem okTk_len : ∀ {ls : List Lot} {ts : List Int}, okTk ls ts = true → ts.length = ls.length
  | [], [], _ => rfl
  | l :: ls, t :: ts, h => by
    simp only [okTk, Bool.and_eq_true] at h
    simp [okTk_len h.2]
  | [], _ :: _, h => by cases h
  | _ :: _, [], h => by cases h
theorem taken_turn (ls : List Lot) (t : Int) (k : Nat) (l : Lot) (s1 : Sl) (h : ls[k]? = some l) : b_checked_taken_1 [.fz (.list (ls.map encL)), s1, .fz (.int (k : Int)), .fz (.int t)] =
    if 0 ≤ t ∧ t ≤ l.2.1 then .nx [.fz (.list (ls.map encL)), s1, .fz (.int (k : Int)), .fz (.int t)] else .exc "BadTaken" [.fz (.list (ls.map encL)), s1, .fz (.int (k : Int)), .fz (.int t)] := by
  have e := at_map encL h
  by_cases h1 : t < 0
  · have h2 : ¬ (0 ≤ t ∧ t ≤ l.2.1) := by omega
    simp [b_checked_taken_1, h1, h2]
  · by_cases h3 : t ≤ l.2.1
    · have h2 : (0 ≤ t ∧ t ≤ l.2.1) := by omega
      have h4 : ¬ l.2.1 < t := by omega
      simp [b_checked_taken_1, h1, h2, e, encL, encL_ix1, h4]
    · have h2 : ¬ (0 ≤ t ∧ t ≤ l.2.1) := by omega
      have h4 : l.2.1 < t := by omega
      simp [b_checked_taken_1, h1, h2, e, encL, encL_ix1, h4]
theorem taken_loop (ls : List Lot) (s1 : Sl) : ∀ (ts : List Int) (k : Nat) (ls' : List Lot) (s2 s3 : Sl), ls.drop k = ls' → ts.length = ls'.length →
    ∃ ρ, forE (gTp (gsCons (gSet 2) (gsCons (gSet 3) gsNil))) b_checked_taken_1 ((ts.map PyData.int).zipIdx k |>.map fun (p : PyData × Nat) => PyData.tuple [.int (p.2 : Nat), p.1]) [.fz (.list (ls.map encL)), s1, s2, s3] =
      if okTk ls' ts = true then .nx ([.fz (.list (ls.map encL)), s1] ++ ρ) else .exc "BadTaken" ([.fz (.list (ls.map encL)), s1] ++ ρ)
  | [], k, [], s2, s3, _, _ => ⟨[s2, s3], by simp [forE, okTk]⟩
  | [], k, l :: ls', s2, s3, _, hl => by cases hl
  | t :: ts, k, [], s2, s3, _, hl => by cases hl
  | t :: ts, k, l :: ls', s2, s3, hd, hl => by
    have hk : ls[k]? = some l := by
      have := congrArg (fun z => z[0]?) hd
      simpa using this
    rw [List.map_cons, List.zipIdx_cons, List.map_cons]
    unfold forE
    have e : gTp (gsCons (gSet 2) (gsCons (gSet 3) gsNil)) (PyData.tuple [.int ((k : Nat) : Int), .int t]) [.fz (.list (ls.map encL)), s1, s2, s3] = some [.fz (.list (ls.map encL)), s1, .fz (.int ((k : Nat) : Int)), .fz (.int t)] := rfl
    simp only [e, taken_turn ls t k l s1 hk]
    by_cases h : 0 ≤ t ∧ t ≤ l.2.1
    · rw [if_pos h]
      obtain ⟨ρ, q⟩ := taken_loop ls s1 ts (k + 1) ls' (.fz (.int ((k : Nat) : Int))) (.fz (.int t)) (by rw [← List.drop_drop, hd]; rfl) (by simpa using hl)
      refine ⟨ρ, q.trans ?_⟩
      simp [okTk, h]
    · rw [if_neg h]
      refine ⟨[.fz (.int ((k : Nat) : Int)), .fz (.int t)], ?_⟩
      simp [okTk, h]
theorem F_checked_taken_eq (ls : List Lot) (ts : List Int) : F_checked_taken [.list (ls.map encL), .list (ts.map PyData.int)] = if okTk ls ts = true then .ok (.ow (ts.map PyData.int)) else .exc "BadTaken" := by
  show toOut (g_checked_taken _) = _
  by_cases hl : ts.length = ls.length
  · obtain ⟨ρ, q⟩ := taken_loop ls (.fz (.list (ts.map PyData.int))) ts 0 ls .un .un rfl hl
    have e : sFor (fAB oEnum (fCons (fVar 1) fNil)) (gTp (gsCons (gSet 2) (gsCons (gSet 3) gsNil))) b_checked_taken_1 [.fz (.list (ls.map encL)), .fz (.list (ts.map PyData.int)), .un, .un] = _ := (sFor_eq (by simp [oEnum]; rfl)).trans q
    by_cases h : okTk ls ts = true
    · rw [if_pos h] at e
      simp [g_checked_taken, hl, e, h, oNE]
    · rw [if_neg h] at e
      simp [g_checked_taken, hl, e, h, oNE]
  · have h : okTk ls ts = false := by
      cases q : okTk ls ts with
      | false => rfl
      | true => exact absurd (okTk_len q) hl
    have hl' : ¬ ((ts.length : Int) = ls.length) := by omega
    simp [g_checked_taken, hl', h, oNE]
/-- what the taken counts give back -/
def valL : List Lot → List Int → List Int
  | l :: ls, t :: ts => l.2.2 * t :: valL ls ts
  | _, _ => []
def val (ls : List Lot) (ts : List Int) : Int := (valL ls ts).sum
theorem valL_ix : ∀ (ls : List Lot) (ts : List Int), ts.length = ls.length → (List.range ls.length).map (fun i => PyData.int ((ls.getD i (0, 0, 0)).2.2 * ts.getD i 0)) = (valL ls ts).map PyData.int
  | [], [], _ => rfl
  | l :: ls, t :: ts, h => by
    rw [List.length_cons, List.range_succ_eq_map, List.map_cons, List.map_map]
    unfold valL
    rw [List.map_cons, ← valL_ix ls ts (by simpa using h)]
    simp [Function.comp_def]
  | [], _ :: _, h => by cases h
  | _ :: _, [], h => by cases h
theorem cMul_good {l : Lot} (h : GoodL l) (t : Int) : cMul l.2.2 t = true := by
  have h1 := h.u1
  have h2 := h.u2
  exact decide_eq_true (.inl (by omega))
theorem q_value (ls : List Lot) (ts : List Int) (hl : ts.length = ls.length) (hs : ls.length ≤ 1000) (hu : ∀ l ∈ ls, GoodL l) : q_value_1 [.fz (.list (ls.map encL)), .fz (.list (ts.map PyData.int)), .un] =
    .ok ((valL ls ts).map PyData.int, [.fz (.list (ls.map encL)), .fz (.list (ts.map PyData.int)), .un]) := by
  unfold q_value_1
  rw [lc_all (List.range ls.length) (fun i => PyData.int (i : Nat)) (fun i => PyData.int ((ls.getD i (0, 0, 0)).2.2 * ts.getD i 0)) (ρ := [.fz (.list (ls.map encL)), .fz (.list (ts.map PyData.int)), .un]) (by
    simp [oRng1_of (j := (ls.length : Int)) (by omega) (by omega), rng]) (by rw [List.length_range]; omega) ?_]
  · rw [valL_ix ls ts hl]; rfl
  · intro i hi
    rw [List.mem_range] at hi
    have e1 : ls[i]? = some (ls.getD i (0, 0, 0)) := by simp [hi]
    have e2 : ts[i]? = some (ts.getD i 0) := by simp [hl, hi]
    have m1 := List.mem_of_getElem? e1
    have hm : cMul (ls.getD i (0, 0, 0)).2.2 (ts.getD i 0) = true := cMul_good (hu _ m1) _
    have a1 := at_map encL e1
    have a2 := at_map PyData.int e2
    generalize ls.getD i (0, 0, 0) = l at *
    generalize ts.getD i 0 = t at *
    refine ⟨[.fz (.list (ls.map encL)), .fz (.list (ts.map PyData.int)), .fz (.int (i : Nat))], rfl, [.fz (.list (ls.map encL)), .fz (.list (ts.map PyData.int)), .fz (.int (i : Nat))], ?_, rfl⟩
    simp [a1, a2, encL, encL_ix2, hm]
theorem F_value_eq (ls : List Lot) (ts : List Int) (hl : ts.length = ls.length) (hs : ls.length ≤ 1000) (hu : ∀ l ∈ ls, GoodL l) : F_value [.list (ls.map encL), .list (ts.map PyData.int)] = .ok (.fz (.int (val ls ts))) := by
  show toOut (g_value _) = _
  simp [g_value, q_value ls ts hl hs hu, asInts_map, val]
theorem errLs_len {ls : List Lot} (h : errLs ls = none) : ls.length ≤ 30 := by
  unfold errLs at h
  by_cases hl : 30 < ls.length
  · rw [if_pos hl] at h; cases h
  · omega
theorem errOs_len {ls : List Ot} (h : errOs ls = none) : ls.length ≤ 30 := by
  unfold errOs at h
  by_cases hl : 30 < ls.length
  · rw [if_pos hl] at h; cases h
  · omega
theorem errL_good {l : Lot} (h : errL l = none) : GoodL l := by
  unfold errL at h
  split at h
  · cases h
  split at h
  · cases h
  split at h
  · cases h
  exact ⟨by omega, by omega, by omega, by omega, by omega, by omega⟩
theorem errO_good {l : Ot} (h : errO l = none) : GoodO l := by
  unfold errO at h
  split at h
  · cases h
  split at h
  · cases h
  exact ⟨by omega, by omega, by omega, by omega⟩
theorem good_errLs {ls : List Lot} (h : errLs ls = none) : ∀ l ∈ ls, GoodL l := by
  have hl := errLs_len h
  unfold errLs at h
  rw [if_neg (by omega), List.findSome?_eq_none_iff] at h
  exact fun l m => errL_good (h l m)
theorem good_errOs {ls : List Ot} (h : errOs ls = none) : ∀ l ∈ ls, GoodO l := by
  have hl := errOs_len h
  unfold errOs at h
  rw [if_neg (by omega), List.findSome?_eq_none_iff] at h
  exact fun l m => errO_good (h l m)
theorem F_refund_eq (ls : List Lot) (ts : List Int) : F_refund [.list (ls.map encL), .list (ts.map PyData.int)] = match errLs ls with
    | some c => .exc c
    | none => if okTk ls ts = true then .ok (.fz (.int (val ls ts))) else .exc "BadTaken" := by
  show toOut (g_refund _) = _
  cases e : errLs ls with
  | some c => simp [g_refund, F_checked_lots_eq, outE, e]
  | none =>
    by_cases h : okTk ls ts = true
    · simp [g_refund, F_checked_lots_eq, outE, e, F_checked_taken_eq, h, F_value_eq ls ts (okTk_len h) (by have := errLs_len e; omega) (good_errLs e)]
    · simp [g_refund, F_checked_lots_eq, outE, e, F_checked_taken_eq, h]
end Mm

namespace Mm
open PySem L2 Fx
variable [Tabz]
/-! ### comprehensions that change the slots (draws) -/
inductive A2 {α β : Type} (R : α → β → Prop) : List α → List β → Prop
  | nil : A2 R [] []
  | cons {a b as bs} : R a b → A2 R as bs → A2 R (a :: as) (b :: bs)
theorem A2.len {α β : Type} {R : α → β → Prop} : ∀ {xs : List α} {ys : List β}, A2 R xs ys → ys.length = xs.length
  | _, _, .nil => rfl
  | _, _, .cons _ t => by simp [t.len]
theorem rest_wipe (ρ' ρ : Rho) (vs : List Nat) : rest ρ' ρ vs = rest (wipeR ρ' vs) ρ vs := by
  apply List.ext_getElem?
  intro j
  rw [rest_get, rest_get, wipeR_len, wipeR_get]
  by_cases h : j ∈ vs
  · rw [if_pos h, if_pos h]
  · rw [if_neg h, if_neg h, if_neg h]
theorem lcE_draw {α β : Type} {g : PyData → Rho → Option Rho} {fe : M PyData} {vs : List Nat} (enc : α → PyData) (enc' : β → PyData) (I : Rho → Prop) (R : α → β → Prop) : ∀ (xs : List α) (ρ0 : Rho), I (wipeR ρ0 vs) →
    (∀ x ∈ xs, ∀ ρw, I ρw → ∃ ρ1, g (enc x) ρw = some ρ1 ∧ ∃ y ρ3, fe ρ1 = .ok (enc' y, ρ3) ∧ R x y ∧ I (wipeR ρ3 vs)) →
    ∃ ys ρ', lcE g (Fx.ret true) fe vs (xs.map enc) ρ0 = .ok (ys.map enc', ρ') ∧ A2 R xs ys ∧ I (wipeR ρ' vs)
  | [], ρ0, h0, _ => ⟨[], ρ0, rfl, .nil, h0⟩
  | d :: ds, ρ0, h0, hs => by
    obtain ⟨ρ1, e1, y, ρ3, e3, r3, i3⟩ := hs d List.mem_cons_self _ h0
    obtain ⟨ys, ρ', e4, r4, i4⟩ := lcE_draw enc enc' I R ds ρ3 i3 fun x hx => hs x (List.mem_cons_of_mem _ hx)
    refine ⟨y :: ys, ρ', ?_, .cons r3 r4, i4⟩
    rw [List.map_cons]
    unfold lcE
    rw [e1]
    simp only [Fx.ret, e3, e4, List.map_cons]
theorem lc_draw {α β : Type} {g : PyData → Rho → Option Rho} {fe : M PyData} {fi : M (List PyData)} {vs : List Nat} {ρ0 ρ : Rho} (xs : List α) (enc : α → PyData) (enc' : β → PyData) (I : Rho → Prop) (R : α → β → Prop) (hfi : fi ρ0 = .ok (xs.map enc, ρ)) (hs : xs.length ≤ 100000) (h0 : I (wipeR ρ vs))
    (he : ∀ x ∈ xs, ∀ ρw, I ρw → ∃ ρ1, g (enc x) ρw = some ρ1 ∧ ∃ y ρ3, fe ρ1 = .ok (enc' y, ρ3) ∧ R x y ∧ I (wipeR ρ3 vs)) :
    ∃ ys ρw, fLc fi g (Fx.ret true) fe vs ρ0 = .ok (ys.map enc', rest ρw ρ vs) ∧ A2 R xs ys ∧ I ρw := by
  obtain ⟨ys, ρ', e, r, i⟩ := lcE_draw enc enc' I R xs ρ h0 he
  refine ⟨ys, wipeR ρ' vs, ?_, r, i⟩
  unfold fLc bnd
  rw [hfi, ← rest_wipe]
  simp only [List.length_map, small_of hs, if_true, e]
/-! ### slices -/
theorem cut_take {α : Type} (xs : List α) (k : Nat) : cut xs none (some (k : Int)) = xs.take k := by
  unfold cut
  rw [HT.sIx_none, HT.sIx_nat, List.drop_zero, Nat.sub_zero]
  by_cases h : k ≤ xs.length
  · rw [Nat.min_eq_left h]
  · rw [Nat.min_eq_right (by omega), List.take_length, List.take_of_length_le (by omega)]
theorem cut_drop {α : Type} (xs : List α) (k : Nat) : cut xs (some (k : Int)) none = xs.drop k := by
  unfold cut
  rw [HT.sIx_none, HT.sIx_nat, List.take_of_length_le (by rw [List.length_drop]; omega)]
  by_cases h : k ≤ xs.length
  · rw [Nat.min_eq_left h]
  · rw [Nat.min_eq_right (by omega), List.drop_length, List.drop_of_length_le (by omega)]
theorem cut_dropS {α : Type} (xs : List α) (k : Nat) : cut xs (some ((k : Int) + 1)) none = xs.drop (k + 1) := cut_drop xs (k + 1)
end Mm

namespace Mm
open PySem L2 Fx
variable [Tabz]
/-! ### units of each lot in a dealing -/
/-- the units of a dealing's rows of a lot -/
def cntL (rs : List Lot) (i : Int) : List Int := (rs.filter fun r => decide (r.1 = i)).map fun r => r.2.2
def cnt (rs : List Lot) (i : Int) : Int := (cntL rs i).sum
def cnts (n : Nat) (rs : List Lot) : List Int := (List.range n).map fun (i : Nat) => cnt rs i
theorem cnt_cons (r : Lot) (rs : List Lot) (i : Int) : cnt (r :: rs) i = (if r.1 = i then r.2.2 else 0) + cnt rs i := by
  unfold cnt cntL
  by_cases h : r.1 = i
  · rw [List.filter_cons_of_pos (by simpa using h), if_pos h]; rfl
  · rw [List.filter_cons_of_neg (by simpa using h), if_neg h]; simp
theorem range_set (n k : Nat) (f : Nat → Int) (v : Int) : ((List.range n).map f).set k v = (List.range n).map fun i => if i = k then v else f i := by
  apply List.ext_getElem?
  intro j
  rw [List.getElem?_set, List.length_map, List.length_range, List.getElem?_map, List.getElem?_map]
  by_cases hj : j < n
  · rw [List.getElem?_range hj]
    by_cases h : k = j
    · subst h; simp [hj]
    · have h' : ¬ j = k := fun z => h z.symm
      simp [h, h']
  · rw [List.getElem?_eq_none (by simpa using hj)]
    by_cases h : k = j
    · subst h; simp [hj]
    · simp [h]
theorem summed_turn (n : Nat) (f : Nat → Int) (r : Lot) (s0 s1 : Sl) (h0 : 0 ≤ r.1) (h1 : r.1 < n) :
    b_summed_1 [s0, s1, .ow (((List.range n).map f).map PyData.int), .fz (.int r.1), .fz (.int r.2.1), .fz (.int r.2.2)] =
      .nx [s0, s1, .ow (((List.range n).map fun i => f i + if r.1 = i then r.2.2 else 0).map PyData.int), .fz (.int r.1), .fz (.int r.2.1), .fz (.int r.2.2)] := by
  obtain ⟨k, hk⟩ : ∃ k : Nat, r.1 = (k : Int) := ⟨r.1.toNat, by omega⟩
  have hk' : k < n := by omega
  have e1 : ((List.range n).map f)[k]? = some (f k) := by rw [List.getElem?_map, List.getElem?_range hk']; rfl
  have a1 := at_map PyData.int e1
  have hx : ixN (((List.range n).map f).map PyData.int).length (k : Int) = some k := by unfold ixN; rw [if_pos (by omega), if_pos (by simpa using hk')]; rfl
  have e2 : (((List.range n).map f).map PyData.int).set k (.int (f k + r.2.2)) = ((List.range n).map fun (i : Nat) => f i + if r.1 = i then r.2.2 else 0).map PyData.int := by
    rw [← List.map_set, range_set]
    congr 1
    apply List.map_congr_left
    intro i _
    rw [hk]
    by_cases h : i = k
    · subst h; simp
    · rw [if_neg h, if_neg (by omega)]; omega
  unfold b_summed_1
  rw [hk] at e2 ⊢
  rw [← e2]
  generalize ((List.range n).map f).map PyData.int = xs at a1 hx ⊢
  simp [augGet, a1, kSet, hx, mutO]
theorem summed_loop (n : Nat) (s0 s1 : Sl) : ∀ (rs : List Lot) (f : Nat → Int) (s3 s4 s5 : Sl), (∀ r ∈ rs, 0 ≤ r.1 ∧ r.1 < n) → ∃ s3' s4' s5',
    forE (gTp (gsCons (gSet 3) (gsCons (gSet 4) (gsCons (gSet 5) gsNil)))) b_summed_1 (rs.map encL) [s0, s1, .ow (((List.range n).map f).map PyData.int), s3, s4, s5] =
      .nx [s0, s1, .ow (((List.range n).map fun (i : Nat) => f i + cnt rs i).map PyData.int), s3', s4', s5']
  | [], f, s3, s4, s5, _ => ⟨s3, s4, s5, by simp [forE, cnt, cntL]⟩
  | r :: rs, f, s3, s4, s5, h => by
    rw [List.map_cons]
    unfold forE
    have e : gTp (gsCons (gSet 3) (gsCons (gSet 4) (gsCons (gSet 5) gsNil))) (encL r) [s0, s1, .ow (((List.range n).map f).map PyData.int), s3, s4, s5] = some [s0, s1, .ow (((List.range n).map f).map PyData.int), .fz (.int r.1), .fz (.int r.2.1), .fz (.int r.2.2)] := rfl
    have hr := h r List.mem_cons_self
    simp only [e, summed_turn n f r s0 s1 hr.1 hr.2]
    obtain ⟨a, b, c, q⟩ := summed_loop n s0 s1 rs (fun (i : Nat) => f i + if r.1 = i then r.2.2 else 0) (.fz (.int r.1)) (.fz (.int r.2.1)) (.fz (.int r.2.2)) fun x hx => h x (List.mem_cons_of_mem _ hx)
    refine ⟨a, b, c, q.trans ?_⟩
    have e2 : ((List.range n).map fun (i : Nat) => (f i + if r.1 = (i : Int) then r.2.2 else 0) + cnt rs i) = (List.range n).map fun (i : Nat) => f i + cnt (r :: rs) i := by
      apply List.map_congr_left
      intro i _
      rw [cnt_cons, Int.add_assoc]
    rw [e2]
theorem rep_zero (n : Nat) : (List.replicate n [PyData.int 0]).flatten = ((List.range n).map fun _ => (0 : Int)).map PyData.int := by
  induction n with
  | zero => rfl
  | succ n ih =>
    rw [List.replicate_succ, List.flatten_cons, ih, List.range_succ_eq_map]
    simp [Function.comp_def]
theorem F_summed_eq (n : Nat) (rs : List Lot) (hn : n ≤ 1000) (h : ∀ r ∈ rs, 0 ≤ r.1 ∧ r.1 < n) : F_summed [.int n, .list (rs.map encL)] = .ok (.ow ((cnts n rs).map PyData.int)) := by
  refine (show F_summed [.int n, .list (rs.map encL)] = toOut (g_summed [.fz (.int n), .fz (.list (rs.map encL)), .un, .un, .un, .un]) from rfl).trans ?_
  obtain ⟨a, b, c, q⟩ := summed_loop n (.fz (.int n)) (.fz (.list (rs.map encL))) rs (fun _ => 0) .un .un .un h
  have e : sFor (fItL (fVar 1)) (gTp (gsCons (gSet 3) (gsCons (gSet 4) (gsCons (gSet 5) gsNil)))) b_summed_1 [.fz (.int n), .fz (.list (rs.map encL)), .ow (((List.range n).map fun _ => (0 : Int)).map PyData.int), .un, .un, .un] = _ := (sFor_eq (by simp)).trans q
  have hs : small n = true := decide_eq_true (by omega)
  simp only [Int.zero_add] at e
  have er : oRep (.list [.int 0]) (.int n) = some (((List.range n).map fun _ => (0 : Int)).map PyData.int) := by
    simp [oRep, hs]
    simpa using rep_zero n
  have e1 : sSetL 2 (fOpL oRep (.e (fLst (fLs (fCons (Fx.ret (.int 0)) fNil)))) (.v 0)) [.fz (.int n), .fz (.list (rs.map encL)), .un, .un, .un, .un] = .nx [.fz (.int n), .fz (.list (rs.map encL)), .ow (((List.range n).map fun _ => (0 : Int)).map PyData.int), .un, .un, .un] := by
    generalize ((List.range n).map fun _ => (0 : Int)).map PyData.int = z at er ⊢
    simp [mkL, small, er]
  unfold g_summed
  rw [seq_nx e1, seq_nx e]
  rfl
def okRs (n : Nat) (rs : List Lot) : Bool := rs.all fun r => decide (0 ≤ r.1 ∧ r.1 < n)
theorem places_turn (ls : List Lot) (r : Lot) (s0 s1 : Sl) : b_counts_of_1 [s0, s1, .fz (.list (ls.map encL)), .fz (.int r.1), .fz (.int r.2.1), .fz (.int r.2.2)] =
    if 0 ≤ r.1 ∧ r.1 < ls.length then .nx [s0, s1, .fz (.list (ls.map encL)), .fz (.int r.1), .fz (.int r.2.1), .fz (.int r.2.2)] else .exc "NoPlace" [s0, s1, .fz (.list (ls.map encL)), .fz (.int r.1), .fz (.int r.2.1), .fz (.int r.2.2)] := by
  by_cases h1 : r.1 < 0
  · have h2 : ¬ (0 ≤ r.1 ∧ r.1 < ls.length) := by omega
    simp [b_counts_of_1, h1, h2]
  · by_cases h3 : r.1 < ls.length
    · have h2 : (0 ≤ r.1 ∧ r.1 < ls.length) := by omega
      have h4 : ¬ (ls.length : Int) ≤ r.1 := by omega
      simp [b_counts_of_1, h1, h2, h4]
    · have h2 : ¬ (0 ≤ r.1 ∧ r.1 < ls.length) := by omega
      have h4 : (ls.length : Int) ≤ r.1 := by omega
      simp [b_counts_of_1, h1, h2, h4]
theorem places_loop (ls : List Lot) (s0 s1 : Sl) : ∀ (rs : List Lot) (s3 s4 s5 : Sl), ∃ s3' s4' s5',
    forE (gTp (gsCons (gSet 3) (gsCons (gSet 4) (gsCons (gSet 5) gsNil)))) b_counts_of_1 (rs.map encL) [s0, s1, .fz (.list (ls.map encL)), s3, s4, s5] =
      if okRs ls.length rs = true then .nx [s0, s1, .fz (.list (ls.map encL)), s3', s4', s5'] else .exc "NoPlace" [s0, s1, .fz (.list (ls.map encL)), s3', s4', s5']
  | [], s3, s4, s5 => ⟨s3, s4, s5, by simp [forE, okRs]⟩
  | r :: rs, s3, s4, s5 => by
    rw [List.map_cons]
    unfold forE
    have e : gTp (gsCons (gSet 3) (gsCons (gSet 4) (gsCons (gSet 5) gsNil))) (encL r) [s0, s1, .fz (.list (ls.map encL)), s3, s4, s5] = some [s0, s1, .fz (.list (ls.map encL)), .fz (.int r.1), .fz (.int r.2.1), .fz (.int r.2.2)] := rfl
    simp only [e, places_turn]
    by_cases h : 0 ≤ r.1 ∧ r.1 < ls.length
    · rw [if_pos h]
      obtain ⟨a, b, c, q⟩ := places_loop ls s0 s1 rs (.fz (.int r.1)) (.fz (.int r.2.1)) (.fz (.int r.2.2))
      refine ⟨a, b, c, q.trans ?_⟩
      have e2 : okRs ls.length (r :: rs) = okRs ls.length rs := by unfold okRs; rw [List.all_cons, decide_eq_true h, Bool.true_and]
      rw [e2]
    · rw [if_neg h]
      have e2 : okRs ls.length (r :: rs) = false := by unfold okRs; rw [List.all_cons, decide_eq_false h, Bool.false_and]
      refine ⟨.fz (.int r.1), .fz (.int r.2.1), .fz (.int r.2.2), ?_⟩
      rw [e2]
      rfl
theorem F_counts_of_eq (ls : List Lot) (rs : List Lot) : F_counts_of [.list (ls.map encL), .list (rs.map encL)] = match errLs ls with
    | some c => .exc c
    | none => if okRs ls.length rs = true then .ok (.ow ((cnts ls.length rs).map PyData.int)) else .exc "NoPlace" := by
  refine (show F_counts_of [.list (ls.map encL), .list (rs.map encL)] = toOut (g_counts_of [.fz (.list (ls.map encL)), .fz (.list (rs.map encL)), .un, .un, .un, .un]) from rfl).trans ?_
  cases e : errLs ls with
  | some c => simp [g_counts_of, F_checked_lots_eq, outE, e]
  | none =>
    obtain ⟨a, b, c, q⟩ := places_loop ls (.fz (.list (ls.map encL))) (.fz (.list (rs.map encL))) rs .un .un .un
    have e2 : sFor (fItL (fVar 1)) (gTp (gsCons (gSet 3) (gsCons (gSet 4) (gsCons (gSet 5) gsNil)))) b_counts_of_1 [.fz (.list (ls.map encL)), .fz (.list (rs.map encL)), .fz (.list (ls.map encL)), .un, .un, .un] = _ := (sFor_eq (by simp)).trans q
    by_cases h : okRs ls.length rs = true
    · rw [if_pos h] at e2
      have hs := F_summed_eq ls.length rs (by have := errLs_len e; omega) (by
        intro r hr
        unfold okRs at h
        exact of_decide_eq_true (List.all_eq_true.mp h r hr))
      simp [g_counts_of, F_checked_lots_eq, outE, e, e2, h, hs]
    · rw [if_neg h] at e2
      simp [g_counts_of, F_checked_lots_eq, outE, e, e2, h]
end Mm

/-! the mathematics of dealing: no program in sight -/
namespace Mm
def S (o : List Nat) (g : Nat → Int) : Int := (o.map g).sum
@[simp] theorem S_nil (g : Nat → Int) : S [] g = 0 := rfl
@[simp] theorem S_cons (i : Nat) (o : List Nat) (g : Nat → Int) : S (i :: o) g = g i + S o g := by simp [S]
theorem S_le {o : List Nat} {g h : Nat → Int} (k : ∀ i ∈ o, g i ≤ h i) : S o g ≤ S o h := by
  induction o with
  | nil => simp
  | cons i o ih =>
    have h1 := k i List.mem_cons_self
    have h2 := ih fun j hj => k j (List.mem_cons_of_mem _ hj)
    simp only [S_cons]
    omega
theorem S_congr {o : List Nat} {g h : Nat → Int} (k : ∀ i ∈ o, g i = h i) : S o g = S o h := Int.le_antisymm (S_le fun i hi => Int.le_of_eq (k i hi)) (S_le fun i hi => Int.le_of_eq (k i hi).symm)
theorem S_add {o : List Nat} {g h : Nat → Int} : S o (fun i => g i + h i) = S o g + S o h := by
  induction o with
  | nil => simp
  | cons i o ih => simp only [S_cons, ih]; omega
theorem S_zero {o : List Nat} {g : Nat → Int} (k : ∀ i ∈ o, g i = 0) : S o g = 0 := by
  induction o with
  | nil => rfl
  | cons i o ih => rw [S_cons, k i List.mem_cons_self, ih fun j hj => k j (List.mem_cons_of_mem _ hj)]; rfl
theorem S_nonneg {o : List Nat} {g : Nat → Int} (k : ∀ i ∈ o, 0 ≤ g i) : 0 ≤ S o g := by
  have := S_le (o := o) (g := fun _ => 0) (h := g) k
  rwa [S_zero (fun _ _ => rfl)] at this
theorem S_one {o : List Nat} {g : Nat → Int} {i : Nat} (hi : i ∈ o) (k : ∀ i ∈ o, 0 ≤ g i) : g i ≤ S o g := by
  induction o with
  | nil => cases hi
  | cons j o ih =>
    rw [S_cons]
    have h0 := S_nonneg fun x hx => k x (List.mem_cons_of_mem _ hx)
    have h1 := k j List.mem_cons_self
    rcases List.mem_cons.mp hi with e | e
    · rw [e]; omega
    · have := ih e fun x hx => k x (List.mem_cons_of_mem _ hx); omega
theorem S_perm {o p : List Nat} (h : o.Perm p) (g : Nat → Int) : S o g = S p g := by
  induction h with
  | nil => rfl
  | cons x _ ih => simp only [S_cons, ih]
  | swap x y l => simp only [S_cons]; omega
  | trans _ _ h1 h2 => rw [h1, h2]
theorem outAg_cons (o : Ot) (os : List Ot) (t f l : Int) : outAg (o :: os) t f l = (if f ≤ o.1 ∧ o.1 ≤ l + t then o.2 else 0) + outAg os t f l := by
  unfold outAg outAgL
  by_cases h : f ≤ o.1 ∧ o.1 ≤ l + t
  · rw [List.filter_cons_of_pos (by simp [h]), if_pos h]; simp
  · rw [List.filter_cons_of_neg (by simp only [decide_eq_true_eq]; exact h), if_neg h]; simp
theorem outAg_nil (t f l : Int) : outAg [] t f l = 0 := rfl
theorem outAg_perm {os ps : List Ot} (h : os.Perm ps) (t f l : Int) : outAg os t f l = outAg ps t f l := by
  induction h with
  | nil => rfl
  | cons x _ ih => rw [outAg_cons, outAg_cons, ih]
  | swap x y l => simp only [outAg_cons]; omega
  | trans _ _ h1 h2 => rw [h1, h2]
theorem outAg_mono {os : List Ot} {t f l f' l' : Int} (hc : ∀ o ∈ os, 0 ≤ o.2) (k : ∀ o ∈ os, f ≤ o.1 → o.1 ≤ l + t → f' ≤ o.1 ∧ o.1 ≤ l' + t) : outAg os t f l ≤ outAg os t f' l' := by
  induction os with
  | nil => exact Int.le_refl _
  | cons o os ih =>
    rw [outAg_cons, outAg_cons]
    have h1 := ih (fun x hx => hc x (List.mem_cons_of_mem _ hx)) fun x hx => k x (List.mem_cons_of_mem _ hx)
    have h2 := hc o List.mem_cons_self
    have h3 := k o List.mem_cons_self
    by_cases q : f ≤ o.1 ∧ o.1 ≤ l + t
    · rw [if_pos q, if_pos (h3 q.1 q.2)]; omega
    · rw [if_neg q]; split <;> omega
theorem outAg_nonneg {os : List Ot} {t f l : Int} (hc : ∀ o ∈ os, 0 ≤ o.2) : 0 ≤ outAg os t f l := by
  induction os with
  | nil => exact Int.le_refl _
  | cons o os ih =>
    rw [outAg_cons]
    have h1 := ih fun x hx => hc x (List.mem_cons_of_mem _ hx)
    have h2 := hc o List.mem_cons_self
    split <;> omega
theorem outAg_none {os : List Ot} {t f l : Int} (k : ∀ o ∈ os, ¬ (f ≤ o.1 ∧ o.1 ≤ l + t)) : outAg os t f l = 0 := by
  induction os with
  | nil => rfl
  | cons o os ih => rw [outAg_cons, if_neg (k o List.mem_cons_self), ih fun x hx => k x (List.mem_cons_of_mem _ hx)]; rfl
/-- the count at a place -/
abbrev at0 (xs : List Int) (i : Nat) : Int := xs.getD i 0
theorem at0_set (xs : List Int) (i j : Nat) (v : Int) (hi : i < xs.length) : at0 (xs.set i v) j = if i = j then v else at0 xs j := by
  unfold at0
  rw [List.getD_eq_getElem?_getD, List.getD_eq_getElem?_getD, List.getElem?_set]
  by_cases h : i = j
  · subst h; simp [hi]
  · simp [h]
/-- what an out of the day e takes of what is left, in an order -/
def give (dy : Nat → Int) (e t : Int) : List Nat → List Int → Int → List Int × List (Nat × Int)
  | [], left, _ => (left, [])
  | i :: r, left, c => if (e - t ≤ dy i ∧ dy i ≤ e) ∧ 0 < min c (at0 left i) then
      ((give dy e t r (left.set i (at0 left i - min c (at0 left i))) (c - min c (at0 left i))).1, (i, min c (at0 left i)) :: (give dy e t r (left.set i (at0 left i - min c (at0 left i))) (c - min c (at0 left i))).2)
    else give dy e t r left c
structure Gv (dy : Nat → Int) (e t : Int) (o : List Nat) (left left' : List Int) (c : Int) : Prop where
  len : left'.length = left.length
  out : ∀ j, j ∉ o → at0 left' j = at0 left j
  bd : ∀ j ∈ o, 0 ≤ at0 left' j ∧ at0 left' j ≤ at0 left j
  off : ∀ j, ¬ (e - t ≤ dy j ∧ dy j ≤ e) → at0 left' j = at0 left j
  sum : ∀ l, S o (fun i => if (e - t ≤ dy i ∧ dy i ≤ e) ∧ dy i ≤ l then at0 left' i else 0) = S o (fun i => if (e - t ≤ dy i ∧ dy i ≤ e) ∧ dy i ≤ l then at0 left i else 0) - min c (S o (fun i => if (e - t ≤ dy i ∧ dy i ≤ e) ∧ dy i ≤ l then at0 left i else 0))
theorem give_ok (dy : Nat → Int) (e t : Int) : ∀ (o : List Nat) (left : List Int) (c : Int), o.Nodup → o.Pairwise (fun i j => dy i ≤ dy j) → (∀ i ∈ o, i < left.length ∧ 0 ≤ at0 left i) → 0 ≤ c → Gv dy e t o left (give dy e t o left c).1 c
  | [], left, c, _, _, _, hc => ⟨rfl, fun _ _ => rfl, (fun _ h => by cases h), fun _ _ => rfl, (fun l => by rw [S_nil, S_nil]; omega)⟩
  | i :: r, left, c, nd, pw, hl, hc => by
    rw [List.nodup_cons] at nd
    rw [List.pairwise_cons] at pw
    obtain ⟨hi, hi0⟩ := hl i List.mem_cons_self
    unfold give
    split
    · rename_i hw
      obtain ⟨hw, hs⟩ := hw
      have hne : ∀ j ∈ r, i ≠ j := fun j hj z => nd.1 (z ▸ hj)
      have e1 : ∀ j, i ≠ j → at0 (left.set i (at0 left i - min c (at0 left i))) j = at0 left j := fun j hj => by rw [at0_set _ _ _ _ hi, if_neg hj]
      have ih := give_ok dy e t r (left.set i (at0 left i - min c (at0 left i))) (c - min c (at0 left i)) nd.2 pw.2 (fun j hj => by
        rw [List.length_set, e1 j (hne j hj)]
        exact hl j (List.mem_cons_of_mem _ hj)) (by omega)
      have ei : at0 (give dy e t r (left.set i (at0 left i - min c (at0 left i))) (c - min c (at0 left i))).1 i = at0 left i - min c (at0 left i) := by
        rw [ih.out i nd.1, at0_set _ _ _ _ hi, if_pos rfl]
      refine ⟨by rw [ih.len, List.length_set], fun j hj => ?_, fun j hj => ?_, fun j hj => ?_, fun l => ?_⟩
      · rw [List.mem_cons, not_or] at hj
        rw [ih.out j hj.2, e1 j (Ne.symm hj.1)]
      · rcases List.mem_cons.mp hj with z | z
        · rw [z, ei]; omega
        · have := ih.bd j z
          rw [e1 j (hne j z)] at this
          exact this
      · rw [ih.off j hj, e1 j fun z => hj (z ▸ hw)]
      · have hs := ih.sum l
        have hc1 : S r (fun j => if (e - t ≤ dy j ∧ dy j ≤ e) ∧ dy j ≤ l then at0 (left.set i (at0 left i - min c (at0 left i))) j else 0) = S r (fun j => if (e - t ≤ dy j ∧ dy j ≤ e) ∧ dy j ≤ l then at0 left j else 0) := S_congr fun j hj => by rw [e1 j (hne j hj)]
        rw [hc1] at hs
        have h0 : 0 ≤ S r (fun j => if (e - t ≤ dy j ∧ dy j ≤ e) ∧ dy j ≤ l then at0 left j else 0) := S_nonneg fun j hj => by
          have := (hl j (List.mem_cons_of_mem _ hj)).2
          split <;> omega
        simp only [S_cons, ei, hs]
        by_cases hl1 : dy i ≤ l
        · simp only [hw, hl1, and_self, if_true]; omega
        · have hz : S r (fun j => if (e - t ≤ dy j ∧ dy j ≤ e) ∧ dy j ≤ l then at0 left j else 0) = 0 := S_zero fun j hj => by
            have := pw.1 j hj
            rw [if_neg]
            omega
          rw [hz]
          simp only [hl1, and_false, if_false]; omega
    · rename_i hw
      have ih := give_ok dy e t r left c nd.2 pw.2 (fun j hj => hl j (List.mem_cons_of_mem _ hj)) hc
      have ei : at0 (give dy e t r left c).1 i = at0 left i := ih.out i nd.1
      refine ⟨ih.len, fun j hj => ?_, fun j hj => ?_, fun j hj => ih.off j hj, fun l => ?_⟩
      · rw [List.mem_cons, not_or] at hj
        exact ih.out j hj.2
      · rcases List.mem_cons.mp hj with z | z
        · rw [z, ei]; omega
        · exact ih.bd j z
      · simp only [S_cons, ei, ih.sum l]
        have h0 : 0 ≤ S r (fun j => if (e - t ≤ dy j ∧ dy j ≤ e) ∧ dy j ≤ l then at0 left j else 0) := S_nonneg fun j hj => by
          have := (hl j (List.mem_cons_of_mem _ hj)).2
          split <;> omega
        by_cases hw1 : (e - t ≤ dy i ∧ dy i ≤ e) ∧ dy i ≤ l
        · have hz : c = 0 ∨ at0 left i = 0 := by
            have : ¬ 0 < min c (at0 left i) := fun z => hw ⟨hw1.1, z⟩
            omega
          rw [if_pos hw1]
          omega
        · rw [if_neg hw1]; omega
/-- Hall's condition: in no stretch more is taken than goes out against it -/
def Hall (dy : Nat → Int) (o : List Nat) (t : Int) (left : List Int) (os : List Ot) : Prop := ∀ f l, S o (fun i => if f ≤ dy i ∧ dy i ≤ l then at0 left i else 0) ≤ outAg os t f l
theorem hall_step {dy : Nat → Int} {o : List Nat} {t : Int} {left left' : List Int} {x : Ot} {os : List Ot} (ht : 0 ≤ t) (h0 : ∀ i ∈ o, 0 ≤ at0 left i) (hx : 0 ≤ x.2) (hc : ∀ y ∈ os, 0 ≤ y.2) (hs : ∀ y ∈ os, x.1 ≤ y.1) (g : Gv dy x.1 t o left left' x.2) :
    Hall dy o t left (x :: os) ↔ Hall dy o t left' os := by
  constructor
  · intro H f l
    have pt : ∀ p : Nat → Prop, ∀ [∀ i, Decidable (p i)], S o (fun i => if p i then at0 left' i else 0) ≤ S o (fun i => if p i then at0 left i else 0) := fun p _ => S_le fun i hi => by
      have := g.bd i hi
      split <;> omega
    by_cases q : f ≤ x.1 ∧ x.1 ≤ l + t
    · by_cases hB : x.2 ≤ S o (fun i => if (x.1 - t ≤ dy i ∧ dy i ≤ x.1) ∧ dy i ≤ l then at0 left i else 0)
      · have hf := H (min f (x.1 - t)) l
        rw [outAg_cons, if_pos (by omega)] at hf
        have h1 : S o (fun i => if f ≤ dy i ∧ dy i ≤ l then at0 left' i else 0) ≤ S o (fun i => if min f (x.1 - t) ≤ dy i ∧ dy i ≤ l then at0 left' i else 0) := S_le fun i hi => by
          have := g.bd i hi
          by_cases z : f ≤ dy i ∧ dy i ≤ l
          · rw [if_pos z, if_pos (by omega)]; exact Int.le_refl _
          · rw [if_neg z]; split <;> omega
        have split2 : ∀ (ts : List Int), S o (fun i => if min f (x.1 - t) ≤ dy i ∧ dy i ≤ l then at0 ts i else 0) = S o (fun i => if (x.1 - t ≤ dy i ∧ dy i ≤ x.1) ∧ dy i ≤ l then at0 ts i else 0) + S o (fun i => if (min f (x.1 - t) ≤ dy i ∧ dy i ≤ l) ∧ ¬ (x.1 - t ≤ dy i ∧ dy i ≤ x.1) then at0 ts i else 0) := fun ts => by
          rw [← S_add]
          refine S_congr fun i hi => ?_
          by_cases z1 : min f (x.1 - t) ≤ dy i ∧ dy i ≤ l <;> by_cases z2 : x.1 - t ≤ dy i ∧ dy i ≤ x.1
          · rw [if_pos z1, if_pos ⟨z2, z1.2⟩, if_neg (fun w => w.2 z2)]; omega
          · rw [if_pos z1, if_neg (fun w => z2 w.1), if_pos ⟨z1, z2⟩]; omega
          · rw [if_neg z1, if_neg (fun w => z1 ⟨by omega, w.2⟩), if_neg (fun w => z1 w.1)]; omega
          · rw [if_neg z1, if_neg (fun w => z2 w.1), if_neg (fun w => z1 w.1)]; omega
        have h2 : S o (fun i => if (min f (x.1 - t) ≤ dy i ∧ dy i ≤ l) ∧ ¬ (x.1 - t ≤ dy i ∧ dy i ≤ x.1) then at0 left' i else 0) = S o (fun i => if (min f (x.1 - t) ≤ dy i ∧ dy i ≤ l) ∧ ¬ (x.1 - t ≤ dy i ∧ dy i ≤ x.1) then at0 left i else 0) := S_congr fun i hi => by
          by_cases z : (min f (x.1 - t) ≤ dy i ∧ dy i ≤ l) ∧ ¬ (x.1 - t ≤ dy i ∧ dy i ≤ x.1)
          · rw [if_pos z, if_pos z, g.off i z.2]
          · rw [if_neg z, if_neg z]
        have h3 := g.sum l
        have h4 : outAg os t (min f (x.1 - t)) l ≤ outAg os t f l := outAg_mono hc fun y hy _ z => ⟨by have := hs y hy; omega, z⟩
        have h5 := split2 left
        have h6 := split2 left'
        omega
      · have h3 := g.sum l
        have hA := H f (x.1 - t - 1)
        have hB2 := H (x.1 + 1) l
        rw [outAg_none (fun y hy => by
          rcases List.mem_cons.mp hy with z | z
          · rw [z]; omega
          · have := hs y z; omega)] at hA
        rw [outAg_cons, if_neg (by omega)] at hB2
        have h4 : outAg os t (x.1 + 1) l ≤ outAg os t f l := outAg_mono hc fun y hy _ z => ⟨by have := hs y hy; omega, z⟩
        have h5 : S o (fun i => if f ≤ dy i ∧ dy i ≤ l then at0 left' i else 0) ≤ S o (fun i => if (x.1 - t ≤ dy i ∧ dy i ≤ x.1) ∧ dy i ≤ l then at0 left' i else 0) + (S o (fun i => if f ≤ dy i ∧ dy i ≤ x.1 - t - 1 then at0 left i else 0) + S o (fun i => if x.1 + 1 ≤ dy i ∧ dy i ≤ l then at0 left i else 0)) := by
          rw [← S_add, ← S_add]
          refine S_le fun i hi => ?_
          have hb := g.bd i hi
          have h0i := h0 i hi
          by_cases z1 : f ≤ dy i ∧ dy i ≤ l
          · rw [if_pos z1]
            by_cases z2 : x.1 - t ≤ dy i ∧ dy i ≤ x.1
            · rw [if_pos ⟨z2, z1.2⟩]; split <;> split <;> omega
            · by_cases z3 : dy i ≤ x.1 - t - 1
              · rw [if_pos (show f ≤ dy i ∧ dy i ≤ x.1 - t - 1 from ⟨z1.1, z3⟩)]; split <;> split <;> omega
              · rw [if_pos (show x.1 + 1 ≤ dy i ∧ dy i ≤ l from by omega)]; split <;> split <;> omega
          · rw [if_neg z1]; split <;> split <;> split <;> omega
        omega
    · have h1 := H f l
      rw [outAg_cons, if_neg q] at h1
      have := pt fun i => f ≤ dy i ∧ dy i ≤ l
      omega
  · intro H f l
    have h1 := H f l
    rw [outAg_cons]
    by_cases q : f ≤ x.1 ∧ x.1 ≤ l + t
    · rw [if_pos q]
      have h2 : S o (fun i => if f ≤ dy i ∧ dy i ≤ l then at0 left i else 0) ≤ S o (fun i => if f ≤ dy i ∧ dy i ≤ l then at0 left' i else 0) + x.2 := by
        have hw : S o (fun i => if f ≤ dy i ∧ dy i ≤ l then at0 left i else 0) + S o (fun i => if (x.1 - t ≤ dy i ∧ dy i ≤ x.1) ∧ dy i ≤ l then at0 left' i else 0) ≤ S o (fun i => if f ≤ dy i ∧ dy i ≤ l then at0 left' i else 0) + S o (fun i => if (x.1 - t ≤ dy i ∧ dy i ≤ x.1) ∧ dy i ≤ l then at0 left i else 0) := by
          rw [← S_add, ← S_add]
          refine S_le fun i hi => ?_
          have hb := g.bd i hi
          by_cases z2 : x.1 - t ≤ dy i ∧ dy i ≤ x.1
          · by_cases z3 : dy i ≤ l
            · by_cases z4 : f ≤ dy i
              · simp only [z2, z3, z4, and_self, if_true]; omega
              · simp only [z2, z3, z4, and_self, false_and, if_true, if_false]; omega
            · rw [if_neg (fun w => z3 w.2), if_neg (fun w => z3 w.2), if_neg (fun w => z3 w.2), if_neg (fun w => z3 w.2)]; omega
          · rw [g.off i z2]; omega
        have h3 := g.sum l
        omega
      omega
    · rw [if_neg q]
      have h2 : S o (fun i => if f ≤ dy i ∧ dy i ≤ l then at0 left i else 0) = S o (fun i => if f ≤ dy i ∧ dy i ≤ l then at0 left' i else 0) := S_congr fun i hi => by
        by_cases z : f ≤ dy i ∧ dy i ≤ l
        · rw [if_pos z, if_pos z, g.off i (by omega)]
        · rw [if_neg z, if_neg z]
      omega
/-- all outs, in an order -/
def dealG (dy : Nat → Int) (ot : Nat → Ot) (t : Int) (o : List Nat) : List Nat → List Int → List Int × List (Nat × Nat × Int)
  | [], left => (left, [])
  | j :: r, left => ((dealG dy ot t o r (give dy (ot j).1 t o left (ot j).2).1).1, ((give dy (ot j).1 t o left (ot j).2).2.map fun p => (p.1, j, p.2)) ++ (dealG dy ot t o r (give dy (ot j).1 t o left (ot j).2).1).2)
theorem deal_ok {dy : Nat → Int} {ot : Nat → Ot} {t : Int} {o : List Nat} (ht : 0 ≤ t) (nd : o.Nodup) (pw : o.Pairwise (fun i j => dy i ≤ dy j)) : ∀ (p : List Nat) (left : List Int), p.Pairwise (fun i j => (ot i).1 ≤ (ot j).1) → (∀ j ∈ p, 0 ≤ (ot j).2) → (∀ i ∈ o, i < left.length ∧ 0 ≤ at0 left i) →
    (Hall dy o t left (p.map ot) ↔ ∀ i ∈ o, at0 (dealG dy ot t o p left).1 i = 0) ∧ (dealG dy ot t o p left).1.length = left.length ∧ (∀ i ∈ o, 0 ≤ at0 (dealG dy ot t o p left).1 i ∧ at0 (dealG dy ot t o p left).1 i ≤ at0 left i) ∧ ∀ i, i ∉ o → at0 (dealG dy ot t o p left).1 i = at0 left i
  | [], left, _, _, hl => by
    refine ⟨⟨fun H i hi => ?_, fun H f l => ?_⟩, rfl, fun i hi => ⟨(hl i hi).2, Int.le_refl _⟩, fun _ _ => rfl⟩
    · have h1 := H (dy i) (dy i)
      rw [List.map_nil, outAg_nil] at h1
      have h2 := S_one (g := fun j => if dy i ≤ dy j ∧ dy j ≤ dy i then at0 left j else 0) hi fun j hj => by
        have := (hl j hj).2
        split <;> omega
      simp only [Int.le_refl, and_self, if_true] at h2
      have := (hl i hi).2
      show at0 left i = 0
      omega
    · rw [List.map_nil, outAg_nil, S_zero (fun i hi => ?_)]
      · exact Int.le_refl _
      · have h1 : at0 left i = 0 := H i hi
        rw [h1]; split <;> rfl
  | j :: r, left, ps, hc, hl => by
    rw [List.pairwise_cons] at ps
    have g := give_ok dy (ot j).1 t o left (ot j).2 nd pw hl (hc j List.mem_cons_self)
    obtain ⟨i1, i2, i3, i4⟩ := deal_ok ht nd pw r (give dy (ot j).1 t o left (ot j).2).1 ps.2 (fun x hx => hc x (List.mem_cons_of_mem _ hx)) (fun i hi => ⟨by rw [g.len]; exact (hl i hi).1, (g.bd i hi).1⟩)
    refine ⟨?_, i2.trans g.len, fun i hi => ⟨(i3 i hi).1, Int.le_trans (i3 i hi).2 (g.bd i hi).2⟩, fun i hi => (i4 i hi).trans (g.out i hi)⟩
    rw [List.map_cons]
    exact (hall_step ht (fun i hi => (hl i hi).2) (hc j List.mem_cons_self) (fun y hy => by
      obtain ⟨k, hk, rfl⟩ := List.mem_map.mp hy
      exact hc k (List.mem_cons_of_mem _ hk)) (fun y hy => by
      obtain ⟨k, hk, rfl⟩ := List.mem_map.mp hy
      exact ps.1 k hk) g).trans i1
end Mm

/-! what the program and the laws compute when they put in order, sum up stretches, and deal -/
namespace Mm
open PySem L2 Fx
variable [Tabz]
abbrev dI (xs : List Int) : List PyData := xs.map PyData.int
abbrev dN (xs : List Nat) : List PyData := xs.map fun i => PyData.int (i : Nat)
/-! ### orders -/
theorem lexLe_trans : ∀ {a b c : List Int}, lexLe a b = true → lexLe b c = true → lexLe a c = true
  | [], _, _, _, _ => by simp
  | _ :: _, [], _, h, _ => by simp at h
  | _ :: _, _ :: _, [], _, h => by simp at h
  | a :: as, b :: bs, c :: cs, h1, h2 => by
    simp only [lexLe, Bool.or_eq_true, Bool.and_eq_true, decide_eq_true_eq] at h1 h2 ⊢
    rcases h1 with h1 | ⟨h1, h1'⟩ <;> rcases h2 with h2 | ⟨h2, h2'⟩
    · exact .inl (by omega)
    · exact .inl (by omega)
    · exact .inl (by omega)
    · exact .inr ⟨by omega, lexLe_trans h1' h2'⟩
theorem lexLe_total : ∀ (a b : List Int), (lexLe a b || lexLe b a) = true
  | [], _ => by simp
  | _ :: _, [] => by simp
  | a :: as, b :: bs => by
    have ih := lexLe_total as bs
    simp only [lexLe, Bool.or_eq_true, Bool.and_eq_true, decide_eq_true_eq] at ih ⊢
    by_cases h1 : a < b
    · exact .inl (.inl h1)
    · by_cases h2 : b < a
      · exact .inr (.inl h2)
      · have e : a = b := by omega
        rcases ih with ih | ih
        · exact .inl (.inr ⟨e, ih⟩)
        · exact .inr (.inr ⟨e.symm, ih⟩)
/-- the places 0 .. n - 1 by a key -/
noncomputable def byK (n : Nat) (key : Nat → List Int) : List Nat := (List.range n).mergeSort fun a b => lexLe (key a) (key b)
theorem byK_perm (n : Nat) (key : Nat → List Int) : (byK n key).Perm (List.range n) := List.mergeSort_perm _ _
theorem byK_pw (n : Nat) (key : Nat → List Int) : (byK n key).Pairwise fun a b => lexLe (key a) (key b) = true := List.pairwise_mergeSort (le := fun a b => lexLe (key a) (key b)) (fun _ _ _ h1 h2 => lexLe_trans h1 h2) (fun a b => lexLe_total (key a) (key b)) _
theorem byK_mem {n : Nat} {key : Nat → List Int} {i : Nat} : i ∈ byK n key ↔ i < n := by rw [(byK_perm n key).mem_iff, List.mem_range]
theorem byK_nodup (n : Nat) (key : Nat → List Int) : (byK n key).Nodup := (byK_perm n key).nodup_iff.mpr List.nodup_range
theorem byK_congr {n : Nat} {k1 k2 : Nat → List Int} (h : ∀ i, i < n → k1 i = k2 i) : byK n k1 = byK n k2 := by
  unfold byK
  have e := List.map_mergeSort (r := fun a b => lexLe (k1 a) (k1 b)) (s := fun a b => lexLe (k2 a) (k2 b)) (f := id) (l := List.range n) (fun a ha b hb => by
    rw [List.mem_range] at ha hb
    rw [h a ha, h b hb] <;> rfl)
  simpa using e
abbrev dyL (ls : List Lot) (i : Nat) : Int := (ls.getD i (0, 0, 0)).1
abbrev otO (os : List Ot) (i : Nat) : Ot := os.getD i (0, 0)
noncomputable def ageL (ls : List Lot) : List Nat := byK ls.length fun i => [dyL ls i, (i : Int)]
noncomputable def ageO (os : List Ot) : List Nat := byK os.length fun i => [(otO os i).1, (i : Int)]
noncomputable def dutyL (ls : List Lot) : List Nat := byK ls.length fun i => [-(ls.getD i (0, 0, 0)).2.2, dyL ls i, (i : Int)]
theorem byK_day {n : Nat} {d : Nat → Int} : (byK n fun i => [d i, (i : Int)]).Pairwise fun a b => d a ≤ d b := (byK_pw n _).imp fun {a b} h => by
  simp only [lexLe, Bool.or_eq_true, Bool.and_eq_true, decide_eq_true_eq] at h
  omega
theorem sortKy_nat {kx : List Kx} {rows : List PyData} {n : Nat} {key : Nat → List Int} (h : ∀ i, i < n → keyI kx rows (i : Int) = key i) : sortKy kx rows ((List.range n).map fun i : Nat => (i : Int)) = (byK n key).map fun i : Nat => (i : Int) := by
  unfold sortKy byK
  rw [List.map_mergeSort (s := fun a b => lexLe (keyI kx rows a) (keyI kx rows b)) (f := fun i : Nat => (i : Int)) fun a ha b hb => ?_]
  rw [List.mem_range] at ha hb
  rw [h a ha, h b hb]
theorem oSortK_nat {kx : List Kx} {rows : List PyData} {n : Nat} {key : Nat → List Int} (h : ∀ i, i < n → Fx.keyOf kx rows (i : Int) = some (key i)) : oSortK kx (.list rows) (.list (dN (List.range n))) = some (dN (byK n key)) := by
  have e1 : dN (List.range n) = dI ((List.range n).map fun i : Nat => (i : Int)) := by simp [dN, dI]
  have e2 : dN (byK n key) = dI ((byK n key).map fun i : Nat => (i : Int)) := by simp [dN, dI]
  rw [e1, e2]
  unfold oSortK
  simp only [asInts_map]
  rw [sortKy_nat (key := key) (fun i hi => by rw [keyI, h i hi]; rfl), if_pos]
  rw [List.all_eq_true]
  intro k hk
  obtain ⟨i, hi, rfl⟩ := List.mem_map.mp hk
  rw [h i (List.mem_range.mp hi)]
  rfl
theorem sort_def {kx : List Kx} {rows : List PyData} {key : Nat → List Int} (hn : rows.length ≤ 100000) (h : ∀ i, i < rows.length → Fx.keyOf kx rows (i : Int) = some (key i)) : toOut (sRetL (fSortK 0 kx (fLst (fLr1 (fCB oLen [(.v 0)])))) [.fz (.list rows)]) = .ok (.ow (dN (byK rows.length key))) := by
  have q := oSortK_nat h
  have hs : small rows.length = true := small_of hn
  simp only [dN] at q ⊢
  simp [hs, q, -oSortK]
theorem keyOf_row {kx : List Kx} {rows : List PyData} {i : Nat} {ds : List PyData} (h : rows[i]? = some (.tuple ds)) : Fx.keyOf kx rows (i : Int) = valsK ds i kx := by
  unfold Fx.keyOf
  rw [if_pos (by omega), Int.toNat_natCast, h]
theorem get_lot {ls : List Lot} {i : Nat} (h : i < ls.length) : (ls.map encL)[i]? = some (encL (ls.getD i (0, 0, 0))) := by simp [h]
theorem get_out {os : List Ot} {i : Nat} (h : i < os.length) : (os.map encO)[i]? = some (encO (os.getD i (0, 0))) := by simp [h]
theorem F_by_ageL_eq (ls : List Lot) (h : ls.length ≤ 100000) : F_by_age [.list (ls.map encL)] = .ok (.ow (dN (ageL ls))) := by
  show toOut (g_by_age _) = _
  have q := sort_def (kx := [.col 0, .pl]) (rows := ls.map encL) (key := fun i => [dyL ls i, (i : Int)]) (by simpa using h) fun i hi => by
    rw [List.length_map] at hi
    rw [keyOf_row (get_lot hi)]
    rfl
  rw [List.length_map] at q
  exact q
theorem F_by_ageO_eq (os : List Ot) (h : os.length ≤ 100000) : F_by_age [.list (os.map encO)] = .ok (.ow (dN (ageO os))) := by
  show toOut (g_by_age _) = _
  have q := sort_def (kx := [.col 0, .pl]) (rows := os.map encO) (key := fun i => [(otO os i).1, (i : Int)]) (by simpa using h) fun i hi => by
    rw [List.length_map] at hi
    rw [keyOf_row (get_out hi)]
    rfl
  rw [List.length_map] at q
  exact q
theorem F_l_eldestL_eq (ls : List Lot) (h : ls.length ≤ 100000) : F_l_eldest [.list (ls.map encL)] = .ok (.ow (dN (ageL ls))) := F_by_ageL_eq ls h
theorem F_l_eldestO_eq (os : List Ot) (h : os.length ≤ 100000) : F_l_eldest [.list (os.map encO)] = .ok (.ow (dN (ageO os))) := F_by_ageO_eq os h
theorem F_by_duty_eq (ls : List Lot) (h : ls.length ≤ 100000) : F_by_duty [.list (ls.map encL)] = .ok (.ow (dN (dutyL ls))) := by
  show toOut (g_by_duty _) = _
  have q := sort_def (kx := [.zsub 2, .col 0, .pl]) (rows := ls.map encL) (key := fun i => [-(ls.getD i (0, 0, 0)).2.2, dyL ls i, (i : Int)]) (by simpa using h) fun i hi => by
    rw [List.length_map] at hi
    rw [keyOf_row (get_lot hi)]
    show some [0 - (ls.getD i (0, 0, 0)).2.2, dyL ls i, (i : Int)] = _
    rw [Int.zero_sub]
  rw [List.length_map] at q
  exact q
theorem F_l_dearest_eq (ls : List Lot) (h : ls.length ≤ 100000) : F_l_dearest [.list (ls.map encL)] = .ok (.ow (dN (dutyL ls))) := by
  show toOut (g_l_dearest _) = _
  have q := sort_def (kx := [.neg 2, .col 0, .pl]) (rows := ls.map encL) (key := fun i => [-(ls.getD i (0, 0, 0)).2.2, dyL ls i, (i : Int)]) (by simpa using h) fun i hi => by
    rw [List.length_map] at hi
    rw [keyOf_row (get_lot hi)]
    rfl
  rw [List.length_map] at q
  exact q
/-! ### stretches of days -/
theorem F_days_of_eq (ls : List Lot) (h : ls.length < 64) : F_days_of [.list (ls.map encL)] = .ok (.ow (dI (sortU (ls.map (·.1))))) := by
  show toOut (g_days_of _) = _
  have q : q_days_of_1 [.fz (.list (ls.map encL)), .un] = .ok (dI (ls.map (·.1)), [.fz (.list (ls.map encL)), .un]) := by
    unfold q_days_of_1
    rw [lc_all ls encL (fun l => PyData.int l.1) (ρ := [.fz (.list (ls.map encL)), .un]) (by simp) (by omega) fun l hl => ⟨[.fz (.list (ls.map encL)), .fz (encL l)], rfl, [.fz (.list (ls.map encL)), .fz (encL l)], by simp [encL, encL_ix0], rfl⟩]
    simp [dI]
  simp only [dI] at q
  have hl : (ls.map (fun l : Lot => l.1)).length < 64 := by simpa using h
  show toOut (g_days_of [.fz (.list (ls.map encL)), .un]) = _
  generalize ls.map (fun l : Lot => l.1) = xs at q hl ⊢
  simp [g_days_of, q, asInts_map, hl]
/-- all pairs of a rising list, the first not behind the second -/
def prs : List Int → List (Int × Int)
  | [] => []
  | d :: r => ((d :: r).map fun l => (d, l)) ++ prs r
def encP (p : Int × Int) : PyData := .tuple [.int p.1, .int p.2]
theorem mem_prs {f l : Int} : ∀ {ds : List Int}, ds.Pairwise (· < ·) → ((f, l) ∈ prs ds ↔ f ∈ ds ∧ l ∈ ds ∧ f ≤ l)
  | [], _ => by simp [prs]
  | d :: r, h => by
    rw [List.pairwise_cons] at h
    unfold prs
    rw [List.mem_append, mem_prs h.2, List.mem_map]
    constructor
    · rintro (⟨x, hx, e⟩ | ⟨h1, h2, h3⟩)
      · cases e
        refine ⟨List.mem_cons_self, hx, ?_⟩
        rcases List.mem_cons.mp hx with e | e
        · omega
        · have := h.1 l e; omega
      · exact ⟨List.mem_cons_of_mem _ h1, List.mem_cons_of_mem _ h2, h3⟩
    · rintro ⟨h1, h2, h3⟩
      rcases List.mem_cons.mp h1 with e | e
      · exact .inl ⟨l, h2, by rw [e]⟩
      · rcases List.mem_cons.mp h2 with e2 | e2
        · have := h.1 f e; omega
        · exact .inr ⟨e, e2, h3⟩
theorem prs_len : ∀ ds : List Int, (prs ds).length ≤ ds.length * ds.length
  | [] => by simp [prs]
  | d :: r => by
    have ih := prs_len r
    simp only [prs, List.length_append, List.length_map, List.length_cons]
    have : (r.length + 1) * (r.length + 1) = r.length * r.length + 2 * r.length + 1 := by
      rw [Nat.add_mul, Nat.mul_add]; omega
    omega
end Mm

namespace Mm
open PySem L2 Fx
variable [Tabz]
theorem q_strs (x y : Sl) (ds : List Int) (k : Nat) (d : Int) (hl : ds.length ≤ 1000) : q_all_stretches_1 [x, .fz (.list (dI ds)), y, .fz (.int (k : Int)), .fz (.int d), .un] =
    .ok (((ds.drop k).map fun l => (d, l)).map encP, [x, .fz (.list (dI ds)), y, .fz (.int (k : Int)), .fz (.int d), .un]) := by
  unfold q_all_stretches_1
  have hc : cut (dI ds) (some (k : Int)) none = dI (ds.drop k) := by
    unfold dI
    rw [cut_drop, List.map_drop]
  rw [lc_all (ds.drop k) PyData.int (fun l => encP (d, l)) (ρ := [x, .fz (.list (dI ds)), y, .fz (.int (k : Int)), .fz (.int d), .un]) ?_ (by simp; omega) fun l _ => ⟨[x, .fz (.list (dI ds)), y, .fz (.int (k : Int)), .fz (.int d), .fz (.int l)], rfl, [x, .fz (.list (dI ds)), y, .fz (.int (k : Int)), .fz (.int d), .fz (.int l)], by simp [encP, mkT, small], rfl⟩]
  · rw [List.map_map]; rfl
  · show _ = Res.ok (dI (ds.drop k), _)
    generalize dI (ds.drop k) = zs at hc ⊢
    generalize dI ds = ws at hc ⊢
    simp [hc]
theorem strs_loop (x : Sl) (ds : List Int) (hl : ds.length ≤ 100) : ∀ (r : List Int) (k : Nat) (acc : List (Int × Int)) (s3 s4 s5 : Sl), ds.drop k = r → acc.length + (prs r).length ≤ 100000 → (s5 = .un ∨ True) → ∃ s3' s4' s5',
    forE (gTp (gsCons (gSet 3) (gsCons (gSet 4) gsNil))) b_all_stretches_1 ((dI r).zipIdx k |>.map fun (p : PyData × Nat) => PyData.tuple [.int (p.2 : Nat), p.1]) [x, .fz (.list (dI ds)), .ow (acc.map encP), s3, s4, .un] =
      .nx [x, .fz (.list (dI ds)), .ow ((acc ++ prs r).map encP), s3', s4', s5']
  | [], k, acc, s3, s4, s5, _, _, _ => ⟨s3, s4, .un, by simp [forE, prs]⟩
  | d :: r, k, acc, s3, s4, s5, hd, hn, _ => by
    unfold dI
    rw [List.map_cons, List.zipIdx_cons, List.map_cons]
    unfold forE
    have e : gTp (gsCons (gSet 3) (gsCons (gSet 4) gsNil)) (PyData.tuple [.int ((k : Nat) : Int), .int d]) [x, .fz (.list (dI ds)), .ow (acc.map encP), s3, s4, .un] = some [x, .fz (.list (dI ds)), .ow (acc.map encP), .fz (.int ((k : Nat) : Int)), .fz (.int d), .un] := rfl
    have hp : (prs (d :: r)).length = (r.length + 1) + (prs r).length := by simp [prs]; omega
    have t : b_all_stretches_1 [x, .fz (.list (dI ds)), .ow (acc.map encP), .fz (.int ((k : Nat) : Int)), .fz (.int d), .un] = .nx [x, .fz (.list (dI ds)), .ow ((acc ++ (d :: r).map fun l => (d, l)).map encP), .fz (.int ((k : Nat) : Int)), .fz (.int d), .un] := by
      have q := q_strs x (.ow (acc.map encP)) ds k d (by omega)
      rw [hd] at q
      have hs : small ((acc.map encP).length + (((d :: r).map fun l => (d, l)).map encP).length) = true := small_of (by simp; omega)
      rw [List.map_append]
      generalize ((d :: r).map fun l => (d, l)).map encP = zs at q hs ⊢
      generalize acc.map encP = ws at q hs ⊢
      simp [b_all_stretches_1, q, kExtend, hs, mutO]
    simp only [e, t]
    obtain ⟨a, b, c, q⟩ := strs_loop x ds hl r (k + 1) (acc ++ (d :: r).map fun l => (d, l)) (.fz (.int ((k : Nat) : Int))) (.fz (.int d)) .un (by rw [← List.drop_drop, hd]; rfl) (by simp [prs] at hn ⊢; omega) (.inr trivial)
    refine ⟨a, b, c, q.trans ?_⟩
    simp [prs]
noncomputable def strL (ls : List Lot) : List (Int × Int) := prs (sortU (ls.map (·.1)))
theorem insU_len (x : Int) : ∀ ys : List Int, (insU x ys).length ≤ ys.length + 1
  | [] => by simp [insU]
  | y :: ys => by
    unfold insU
    have := insU_len x ys
    split
    · simp
    · split
      · simp
      · simp; omega
theorem sortU_len : ∀ ns : List Int, (sortU ns).length ≤ ns.length
  | [] => by simp [sortU]
  | n :: ns => by
    have h1 := insU_len n (sortU ns)
    have h2 := sortU_len ns
    show (insU n (sortU ns)).length ≤ _
    simp
    omega
theorem strL_len {ls : List Lot} (h : ls.length < 64) : (strL ls).length ≤ 5000 := by
  have h1 := prs_len (sortU (ls.map (·.1)))
  have h2 := sortU_len (ls.map (·.1))
  rw [List.length_map] at h2
  have h3 : (sortU (ls.map (·.1))).length * (sortU (ls.map (·.1))).length ≤ 63 * 63 := Nat.mul_le_mul (by omega) (by omega)
  unfold strL
  omega
theorem F_all_stretches_eq (ls : List Lot) (h : ls.length < 64) : F_all_stretches [.list (ls.map encL)] = .ok (.ow ((strL ls).map encP)) := by
  show toOut (g_all_stretches _) = _
  have h2 := sortU_len (ls.map (·.1))
  rw [List.length_map] at h2
  have hl := strL_len h
  obtain ⟨a, b, c, q⟩ := strs_loop (.fz (.list (ls.map encL))) (sortU (ls.map (·.1))) (by omega) (sortU (ls.map (·.1))) 0 [] .un .un .un rfl (by unfold strL at hl; simp; omega) (.inr trivial)
  have f := F_days_of_eq ls h
  unfold strL
  rw [List.nil_append, List.map_nil] at q
  generalize sortU (ls.map (·.1)) = ds at q f ⊢
  show toOut (g_all_stretches [.fz (.list (ls.map encL)), .un, .un, .un, .un, .un]) = _
  unfold g_all_stretches
  have e1 : oEnum [.list (dI ds)] = some ((dI ds).zipIdx 0 |>.map fun (p : PyData × Nat) => PyData.tuple [.int (p.2 : Nat), p.1]) := rfl
  generalize ((dI ds).zipIdx 0 |>.map fun (p : PyData × Nat) => PyData.tuple [.int (p.2 : Nat), p.1]) = es at q e1
  generalize (prs ds).map encP = ps at q ⊢
  generalize dI ds = dd at q e1 f ⊢
  simp [f, e1, q, sFor, mkL, small]
/-! ### what is taken of a stretch -/
noncomputable def inS (ls : List Lot) (ts : List Int) (f l : Int) : Int := S (List.range ls.length) fun i => if f ≤ dyL ls i ∧ dyL ls i ≤ l then at0 ts i else 0
theorem sum_filter (o : List Nat) (p : Nat → Bool) (g : Nat → Int) : ((o.filter p).map g).sum = S o fun i => if p i = true then g i else 0 := by
  induction o with
  | nil => rfl
  | cons i o ih =>
    rw [S_cons]
    by_cases h : p i = true
    · rw [List.filter_cons_of_pos h, if_pos h, List.map_cons, List.sum_cons, ih]
    · rw [List.filter_cons_of_neg h, if_neg h, ih]; omega
theorem F_in_stretch_eq (ls : List Lot) (ts : List Int) (f l : Int) (hn : ls.length ≤ 1000) (hl : ts.length = ls.length) : F_in_stretch [.list (ls.map encL), .list (dI ts), encP (f, l)] = .ok (.fz (.int (inS ls ts f l))) := by
  show toOut (g_in_stretch [.fz (.list (ls.map encL)), .fz (.list (dI ts)), .fz (.tuple [.int f, .int l]), .un, .un, .un]) = _
  have q : q_in_stretch_1 [.fz (.list (ls.map encL)), .fz (.list (dI ts)), .fz (.tuple [.int f, .int l]), .fz (.int f), .fz (.int l), .un] = .ok (dI (((List.range ls.length).filter fun i => decide (f ≤ dyL ls i ∧ dyL ls i ≤ l)).map fun i => at0 ts i), [.fz (.list (ls.map encL)), .fz (.list (dI ts)), .fz (.tuple [.int f, .int l]), .fz (.int f), .fz (.int l), .un]) := by
    unfold q_in_stretch_1
    rw [lc_if (List.range ls.length) (fun i => PyData.int (i : Nat)) (fun i => decide (f ≤ dyL ls i ∧ dyL ls i ≤ l)) (fun i => PyData.int (at0 ts i)) (ρ := [.fz (.list (ls.map encL)), .fz (.list (dI ts)), .fz (.tuple [.int f, .int l]), .fz (.int f), .fz (.int l), .un]) (by
      simp [oRng1_of (j := (ls.length : Int)) (by omega) (by omega), rng]) (by rw [List.length_range]; omega) ?_]
    · simp
    · intro i hi
      rw [List.mem_range] at hi
      have e1 : ls[i]? = some (ls.getD i (0, 0, 0)) := by simp [hi]
      have e2 : ts[i]? = some (at0 ts i) := by simp [hl, hi]
      have a1 := at_map encL e1
      have a2 := at_map PyData.int e2
      unfold dyL
      generalize ls.getD i (0, 0, 0) = z at *
      generalize at0 ts i = u at *
      refine ⟨[.fz (.list (ls.map encL)), .fz (.list (dI ts)), .fz (.tuple [.int f, .int l]), .fz (.int f), .fz (.int l), .fz (.int (i : Nat))], rfl, [.fz (.list (ls.map encL)), .fz (.list (dI ts)), .fz (.tuple [.int f, .int l]), .fz (.int f), .fz (.int l), .fz (.int (i : Nat))], ?_, fun _ => ⟨[.fz (.list (ls.map encL)), .fz (.list (dI ts)), .fz (.tuple [.int f, .int l]), .fz (.int f), .fz (.int l), .fz (.int (i : Nat))], by simp [a2], rfl⟩, fun _ => rfl⟩
      by_cases z1 : f ≤ z.1
      · simp [a1, encL, encL_ix0, z1]
      · simp [a1, encL, encL_ix0, z1]
  have hs : inS ls ts f l = (((List.range ls.length).filter fun i => decide (f ≤ dyL ls i ∧ dyL ls i ≤ l)).map fun i => at0 ts i).sum := by
    rw [sum_filter]
    unfold inS
    simp only [decide_eq_true_eq]
  rw [hs]
  generalize ((List.range ls.length).filter fun i => decide (f ≤ dyL ls i ∧ dyL ls i ≤ l)).map (fun i => at0 ts i) = zs at q ⊢
  generalize dI ts = tt at q ⊢
  simp [g_in_stretch, q, asInts_map]
/-! ### what is spare -/
noncomputable def spr (ls : List Lot) (os : List Ot) (t : Int) (ts : List Int) (p : Int × Int) : Int := outAg os t p.1 p.2 - inS ls ts p.1 p.2
theorem F_spare_eq (ls : List Lot) (os : List Ot) (t : Int) (ts : List Int) (p : Int × Int) (hn : ls.length ≤ 1000) (ho : os.length ≤ 1000) (hl : ts.length = ls.length) : F_spare [.list (ls.map encL), .list (os.map encO), .int t, .list (dI ts), encP p] = .ok (.fz (.int (spr ls os t ts p))) := by
  have f1 := F_out_against_eq os t p.1 p.2 (by omega)
  have f2 := F_in_stretch_eq ls ts p.1 p.2 hn hl
  show toOut (g_spare [.fz (.list (ls.map encL)), .fz (.list (os.map encO)), .fz (.int t), .fz (.list (dI ts)), .fz (encP p)]) = _
  unfold spr
  have e : encP p = .tuple [.int p.1, .int p.2] := rfl
  rw [← e] at f1
  generalize encP p = pp at f1 f2 ⊢
  generalize dI ts = tt at f2 ⊢
  simp [g_spare, f1, f2]
def fitB (ls : List Lot) (os : List Ot) (t : Int) (ts : List Int) : Prop := ∀ p ∈ strL ls, 0 ≤ spr ls os t ts p
theorem F_fits_eq (ls : List Lot) (os : List Ot) (t : Int) (ts : List Int) (hn : ls.length < 64) (ho : os.length ≤ 1000) (hl : ts.length = ls.length) : ∃ b, F_fits [.list (ls.map encL), .list (os.map encO), .int t, .list (dI ts)] = .ok (.fz (.bool b)) ∧ (b = true ↔ fitB ls os t ts) := by
  refine ⟨((strL ls).map fun p => decide (spr ls os t ts p ≥ 0)).all id, ?_, ?_⟩
  · show toOut (g_fits [.fz (.list (ls.map encL)), .fz (.list (os.map encO)), .fz (.int t), .fz (.list (dI ts)), .un]) = _
    have q : q_fits_1 [.fz (.list (ls.map encL)), .fz (.list (os.map encO)), .fz (.int t), .fz (.list (dI ts)), .un] = .ok ((((strL ls).map fun p => decide (spr ls os t ts p ≥ 0))).map PyData.bool, [.fz (.list (ls.map encL)), .fz (.list (os.map encO)), .fz (.int t), .fz (.list (dI ts)), .un]) := by
      unfold q_fits_1
      have f := F_all_stretches_eq ls hn
      have hlen := strL_len hn
      rw [lc_all (strL ls) encP (fun p => PyData.bool (decide (spr ls os t ts p ≥ 0))) (ρ := [.fz (.list (ls.map encL)), .fz (.list (os.map encO)), .fz (.int t), .fz (.list (dI ts)), .un]) ?_ (by omega) fun p _ => ⟨[.fz (.list (ls.map encL)), .fz (.list (os.map encO)), .fz (.int t), .fz (.list (dI ts)), .fz (encP p)], rfl, [.fz (.list (ls.map encL)), .fz (.list (os.map encO)), .fz (.int t), .fz (.list (dI ts)), .fz (encP p)], ?_, rfl⟩]
      · simp
      · generalize (strL ls).map encP = ps at f ⊢
        simp [f]
      · have f2 := F_spare_eq ls os t ts p (by omega) ho hl
        generalize encP p = pp at f2 ⊢
        generalize dI ts = tt at f2 ⊢
        simp [f2]
    generalize (strL ls).map (fun p => decide (spr ls os t ts p ≥ 0)) = bs at q ⊢
    generalize dI ts = tt at q ⊢
    simp [g_fits, q, asBools_map]
  · unfold fitB
    simp
/-! ### how much room there is -/
noncomputable def roomF (ls : List Lot) (os : List Ot) (t : Int) (ts : List Int) (d : Int) : List (Int × Int) → Int → Int
  | [], m => m
  | p :: r, m => roomF ls os t ts d r (if p.1 ≤ d ∧ d ≤ p.2 then (if spr ls os t ts p < m then spr ls os t ts p else m) else m)
noncomputable def roomAt (ls : List Lot) (os : List Ot) (t : Int) (ts : List Int) (k : Nat) : Int := roomF ls os t ts (dyL ls k) (strL ls) ((ls.getD k (0, 0, 0)).2.1 - at0 ts k)
theorem room_loop (ls : List Lot) (os : List Ot) (t : Int) (ts : List Int) (k d : Int) (hn : ls.length ≤ 1000) (ho : os.length ≤ 1000) (hl : ts.length = ls.length) : ∀ (ps : List (Int × Int)) (m : Int) (s7 : Sl), ∃ s7',
    forE (gSet 7) b_room_at_1 (ps.map encP) [.fz (.list (ls.map encL)), .fz (.list (os.map encO)), .fz (.int t), .fz (.list (dI ts)), .fz (.int k), .fz (.int d), .fz (.int m), s7] =
      .nx [.fz (.list (ls.map encL)), .fz (.list (os.map encO)), .fz (.int t), .fz (.list (dI ts)), .fz (.int k), .fz (.int d), .fz (.int (roomF ls os t ts d ps m)), s7']
  | [], m, s7 => ⟨s7, rfl⟩
  | p :: r, m, s7 => by
    rw [List.map_cons]
    unfold forE
    have e : gSet 7 (encP p) [.fz (.list (ls.map encL)), .fz (.list (os.map encO)), .fz (.int t), .fz (.list (dI ts)), .fz (.int k), .fz (.int d), .fz (.int m), s7] = some [.fz (.list (ls.map encL)), .fz (.list (os.map encO)), .fz (.int t), .fz (.list (dI ts)), .fz (.int k), .fz (.int d), .fz (.int m), .fz (encP p)] := rfl
    have tn : b_room_at_1 [.fz (.list (ls.map encL)), .fz (.list (os.map encO)), .fz (.int t), .fz (.list (dI ts)), .fz (.int k), .fz (.int d), .fz (.int m), .fz (encP p)] = .nx [.fz (.list (ls.map encL)), .fz (.list (os.map encO)), .fz (.int t), .fz (.list (dI ts)), .fz (.int k), .fz (.int d), .fz (.int (if p.1 ≤ d ∧ d ≤ p.2 then (if spr ls os t ts p < m then spr ls os t ts p else m) else m)), .fz (encP p)] := by
      have f2 := F_spare_eq ls os t ts p hn ho hl
      generalize dI ts = tt at f2 ⊢
      unfold encP at f2 ⊢
      by_cases z1 : p.1 ≤ d
      · by_cases z2 : d ≤ p.2
        · simp [b_room_at_1, two_ix0, two_ix1, z1, z2, f2]
        · simp [b_room_at_1, two_ix0, two_ix1, z1, z2]
      · simp [b_room_at_1, two_ix0, two_ix1, z1]
    simp only [e, tn]
    exact room_loop ls os t ts k d hn ho hl r _ _
theorem F_room_at_eq (ls : List Lot) (os : List Ot) (t : Int) (ts : List Int) (k : Nat) (hn : ls.length < 64) (ho : os.length ≤ 1000) (hl : ts.length = ls.length) (hk : k < ls.length) : F_room_at [.list (ls.map encL), .list (os.map encO), .int t, .list (dI ts), .int (k : Int)] = .ok (.fz (.int (roomAt ls os t ts k))) := by
  show toOut (g_room_at [.fz (.list (ls.map encL)), .fz (.list (os.map encO)), .fz (.int t), .fz (.list (dI ts)), .fz (.int (k : Int)), .un, .un, .un]) = _
  have e1 : ls[k]? = some (ls.getD k (0, 0, 0)) := by simp [hk]
  have e2 : ts[k]? = some (at0 ts k) := by simp [hl, hk]
  have a1 := at_map encL e1
  have a2 : atI (dI ts) (k : Int) = some (.int (at0 ts k)) := at_map PyData.int e2
  obtain ⟨s7', q⟩ := room_loop ls os t ts (k : Int) (dyL ls k) (by omega) ho hl (strL ls) ((ls.getD k (0, 0, 0)).2.1 - at0 ts k) .un
  have f := F_all_stretches_eq ls hn
  unfold roomAt
  unfold dyL at q ⊢
  generalize ls.getD k (0, 0, 0) = z at *
  generalize (strL ls).map encP = ps at *
  generalize at0 ts k = u at *
  generalize dI ts = tt at *
  simp [g_room_at, a1, a2, encL, encL_ix0, encL_ix1, f, q, sFor]
end Mm

namespace Mm
open PySem L2 Fx
variable [Tabz]
/-! ### one out -/
def tri (j : Nat) (p : Nat × Int) : Lot := ((p.1 : Int), (j : Int), p.2)
theorem min2_eq (c l : Int) : (if l < c then l else c) = min c l := by split <;> omega
theorem at_int {xs : List Int} {i : Nat} (h : i < xs.length) : atI (dI xs) (i : Int) = some (.int (at0 xs i)) := at_map PyData.int (by simp [h])
theorem at_lot {ls : List Lot} {i : Nat} (h : i < ls.length) : atI (ls.map encL) (i : Int) = some (encL (ls.getD i (0, 0, 0))) := at_map encL (by simp [h])
theorem at_out {os : List Ot} {i : Nat} (h : i < os.length) : atI (os.map encO) (i : Int) = some (encO (otO os i)) := at_map encO (by simp [h])
theorem set_int {xs : List Int} {i : Nat} {v : Int} (h : i < xs.length) : kSet (.int v) (.int (i : Int)) (dI xs) = some (dI (xs.set i v)) := by
  rw [kSet_in (by omega) (by simpa using h), Int.toNat_natCast]
  unfold dI
  rw [List.map_set]
theorem deal_turn (ls : List Lot) (s1 s3 s6 s11 : Sl) (t e c : Int) (j i : Nat) (left : List Int) (found : List Lot) (hi : i < ls.length) (hl : i < left.length) (hf : found.length ≤ 99999) :
    b_l_deal_1 [.fz (.list (ls.map encL)), s1, .fz (.int t), s3, .ow (dI left), .ow (found.map encL), s6, .fz (.int (j : Int)), .fz (.int e), .fz (.int c), .fz (.int (i : Int)), s11] =
      if (e - t ≤ dyL ls i ∧ dyL ls i ≤ e) ∧ 0 < min c (at0 left i) then .nx [.fz (.list (ls.map encL)), s1, .fz (.int t), s3, .ow (dI (left.set i (at0 left i - min c (at0 left i)))), .ow ((found ++ [tri j (i, min c (at0 left i))]).map encL), s6, .fz (.int (j : Int)), .fz (.int e), .fz (.int (c - min c (at0 left i))), .fz (.int (i : Int)), .fz (.int (min c (at0 left i)))]
      else .nx [.fz (.list (ls.map encL)), s1, .fz (.int t), s3, .ow (dI left), .ow (found.map encL), s6, .fz (.int (j : Int)), .fz (.int e), .fz (.int c), .fz (.int (i : Int)), .fz (.int (min c (at0 left i)))] := by
  have a1 := at_int hl
  have a2 := at_lot hi
  have a3 := set_int (v := at0 left i - min c (at0 left i)) hl
  have a4 : (found ++ [tri j (i, min c (at0 left i))]).map encL = found.map encL ++ [.tuple [.int (i : Int), .int (j : Int), .int (min c (at0 left i))]] := by simp [encL, tri]
  have a5 : ∀ d, kAppend d (found.map encL) = some (found.map encL ++ [d]) := fun d => kAppend_of (by simpa using by omega)
  rw [a4]
  unfold dyL
  generalize dI (left.set i (at0 left i - min c (at0 left i))) = nl at *
  generalize ls.getD i (0, 0, 0) = z at *
  generalize found.map encL = fd at *
  have hm := min2_eq c (at0 left i)
  generalize min c (at0 left i) = m at *
  generalize at0 left i = u at *
  generalize dI left = ld at *
  by_cases h1 : 0 < m
  · by_cases h2 : e - t ≤ z.1
    · by_cases h3 : z.1 ≤ e
      · simp [b_l_deal_1, a1, a2, a3, a5, hm, h1, h2, h3, encL, encL_ix0, mkT, small, mutO, sMut]
      · simp [b_l_deal_1, a1, a2, a3, a5, hm, h1, h2, h3, encL, encL_ix0, mkT, small, mutO, sMut]
    · simp [b_l_deal_1, a1, a2, a3, a5, hm, h1, h2, encL, encL_ix0, mkT, small, mutO, sMut]
  · simp [b_l_deal_1, a1, a2, a3, a5, hm, h1, encL, encL_ix0, mkT, small, mutO, sMut]
theorem deal_inner (ls : List Lot) (s1 s3 s6 : Sl) (t e : Int) (j : Nat) : ∀ (o : List Nat) (left : List Int) (c : Int) (found : List Lot) (s10 s11 : Sl), (∀ i ∈ o, i < ls.length ∧ i < left.length) → found.length + o.length ≤ 99999 → ∃ s9' s10' s11',
    forE (gSet 10) b_l_deal_1 (dN o) [.fz (.list (ls.map encL)), s1, .fz (.int t), s3, .ow (dI left), .ow (found.map encL), s6, .fz (.int (j : Int)), .fz (.int e), .fz (.int c), s10, s11] =
      .nx [.fz (.list (ls.map encL)), s1, .fz (.int t), s3, .ow (dI (give (dyL ls) e t o left c).1), .ow ((found ++ (give (dyL ls) e t o left c).2.map (tri j)).map encL), s6, .fz (.int (j : Int)), .fz (.int e), s9', s10', s11']
  | [], left, c, found, s10, s11, _, _ => ⟨.fz (.int c), s10, s11, by simp [forE, give]⟩
  | i :: o, left, c, found, s10, s11, h, hf => by
    obtain ⟨h1, h2⟩ := h i List.mem_cons_self
    unfold dN
    rw [List.map_cons]
    unfold forE
    have e0 : gSet 10 (.int ((i : Nat) : Int)) [.fz (.list (ls.map encL)), s1, .fz (.int t), s3, .ow (dI left), .ow (found.map encL), s6, .fz (.int (j : Int)), .fz (.int e), .fz (.int c), s10, s11] = some [.fz (.list (ls.map encL)), s1, .fz (.int t), s3, .ow (dI left), .ow (found.map encL), s6, .fz (.int (j : Int)), .fz (.int e), .fz (.int c), .fz (.int ((i : Nat) : Int)), s11] := rfl
    simp only [e0, deal_turn ls s1 s3 s6 s11 t e c j i left found h1 h2 (by simp at hf; omega)]
    unfold give
    by_cases hw : (e - t ≤ dyL ls i ∧ dyL ls i ≤ e) ∧ 0 < min c (at0 left i)
    · simp only [if_pos hw]
      obtain ⟨a, b, d, q⟩ := deal_inner ls s1 s3 s6 t e j o (left.set i (at0 left i - min c (at0 left i))) (c - min c (at0 left i)) (found ++ [tri j (i, min c (at0 left i))]) (.fz (.int ((i : Nat) : Int))) (.fz (.int (min c (at0 left i)))) (fun k hk => by rw [List.length_set]; exact h k (List.mem_cons_of_mem _ hk)) (by simp only [List.length_append, List.length_map, List.length_cons, List.length_nil] at hf ⊢; omega)
      refine ⟨a, b, d, q.trans ?_⟩
      simp
    · simp only [if_neg hw]
      exact deal_inner ls s1 s3 s6 t e j o left c found (.fz (.int ((i : Nat) : Int))) (.fz (.int (min c (at0 left i)))) (fun k hk => h k (List.mem_cons_of_mem _ hk)) (by simp at hf; omega)
theorem give_len (dy : Nat → Int) (e t : Int) : ∀ (o : List Nat) (left : List Int) (c : Int), (give dy e t o left c).1.length = left.length ∧ (give dy e t o left c).2.length ≤ o.length
  | [], left, c => ⟨rfl, Nat.le_refl _⟩
  | i :: o, left, c => by
    unfold give
    split
    · have ih := give_len dy e t o (left.set i (at0 left i - min c (at0 left i))) (c - min c (at0 left i))
      rw [List.length_set] at ih
      exact ⟨ih.1, by simp only [List.length_cons]; omega⟩
    · have ih := give_len dy e t o left c
      exact ⟨ih.1, by simp only [List.length_cons]; omega⟩
def triL (p : Nat × Nat × Int) : Lot := ((p.1 : Int), (p.2.1 : Int), p.2.2)
theorem deal_outer (ls : List Lot) (os : List Ot) (s3 : Sl) (t : Int) (o : List Nat) (ho : ∀ i ∈ o, i < ls.length) (hol : o.length ≤ 100) : ∀ (p : List Nat) (left : List Int) (found : List Lot) (s7 s8 s9 s10 s11 : Sl), left.length = ls.length → (∀ j ∈ p, j < os.length) → found.length + 100 * p.length ≤ 99000 → ∃ s7' s8' s9' s10' s11',
    forE (gSet 7) b_l_deal_2 (dN p) [.fz (.list (ls.map encL)), .fz (.list (os.map encO)), .fz (.int t), s3, .ow (dI left), .ow (found.map encL), .fz (.list (dN o)), s7, s8, s9, s10, s11] =
      .nx [.fz (.list (ls.map encL)), .fz (.list (os.map encO)), .fz (.int t), s3, .ow (dI (dealG (dyL ls) (otO os) t o p left).1), .ow ((found ++ (dealG (dyL ls) (otO os) t o p left).2.map triL).map encL), .fz (.list (dN o)), s7', s8', s9', s10', s11']
  | [], left, found, s7, s8, s9, s10, s11, _, _, _ => ⟨s7, s8, s9, s10, s11, by simp [forE, dealG]⟩
  | j :: p, left, found, s7, s8, s9, s10, s11, hl, hp, hf => by
    have hj := hp j List.mem_cons_self
    unfold dN
    rw [List.map_cons]
    unfold forE
    have e0 : gSet 7 (.int ((j : Nat) : Int)) [.fz (.list (ls.map encL)), .fz (.list (os.map encO)), .fz (.int t), s3, .ow (dI left), .ow (found.map encL), .fz (.list (dN o)), s7, s8, s9, s10, s11] = some [.fz (.list (ls.map encL)), .fz (.list (os.map encO)), .fz (.int t), s3, .ow (dI left), .ow (found.map encL), .fz (.list (dN o)), .fz (.int ((j : Nat) : Int)), s8, s9, s10, s11] := rfl
    obtain ⟨a9, a10, a11, q⟩ := deal_inner ls (.fz (.list (os.map encO))) s3 (.fz (.list (dN o))) t (otO os j).1 j o left (otO os j).2 found s10 s11 (fun i hi => ⟨ho i hi, by rw [hl]; exact ho i hi⟩) (by simp at hf; omega)
    have tn : b_l_deal_2 [.fz (.list (ls.map encL)), .fz (.list (os.map encO)), .fz (.int t), s3, .ow (dI left), .ow (found.map encL), .fz (.list (dN o)), .fz (.int ((j : Nat) : Int)), s8, s9, s10, s11] = .nx [.fz (.list (ls.map encL)), .fz (.list (os.map encO)), .fz (.int t), s3, .ow (dI (give (dyL ls) (otO os j).1 t o left (otO os j).2).1), .ow ((found ++ (give (dyL ls) (otO os j).1 t o left (otO os j).2).2.map (tri j)).map encL), .fz (.list (dN o)), .fz (.int (j : Int)), .fz (.int (otO os j).1), a9, a10, a11] := by
      have a2 := at_out hj
      generalize (found ++ (give (dyL ls) (otO os j).1 t o left (otO os j).2).2.map (tri j)).map encL = nf at *
      generalize dI (give (dyL ls) (otO os j).1 t o left (otO os j).2).1 = nl at *
      generalize otO os j = z at *
      generalize found.map encL = fd at *
      generalize dI left = ld at *
      generalize dN o = od at *
      simp [b_l_deal_2, a2, encO, q, sFor]
    simp only [e0, tn]
    have g := give_len (dyL ls) (otO os j).1 t o left (otO os j).2
    obtain ⟨b7, b8, b9, b10, b11, q2⟩ := deal_outer ls os s3 t o ho hol p (give (dyL ls) (otO os j).1 t o left (otO os j).2).1 (found ++ (give (dyL ls) (otO os j).1 t o left (otO os j).2).2.map (tri j)) (.fz (.int (j : Int))) (.fz (.int (otO os j).1)) a9 a10 a11 (by rw [g.1, hl]) (fun k hk => hp k (List.mem_cons_of_mem _ hk)) (by simp only [List.length_append, List.length_map, List.length_cons, List.length_nil] at hf ⊢; omega)
    refine ⟨b7, b8, b9, b10, b11, q2.trans ?_⟩
    simp only [dealG]
    have e : ((give (dyL ls) (otO os j).1 t o left (otO os j).2).2.map (fun p => (p.1, j, p.2)) ++ (dealG (dyL ls) (otO os) t o p (give (dyL ls) (otO os j).1 t o left (otO os j).2).1).2).map triL = (give (dyL ls) (otO os j).1 t o left (otO os j).2).2.map (tri j) ++ (dealG (dyL ls) (otO os) t o p (give (dyL ls) (otO os j).1 t o left (otO os j).2).1).2.map triL := by
      rw [List.map_append, List.map_map]
      rfl
    rw [e, List.append_assoc]
noncomputable def dealR (ls : List Lot) (os : List Ot) (t : Int) (ts : List Int) : List Int × List (Nat × Nat × Int) := dealG (dyL ls) (otO os) t (ageL ls) (ageO os) ts
noncomputable def dealT (ls : List Lot) (os : List Ot) (t : Int) (ts : List Int) : List Lot := (dealR ls os t ts).2.map triL
theorem ageL_len (ls : List Lot) : (ageL ls).length = ls.length := by rw [ageL, (byK_perm _ _).length_eq, List.length_range]
theorem ageO_len (os : List Ot) : (ageO os).length = os.length := by rw [ageO, (byK_perm _ _).length_eq, List.length_range]
theorem F_l_deal_eq (ls : List Lot) (os : List Ot) (t : Int) (ts : List Int) (hn : ls.length ≤ 100) (ho : os.length ≤ 100) (hl : ts.length = ls.length) : F_l_deal [.list (ls.map encL), .list (os.map encO), .int t, .list (dI ts)] = .ok (.fz (.tuple [.list ((dealT ls os t ts).map encL), .int (dealR ls os t ts).1.sum])) := by
  show toOut (g_l_deal [.fz (.list (ls.map encL)), .fz (.list (os.map encO)), .fz (.int t), .fz (.list (dI ts)), .un, .un, .un, .un, .un, .un, .un, .un]) = _
  obtain ⟨s7, s8, s9, s10, s11, q⟩ := deal_outer ls os (.fz (.list (dI ts))) t (ageL ls) (fun i hi => byK_mem.mp hi) (by rw [ageL_len]; omega) (ageO os) ts [] .un .un .un .un .un hl (fun j hj => byK_mem.mp hj) (by rw [ageO_len]; simp; omega)
  have f1 := F_l_eldestL_eq ls (by omega)
  have f2 := F_l_eldestO_eq os (by omega)
  rw [List.nil_append, List.map_nil] at q
  unfold dealT
  change forE _ _ _ _ = .nx [_, _, _, _, .ow (dI (dealR ls os t ts).1), .ow (((dealR ls os t ts).2.map triL).map encL), _, _, _, _, _, _] at q
  generalize ((dealR ls os t ts).2.map triL).map encL = nf at *
  generalize (dealR ls os t ts).1 = nl at *
  generalize dN (ageL ls) = o1 at *
  generalize dN (ageO os) = o2 at *
  generalize dI ts = tt at *
  have hs := asInts_map nl
  unfold dI at q
  generalize nl.map PyData.int = nd at *
  simp [g_l_deal, f1, f2, q, sFor, mkL, mkT, small, hs]
/-! ### the program's own dealing -/
theorem hand_turn (ls : List Lot) (s1 : Sl) (t e c : Int) (i : Nat) (left : List Int) (found : List Ot) (s8 : Sl) (hi : i < ls.length) (hl : i < left.length) (hf : found.length ≤ 99999) :
    ∃ s8', b_handed_out_1 [.ow (dI left), s1, .fz (.list (ls.map encL)), .fz (.int e), .fz (.int t), .fz (.int c), .ow (found.map encO), .fz (.int (i : Int)), s8] =
      if (e - t ≤ dyL ls i ∧ dyL ls i ≤ e) ∧ 0 < min c (at0 left i) then .nx [.ow (dI (left.set i (at0 left i - min c (at0 left i)))), s1, .fz (.list (ls.map encL)), .fz (.int e), .fz (.int t), .fz (.int (c - min c (at0 left i))), .ow ((found ++ [((i : Int), min c (at0 left i))]).map encO), .fz (.int (i : Int)), s8']
      else .nx [.ow (dI left), s1, .fz (.list (ls.map encL)), .fz (.int e), .fz (.int t), .fz (.int c), .ow (found.map encO), .fz (.int (i : Int)), s8'] := by
  have a1 := at_int hl
  have a2 := at_lot hi
  have a3 := set_int (v := at0 left i - min c (at0 left i)) hl
  have a4 : (found ++ [((i : Int), min c (at0 left i))]).map encO = found.map encO ++ [.tuple [.int (i : Int), .int (min c (at0 left i))]] := by simp [encO]
  have a5 : ∀ d, kAppend d (found.map encO) = some (found.map encO ++ [d]) := fun d => kAppend_of (by simpa using by omega)
  rw [a4]
  unfold dyL
  generalize dI (left.set i (at0 left i - min c (at0 left i))) = nl at *
  generalize ls.getD i (0, 0, 0) = z at *
  generalize found.map encO = fd at *
  have hm := min2_eq c (at0 left i)
  generalize min c (at0 left i) = m at *
  generalize at0 left i = u at *
  generalize dI left = ld at *
  by_cases h2 : e - t ≤ z.1
  · by_cases h3 : z.1 ≤ e
    · by_cases h1 : 0 < m
      · refine ⟨.fz (.int m), ?_⟩
        simp [b_handed_out_1, a1, a2, a3, a5, hm, h1, h2, h3, encL, encL_ix0, mkT, small, mutO, sMut, augGet]
      · refine ⟨.fz (.int m), ?_⟩
        simp [b_handed_out_1, a1, a2, a3, a5, hm, h1, h2, h3, encL, encL_ix0, mkT, small, mutO, sMut]
    · refine ⟨s8, ?_⟩
      simp [b_handed_out_1, a1, a2, a3, a5, hm, h2, h3, encL, encL_ix0, mkT, small, mutO, sMut]
  · refine ⟨s8, ?_⟩
    simp [b_handed_out_1, a1, a2, a3, a5, hm, h2, encL, encL_ix0, mkT, small, mutO, sMut]
def prI (p : Nat × Int) : Ot := ((p.1 : Int), p.2)
theorem hand_loop (ls : List Lot) (s1 : Sl) (t e : Int) : ∀ (o : List Nat) (left : List Int) (c : Int) (found : List Ot) (s7 s8 : Sl), (∀ i ∈ o, i < ls.length ∧ i < left.length) → found.length + o.length ≤ 99999 → ∃ s5' s7' s8',
    forE (gSet 7) b_handed_out_1 (dN o) [.ow (dI left), s1, .fz (.list (ls.map encL)), .fz (.int e), .fz (.int t), .fz (.int c), .ow (found.map encO), s7, s8] =
      .nx [.ow (dI (give (dyL ls) e t o left c).1), s1, .fz (.list (ls.map encL)), .fz (.int e), .fz (.int t), s5', .ow ((found ++ (give (dyL ls) e t o left c).2.map prI).map encO), s7', s8']
  | [], left, c, found, s7, s8, _, _ => ⟨.fz (.int c), s7, s8, by simp [forE, give]⟩
  | i :: o, left, c, found, s7, s8, h, hf => by
    obtain ⟨h1, h2⟩ := h i List.mem_cons_self
    unfold dN
    rw [List.map_cons]
    unfold forE
    have e0 : gSet 7 (.int ((i : Nat) : Int)) [.ow (dI left), s1, .fz (.list (ls.map encL)), .fz (.int e), .fz (.int t), .fz (.int c), .ow (found.map encO), s7, s8] = some [.ow (dI left), s1, .fz (.list (ls.map encL)), .fz (.int e), .fz (.int t), .fz (.int c), .ow (found.map encO), .fz (.int ((i : Nat) : Int)), s8] := rfl
    obtain ⟨s8', tn⟩ := hand_turn ls s1 t e c i left found s8 h1 h2 (by simp at hf; omega)
    simp only [e0, tn]
    unfold give
    by_cases hw : (e - t ≤ dyL ls i ∧ dyL ls i ≤ e) ∧ 0 < min c (at0 left i)
    · simp only [if_pos hw]
      obtain ⟨a, b, d, q⟩ := hand_loop ls s1 t e o (left.set i (at0 left i - min c (at0 left i))) (c - min c (at0 left i)) (found ++ [((i : Int), min c (at0 left i))]) (.fz (.int ((i : Nat) : Int))) s8' (fun k hk => by rw [List.length_set]; exact h k (List.mem_cons_of_mem _ hk)) (by simp only [List.length_append, List.length_map, List.length_cons, List.length_nil] at hf ⊢; omega)
      refine ⟨a, b, d, q.trans ?_⟩
      simp [prI]
    · simp only [if_neg hw]
      exact hand_loop ls s1 t e o left c found (.fz (.int ((i : Nat) : Int))) s8' (fun k hk => h k (List.mem_cons_of_mem _ hk)) (by simp at hf; omega)
theorem F_handed_out_eq (ls : List Lot) (o : List Nat) (left : List Int) (e t c : Int) (h : ∀ i ∈ o, i < ls.length ∧ i < left.length) (hl : o.length ≤ 1000) : F_handed_out (dI left) [.list (dN o), .list (ls.map encL), .int e, .int t, .int c] = .ok (.ow (((give (dyL ls) e t o left c).2.map prI).map encO), dI (give (dyL ls) e t o left c).1) := by
  show toOutI (g_handed_out [.ow (dI left), .fz (.list (dN o)), .fz (.list (ls.map encL)), .fz (.int e), .fz (.int t), .fz (.int c), .un, .un, .un]) = _
  obtain ⟨a, b, d, q⟩ := hand_loop ls (.fz (.list (dN o))) t e o left c [] .un .un h (by simp; omega)
  rw [List.nil_append, List.map_nil] at q
  generalize ((give (dyL ls) e t o left c).2.map prI).map encO = nf at *
  generalize dI (give (dyL ls) e t o left c).1 = nl at *
  generalize dI left = ld at *
  generalize dN o = od at *
  simp [g_handed_out, q, sFor, mkL, small]
theorem dealing_outer (ls : List Lot) (os : List Ot) (s3 : Sl) (t : Int) (o : List Nat) (ho : ∀ i ∈ o, i < ls.length) (hol : o.length ≤ 100) : ∀ (p : List Nat) (left : List Int) (found : List Lot) (s7 s8 s9 s10 s11 : Sl), left.length = ls.length → (∀ j ∈ p, j < os.length) → found.length + 100 * p.length ≤ 99000 → ∃ s7' s8' s9' s10' s11',
    forE (gSet 7) b_dealing_1 (dN p) [.fz (.list (ls.map encL)), .fz (.list (os.map encO)), .fz (.int t), s3, .ow (dI left), .fz (.list (dN o)), .ow (found.map encL), s7, s8, s9, .un, .un] =
      .nx [.fz (.list (ls.map encL)), .fz (.list (os.map encO)), .fz (.int t), s3, .ow (dI (dealG (dyL ls) (otO os) t o p left).1), .fz (.list (dN o)), .ow ((found ++ (dealG (dyL ls) (otO os) t o p left).2.map triL).map encL), s7', s8', s9', s10', s11']
  | [], left, found, s7, s8, s9, s10, s11, _, _, _ => ⟨s7, s8, s9, .un, .un, by simp [forE, dealG]⟩
  | j :: p, left, found, s7, s8, s9, s10, s11, hl, hp, hf => by
    have hj := hp j List.mem_cons_self
    unfold dN
    rw [List.map_cons]
    unfold forE
    have e0 : gSet 7 (.int ((j : Nat) : Int)) [.fz (.list (ls.map encL)), .fz (.list (os.map encO)), .fz (.int t), s3, .ow (dI left), .fz (.list (dN o)), .ow (found.map encL), s7, s8, s9, .un, .un] = some [.fz (.list (ls.map encL)), .fz (.list (os.map encO)), .fz (.int t), s3, .ow (dI left), .fz (.list (dN o)), .ow (found.map encL), .fz (.int ((j : Nat) : Int)), s8, s9, .un, .un] := rfl
    have g := give_len (dyL ls) (otO os j).1 t o left (otO os j).2
    have tn : b_dealing_1 [.fz (.list (ls.map encL)), .fz (.list (os.map encO)), .fz (.int t), s3, .ow (dI left), .fz (.list (dN o)), .ow (found.map encL), .fz (.int ((j : Nat) : Int)), s8, s9, .un, .un] = .nx [.fz (.list (ls.map encL)), .fz (.list (os.map encO)), .fz (.int t), s3, .ow (dI (give (dyL ls) (otO os j).1 t o left (otO os j).2).1), .fz (.list (dN o)), .ow ((found ++ (give (dyL ls) (otO os j).1 t o left (otO os j).2).2.map (tri j)).map encL), .fz (.int (j : Int)), .fz (.int (otO os j).1), .fz (.int (otO os j).2), .un, .un] := by
      have a2 := at_out hj
      have f := F_handed_out_eq ls o left (otO os j).1 t (otO os j).2 (fun i hi => ⟨ho i hi, by rw [hl]; exact ho i hi⟩) (by omega)
      have q : q_dealing_1 [.fz (.list (ls.map encL)), .fz (.list (os.map encO)), .fz (.int t), s3, .ow (dI left), .fz (.list (dN o)), .ow (found.map encL), .fz (.int ((j : Nat) : Int)), .fz (.int (otO os j).1), .fz (.int (otO os j).2), .un, .un] = .ok (((give (dyL ls) (otO os j).1 t o left (otO os j).2).2.map (tri j)).map encL, [.fz (.list (ls.map encL)), .fz (.list (os.map encO)), .fz (.int t), s3, .ow (dI (give (dyL ls) (otO os j).1 t o left (otO os j).2).1), .fz (.list (dN o)), .ow (found.map encL), .fz (.int ((j : Nat) : Int)), .fz (.int (otO os j).1), .fz (.int (otO os j).2), .un, .un]) := by
        unfold q_dealing_1
        rw [lc_all (give (dyL ls) (otO os j).1 t o left (otO os j).2).2 (fun p => encO (prI p)) (fun p => encL (tri j p)) (ρ := [.fz (.list (ls.map encL)), .fz (.list (os.map encO)), .fz (.int t), s3, .ow (dI (give (dyL ls) (otO os j).1 t o left (otO os j).2).1), .fz (.list (dN o)), .ow (found.map encL), .fz (.int ((j : Nat) : Int)), .fz (.int (otO os j).1), .fz (.int (otO os j).2), .un, .un]) ?_ (by omega) fun p _ => ⟨[.fz (.list (ls.map encL)), .fz (.list (os.map encO)), .fz (.int t), s3, .ow (dI (give (dyL ls) (otO os j).1 t o left (otO os j).2).1), .fz (.list (dN o)), .ow (found.map encL), .fz (.int ((j : Nat) : Int)), .fz (.int (otO os j).1), .fz (.int (otO os j).2), .fz (.int (p.1 : Int)), .fz (.int p.2)], rfl, [.fz (.list (ls.map encL)), .fz (.list (os.map encO)), .fz (.int t), s3, .ow (dI (give (dyL ls) (otO os j).1 t o left (otO os j).2).1), .fz (.list (dN o)), .ow (found.map encL), .fz (.int ((j : Nat) : Int)), .fz (.int (otO os j).1), .fz (.int (otO os j).2), .fz (.int (p.1 : Int)), .fz (.int p.2)], by simp [encL, tri, mkT, small], rfl⟩]
        · rw [List.map_map]; rfl
        · rw [List.map_map] at f
          change F_handed_out (dI left) _ = .ok (.ow ((give (dyL ls) (otO os j).1 t o left (otO os j).2).2.map fun p => encO (prI p)), _) at f
          generalize ((give (dyL ls) (otO os j).1 t o left (otO os j).2).2.map fun p => encO (prI p)) = nf at *
          generalize dI (give (dyL ls) (otO os j).1 t o left (otO os j).2).1 = nl at *
          generalize otO os j = z at *
          generalize dI left = ld at *
          generalize dN o = od at *
          simp [f]
      have hs : small ((found.map encL).length + (((give (dyL ls) (otO os j).1 t o left (otO os j).2).2.map (tri j)).map encL).length) = true := small_of (by simp only [List.length_append, List.length_map, List.length_cons, List.length_nil] at hf ⊢; omega)
      rw [List.map_append]
      generalize ((give (dyL ls) (otO os j).1 t o left (otO os j).2).2.map (tri j)).map encL = nf at *
      generalize dI (give (dyL ls) (otO os j).1 t o left (otO os j).2).1 = nl at *
      generalize otO os j = z at *
      generalize found.map encL = fd at *
      generalize dI left = ld at *
      generalize dN o = od at *
      simp [b_dealing_1, a2, encO, q, kExtend, hs, mutO]
    simp only [e0, tn]
    obtain ⟨b7, b8, b9, b10, b11, q2⟩ := dealing_outer ls os s3 t o ho hol p (give (dyL ls) (otO os j).1 t o left (otO os j).2).1 (found ++ (give (dyL ls) (otO os j).1 t o left (otO os j).2).2.map (tri j)) (.fz (.int (j : Int))) (.fz (.int (otO os j).1)) (.fz (.int (otO os j).2)) .un .un (by rw [g.1, hl]) (fun k hk => hp k (List.mem_cons_of_mem _ hk)) (by simp only [List.length_append, List.length_map, List.length_cons, List.length_nil] at hf ⊢; omega)
    refine ⟨b7, b8, b9, b10, b11, q2.trans ?_⟩
    simp only [dealG]
    have e : ((give (dyL ls) (otO os j).1 t o left (otO os j).2).2.map (fun p => (p.1, j, p.2)) ++ (dealG (dyL ls) (otO os) t o p (give (dyL ls) (otO os j).1 t o left (otO os j).2).1).2).map triL = (give (dyL ls) (otO os j).1 t o left (otO os j).2).2.map (tri j) ++ (dealG (dyL ls) (otO os) t o p (give (dyL ls) (otO os j).1 t o left (otO os j).2).1).2.map triL := by
      rw [List.map_append, List.map_map]
      rfl
    rw [e, List.append_assoc]
theorem F_dealing_eq (ls : List Lot) (os : List Ot) (t : Int) (ts : List Int) (hn : ls.length ≤ 100) (ho : os.length ≤ 100) (hl : ts.length = ls.length) : F_dealing [.list (ls.map encL), .list (os.map encO), .int t, .list (dI ts)] = .ok (.ow ((dealT ls os t ts).map encL)) := by
  show toOut (g_dealing [.fz (.list (ls.map encL)), .fz (.list (os.map encO)), .fz (.int t), .fz (.list (dI ts)), .un, .un, .un, .un, .un, .un, .un, .un]) = _
  obtain ⟨s7, s8, s9, s10, s11, q⟩ := dealing_outer ls os (.fz (.list (dI ts))) t (ageL ls) (fun i hi => byK_mem.mp hi) (by rw [ageL_len]; omega) (ageO os) ts [] .un .un .un .un .un hl (fun j hj => byK_mem.mp hj) (by rw [ageO_len]; simp; omega)
  have f1 := F_by_ageL_eq ls (by omega)
  have f2 := F_by_ageO_eq os (by omega)
  rw [List.nil_append, List.map_nil] at q
  unfold dealT
  change forE _ _ _ _ = .nx [_, _, _, _, .ow (dI (dealR ls os t ts).1), _, .ow (((dealR ls os t ts).2.map triL).map encL), _, _, _, _, _] at q
  generalize ((dealR ls os t ts).2.map triL).map encL = nf at *
  generalize dI (dealR ls os t ts).1 = nl at *
  generalize dN (ageL ls) = o1 at *
  generalize dN (ageO os) = o2 at *
  generalize dI ts = tt at *
  simp [g_dealing, f1, f2, q, sFor, mkL, mkT, small]
end Mm

namespace Mm
open PySem L2 Fx
variable [Tabz]
theorem range_getD {α : Type} (xs : List α) (d : α) : (List.range xs.length).map (fun i => xs.getD i d) = xs := by
  apply List.ext_getElem?
  intro i
  rw [List.getElem?_map]
  by_cases h : i < xs.length
  · rw [List.getElem?_range h]; simp [h]
  · rw [List.getElem?_eq_none (by simpa using h), List.getElem?_eq_none (by omega)]; rfl
theorem ageO_perm (os : List Ot) : ((ageO os).map (otO os)).Perm os := by
  have h := (byK_perm os.length fun i => [(otO os i).1, (i : Int)]).map (otO os)
  have e : (List.range os.length).map (otO os) = os := range_getD os (0, 0)
  rw [e] at h
  exact h
theorem sum_at0 (xs : List Int) : xs.sum = S (List.range xs.length) (at0 xs) := by
  unfold S
  rw [show (List.range xs.length).map (at0 xs) = xs from range_getD xs 0]
theorem sum_zero {xs : List Int} (h : ∀ i, i < xs.length → 0 ≤ at0 xs i) : xs.sum = 0 ↔ ∀ i, i < xs.length → at0 xs i = 0 := by
  rw [sum_at0]
  constructor
  · intro e i hi
    have h1 := S_one (g := at0 xs) (List.mem_range.mpr hi) fun j hj => h j (List.mem_range.mp hj)
    have := h i hi
    omega
  · intro e
    exact S_zero fun i hi => e i (List.mem_range.mp hi)
/-- what is asked of lots and outs -/
structure Okk (ls : List Lot) (os : List Ot) (t : Int) : Prop where
  nl : ls.length ≤ 62
  no : os.length ≤ 62
  co : ∀ o ∈ os, 0 ≤ o.2
  ht : 0 ≤ t
structure Tk (ls : List Lot) (ts : List Int) : Prop where
  len : ts.length = ls.length
  pos : ∀ i, i < ls.length → 0 ≤ at0 ts i
section
variable {ls : List Lot} {os : List Ot} {t : Int} {ts : List Int}
theorem hall_fit (O : Okk ls os t) (T : Tk ls ts) : Hall (dyL ls) (ageL ls) t ts ((ageO os).map (otO os)) ↔ fitB ls os t ts := by
  have ep : ∀ g, S (ageL ls) g = S (List.range ls.length) g := fun g => S_perm (byK_perm _ _) g
  constructor
  · intro H p hp
    have h := H p.1 p.2
    rw [ep, outAg_perm (ageO_perm os)] at h
    unfold spr inS
    omega
  · intro H f l
    rw [ep, outAg_perm (ageO_perm os)]
    rcases hx : (ls.map (·.1)).filter (fun d => decide (f ≤ d ∧ d ≤ l)) with _ | ⟨x, xs⟩
    · rw [S_zero]
      · exact outAg_nonneg O.co
      · intro i hi
        rw [List.mem_range] at hi
        rw [if_neg]
        intro z
        have hm : dyL ls i ∈ (ls.map (·.1)).filter (fun d => decide (f ≤ d ∧ d ≤ l)) := List.mem_filter.mpr ⟨List.mem_map.mpr ⟨ls.getD i (0, 0, 0), List.mem_of_getElem? (i := i) (by simp [hi]), rfl⟩, by simpa using z⟩
        rw [hx] at hm
        cases hm
    · obtain ⟨m1, m2⟩ := foldMin xs x
      obtain ⟨M1, M2⟩ := foldMax xs x
      generalize xs.foldl (fun a b => if b < a then b else a) x = lo at m1 m2
      generalize xs.foldl (fun a b => if b > a then b else a) x = hi at M1 M2
      rw [← hx] at m1 m2 M1 M2
      obtain ⟨a1, a2⟩ := List.mem_filter.mp m1
      obtain ⟨b1, b2⟩ := List.mem_filter.mp M1
      simp only [decide_eq_true_eq] at a2 b2
      have hle : lo ≤ hi := m2 hi M1
      have hp := H (lo, hi) ((mem_prs (sortU_pw _)).mpr ⟨mem_sortU.mpr a1, mem_sortU.mpr b1, hle⟩)
      unfold spr inS at hp
      dsimp only at hp
      have e1 : S (List.range ls.length) (fun i => if f ≤ dyL ls i ∧ dyL ls i ≤ l then at0 ts i else 0) = S (List.range ls.length) (fun i => if lo ≤ dyL ls i ∧ dyL ls i ≤ hi then at0 ts i else 0) := S_congr fun i hi' => by
        rw [List.mem_range] at hi'
        by_cases z : f ≤ dyL ls i ∧ dyL ls i ≤ l
        · have hm : dyL ls i ∈ (ls.map (·.1)).filter (fun d => decide (f ≤ d ∧ d ≤ l)) := List.mem_filter.mpr ⟨List.mem_map.mpr ⟨ls.getD i (0, 0, 0), List.mem_of_getElem? (i := i) (by simp [hi']), rfl⟩, by simpa using z⟩
          rw [if_pos z, if_pos ⟨m2 _ hm, M2 _ hm⟩]
        · rw [if_neg z, if_neg (by omega)]
      rw [e1]
      have h2 : outAg os t lo hi ≤ outAg os t f l := outAg_mono O.co fun o _ h1 h2 => by omega
      omega
theorem deal_facts (O : Okk ls os t) (T : Tk ls ts) : ((dealR ls os t ts).1.sum = 0 ↔ fitB ls os t ts) ∧ (dealR ls os t ts).1.length = ls.length ∧ ∀ i, i < ls.length → 0 ≤ at0 (dealR ls os t ts).1 i ∧ at0 (dealR ls os t ts).1 i ≤ at0 ts i := by
  obtain ⟨h1, h2, h3, h4⟩ := deal_ok (dy := dyL ls) (ot := otO os) (t := t) (o := ageL ls) O.ht (byK_nodup _ _) byK_day (ageO os) ts byK_day (fun j hj => O.co _ (List.mem_of_getElem? (i := j) (by have := byK_mem.mp hj; simp [this]))) (fun i hi => by
    have hi := byK_mem.mp hi
    exact ⟨by rw [T.len]; exact hi, T.pos i hi⟩)
  have h2' : (dealR ls os t ts).1.length = ls.length := h2.trans T.len
  refine ⟨?_, h2', fun i hi => h3 i (byK_mem.mpr hi)⟩
  rw [← hall_fit O T, sum_zero (xs := (dealR ls os t ts).1) fun i hi => (h3 i (byK_mem.mpr (by rw [h2'] at hi; exact hi))).1]
  refine Iff.trans ?_ h1.symm
  constructor
  · intro z i hi
    exact z i (by rw [h2']; exact byK_mem.mp hi)
  · intro z i hi
    exact z i (byK_mem.mpr (by rw [h2'] at hi; exact hi))
/-! ### room -/
theorem le_roomF {d x : Int} : ∀ {ps : List (Int × Int)} {m : Int}, x ≤ roomF ls os t ts d ps m ↔ x ≤ m ∧ ∀ p ∈ ps, p.1 ≤ d ∧ d ≤ p.2 → x ≤ spr ls os t ts p
  | [], m => by simp [roomF]
  | p :: r, m => by
    unfold roomF
    rw [le_roomF (ps := r)]
    constructor
    · rintro ⟨h1, h2⟩
      refine ⟨?_, fun q hq hc => ?_⟩
      · split at h1
        · split at h1 <;> omega
        · exact h1
      · rcases List.mem_cons.mp hq with e | e
        · subst e
          rw [if_pos hc] at h1
          split at h1 <;> omega
        · exact h2 q e hc
    · rintro ⟨h1, h2⟩
      refine ⟨?_, fun q hq hc => h2 q (List.mem_cons_of_mem _ hq) hc⟩
      split
      · rename_i hc
        have := h2 p List.mem_cons_self hc
        split <;> omega
      · exact h1
theorem inS_set {k : Nat} {v f l : Int} (hl : ts.length = ls.length) (hk : k < ls.length) : inS ls (ts.set k v) f l = inS ls ts f l + if f ≤ dyL ls k ∧ dyL ls k ≤ l then v - at0 ts k else 0 := by
  unfold inS
  have key : ∀ (o : List Nat), o.Nodup → S o (fun i => if f ≤ dyL ls i ∧ dyL ls i ≤ l then at0 (ts.set k v) i else 0) = S o (fun i => if f ≤ dyL ls i ∧ dyL ls i ≤ l then at0 ts i else 0) + if k ∈ o ∧ f ≤ dyL ls k ∧ dyL ls k ≤ l then v - at0 ts k else 0 := by
    intro o
    induction o with
    | nil => simp
    | cons i o ih =>
      intro nd
      rw [List.nodup_cons] at nd
      have ih := ih nd.2
      simp only [S_cons, ih]
      rw [at0_set _ _ _ _ (by omega)]
      by_cases h : k = i
      · subst h
        simp only [nd.1, List.mem_cons, true_or, true_and, false_and, if_false, if_true]
        split <;> omega
      · have h2 : (k ∈ i :: o) = (k ∈ o) := by simp [h]
        rw [if_neg h]
        simp only [h2]
        omega
  have := key (List.range ls.length) List.nodup_range
  rw [this]
  simp [hk]
/-- m units more at the place k can be dealt out just if there is room for them -/
theorem fit_more {k : Nat} {m : Int} (T : Tk ls ts) (hk : k < ls.length) (hf : fitB ls os t ts) (hm : m ≤ (ls.getD k (0, 0, 0)).2.1 - at0 ts k) : fitB ls os t (ts.set k (at0 ts k + m)) ↔ m ≤ roomAt ls os t ts k := by
  unfold roomAt
  rw [le_roomF]
  constructor
  · intro h
    refine ⟨hm, fun p hp hc => ?_⟩
    have h1 := h p hp
    unfold spr at h1 ⊢
    rw [inS_set T.len hk, if_pos hc] at h1
    omega
  · rintro ⟨_, h⟩ p hp
    have h1 := hf p hp
    unfold spr at h1 ⊢
    rw [inS_set T.len hk]
    by_cases hc : p.1 ≤ dyL ls k ∧ dyL ls k ≤ p.2
    · have h2 := h p hp hc
      unfold spr at h2
      rw [if_pos hc]
      omega
    · rw [if_neg hc]
      omega
theorem room_nonneg {k : Nat} (hf : fitB ls os t ts) (hm : 0 ≤ (ls.getD k (0, 0, 0)).2.1 - at0 ts k) : 0 ≤ roomAt ls os t ts k := by
  unfold roomAt
  rw [le_roomF]
  exact ⟨hm, fun p hp _ => hf p hp⟩
theorem room_le {k : Nat} : roomAt ls os t ts k ≤ (ls.getD k (0, 0, 0)).2.1 - at0 ts k := by
  unfold roomAt
  exact (le_roomF.mp (Int.le_refl _)).1
theorem Tk.set {k : Nat} {v : Int} (T : Tk ls ts) (hv : 0 ≤ v) (hk : k < ls.length) : Tk ls (ts.set k v) := by
  refine ⟨by rw [List.length_set, T.len], fun i hi => ?_⟩
  rw [at0_set _ _ _ _ (by rw [T.len]; exact hk)]
  split
  · exact hv
  · exact T.pos i hi
theorem take_set_drop (xs : List Int) (k : Nat) (v : Int) (hk : k < xs.length) : xs.take k ++ [v] ++ xs.drop (k + 1) = xs.set k v := by
  rw [List.set_eq_take_append_cons_drop, if_pos hk, List.append_assoc]
  rfl
/-! ### the law's search -/
theorem cDiv2 (a : Int) : cDiv a 2 = true := by
  exact decide_eq_true ⟨by decide, by decide +kernel⟩
theorem most_turn (O : Okk ls os t) (T : Tk ls ts) {k : Nat} (hk : k < ls.length) (low high : Int) (s7 s8 : Sl) (hm : 0 ≤ (low + high + 1) / 2) : ∃ s8', b_l_most_1 [.fz (.list (ls.map encL)), .fz (.list (os.map encO)), .fz (.int t), .fz (.list (dI ts)), .fz (.int (k : Int)), .fz (.int low), .fz (.int high), s7, s8] =
    if (dealR ls os t (ts.set k (at0 ts k + (low + high + 1) / 2))).1.sum = 0 then .nx [.fz (.list (ls.map encL)), .fz (.list (os.map encO)), .fz (.int t), .fz (.list (dI ts)), .fz (.int (k : Int)), .fz (.int ((low + high + 1) / 2)), .fz (.int high), .fz (.int ((low + high + 1) / 2)), s8']
    else .nx [.fz (.list (ls.map encL)), .fz (.list (os.map encO)), .fz (.int t), .fz (.list (dI ts)), .fz (.int (k : Int)), .fz (.int low), .fz (.int ((low + high + 1) / 2 - 1)), .fz (.int ((low + high + 1) / 2)), s8'] := by
  refine ⟨.fz (.list (dI (ts.set k (at0 ts k + (low + high + 1) / 2)))), ?_⟩
  have f := F_l_deal_eq ls os t (ts.set k (at0 ts k + (low + high + 1) / 2)) (by have := O.nl; omega) (by have := O.no; omega) (by rw [List.length_set, T.len])
  have a1 := at_int (xs := ts) (i := k) (by rw [T.len]; exact hk)
  have c1 : cut (dI ts) none (some (k : Int)) = dI (ts.take k) := by unfold dI; rw [cut_take, List.map_take]
  have c2 : cut (dI ts) (some ((k : Int) + 1)) none = dI (ts.drop (k + 1)) := by unfold dI; rw [cut_dropS, List.map_drop]
  have n1 := O.nl
  have n2 := T.len
  have s1 : small ((dI (ts.take k)).length + 1) = true := small_of (by simp; omega)
  have s2 : small ((dI (ts.take k)).length + 1 + (dI (ts.drop (k + 1))).length) = true := small_of (by simp; omega)
  have c3 : dI (ts.take k) ++ (.int (at0 ts k + (low + high + 1) / 2) :: dI (ts.drop (k + 1))) = dI (ts.set k (at0 ts k + (low + high + 1) / 2)) := by
    rw [← take_set_drop ts k _ (by omega)]
    simp [dI]
  have hd : cDiv (low + high + 1) 2 = true := cDiv2 _
  generalize em : (low + high + 1) / 2 = m at *
  generalize (dealR ls os t (ts.set k (at0 ts k + m))).1.sum = sm at *
  generalize (dealT ls os t (ts.set k (at0 ts k + m))).map encL = nf at *
  generalize dI (ts.set k (at0 ts k + m)) = nt at *
  generalize at0 ts k = u at *
  generalize dI (ts.take k) = d1 at *
  generalize dI (ts.drop (k + 1)) = d2 at *
  generalize dI ts = tt at *
  have i1 : atI [PyData.list nf, .int sm] 1 = some (.int sm) := rfl
  have hs1 : small 1 = true := rfl
  by_cases h : sm = 0
  · subst h
    simp [b_l_most_1, a1, c1, c2, c3, s1, s2, f, i1, mkL, hs1, oEQ, hd, em]
  · simp [b_l_most_1, a1, c1, c2, c3, s1, s2, f, i1, mkL, hs1, oEQ, h, hd, em]
theorem most_loop (O : Okk ls os t) (T : Tk ls ts) {k : Nat} (hk : k < ls.length) (hf : fitB ls os t ts) : ∀ (n : Nat) (low high : Int) (s7 s8 : Sl), 0 ≤ low → low ≤ roomAt ls os t ts k → roomAt ls os t ts k ≤ high → high ≤ (ls.getD k (0, 0, 0)).2.1 - at0 ts k → (high - low).toNat < 2 ^ n → ∃ s6' s7' s8',
    whE t_l_most_1 b_l_most_1 (n + 1) [.fz (.list (ls.map encL)), .fz (.list (os.map encO)), .fz (.int t), .fz (.list (dI ts)), .fz (.int (k : Int)), .fz (.int low), .fz (.int high), s7, s8] =
      .nx [.fz (.list (ls.map encL)), .fz (.list (os.map encO)), .fz (.int t), .fz (.list (dI ts)), .fz (.int (k : Int)), .fz (.int (roomAt ls os t ts k)), s6', s7', s8'] := by
  intro n
  induction n with
  | zero =>
    intro low high s7 s8 h0 h1 h2 h3 h4
    have e : low = high := by simp at h4; omega
    subst e
    have e2 : roomAt ls os t ts k = low := by omega
    refine ⟨.fz (.int low), s7, s8, ?_⟩
    unfold whE
    rw [e2]
    simp [t_l_most_1]
  | succ n ih =>
    intro low high s7 s8 h0 h1 h2 h3 h4
    by_cases hlt : low < high
    · obtain ⟨s8', tn⟩ := most_turn O T hk low high s7 s8 (by omega)
      have hT : Tk ls (ts.set k (at0 ts k + (low + high + 1) / 2)) := T.set (by have := T.pos k hk; omega) hk
      have hd := (deal_facts O hT).1
      have hm := fit_more (os := os) (t := t) (m := (low + high + 1) / 2) T hk hf (by omega)
      have hw : (2 : Nat) ^ (n + 1) = 2 * 2 ^ n := by rw [Nat.pow_succ]; omega
      rw [hw] at h4
      unfold whE
      have tt : t_l_most_1 [.fz (.list (ls.map encL)), .fz (.list (os.map encO)), .fz (.int t), .fz (.list (dI ts)), .fz (.int (k : Int)), .fz (.int low), .fz (.int high), s7, s8] = .ok (true, [.fz (.list (ls.map encL)), .fz (.list (os.map encO)), .fz (.int t), .fz (.list (dI ts)), .fz (.int (k : Int)), .fz (.int low), .fz (.int high), s7, s8]) := by simp [t_l_most_1, hlt]
      rw [tt]
      simp only [tn]
      by_cases hz : (dealR ls os t (ts.set k (at0 ts k + (low + high + 1) / 2))).1.sum = 0
      · simp only [if_pos hz]
        have := hm.mp (hd.mp hz)
        exact ih _ _ _ _ (by omega) this h2 h3 (by omega)
      · simp only [if_neg hz]
        have : ¬ (low + high + 1) / 2 ≤ roomAt ls os t ts k := fun z => hz (hd.mpr (hm.mpr z))
        exact ih _ _ _ _ h0 h1 (by omega) (by omega) (by omega)
    · have e : low = high := by omega
      subst e
      have e2 : roomAt ls os t ts k = low := by omega
      refine ⟨.fz (.int low), s7, s8, ?_⟩
      unfold whE
      rw [e2]
      simp [t_l_most_1]
theorem F_l_most_eq (O : Okk ls os t) (T : Tk ls ts) {k : Nat} (hk : k < ls.length) (hf : fitB ls os t ts) (hc : at0 ts k ≤ (ls.getD k (0, 0, 0)).2.1) (hb : (ls.getD k (0, 0, 0)).2.1 ≤ 10000000000) : F_l_most [.list (ls.map encL), .list (os.map encO), .int t, .list (dI ts), .int (k : Int)] = .ok (.fz (.int (roomAt ls os t ts k))) := by
  show toOut (g_l_most [.fz (.list (ls.map encL)), .fz (.list (os.map encO)), .fz (.int t), .fz (.list (dI ts)), .fz (.int (k : Int)), .un, .un, .un, .un]) = _
  have h0 := T.pos k hk
  obtain ⟨s6, s7, s8, q⟩ := most_loop O T hk hf 999 0 ((ls.getD k (0, 0, 0)).2.1 - at0 ts k) .un .un (by omega) (room_nonneg hf (by omega)) room_le (Int.le_refl _) (Nat.lt_of_le_of_lt (m := 10000000000) (by omega) (by decide +kernel))
  have a1 := at_int (xs := ts) (i := k) (by rw [T.len]; exact hk)
  have a2 := at_lot hk
  generalize roomAt ls os t ts k = r at *
  generalize ls.getD k (0, 0, 0) = z at *
  generalize at0 ts k = u at *
  generalize dI ts = tt at *
  simp [g_l_most, a1, a2, encL, encL_ix1, q]
/-! ### the best counts -/
noncomputable def bestG (ls : List Lot) (os : List Ot) (t : Int) : List Nat → List Int → List Int
  | [], ts => ts
  | k :: r, ts => bestG ls os t r (ts.set k (roomAt ls os t ts k))
noncomputable def zer (n : Nat) : List Int := (List.range n).map fun _ => 0
noncomputable def best (ls : List Lot) (os : List Ot) (t : Int) : List Int := bestG ls os t (dutyL ls) (zer ls.length)
theorem zer_len (n : Nat) : (zer n).length = n := by simp [zer]
theorem zer_at (n i : Nat) : at0 (zer n) i = 0 := by
  unfold at0 zer
  rw [List.getD_eq_getElem?_getD, List.getElem?_map]
  by_cases h : i < n
  · rw [List.getElem?_range h]; rfl
  · rw [List.getElem?_eq_none (by simpa using h)]; rfl
theorem rep_zer (n : Nat) : (List.replicate n [PyData.int 0]).flatten = dI (zer n) := rep_zero n
theorem best_loop (n1 : ls.length < 64) (n2 : os.length ≤ 1000) : ∀ (o : List Nat) (ts : List Int) (s4 : Sl), ts.length = ls.length → (∀ k ∈ o, k < ls.length) → ∃ s4',
    forE (gSet 4) b_best_counts_1 (dN o) [.fz (.list (ls.map encL)), .fz (.list (os.map encO)), .fz (.int t), .ow (dI ts), s4] = .nx [.fz (.list (ls.map encL)), .fz (.list (os.map encO)), .fz (.int t), .ow (dI (bestG ls os t o ts)), s4']
  | [], ts, s4, _, _ => ⟨s4, rfl⟩
  | k :: o, ts, s4, hl, hk => by
    have hk0 := hk k List.mem_cons_self
    unfold dN
    rw [List.map_cons]
    unfold forE
    have e0 : gSet 4 (.int ((k : Nat) : Int)) [.fz (.list (ls.map encL)), .fz (.list (os.map encO)), .fz (.int t), .ow (dI ts), s4] = some [.fz (.list (ls.map encL)), .fz (.list (os.map encO)), .fz (.int t), .ow (dI ts), .fz (.int ((k : Nat) : Int))] := rfl
    have tn : b_best_counts_1 [.fz (.list (ls.map encL)), .fz (.list (os.map encO)), .fz (.int t), .ow (dI ts), .fz (.int ((k : Nat) : Int))] = .nx [.fz (.list (ls.map encL)), .fz (.list (os.map encO)), .fz (.int t), .ow (dI (ts.set k (roomAt ls os t ts k))), .fz (.int ((k : Nat) : Int))] := by
      have f := F_room_at_eq ls os t ts k n1 n2 hl hk0
      have a3 := set_int (xs := ts) (i := k) (v := roomAt ls os t ts k) (by omega)
      generalize dI (ts.set k (roomAt ls os t ts k)) = nt at *
      generalize roomAt ls os t ts k = r at *
      generalize dI ts = tt at *
      simp [b_best_counts_1, f, a3, mutO, sc]
    simp only [e0, tn]
    exact best_loop n1 n2 o (ts.set k (roomAt ls os t ts k)) _ (by rw [List.length_set, hl]) fun j hj => hk j (List.mem_cons_of_mem _ hj)
theorem F_best_counts_eq (n1 : ls.length < 64) (n2 : os.length ≤ 1000) : F_best_counts [.list (ls.map encL), .list (os.map encO), .int t] = .ok (.ow (dI (best ls os t))) := by
  show toOut (g_best_counts [.fz (.list (ls.map encL)), .fz (.list (os.map encO)), .fz (.int t), .un, .un]) = _
  obtain ⟨s4, q⟩ := best_loop (ls := ls) (os := os) (t := t) n1 n2 (dutyL ls) (zer ls.length) .un (zer_len _) fun k hk => byK_mem.mp hk
  have f := F_by_duty_eq ls (by omega)
  change forE _ _ _ _ = .nx [_, _, _, .ow (dI (best ls os t)), _] at q
  have hz := rep_zer ls.length
  have hr : oRep (.list [PyData.int 0]) (.int (ls.length : Int)) = some (dI (zer ls.length)) := by
    rw [← hz]
    simp [oRep, small_of (show ls.length ≤ 100000 by omega)]
  generalize dI (best ls os t) = nb at *
  generalize dI (zer ls.length) = zz at *
  generalize dN (dutyL ls) = dd at *
  simp [g_best_counts, f, q, sFor, mkL, small, hr]
end
end Mm

namespace Mm
open PySem L2 Fx
variable [Tabz]
abbrev ctL (ls : List Lot) (i : Nat) : Int := (ls.getD i (0, 0, 0)).2.1
structure Bi (ls : List Lot) (os : List Ot) (t : Int) (ts : List Int) : Prop where
  tk : Tk ls ts
  le : ∀ i, i < ls.length → at0 ts i ≤ ctL ls i
  fit : fitB ls os t ts
section
variable {ls : List Lot} {os : List Ot} {t : Int} {ts : List Int}
theorem Bi.zero (O : Okk ls os t) (hg : ∀ l ∈ ls, GoodL l) : Bi ls os t (zer ls.length) := by
  refine ⟨⟨zer_len _, fun i _ => by rw [zer_at]; exact Int.le_refl _⟩, fun i hi => ?_, fun p _ => ?_⟩
  · rw [zer_at]
    have := (hg _ (List.mem_of_getElem? (i := i) (show ls[i]? = some (ls.getD i (0, 0, 0)) by simp [hi]))).c1
    show 0 ≤ (ls.getD i (0, 0, 0)).2.1
    omega
  · unfold spr inS
    rw [S_zero fun i _ => by rw [zer_at]; split <;> rfl]
    have := outAg_nonneg (t := t) (f := p.1) (l := p.2) O.co
    omega
theorem Bi.step {k : Nat} (B : Bi ls os t ts) (hk : k < ls.length) (h0 : at0 ts k = 0) : Bi ls os t (ts.set k (roomAt ls os t ts k)) := by
  have hc := B.le k hk
  have hr : 0 ≤ roomAt ls os t ts k := room_nonneg B.fit (by have : (ls.getD k (0, 0, 0)).2.1 = ctL ls k := rfl; omega)
  have hr2 : roomAt ls os t ts k ≤ ctL ls k := by
    have := room_le (ls := ls) (os := os) (t := t) (ts := ts) (k := k)
    rw [h0] at this
    have e : ctL ls k = (ls.getD k (0, 0, 0)).2.1 := rfl
    omega
  refine ⟨B.tk.set hr hk, fun i hi => ?_, ?_⟩
  · rw [at0_set _ _ _ _ (by rw [B.tk.len]; exact hk)]
    split
    · rename_i e; rw [← e]; exact hr2
    · exact B.le i hi
  · have := (fit_more (os := os) (t := t) (m := roomAt ls os t ts k) B.tk hk B.fit room_le).mpr (Int.le_refl _)
    rw [h0, Int.zero_add] at this
    exact this
theorem bestG_bi : ∀ (o : List Nat) (ts : List Int), o.Nodup → (∀ k ∈ o, k < ls.length ∧ at0 ts k = 0) → Bi ls os t ts → Bi ls os t (bestG ls os t o ts)
  | [], ts, _, _, B => B
  | k :: o, ts, nd, h, B => by
    rw [List.nodup_cons] at nd
    obtain ⟨h1, h2⟩ := h k List.mem_cons_self
    refine bestG_bi o _ nd.2 (fun j hj => ⟨(h j (List.mem_cons_of_mem _ hj)).1, ?_⟩) (B.step h1 h2)
    rw [at0_set _ _ _ _ (by rw [B.tk.len]; exact h1), if_neg (show ¬ k = j from fun z => nd.1 (z ▸ hj))]
    exact (h j (List.mem_cons_of_mem _ hj)).2
theorem best_bi (O : Okk ls os t) (hg : ∀ l ∈ ls, GoodL l) : Bi ls os t (best ls os t) := bestG_bi _ _ (byK_nodup _ _) (fun k hk => ⟨byK_mem.mp hk, zer_at _ _⟩) (Bi.zero O hg)
theorem lbest_loop (O : Okk ls os t) (hg : ∀ l ∈ ls, GoodL l) : ∀ (o : List Nat) (ts : List Int) (s4 : Sl), o.Nodup → (∀ k ∈ o, k < ls.length ∧ at0 ts k = 0) → Bi ls os t ts → ∃ s4',
    forE (gSet 4) b_l_best_1 (dN o) [.fz (.list (ls.map encL)), .fz (.list (os.map encO)), .fz (.int t), .ow (dI ts), s4] = .nx [.fz (.list (ls.map encL)), .fz (.list (os.map encO)), .fz (.int t), .ow (dI (bestG ls os t o ts)), s4']
  | [], ts, s4, _, _, _ => ⟨s4, rfl⟩
  | k :: o, ts, s4, nd, h, B => by
    rw [List.nodup_cons] at nd
    obtain ⟨h1, h2⟩ := h k List.mem_cons_self
    have hl := B.tk.len
    unfold dN
    rw [List.map_cons]
    unfold forE
    have e0 : gSet 4 (.int ((k : Nat) : Int)) [.fz (.list (ls.map encL)), .fz (.list (os.map encO)), .fz (.int t), .ow (dI ts), s4] = some [.fz (.list (ls.map encL)), .fz (.list (os.map encO)), .fz (.int t), .ow (dI ts), .fz (.int ((k : Nat) : Int))] := rfl
    have tn : b_l_best_1 [.fz (.list (ls.map encL)), .fz (.list (os.map encO)), .fz (.int t), .ow (dI ts), .fz (.int ((k : Nat) : Int))] = .nx [.fz (.list (ls.map encL)), .fz (.list (os.map encO)), .fz (.int t), .ow (dI (ts.set k (roomAt ls os t ts k))), .fz (.int ((k : Nat) : Int))] := by
      have gk := hg _ (List.mem_of_getElem? (i := k) (show ls[k]? = some (ls.getD k (0, 0, 0)) by simp [h1]))
      have f := F_l_most_eq O B.tk h1 B.fit (B.le k h1) gk.c2
      have a3 := set_int (xs := ts) (i := k) (v := roomAt ls os t ts k) (by omega)
      generalize dI (ts.set k (roomAt ls os t ts k)) = nt at *
      generalize roomAt ls os t ts k = r at *
      generalize dI ts = tt at *
      simp [b_l_best_1, f, a3, mutO, sc]
    simp only [e0, tn]
    refine lbest_loop O hg o (ts.set k (roomAt ls os t ts k)) _ nd.2 (fun j hj => ⟨(h j (List.mem_cons_of_mem _ hj)).1, ?_⟩) (B.step h1 h2)
    rw [at0_set _ _ _ _ (by omega), if_neg (show ¬ k = j from fun z => nd.1 (z ▸ hj))]
    exact (h j (List.mem_cons_of_mem _ hj)).2
theorem F_l_best_eq (O : Okk ls os t) (hg : ∀ l ∈ ls, GoodL l) : F_l_best [.list (ls.map encL), .list (os.map encO), .int t] = .ok (.ow (dI (best ls os t))) := by
  show toOut (g_l_best [.fz (.list (ls.map encL)), .fz (.list (os.map encO)), .fz (.int t), .un, .un]) = _
  have n1 := O.nl
  obtain ⟨s4, q⟩ := lbest_loop O hg (dutyL ls) (zer ls.length) .un (byK_nodup _ _) (fun k hk => ⟨byK_mem.mp hk, zer_at _ _⟩) (Bi.zero O hg)
  have f := F_l_dearest_eq ls (by omega)
  change forE _ _ _ _ = .nx [_, _, _, .ow (dI (best ls os t)), _] at q
  have hz := rep_zer ls.length
  have hr : oRep (.list [PyData.int 0]) (.int (ls.length : Int)) = some (dI (zer ls.length)) := by
    rw [← hz]
    simp [oRep, small_of (show ls.length ≤ 100000 by omega)]
  generalize dI (best ls os t) = nb at *
  generalize dI (zer ls.length) = zz at *
  generalize dN (dutyL ls) = dd at *
  simp [g_l_best, f, q, sFor, mkL, small, hr]
/-! ### counts, looked at -/
theorem okTk_of : ∀ {ls : List Lot} {ts : List Int}, ts.length = ls.length → (∀ i, i < ls.length → 0 ≤ at0 ts i ∧ at0 ts i ≤ ctL ls i) → okTk ls ts = true
  | [], [], _, _ => rfl
  | l :: ls, t :: ts, hl, h => by
    have h0 := h 0 (by simp)
    unfold okTk
    rw [Bool.and_eq_true]
    refine ⟨decide_eq_true h0, okTk_of (by simpa using hl) fun i hi => ?_⟩
    exact h (i + 1) (by simpa using hi)
  | [], _ :: _, hl, _ => by cases hl
  | _ :: _, [], hl, _ => by cases hl
theorem okTk_at : ∀ {ls : List Lot} {ts : List Int}, okTk ls ts = true → ∀ i, i < ls.length → 0 ≤ at0 ts i ∧ at0 ts i ≤ ctL ls i
  | [], [], _, i, hi => by simp at hi
  | l :: ls, t :: ts, h, i, hi => by
    unfold okTk at h
    rw [Bool.and_eq_true] at h
    cases i with
    | zero => exact of_decide_eq_true h.1
    | succ i => exact okTk_at h.2 i (by simpa using hi)
  | [], _ :: _, h, _, _ => by cases h
  | _ :: _, [], h, _, _ => by cases h
theorem okTk_tk (h : okTk ls ts = true) : Tk ls ts := ⟨okTk_len h, fun i hi => (okTk_at h i hi).1⟩
theorem Bi.ok (B : Bi ls os t ts) : okTk ls ts = true := okTk_of B.tk.len fun i hi => ⟨B.tk.pos i hi, B.le i hi⟩
/-- fits, and the law's own dealing, say the same -/
theorem F_fits_iff (O : Okk ls os t) (T : Tk ls ts) : F_fits [.list (ls.map encL), .list (os.map encO), .int t, .list (dI ts)] = .ok (.fz (.bool (decide ((dealR ls os t ts).1.sum = 0)))) := by
  have n1 := O.nl
  have n2 := O.no
  obtain ⟨b, e, h⟩ := F_fits_eq ls os t ts (by omega) (by omega) T.len
  rw [e]
  have := (deal_facts O T).1
  congr 3
  rw [Bool.eq_iff_iff, h, decide_eq_true_eq, this]
/-! ### some counts, drawn -/
theorem some_counts_ok {io : List PyData} (hd : Dw io) (O : Okk ls os t) (hg : ∀ l ∈ ls, GoodL l) : ∃ ts io', F_l_some_counts io [.list (ls.map encL), .list (os.map encO), .int t] = .ok (.ow (dI ts), io') ∧ Dw io' ∧ okTk ls ts = true := by
  have f := F_l_best_eq O hg
  have B := best_bi O hg
  have bok := B.ok
  have bat := okTk_at bok
  have bl := B.tk.len
  generalize best ls os t = bs at *
  have n1 := O.nl
  have cnt : ∀ l ∈ ls, 0 ≤ l.2.1 ∧ l.2.1 ≤ 10000000000 := fun l hl => ⟨by have := (hg l hl).c1; omega, (hg l hl).c2⟩
  have bb : ∀ b ∈ bs, 0 ≤ b ∧ b ≤ 10000000000 := fun b hb => by
    obtain ⟨i, hi, e⟩ := List.getElem_of_mem hb
    have h1 := bat i (by omega)
    have e2 : at0 bs i = b := by simp [hi, e]
    have h2 := cnt _ (List.mem_of_getElem? (i := i) (show ls[i]? = some (ls.getD i (0, 0, 0)) by simp [show i < ls.length by omega]))
    have e3 : ctL ls i = (ls.getD i (0, 0, 0)).2.1 := rfl
    omega
  obtain ⟨way, io1, p1, d1, w1, w2⟩ := pick_ok (m := 4) hd (by decide) (by decide)
  show ∃ ts io', toOutI (g_l_some_counts [.ow io, .fz (.list (ls.map encL)), .fz (.list (os.map encO)), .fz (.int t), .un, .un, .un, .un, .un, .un]) = _ ∧ _ ∧ _
  by_cases h0 : way = 0
  · subst h0
    refine ⟨bs, io1, ?_, d1, bok⟩
    generalize dI bs = bd at *
    simp [g_l_some_counts, f, p1, oEQ]
  by_cases h1 : way = 1
  · subst h1
    obtain ⟨ts, ρw, eq, r1, io2, rfl, d2⟩ := lc_draw (fi := fItL (fVar 4)) (g := gSet 6) (fe := fCallI 0 F_l_pick (fCons (fOp oAdd (.v 6) (.e (Fx.ret (.int 1)))) fNil)) (vs := [6]) (ρ := [.ow io1, .fz (.list (ls.map encL)), .fz (.list (os.map encO)), .fz (.int t), .fz (.list (dI bs)), .fz (.int 1), .un, .un, .un, .un]) (ρ0 := [.ow io1, .fz (.list (ls.map encL)), .fz (.list (os.map encO)), .fz (.int t), .ow (dI bs), .fz (.int 1), .un, .un, .un, .un]) bs PyData.int PyData.int
      (fun ρ => ∃ io, ρ = [.ow io, .fz (.list (ls.map encL)), .fz (.list (os.map encO)), .fz (.int t), .fz (.list (dI bs)), .fz (.int 1), .un, .un, .un, .un] ∧ Dw io) (fun b r => 0 ≤ r ∧ r ≤ b) (by simp) (by omega) ⟨io1, rfl, d1⟩ (by
      rintro b hm ρ ⟨io, rfl, hd⟩
      have gl := bb b hm
      obtain ⟨r1, io1, p1, d1, a1, b1⟩ := pick_ok (m := b + 1) hd (by omega) (by omega)
      exact ⟨[.ow io, .fz (.list (ls.map encL)), .fz (.list (os.map encO)), .fz (.int t), .fz (.list (dI bs)), .fz (.int 1), .fz (.int b), .un, .un, .un], rfl, r1, [.ow io1, .fz (.list (ls.map encL)), .fz (.list (os.map encO)), .fz (.int t), .fz (.list (dI bs)), .fz (.int 1), .fz (.int b), .un, .un, .un], by simp [p1], ⟨a1, by omega⟩, io1, rfl, d1⟩)
    have hl1 := r1.len
    refine ⟨ts, io2, ?_, d2, okTk_of (by omega) fun i hi => ?_⟩
    · have eq2 : q_l_some_counts_1 [.ow io1, .fz (.list (ls.map encL)), .fz (.list (os.map encO)), .fz (.int t), .ow (dI bs), .fz (.int 1), .un, .un, .un, .un] = .ok (dI ts, [.ow io2, .fz (.list (ls.map encL)), .fz (.list (os.map encO)), .fz (.int t), .fz (.list (dI bs)), .fz (.int 1), .un, .un, .un, .un]) := by
        unfold q_l_some_counts_1
        rw [eq]
        simp [Fx.rest]
      generalize dI bs = bd at *
      generalize dI ts = td at *
      simp [g_l_some_counts, f, p1, oEQ, eq2]
    · have h2 := bat i hi
      have key : ∀ (as bs : List Int), A2 (fun b r => 0 ≤ r ∧ r ≤ b) as bs → ∀ i, i < as.length → 0 ≤ at0 bs i ∧ at0 bs i ≤ at0 as i := by
        intro as bs h
        induction h with
        | nil => intro i hi; simp at hi
        | cons r _ ih =>
          intro i hi
          cases i with
          | zero => exact r
          | succ i => exact ih i (by simpa using hi)
      have h3 := key _ _ r1 i (by omega)
      omega
  have hdraw : ∀ (s7 s8 s9 : Sl) (io1 : List PyData), Dw io1 → ∃ ts io2, q_l_some_counts_2 [.ow io1, .fz (.list (ls.map encL)), .fz (.list (os.map encO)), .fz (.int t), .ow (dI bs), .fz (.int way), .un, .un, .un, .un] = .ok (dI ts, [.ow io2, .fz (.list (ls.map encL)), .fz (.list (os.map encO)), .fz (.int t), .ow (dI bs), .fz (.int way), .un, .un, .un, .un]) ∧ Dw io2 ∧ okTk ls ts = true := by
    intro s7 s8 s9 io1 d1
    obtain ⟨ts, ρw, eq, r1, io2, rfl, d2⟩ := lc_draw (fi := fItL (fVar 1)) (g := gSet 9) (fe := fCallI 0 F_l_pick (fCons (fOp oAdd (.e (fOp oIx (.v 9) (.e (Fx.ret (.int 1))))) (.e (Fx.ret (.int 1)))) fNil)) (vs := [9]) (ρ := [.ow io1, .fz (.list (ls.map encL)), .fz (.list (os.map encO)), .fz (.int t), .ow (dI bs), .fz (.int way), .un, .un, .un, .un]) (ρ0 := [.ow io1, .fz (.list (ls.map encL)), .fz (.list (os.map encO)), .fz (.int t), .ow (dI bs), .fz (.int way), .un, .un, .un, .un]) ls encL PyData.int
      (fun ρ => ∃ io, ρ = [.ow io, .fz (.list (ls.map encL)), .fz (.list (os.map encO)), .fz (.int t), .ow (dI bs), .fz (.int way), .un, .un, .un, .un] ∧ Dw io) (fun l r => 0 ≤ r ∧ r ≤ l.2.1) (by simp) (by omega) ⟨io1, rfl, d1⟩ (by
      rintro l hm ρ ⟨io, rfl, hd⟩
      have gl := cnt l hm
      obtain ⟨r1, io1, p1, d1, a1, b1⟩ := pick_ok (m := l.2.1 + 1) hd (by omega) (by omega)
      exact ⟨[.ow io, .fz (.list (ls.map encL)), .fz (.list (os.map encO)), .fz (.int t), .ow (dI bs), .fz (.int way), .un, .un, .un, .fz (encL l)], rfl, r1, [.ow io1, .fz (.list (ls.map encL)), .fz (.list (os.map encO)), .fz (.int t), .ow (dI bs), .fz (.int way), .un, .un, .un, .fz (encL l)], by simp [encL, encL_ix1, p1], ⟨a1, by omega⟩, io1, rfl, d1⟩)
    refine ⟨ts, io2, ?_, d2, ?_⟩
    · unfold q_l_some_counts_2
      rw [eq]
      simp [Fx.rest]
    · clear eq f
      have key : ∀ (as : List Lot) (bs : List Int), A2 (fun (l : Lot) r => 0 ≤ r ∧ r ≤ l.2.1) as bs → okTk as bs = true := by
        intro as bs h
        induction h with
        | nil => rfl
        | cons r _ ih =>
          unfold okTk
          rw [Bool.and_eq_true]
          exact ⟨decide_eq_true r, ih⟩
      exact key _ _ r1
  by_cases h2 : way = 2
  · subst h2
    cases ls with
    | nil =>
      obtain ⟨ts, io2, e2, d2, ok2⟩ := hdraw .un .un .un io1 d1
      refine ⟨ts, io2, ?_, d2, ok2⟩
      have e4 : oNE (.list (([] : List Lot).map encL)) (.list []) = some (.bool false) := oNE_nn
      generalize dI bs = bd at *
      generalize dI ts = td at *
      generalize ([] : List Lot).map encL = el at *
      simp [g_l_some_counts, f, p1, oEQ, e4, e2, mkL, small]
    | cons l0 ls0 =>
      generalize hls : l0 :: ls0 = ls at *
      have hne : 0 < ls.length := by rw [← hls]; simp
      obtain ⟨at', io2, p2, d2, a2, b2⟩ := pick_ok (m := (ls.length : Int)) d1 (by omega) (by omega)
      obtain ⟨k, rfl⟩ : ∃ k : Nat, at' = (k : Int) := ⟨at'.toNat, by omega⟩
      have hk : k < ls.length := by omega
      obtain ⟨r3, io3, p3, d3, a3, b3⟩ := pick_ok (m := 2) d2 (by decide) (by decide)
      have i1 := at_int (xs := bs) (i := k) (by omega)
      have i2 := at_lot hk
      have hbk := bat k hk
      refine ⟨bs.set k (min (ctL ls k) (at0 bs k + 1 + r3)), io3, ?_, d3, okTk_of (by rw [List.length_set]; exact bl) fun i hi => ?_⟩
      · have e4 : oNE (.list (ls.map encL)) (.list []) = some (.bool true) := by
          rw [oNE_nil (n := 4) (by decide) (show (ls.map encL).all (gi 3) = true from gi_encL 1 ls), ← hls]
          rfl
        have c1 : cut (dI bs) none (some (k : Int)) = dI (bs.take k) := by unfold dI; rw [cut_take, List.map_take]
        have c2 : cut (dI bs) (some ((k : Int) + 1)) none = dI (bs.drop (k + 1)) := by unfold dI; rw [cut_dropS, List.map_drop]
        have s1 : small ((dI (bs.take k)).length + 1) = true := small_of (by simp; omega)
        have s2 : small ((dI (bs.take k)).length + 1 + (dI (bs.drop (k + 1))).length) = true := small_of (by simp; omega)
        have c3 : dI (bs.take k) ++ (.int (min (ctL ls k) (at0 bs k + 1 + r3)) :: dI (bs.drop (k + 1))) = dI (bs.set k (min (ctL ls k) (at0 bs k + 1 + r3))) := by
          rw [← take_set_drop bs k _ (by omega)]
          simp [dI]
        have hm := min2_eq (ctL ls k) (at0 bs k + 1 + r3)
        have hs1 : small 1 = true := rfl
        have hs0 : small 0 = true := rfl
        clear hdraw bat bok B bb
        generalize dI (bs.set k (min (ctL ls k) (at0 bs k + 1 + r3))) = nd at *
        unfold ctL at *
        generalize ls.getD k (0, 0, 0) = z at *
        generalize min z.2.1 (at0 bs k + 1 + r3) = m at *
        generalize at0 bs k = u at *
        generalize dI (bs.take k) = d1' at *
        generalize dI (bs.drop (k + 1)) = d2' at *
        generalize dI bs = bd at *
        simp [g_l_some_counts, f, p1, oEQ, e4, p2, p3, i1, i2, encL, encL_ix1, hm, c1, c2, c3, s1, s2, mkL, hs1, hs0]
      · rw [at0_set _ _ _ _ (by omega)]
        split
        · rename_i e; subst e; omega
        · exact bat i hi
  · obtain ⟨ts, io2, e2, d2, ok2⟩ := hdraw .un .un .un io1 d1
    refine ⟨ts, io2, ?_, d2, ok2⟩
    generalize dI bs = bd at *
    generalize dI ts = td at *
    simp [g_l_some_counts, f, p1, oEQ, h0, h1, h2, e2]
end
end Mm

namespace Mm
open PySem L2 Fx
variable [Tabz]
theorem okk_of {ls : List Lot} {os : List Ot} {t : Int} (h1 : errLs ls = none) (h2 : errOs os = none) (h3 : ¬ (t < 0 ∨ 400 < t)) : Okk ls os t :=
  ⟨by have := errLs_len h1; omega, by have := errOs_len h2; omega, fun o ho => by have := (good_errOs h2 o ho).c1; omega, by omega⟩
theorem okk_good {ls : List Lot} {os : List Ot} {t : Int} (n1 : ls.length ≤ 62) (n2 : os.length ≤ 62) (h2 : ∀ o ∈ os, GoodO o) (h3 : 0 ≤ t) : Okk ls os t :=
  ⟨n1, n2, fun o ho => by have := (h2 o ho).c1; omega, h3⟩
/-- lots, outs, a term, looked at in this order -/
def err3 (ls : List Lot) (os : List Ot) (t : Int) : Option Str := match errLs ls with
  | some c => some c
  | none => match errOs os with
    | some c => some c
    | none => if t < 0 ∨ 400 < t then some "BadTerm" else none
theorem err3_none {ls : List Lot} {os : List Ot} {t : Int} (h : err3 ls os t = none) : errLs ls = none ∧ errOs os = none ∧ ¬ (t < 0 ∨ 400 < t) := by
  unfold err3 at h
  cases h1 : errLs ls with
  | some c => rw [h1] at h; cases h
  | none =>
    rw [h1] at h
    cases h2 : errOs os with
    | some c => rw [h2] at h; cases h
    | none =>
      rw [h2] at h
      dsimp only at h
      by_cases h3 : t < 0 ∨ 400 < t
      · rw [if_pos h3] at h; cases h
      · exact ⟨rfl, rfl, h3⟩
theorem err3_good {ls : List Lot} {os : List Ot} {t : Int} (n1 : ls.length ≤ 30) (n2 : os.length ≤ 30) (h1 : ∀ l ∈ ls, GoodL l) (h2 : ∀ o ∈ os, GoodO o) (h3 : 0 ≤ t) (h4 : t ≤ 400) : err3 ls os t = none := by
  unfold err3
  rw [errLs_good n1 h1, errOs_good n2 h2]
  dsimp only
  rw [if_neg (by omega)]
def oE (c : Option Str) (k : Out Rt) : Out Rt := match c with
  | some c => .exc c
  | none => k
/-- the three looks at the head of a def -/
theorem heads {ls : List Lot} {os : List Ot} {t : Int} : (∃ c, err3 ls os t = some c ∧ (F_checked_lots [.list (ls.map encL)] = .exc c ∨ (F_checked_lots [.list (ls.map encL)] = .ok (.ow (ls.map encL)) ∧ F_checked_outs [.list (os.map encO)] = .exc c) ∨
    (F_checked_lots [.list (ls.map encL)] = .ok (.ow (ls.map encL)) ∧ F_checked_outs [.list (os.map encO)] = .ok (.ow (os.map encO)) ∧ F_need_term [.int t] = .exc c))) ∨
    (err3 ls os t = none ∧ F_checked_lots [.list (ls.map encL)] = .ok (.ow (ls.map encL)) ∧ F_checked_outs [.list (os.map encO)] = .ok (.ow (os.map encO)) ∧ F_need_term [.int t] = .ok (.fz .none)) := by
  unfold err3
  rw [F_checked_lots_eq, F_checked_outs_eq, F_need_term_eq]
  cases h1 : errLs ls with
  | some c => exact .inl ⟨c, rfl, .inl rfl⟩
  | none =>
    cases h2 : errOs os with
    | some c => exact .inl ⟨c, rfl, .inr (.inl ⟨rfl, rfl⟩)⟩
    | none =>
      by_cases h3 : t < 0 ∨ 400 < t
      · refine .inl ⟨"BadTerm", ?_, .inr (.inr ⟨rfl, rfl, if_pos h3⟩)⟩
        dsimp only
        rw [if_pos h3]
      · refine .inr ⟨?_, rfl, rfl, if_neg h3⟩
        dsimp only
        rw [if_neg h3]
theorem F_dealable_eq (ls : List Lot) (os : List Ot) (t : Int) (ts : List Int) : F_dealable [.list (ls.map encL), .list (os.map encO), .int t, .list (dI ts)] = oE (err3 ls os t) (if okTk ls ts = true then .ok (.fz (.bool (decide ((dealR ls os t ts).1.sum = 0)))) else .exc "BadTaken") := by
  show toOut (g_dealable [.fz (.list (ls.map encL)), .fz (.list (os.map encO)), .fz (.int t), .fz (.list (dI ts)), .un, .un]) = _
  rcases heads (ls := ls) (os := os) (t := t) with ⟨c, e, h⟩ | ⟨e, f1, f2, f3⟩
  · rw [e]
    rcases h with h | ⟨h1, h2⟩ | ⟨h1, h2, h3⟩
    · simp [g_dealable, h, oE]
    · simp [g_dealable, h1, h2, oE]
    · simp [g_dealable, h1, h2, h3, oE]
  · rw [e]
    obtain ⟨e1, e2, e3⟩ := err3_none e
    have f4 := F_checked_taken_eq ls ts
    by_cases h : okTk ls ts = true
    · have f5 := F_fits_iff (okk_of e1 e2 e3) (okTk_tk h)
      rw [if_pos h] at f4 ⊢
      unfold dI at *
      generalize ts.map PyData.int = td at *
      simp [g_dealable, f1, f2, f3, f4, f5, oE]
    · rw [if_neg h] at f4 ⊢
      unfold dI at *
      generalize ts.map PyData.int = td at *
      simp [g_dealable, f1, f2, f3, f4, oE]
theorem F_need_fitting_eq {ls : List Lot} {os : List Ot} {t : Int} {ts : List Int} (O : Okk ls os t) (T : Tk ls ts) : F_need_fitting [.list (ls.map encL), .list (os.map encO), .int t, .list (dI ts)] = if (dealR ls os t ts).1.sum = 0 then .ok (.fz .none) else .exc "NotDealable" := by
  show toOut (g_need_fitting [.fz (.list (ls.map encL)), .fz (.list (os.map encO)), .fz (.int t), .fz (.list (dI ts))]) = _
  have f5 := F_fits_iff O T
  generalize dI ts = td at *
  by_cases h : (dealR ls os t ts).1.sum = 0
  · rw [if_pos h]
    simp only [h, decide_true] at f5
    simp [g_need_fitting, f5]
  · rw [if_neg h]
    simp only [h, decide_false] at f5
    simp [g_need_fitting, f5]
theorem F_need_place_eq (ds : List PyData) (k : Int) : F_need_place [.list ds, .int k] = if 0 ≤ k ∧ k < ds.length then .ok (.fz .none) else .exc "NoPlace" := by
  show toOut (g_need_place [.fz (.list ds), .fz (.int k)]) = _
  by_cases h1 : k < 0
  · rw [if_neg (by omega)]
    simp [g_need_place, h1]
  · by_cases h2 : k < ds.length
    · rw [if_pos (by omega)]
      have h3 : ¬ ((ds.length : Int) ≤ k) := by omega
      simp [g_need_place, h1, h3]
    · rw [if_neg (by omega)]
      have h3 : ((ds.length : Int) ≤ k) := by omega
      simp [g_need_place, h1, h3]
theorem F_room_eq (ls : List Lot) (os : List Ot) (t : Int) (ts : List Int) (k : Int) : F_room [.list (ls.map encL), .list (os.map encO), .int t, .list (dI ts), .int k] = oE (err3 ls os t) (if okTk ls ts = true then (if (dealR ls os t ts).1.sum = 0 then (if 0 ≤ k ∧ k < ls.length then .ok (.fz (.int (roomAt ls os t ts k.toNat))) else .exc "NoPlace") else .exc "NotDealable") else .exc "BadTaken") := by
  show toOut (g_room [.fz (.list (ls.map encL)), .fz (.list (os.map encO)), .fz (.int t), .fz (.list (dI ts)), .fz (.int k), .un, .un, .un]) = _
  rcases heads (ls := ls) (os := os) (t := t) with ⟨c, e, h⟩ | ⟨e, f1, f2, f3⟩
  · rw [e]
    rcases h with h | ⟨h1, h2⟩ | ⟨h1, h2, h3⟩
    · simp [g_room, h, oE]
    · simp [g_room, h1, h2, oE]
    · simp [g_room, h1, h2, h3, oE]
  · rw [e]
    obtain ⟨e1, e2, e3⟩ := err3_none e
    have f4 := F_checked_taken_eq ls ts
    by_cases h : okTk ls ts = true
    · have O := okk_of e1 e2 e3
      have T := okTk_tk h
      have n1 := O.nl
      have n2 := O.no
      have f5 := F_need_fitting_eq O T
      have f6 := F_need_place_eq (ls.map encL) k
      rw [List.length_map] at f6
      rw [if_pos h] at f4 ⊢
      by_cases h2 : (dealR ls os t ts).1.sum = 0
      · rw [if_pos h2] at f5 ⊢
        by_cases h3 : 0 ≤ k ∧ k < ls.length
        · have f7 := F_room_at_eq ls os t ts k.toNat (by omega) (by omega) T.len (by omega)
          rw [show ((k.toNat : Nat) : Int) = k by omega] at f7
          rw [if_pos h3] at f6 ⊢
          unfold dI at *
          generalize ts.map PyData.int = td at *
          simp [g_room, f1, f2, f3, f4, f5, f6, f7, oE]
        · rw [if_neg h3] at f6 ⊢
          unfold dI at *
          generalize ts.map PyData.int = td at *
          simp [g_room, f1, f2, f3, f4, f5, f6, oE]
      · rw [if_neg h2] at f5 ⊢
        unfold dI at *
        generalize ts.map PyData.int = td at *
        simp [g_room, f1, f2, f3, f4, f5, oE]
    · rw [if_neg h] at f4 ⊢
      unfold dI at *
      generalize ts.map PyData.int = td at *
      simp [g_room, f1, f2, f3, f4, oE]
theorem F_dealt_eq (ls : List Lot) (os : List Ot) (t : Int) (ts : List Int) : F_dealt [.list (ls.map encL), .list (os.map encO), .int t, .list (dI ts)] = oE (err3 ls os t) (if okTk ls ts = true then (if (dealR ls os t ts).1.sum = 0 then .ok (.ow ((dealT ls os t ts).map encL)) else .exc "NotDealable") else .exc "BadTaken") := by
  show toOut (g_dealt [.fz (.list (ls.map encL)), .fz (.list (os.map encO)), .fz (.int t), .fz (.list (dI ts)), .un, .un, .un]) = _
  rcases heads (ls := ls) (os := os) (t := t) with ⟨c, e, h⟩ | ⟨e, f1, f2, f3⟩
  · rw [e]
    rcases h with h | ⟨h1, h2⟩ | ⟨h1, h2, h3⟩
    · simp [g_dealt, h, oE]
    · simp [g_dealt, h1, h2, oE]
    · simp [g_dealt, h1, h2, h3, oE]
  · rw [e]
    obtain ⟨e1, e2, e3⟩ := err3_none e
    have f4 := F_checked_taken_eq ls ts
    by_cases h : okTk ls ts = true
    · have O := okk_of e1 e2 e3
      have T := okTk_tk h
      have n1 := O.nl
      have n2 := O.no
      have f5 := F_need_fitting_eq O T
      have f6 := F_dealing_eq ls os t ts (by omega) (by omega) T.len
      rw [if_pos h] at f4 ⊢
      by_cases h2 : (dealR ls os t ts).1.sum = 0
      · rw [if_pos h2] at f5 ⊢
        unfold dI at *
        generalize ts.map PyData.int = td at *
        simp [g_dealt, f1, f2, f3, f4, f5, f6, oE]
      · rw [if_neg h2] at f5 ⊢
        unfold dI at *
        generalize ts.map PyData.int = td at *
        simp [g_dealt, f1, f2, f3, f4, f5, oE]
    · rw [if_neg h] at f4 ⊢
      unfold dI at *
      generalize ts.map PyData.int = td at *
      simp [g_dealt, f1, f2, f3, f4, oE]
theorem F_best_eq (ls : List Lot) (os : List Ot) (t : Int) : F_best [.list (ls.map encL), .list (os.map encO), .int t] = oE (err3 ls os t) (.ok (.ow (dI (best ls os t)))) := by
  show toOut (g_best [.fz (.list (ls.map encL)), .fz (.list (os.map encO)), .fz (.int t), .un, .un]) = _
  rcases heads (ls := ls) (os := os) (t := t) with ⟨c, e, h⟩ | ⟨e, f1, f2, f3⟩
  · rw [e]
    rcases h with h | ⟨h1, h2⟩ | ⟨h1, h2, h3⟩
    · simp [g_best, h, oE]
    · simp [g_best, h1, h2, oE]
    · simp [g_best, h1, h2, h3, oE]
  · rw [e]
    obtain ⟨e1, e2, e3⟩ := err3_none e
    have O := okk_of e1 e2 e3
    have n1 := O.nl
    have n2 := O.no
    have f4 := F_best_counts_eq (ls := ls) (os := os) (t := t) (by omega) (by omega)
    generalize dI (best ls os t) = bd at *
    simp [g_best, f1, f2, f3, f4, oE]
theorem best_len (ls : List Lot) (os : List Ot) (t : Int) : (best ls os t).length = ls.length := by
  have key : ∀ (o : List Nat) (ts : List Int), (bestG ls os t o ts).length = ts.length := by
    intro o
    induction o with
    | nil => intro ts; rfl
    | cons k o ih => intro ts; unfold bestG; rw [ih, List.length_set]
  unfold best
  rw [key, zer_len]
noncomputable def topV (ls : List Lot) (os : List Ot) (t : Int) : Int := val ls (best ls os t)
theorem F_greatest_eq (ls : List Lot) (os : List Ot) (t : Int) : F_greatest [.list (ls.map encL), .list (os.map encO), .int t] = oE (err3 ls os t) (.ok (.fz (.int (topV ls os t)))) := by
  show toOut (g_greatest [.fz (.list (ls.map encL)), .fz (.list (os.map encO)), .fz (.int t), .un]) = _
  have fb := F_best_eq ls os t
  have f0 := F_checked_lots_eq ls
  cases e : err3 ls os t with
  | some c =>
    rw [e] at fb
    cases h1 : errLs ls with
    | some c1 =>
      have : c1 = c := by
        unfold err3 at e
        rw [h1] at e
        exact Option.some.inj e
      subst this
      rw [h1] at f0
      simp [g_greatest, f0, outE, oE]
    | none =>
      rw [h1] at f0
      simp [g_greatest, f0, fb, outE, oE]
  | none =>
    obtain ⟨e1, e2, e3⟩ := err3_none e
    rw [e] at fb
    rw [e1] at f0
    have hl := errLs_len e1
    have fv := F_value_eq ls (best ls os t) (best_len ls os t) (by omega) (good_errLs e1)
    unfold topV
    unfold dI at fb
    generalize (best ls os t).map PyData.int = bd at *
    simp [g_greatest, f0, fb, fv, outE, oE]
theorem F_top_eq {ls : List Lot} {os : List Ot} {t : Int} (n1 : ls.length < 64) (n2 : os.length ≤ 1000) (hg : ∀ l ∈ ls, GoodL l) : F_top [.list (ls.map encL), .list (os.map encO), .int t] = .ok (.fz (.int (topV ls os t))) := by
  show toOut (g_top [.fz (.list (ls.map encL)), .fz (.list (os.map encO)), .fz (.int t)]) = _
  have f4 := F_best_counts_eq (ls := ls) (os := os) (t := t) n1 n2
  have fv := F_value_eq ls (best ls os t) (best_len ls os t) (by omega) hg
  unfold topV
  unfold dI at f4
  generalize (best ls os t).map PyData.int = bd at *
  simp [g_top, f4, fv]
theorem F_l_value_eq (ls : List Lot) (ts : List Int) (hl : ts.length = ls.length) (hs : ls.length ≤ 1000) (hu : ∀ l ∈ ls, GoodL l) : F_l_value [.list (ls.map encL), .list (ts.map PyData.int)] = .ok (.fz (.int (val ls ts))) := F_value_eq ls ts hl hs hu
end Mm

namespace Mm
open PySem L2 Fx
variable [Tabz]
theorem dealG_len (dy : Nat → Int) (ot : Nat → Ot) (t : Int) (o : List Nat) : ∀ (p : List Nat) (left : List Int), (dealG dy ot t o p left).2.length ≤ p.length * o.length
  | [], left => by simp [dealG]
  | j :: p, left => by
    have h1 := (give_len dy (ot j).1 t o left (ot j).2).2
    have h2 := dealG_len dy ot t o p (give dy (ot j).1 t o left (ot j).2).1
    unfold dealG
    simp only [List.length_append, List.length_map, List.length_cons]
    rw [Nat.add_mul, Nat.one_mul]
    omega
theorem dealT_len {ls : List Lot} {os : List Ot} {t : Int} {ts : List Int} (h1 : ls.length ≤ 62) (h2 : os.length ≤ 62) : (dealT ls os t ts).length ≤ 4000 := by
  have h := dealG_len (dyL ls) (otO os) t (ageL ls) (ageO os) ts
  unfold dealT
  rw [List.length_map]
  rw [ageL_len, ageO_len] at h
  have : os.length * ls.length ≤ 62 * 62 := Nat.mul_le_mul h2 h1
  show (dealG (dyL ls) (otO os) t (ageL ls) (ageO os) ts).2.length ≤ 4000
  omega
theorem deal_sum_nonneg {ls : List Lot} {os : List Ot} {t : Int} {ts : List Int} (O : Okk ls os t) (T : Tk ls ts) : 0 ≤ (dealR ls os t ts).1.sum := by
  obtain ⟨_, h2, h3⟩ := deal_facts O T
  rw [sum_at0]
  exact S_nonneg fun i hi => (h3 i (by rw [List.mem_range, h2] at hi; exact hi)).1
theorem gd_encL (n : Nat) (ls : List Lot) : (ls.map encL).all (gd (n + 2)) = true := by
  rw [List.all_map]
  exact List.all_eq_true.mpr fun _ _ => rfl
theorem gd_encO (n : Nat) (ls : List Ot) : (ls.map encO).all (gd (n + 2)) = true := by
  rw [List.all_map]
  exact List.all_eq_true.mpr fun _ _ => rfl
theorem gd_dI (n : Nat) (ls : List Int) : (dI ls).all (gd (n + 1)) = true := by
  unfold dI
  rw [List.all_map]
  exact List.all_eq_true.mpr fun _ _ => rfl
theorem gd_list {n : Nat} {ds : List PyData} (h1 : ds.length ≤ 100000) (h2 : ds.all (gd n) = true) : gd (n + 1) (.list ds) = true := by
  show (small ds.length && ds.all (gd n)) = true
  rw [Bool.and_eq_true]
  exact ⟨small_of h1, h2⟩
/-- lots, outs, and numbers, told of in one tuple, are what they are -/
theorem gi_two (ls : List Lot) (os : List Ot) : gi 5 (.tuple [.list (ls.map encL), .list (os.map encO)]) = true := by
  have h1 := gi_encL 1 ls
  have h2 := gi_encO 1 os
  show ([PyData.list (ls.map encL), .list (os.map encO)]).all (gi 4) = true
  simp only [List.all_cons, List.all_nil, Bool.and_true, Bool.and_eq_true]
  exact ⟨h1, h2⟩
theorem gi_three (ls : List Lot) (os : List Ot) (ts : List Int) : gi 5 (.tuple [.list (ls.map encL), .list (os.map encO), .list (dI ts)]) = true := by
  have h1 := gi_encL 1 ls
  have h2 := gi_encO 1 os
  have h3 := gi_ints 2 ts
  show ([PyData.list (ls.map encL), .list (os.map encO), .list (dI ts)]).all (gi 4) = true
  simp only [List.all_cons, List.all_nil, Bool.and_true, Bool.and_eq_true]
  exact ⟨h1, h2, h3⟩
end Mm

namespace Mm
open PySem L2 Fx
variable [Tabz]
theorem F_l_top_eq {ls : List Lot} {os : List Ot} {t : Int} (O : Okk ls os t) (hg : ∀ l ∈ ls, GoodL l) : F_l_top [.list (ls.map encL), .list (os.map encO), .int t] = .ok (.fz (.int (topV ls os t))) := by
  show toOut (g_l_top [.fz (.list (ls.map encL)), .fz (.list (os.map encO)), .fz (.int t)]) = _
  have f4 := F_l_best_eq O hg
  have n1 := O.nl
  have fv := F_l_value_eq ls (best ls os t) (best_len ls os t) (by omega) hg
  unfold topV
  unfold dI at f4
  generalize (best ls os t).map PyData.int = bd at *
  simp [g_l_top, f4, fv]
def errD (d : Int) : Option Str := if d < 1 ∨ 999 < d then some "BadDay" else none
def errU (d : Int) : Option Str := if d < 1 ∨ 1000000 < d then some "BadDuty" else none
theorem F_lot_more_eq (ls : List Lot) (os : List Ot) (t d u : Int) : F_lot_more [.list (ls.map encL), .list (os.map encO), .int t, .int d, .int u] = oE (err3 ls os t) (oE (errD d) (oE (errU u) (.ok (.fz (.int (topV (ls ++ [(d, 1, u)]) os t - topV ls os t)))))) := by
  show toOut (g_lot_more [.fz (.list (ls.map encL)), .fz (.list (os.map encO)), .fz (.int t), .fz (.int d), .fz (.int u), .un, .un]) = _
  rcases heads (ls := ls) (os := os) (t := t) with ⟨c, e, h⟩ | ⟨e, f1, f2, f3⟩
  · rw [e]
    rcases h with h | ⟨h1, h2⟩ | ⟨h1, h2, h3⟩
    · simp [g_lot_more, h, oE]
    · simp [g_lot_more, h1, h2, oE]
    · simp [g_lot_more, h1, h2, h3, oE]
  · rw [e]
    obtain ⟨e1, e2, e3⟩ := err3_none e
    have n1 := errLs_len e1
    have n2 := errOs_len e2
    by_cases h1 : d < 1 ∨ 999 < d
    · simp [g_lot_more, f1, f2, f3, oE, F_need_day_eq, errD, h1]
    · by_cases h2 : u < 1 ∨ 1000000 < u
      · simp [g_lot_more, f1, f2, f3, oE, F_need_day_eq, errD, h1, F_need_duty_eq, errU, h2]
      · have f4 := F_top_eq (ls := ls) (os := os) (t := t) (by omega) (by omega) (good_errLs e1)
        have f5 := F_top_eq (ls := ls ++ [(d, 1, u)]) (os := os) (t := t) (by simp; omega) (by omega) (fun l hl => by
          rcases List.mem_append.mp hl with z | z
          · exact good_errLs e1 l z
          · rw [List.mem_singleton.mp z]
            exact ⟨by dsimp; omega, by dsimp; omega, by dsimp; omega, by dsimp; omega, by dsimp; omega, by dsimp; omega⟩)
        have hs : small ((ls.map encL).length + 1) = true := small_of (by simp; omega)
        have em : (ls ++ [(d, 1, u)]).map encL = ls.map encL ++ [.tuple [.int d, .int 1, .int u]] := by rw [List.map_append]; rfl
        rw [em] at f5
        generalize topV (ls ++ [(d, 1, u)]) os t = v1 at *
        generalize topV ls os t = v2 at *
        generalize ls.map encL = ld at *
        have h3 : small 3 = true := rfl
        have h4 : small 1 = true := rfl
        simp [g_lot_more, f1, f2, f3, f4, f5, oE, F_need_day_eq, errD, h1, F_need_duty_eq, errU, h2, mkT, mkL, h3, h4, hs]
theorem F_out_more_eq (ls : List Lot) (os : List Ot) (t d : Int) : F_out_more [.list (ls.map encL), .list (os.map encO), .int t, .int d] = oE (err3 ls os t) (oE (errD d) (.ok (.fz (.int (topV ls (os ++ [(d, 1)]) t - topV ls os t))))) := by
  show toOut (g_out_more [.fz (.list (ls.map encL)), .fz (.list (os.map encO)), .fz (.int t), .fz (.int d), .un, .un]) = _
  rcases heads (ls := ls) (os := os) (t := t) with ⟨c, e, h⟩ | ⟨e, f1, f2, f3⟩
  · rw [e]
    rcases h with h | ⟨h1, h2⟩ | ⟨h1, h2, h3⟩
    · simp [g_out_more, h, oE]
    · simp [g_out_more, h1, h2, oE]
    · simp [g_out_more, h1, h2, h3, oE]
  · rw [e]
    obtain ⟨e1, e2, e3⟩ := err3_none e
    have n1 := errLs_len e1
    have n2 := errOs_len e2
    by_cases h1 : d < 1 ∨ 999 < d
    · simp [g_out_more, f1, f2, f3, oE, F_need_day_eq, errD, h1]
    · have f4 := F_top_eq (ls := ls) (os := os) (t := t) (by omega) (by omega) (good_errLs e1)
      have f5 := F_top_eq (ls := ls) (os := os ++ [(d, 1)]) (t := t) (by omega) (by simp; omega) (good_errLs e1)
      have hs : small ((os.map encO).length + 1) = true := small_of (by simp; omega)
      have em : (os ++ [(d, 1)]).map encO = os.map encO ++ [.tuple [.int d, .int 1]] := by rw [List.map_append]; rfl
      rw [em] at f5
      generalize topV ls (os ++ [(d, 1)]) t = v1 at *
      generalize topV ls os t = v2 at *
      generalize os.map encO = ld at *
      have h3 : small 2 = true := rfl
      have h4 : small 1 = true := rfl
      simp [g_out_more, f1, f2, f3, f4, f5, oE, F_need_day_eq, errD, h1, mkT, mkL, h3, h4, hs]
/-- a day near some rows -/
theorem day_near_ok {io : List PyData} {rows : List PyData} (hd : Dw io) (hr : ∀ d ∈ rows, ∃ (x : Int) (ds : List PyData), d = .tuple (.int x :: ds)) (hl : rows.length ≤ 100000) (hn : ∃ b, oNE (.list rows) (.list []) = some (.bool b) ∧ (b = true → rows ≠ [])) :
    ∃ d io', F_l_day_near io [.list rows] = .ok (.fz (.int d), io') ∧ Dw io' ∧ 1 ≤ d ∧ d ≤ 999 := by
  obtain ⟨b, en, hb⟩ := hn
  obtain ⟨r1, io1, p1, d1, a1, b1⟩ := pick_ok (m := 999) hd (by decide) (by decide)
  show ∃ d io', toOutI (g_l_day_near [.ow io, .fz (.list rows), .un]) = _ ∧ _
  have fin : ∀ x : Int, 1 ≤ (if (if x < 999 then x else 999) > 1 then (if x < 999 then x else 999) else 1) ∧ (if (if x < 999 then x else 999) > 1 then (if x < 999 then x else 999) else 1) ≤ 999 := fun x => by
    constructor
    · split <;> omega
    · split
      · split <;> omega
      · omega
  cases b with
  | false =>
    refine ⟨_, io1, ?_, d1, fin (1 + r1)⟩
    simp [g_l_day_near, p1, mkL, small, en]
  | true =>
    obtain ⟨r2, io2, p2, d2, a2, b2⟩ := pick_ok (m := 4) d1 (by decide) (by decide)
    by_cases h : 0 < r2
    · obtain ⟨d, io3, p3, d3, x, ds, rfl⟩ := one_ok (P := fun d => ∃ (x : Int) (ds : List PyData), d = .tuple (.int x :: ds)) d2 (hb rfl) hl hr
      obtain ⟨r4, io4, p4, d4, a4, b4⟩ := pick_ok (m := 5) d3 (by decide) (by decide)
      have i0 : atI (PyData.int x :: ds) 0 = some (.int x) := atI_nat rfl
      refine ⟨_, io4, ?_, d4, fin (x + r4 - 2)⟩
      simp [g_l_day_near, p1, mkL, small, en, p2, h, p3, i0, p4]
    · refine ⟨_, io2, ?_, d2, fin (1 + r1)⟩
      simp [g_l_day_near, p1, mkL, small, en, p2, h]
end Mm

namespace Mm
open PySem L2 Fx
variable [Tabz]
/-! ### a unit less -/
def lessL (ls : List Lot) (k : Nat) : List Lot := if (ls.getD k (0, 0, 0)).2.1 = 1 then ls.take k ++ ls.drop (k + 1) else ls.take k ++ [((ls.getD k (0, 0, 0)).1, (ls.getD k (0, 0, 0)).2.1 - 1, (ls.getD k (0, 0, 0)).2.2)] ++ ls.drop (k + 1)
def lessO (os : List Ot) (k : Nat) : List Ot := if (otO os k).2 = 1 then os.take k ++ os.drop (k + 1) else os.take k ++ [((otO os k).1, (otO os k).2 - 1)] ++ os.drop (k + 1)
theorem F_less_oneL_eq (ls : List Lot) (k : Nat) (hk : k < ls.length) (hn : ls.length ≤ 1000) : F_less_one [.list (ls.map encL), .int (k : Int)] = .ok (.ow ((lessL ls k).map encL)) := by
  show toOut (g_less_one [.fz (.list (ls.map encL)), .fz (.int (k : Int)), .un]) = _
  have a1 := at_lot hk
  have c1 : cut (ls.map encL) none (some (k : Int)) = (ls.take k).map encL := by rw [cut_take, List.map_take]
  have c2 : cut (ls.map encL) (some ((k : Int) + 1)) none = (ls.drop (k + 1)).map encL := by rw [cut_dropS, List.map_drop]
  have s1 : small (((ls.take k).map encL).length + 1) = true := small_of (by simp; omega)
  have s2 : small (((ls.take k).map encL).length + 1 + ((ls.drop (k + 1)).map encL).length) = true := small_of (by simp; omega)
  have s3 : small (((ls.take k).map encL).length + ((ls.drop (k + 1)).map encL).length) = true := small_of (by simp; omega)
  have h1 : small 1 = true := rfl
  have h2 : small 2 = true := rfl
  have h3 : small 3 = true := rfl
  unfold lessL
  generalize ls.getD k (0, 0, 0) = z at *
  have c3 : cut [PyData.int z.1, .int z.2.1, .int z.2.2] (some 2) none = [.int z.2.2] := rfl
  by_cases h : z.2.1 = 1
  · rw [if_pos h, List.map_append]
    generalize (ls.take k).map encL = d1 at *
    generalize (ls.drop (k + 1)).map encL = d2 at *
    generalize ls.map encL = ld at *
    obtain ⟨za, zc, zu⟩ := z
    dsimp only at h
    subst h
    have i1 : atI [PyData.int za, .int 1, .int zu] 1 = some (.int 1) := rfl
    simp [g_less_one, a1, encL, i1, oEQ, c1, c2, s3]
  · rw [if_neg h]
    have em : (ls.take k ++ [(z.1, z.2.1 - 1, z.2.2)] ++ ls.drop (k + 1)).map encL = (ls.take k).map encL ++ (.tuple [.int z.1, .int (z.2.1 - 1), .int z.2.2] :: (ls.drop (k + 1)).map encL) := by
      rw [List.map_append, List.map_append, List.append_assoc]; rfl
    rw [em]
    generalize (ls.take k).map encL = d1 at *
    generalize (ls.drop (k + 1)).map encL = d2 at *
    generalize ls.map encL = ld at *
    simp [g_less_one, a1, encL, encL_ix0, encL_ix1, oEQ, h, c1, c2, c3, s1, s2, h1, h2, h3, mkT, mkL]
theorem F_less_oneO_eq (ls : List Ot) (k : Nat) (hk : k < ls.length) (hn : ls.length ≤ 1000) : F_less_one [.list (ls.map encO), .int (k : Int)] = .ok (.ow ((lessO ls k).map encO)) := by
  show toOut (g_less_one [.fz (.list (ls.map encO)), .fz (.int (k : Int)), .un]) = _
  have a1 := at_out hk
  have c1 : cut (ls.map encO) none (some (k : Int)) = (ls.take k).map encO := by rw [cut_take, List.map_take]
  have c2 : cut (ls.map encO) (some ((k : Int) + 1)) none = (ls.drop (k + 1)).map encO := by rw [cut_dropS, List.map_drop]
  have s1 : small (((ls.take k).map encO).length + 1) = true := small_of (by simp; omega)
  have s2 : small (((ls.take k).map encO).length + 1 + ((ls.drop (k + 1)).map encO).length) = true := small_of (by simp; omega)
  have s3 : small (((ls.take k).map encO).length + ((ls.drop (k + 1)).map encO).length) = true := small_of (by simp; omega)
  have h1 : small 1 = true := rfl
  have h2 : small 2 = true := rfl
  unfold lessO
  generalize otO ls k = z at *
  have c3 : cut [PyData.int z.1, .int z.2] (some 2) none = [] := rfl
  by_cases h : z.2 = 1
  · rw [if_pos h, List.map_append]
    generalize (ls.take k).map encO = d1 at *
    generalize (ls.drop (k + 1)).map encO = d2 at *
    generalize ls.map encO = ld at *
    obtain ⟨za, zc⟩ := z
    dsimp only at h
    subst h
    simp [g_less_one, a1, encO, two_ix1, oEQ, c1, c2, s3]
  · rw [if_neg h]
    have em : (ls.take k ++ [(z.1, z.2 - 1)] ++ ls.drop (k + 1)).map encO = (ls.take k).map encO ++ (.tuple [.int z.1, .int (z.2 - 1)] :: (ls.drop (k + 1)).map encO) := by
      rw [List.map_append, List.map_append, List.append_assoc]; rfl
    rw [em]
    generalize (ls.take k).map encO = d1 at *
    generalize (ls.drop (k + 1)).map encO = d2 at *
    generalize ls.map encO = ld at *
    simp [g_less_one, a1, encO, two_ix0, two_ix1, oEQ, h, c1, c2, c3, s1, s2, h1, h2, mkT, mkL]
theorem F_l_less_oneL_eq (ls : List Lot) (k : Nat) (hk : k < ls.length) (hn : ls.length ≤ 1000) : F_l_less_one [.list (ls.map encL), .int (k : Int)] = .ok (.ow ((lessL ls k).map encL)) := F_less_oneL_eq ls k hk hn
theorem F_l_less_oneO_eq (ls : List Ot) (k : Nat) (hk : k < ls.length) (hn : ls.length ≤ 1000) : F_l_less_one [.list (ls.map encO), .int (k : Int)] = .ok (.ow ((lessO ls k).map encO)) := F_less_oneO_eq ls k hk hn
theorem lessL_len (ls : List Lot) (k : Nat) (hk : k < ls.length) : (lessL ls k).length ≤ ls.length := by
  unfold lessL
  split <;> simp <;> omega
theorem lessO_len (ls : List Ot) (k : Nat) (hk : k < ls.length) : (lessO ls k).length ≤ ls.length := by
  unfold lessO
  split <;> simp <;> omega
theorem lessL_good {ls : List Lot} {k : Nat} (hk : k < ls.length) (hg : ∀ l ∈ ls, GoodL l) : ∀ l ∈ lessL ls k, GoodL l := by
  intro l hl
  have gk := hg _ (List.mem_of_getElem? (i := k) (show ls[k]? = some (ls.getD k (0, 0, 0)) by simp [hk]))
  unfold lessL at hl
  split at hl
  · rcases List.mem_append.mp hl with z | z
    · exact hg l (List.mem_of_mem_take z)
    · exact hg l (List.mem_of_mem_drop z)
  · rename_i hne
    rcases List.mem_append.mp hl with z | z
    · rcases List.mem_append.mp z with z | z
      · exact hg l (List.mem_of_mem_take z)
      · rw [List.mem_singleton.mp z]
        have := gk.c1
        have := gk.c2
        exact ⟨gk.d1, gk.d2, by dsimp only; omega, by dsimp only; omega, gk.u1, gk.u2⟩
    · exact hg l (List.mem_of_mem_drop z)
theorem lessO_good {os : List Ot} {k : Nat} (hk : k < os.length) (hg : ∀ o ∈ os, GoodO o) : ∀ o ∈ lessO os k, GoodO o := by
  intro l hl
  have gk := hg _ (List.mem_of_getElem? (i := k) (show os[k]? = some (otO os k) by simp [hk]))
  unfold lessO at hl
  split at hl
  · rcases List.mem_append.mp hl with z | z
    · exact hg l (List.mem_of_mem_take z)
    · exact hg l (List.mem_of_mem_drop z)
  · rename_i hne
    rcases List.mem_append.mp hl with z | z
    · rcases List.mem_append.mp z with z | z
      · exact hg l (List.mem_of_mem_take z)
      · rw [List.mem_singleton.mp z]
        have := gk.c1
        have := gk.c2
        exact ⟨gk.d1, gk.d2, by dsimp only; omega, by dsimp only; omega⟩
    · exact hg l (List.mem_of_mem_drop z)
theorem F_lot_less_eq (ls : List Lot) (os : List Ot) (t k : Int) : F_lot_less [.list (ls.map encL), .list (os.map encO), .int t, .int k] = oE (err3 ls os t) (if 0 ≤ k ∧ k < ls.length then .ok (.fz (.int (topV ls os t - topV (lessL ls k.toNat) os t))) else .exc "NoPlace") := by
  show toOut (g_lot_less [.fz (.list (ls.map encL)), .fz (.list (os.map encO)), .fz (.int t), .fz (.int k), .un, .un]) = _
  rcases heads (ls := ls) (os := os) (t := t) with ⟨c, e, h⟩ | ⟨e, f1, f2, f3⟩
  · rw [e]
    rcases h with h | ⟨h1, h2⟩ | ⟨h1, h2, h3⟩
    · simp [g_lot_less, h, oE]
    · simp [g_lot_less, h1, h2, oE]
    · simp [g_lot_less, h1, h2, h3, oE]
  · rw [e]
    obtain ⟨e1, e2, e3⟩ := err3_none e
    have n1 := errLs_len e1
    have n2 := errOs_len e2
    have f6 := F_need_place_eq (ls.map encL) k
    rw [List.length_map] at f6
    by_cases h1 : 0 ≤ k ∧ k < ls.length
    · have hk : k.toNat < ls.length := by omega
      have f7 := F_less_oneL_eq ls k.toNat hk (by omega)
      rw [show ((k.toNat : Nat) : Int) = k by omega] at f7
      have f4 := F_top_eq (ls := ls) (os := os) (t := t) (by omega) (by omega) (good_errLs e1)
      have f5 := F_top_eq (ls := lessL ls k.toNat) (os := os) (t := t) (by have := lessL_len ls _ hk; omega) (by omega) (lessL_good hk (good_errLs e1))
      rw [if_pos h1] at f6 ⊢
      generalize topV (lessL ls k.toNat) os t = v1 at *
      generalize (lessL ls k.toNat).map encL = l2 at *
      generalize topV ls os t = v2 at *
      simp [g_lot_less, f1, f2, f3, f4, f5, f6, f7, oE]
    · rw [if_neg h1] at f6 ⊢
      simp [g_lot_less, f1, f2, f3, f6, oE]
theorem F_out_less_eq (ls : List Lot) (os : List Ot) (t k : Int) : F_out_less [.list (ls.map encL), .list (os.map encO), .int t, .int k] = oE (err3 ls os t) (if 0 ≤ k ∧ k < os.length then .ok (.fz (.int (topV ls os t - topV ls (lessO os k.toNat) t))) else .exc "NoPlace") := by
  show toOut (g_out_less [.fz (.list (ls.map encL)), .fz (.list (os.map encO)), .fz (.int t), .fz (.int k), .un, .un]) = _
  rcases heads (ls := ls) (os := os) (t := t) with ⟨c, e, h⟩ | ⟨e, f1, f2, f3⟩
  · rw [e]
    rcases h with h | ⟨h1, h2⟩ | ⟨h1, h2, h3⟩
    · simp [g_out_less, h, oE]
    · simp [g_out_less, h1, h2, oE]
    · simp [g_out_less, h1, h2, h3, oE]
  · rw [e]
    obtain ⟨e1, e2, e3⟩ := err3_none e
    have n1 := errLs_len e1
    have n2 := errOs_len e2
    have f6 := F_need_place_eq (os.map encO) k
    rw [List.length_map] at f6
    by_cases h1 : 0 ≤ k ∧ k < os.length
    · have hk : k.toNat < os.length := by omega
      have f7 := F_less_oneO_eq os k.toNat hk (by omega)
      rw [show ((k.toNat : Nat) : Int) = k by omega] at f7
      have f4 := F_top_eq (ls := ls) (os := os) (t := t) (by omega) (by omega) (good_errLs e1)
      have f5 := F_top_eq (ls := ls) (os := lessO os k.toNat) (t := t) (by omega) (by have := lessO_len os _ hk; omega) (good_errLs e1)
      rw [if_pos h1] at f6 ⊢
      generalize topV ls (lessO os k.toNat) t = v1 at *
      generalize (lessO os k.toNat).map encO = l2 at *
      generalize topV ls os t = v2 at *
      simp [g_out_less, f1, f2, f3, f4, f5, f6, f7, oE]
    · rw [if_neg h1] at f6 ⊢
      simp [g_out_less, f1, f2, f3, f6, oE]
end Mm

namespace Mm
open PySem L2 Fx
variable [Tabz]
/-! ### sureties -/
def errP (p : Ot) : Option Str := if p.1 < 1 ∨ 999 < p.1 then some "BadDay" else if p.2 < 1 then some "BadCount" else none
def errPs (ps : List Ot) : Option Str := if 60 < ps.length then some "BadRows" else ps.findSome? errP
theorem paid_turn (x : Sl) (l : Ot) : b_checked_paid_1 [x, .fz (.int l.1), .fz (.int l.2)] = match errP l with
    | some c => .exc c [x, .fz (.int l.1), .fz (.int l.2)]
    | none => .nx [x, .fz (.int l.1), .fz (.int l.2)] := by
  unfold errP
  by_cases h1 : l.1 < 1 ∨ 999 < l.1
  · simp [b_checked_paid_1, F_need_day_eq, h1]
  · by_cases h2 : l.2 < 1
    · simp [b_checked_paid_1, F_need_day_eq, h1, h2]
    · simp [b_checked_paid_1, F_need_day_eq, h1, h2]
theorem paid_loop (x : Sl) : ∀ (ls : List Ot) (a b : Sl), (∃ a' b', forE (gTp (gsCons (gSet 1) (gsCons (gSet 2) gsNil))) b_checked_paid_1 (ls.map encO) [x, a, b] = match ls.findSome? errP with
    | some c => .exc c [x, a', b']
    | none => .nx [x, a', b'])
  | [], a, b => ⟨a, b, rfl⟩
  | l :: ls, a, b => by
    rw [List.map_cons]
    unfold forE
    have e : gTp (gsCons (gSet 1) (gsCons (gSet 2) gsNil)) (encO l) [x, a, b] = some [x, .fz (.int l.1), .fz (.int l.2)] := rfl
    simp only [e, paid_turn, List.findSome?_cons]
    cases h : errP l with
    | some c => exact ⟨_, _, rfl⟩
    | none => exact paid_loop x ls (.fz (.int l.1)) (.fz (.int l.2))
theorem F_checked_paid_eq (ls : List Ot) : F_checked_paid [.list (ls.map encO)] = outE (errPs ls) (.ow (ls.map encO)) := by
  show toOut (g_checked_paid [.fz (.list (ls.map encO)), .un, .un]) = _
  unfold errPs
  by_cases h : 60 < ls.length
  · have h' : (60 : Int) < (ls.length : Int) := by omega
    rw [if_pos h]
    simp [g_checked_paid, h', outE, h]
  · have h' : ¬ (60 : Int) < (ls.length : Int) := by omega
    rw [if_neg h]
    obtain ⟨a, b, q⟩ := paid_loop (.fz (.list (ls.map encO))) ls .un .un
    cases hf : ls.findSome? errP with
    | some c =>
      rw [hf] at q
      simp [g_checked_paid, h', sFor, q, outE, h]
    | none =>
      rw [hf] at q
      simp [g_checked_paid, h', sFor, q, outE, h]
def heldL (ps : List Ot) (w d : Int) : List Int := (ps.filter fun p => decide (d - w ≤ p.1 ∧ p.1 ≤ d)).map fun p => p.2
def held (ps : List Ot) (w d : Int) : Int := (heldL ps w d).sum
theorem F_held_on_eq (ps : List Ot) (w d : Int) (hl : ps.length ≤ 1000) : F_held_on [.list (ps.map encO), .int w, .int d] = .ok (.fz (.int (held ps w d))) := by
  show toOut (g_held_on [.fz (.list (ps.map encO)), .fz (.int w), .fz (.int d), .un, .un]) = _
  have q : q_held_on_1 [.fz (.list (ps.map encO)), .fz (.int w), .fz (.int d), .un, .un] = .ok (dI (heldL ps w d), [.fz (.list (ps.map encO)), .fz (.int w), .fz (.int d), .un, .un]) := by
    unfold q_held_on_1 heldL
    rw [lc_if ps encO (fun p => decide (d - w ≤ p.1 ∧ p.1 ≤ d)) (fun p => PyData.int p.2) (ρ := [.fz (.list (ps.map encO)), .fz (.int w), .fz (.int d), .un, .un]) (by simp) (by omega) fun p _ => ⟨[.fz (.list (ps.map encO)), .fz (.int w), .fz (.int d), .fz (.int p.1), .fz (.int p.2)], rfl, [.fz (.list (ps.map encO)), .fz (.int w), .fz (.int d), .fz (.int p.1), .fz (.int p.2)], ?_, fun _ => ⟨[.fz (.list (ps.map encO)), .fz (.int w), .fz (.int d), .fz (.int p.1), .fz (.int p.2)], by simp, rfl⟩, fun _ => rfl⟩]
    · simp
    · by_cases h1 : d - w ≤ p.1 <;> by_cases h2 : p.1 ≤ d <;> simp [h1, h2]
  unfold held
  generalize heldL ps w d = zs at q ⊢
  simp [g_held_on, q, asInts_map]
def ghF (ps : List Ot) (w : Int) : List Int → Int × Int → Int × Int
  | [], p => p
  | d :: r, p => ghF ps w r (if held ps w d > p.1 then (held ps w d, d) else p)
def gh (ps : List Ot) (w : Int) : Int × Int := ghF ps w (sortU (ps.map (·.1))) (0, 0)
theorem gh_loop (ps : List Ot) (w : Int) (hl : ps.length ≤ 1000) (s4 : Sl) : ∀ (ds : List Int) (p : Int × Int) (s3 s5 : Sl), ∃ s3' s5',
    forE (gSet 3) b_greatest_held_1 (dI ds) [.fz (.list (ps.map encO)), .fz (.int w), .fz (encP p), s3, s4, s5] = .nx [.fz (.list (ps.map encO)), .fz (.int w), .fz (encP (ghF ps w ds p)), s3', s4, s5']
  | [], p, s3, s5 => ⟨s3, s5, rfl⟩
  | d :: r, p, s3, s5 => by
    unfold dI
    rw [List.map_cons]
    unfold forE
    have e : gSet 3 (.int d) [.fz (.list (ps.map encO)), .fz (.int w), .fz (encP p), s3, s4, s5] = some [.fz (.list (ps.map encO)), .fz (.int w), .fz (encP p), .fz (.int d), s4, s5] := rfl
    have f := F_held_on_eq ps w d hl
    have t : b_greatest_held_1 [.fz (.list (ps.map encO)), .fz (.int w), .fz (encP p), .fz (.int d), s4, s5] = .nx [.fz (.list (ps.map encO)), .fz (.int w), .fz (encP (if held ps w d > p.1 then (held ps w d, d) else p)), .fz (.int d), s4, .fz (.int (held ps w d))] := by
      generalize held ps w d = hd at *
      by_cases h : p.1 < hd
      · have h2 : hd > p.1 := h
        simp [b_greatest_held_1, f, encP, two_ix0, h, mkT, small]
      · have h2 : ¬ hd > p.1 := h
        simp [b_greatest_held_1, f, encP, two_ix0, h]
    simp only [e, t]
    unfold ghF
    exact gh_loop ps w hl s4 r _ _ _
theorem F_greatest_held_eq (ps : List Ot) (w : Int) (hl : ps.length < 64) : F_greatest_held [.list (ps.map encO), .int w] = .ok (.fz (encP (gh ps w))) := by
  show toOut (g_greatest_held [.fz (.list (ps.map encO)), .fz (.int w), .un, .un, .un, .un]) = _
  have q : q_greatest_held_1 [.fz (.list (ps.map encO)), .fz (.int w), .fz (encP (0, 0)), .un, .un, .un] = .ok (dI (ps.map (·.1)), [.fz (.list (ps.map encO)), .fz (.int w), .fz (encP (0, 0)), .un, .un, .un]) := by
    unfold q_greatest_held_1
    rw [lc_all ps encO (fun p => PyData.int p.1) (ρ := [.fz (.list (ps.map encO)), .fz (.int w), .fz (encP (0, 0)), .un, .un, .un]) (by simp) (by omega) fun p _ => ⟨[.fz (.list (ps.map encO)), .fz (.int w), .fz (encP (0, 0)), .un, .fz (encO p), .un], rfl, [.fz (.list (ps.map encO)), .fz (.int w), .fz (encP (0, 0)), .un, .fz (encO p), .un], by simp [encO, two_ix0], rfl⟩]
    simp
  have hl2 : (ps.map (·.1)).length < 64 := by simpa using hl
  obtain ⟨s3, s5, lp⟩ := gh_loop ps w (by omega) .un (sortU (ps.map (·.1))) (0, 0) .un .un
  unfold gh
  generalize ghF ps w (sortU (ps.map (·.1))) (0, 0) = g at *
  have os : oSortU (.list (dI (ps.map (·.1)))) = some (dI (sortU (ps.map (·.1)))) := by
    simp only [oSortU, asInts_map, hl2, decide_true, if_true]
  generalize dI (sortU (ps.map (·.1))) = sd at *
  generalize dI (ps.map (·.1)) = dd at *
  have e0 : encP ((0 : Int), (0 : Int)) = .tuple [.int 0, .int 0] := rfl
  rw [e0] at q lp
  simp [g_greatest_held, mkT, small, q, os, sFor, lp, -oSortU]
def errT (t : Int) : Option Str := if t < 0 ∨ 400 < t then some "BadTerm" else none
theorem F_surety_eq (ps : List Ot) (w : Int) : F_surety [.list (ps.map encO), .int w] = oE (errPs ps) (oE (errT w) (.ok (.fz (encP (gh ps w))))) := by
  show toOut (g_surety [.fz (.list (ps.map encO)), .fz (.int w), .un]) = _
  have f1 := F_checked_paid_eq ps
  cases e : errPs ps with
  | some c => rw [e] at f1; simp [g_surety, f1, outE, oE]
  | none =>
    rw [e] at f1
    have hl : ps.length ≤ 60 := by
      unfold errPs at e
      by_cases h : 60 < ps.length
      · rw [if_pos h] at e; cases e
      · omega
    have f2 := F_greatest_held_eq ps w (by omega)
    generalize encP (gh ps w) = z at *
    by_cases h : w < 0 ∨ 400 < w
    · simp [g_surety, f1, outE, oE, F_need_term_eq, errT, h]
    · simp [g_surety, f1, outE, oE, F_need_term_eq, errT, h, f2]
theorem F_vouched_eq (ps : List Ot) (w d : Int) : F_vouched [.list (ps.map encO), .int w, .int d] = oE (errPs ps) (oE (errT w) (oE (errD d) (.ok (.fz (.int (held ps w d)))))) := by
  show toOut (g_vouched [.fz (.list (ps.map encO)), .fz (.int w), .fz (.int d), .un]) = _
  have f1 := F_checked_paid_eq ps
  cases e : errPs ps with
  | some c => rw [e] at f1; simp [g_vouched, f1, outE, oE]
  | none =>
    rw [e] at f1
    have hl : ps.length ≤ 60 := by
      unfold errPs at e
      by_cases h : 60 < ps.length
      · rw [if_pos h] at e; cases e
      · omega
    have f2 := F_held_on_eq ps w d (by omega)
    by_cases h : w < 0 ∨ 400 < w
    · simp [g_vouched, f1, outE, oE, F_need_term_eq, errT, h]
    · by_cases h2 : d < 1 ∨ 999 < d
      · simp [g_vouched, f1, outE, oE, F_need_term_eq, errT, h, F_need_day_eq, errD, h2]
      · simp [g_vouched, f1, outE, oE, F_need_term_eq, errT, h, F_need_day_eq, errD, h2, f2]
end Mm

namespace Mm
open PySem L2 Fx
variable [Tabz]
/-! ### rows that are refused, told by the laws -/
theorem n3_0 : atI [PyData.str "BadDay", .str "BadCount", .str "BadDuty"] 0 = some (.str "BadDay") := rfl
theorem n3_1 : atI [PyData.str "BadDay", .str "BadCount", .str "BadDuty"] 1 = some (.str "BadCount") := rfl
theorem n3_2 : atI [PyData.str "BadDay", .str "BadCount", .str "BadDuty"] 2 = some (.str "BadDuty") := rfl
theorem rf_one (s0 : Sl) (ds : List PyData) (k x m : Int) (c : Str) (hx : atI ds k = some (.int x)) (hc : atI [PyData.str "BadDay", .str "BadCount", .str "BadDuty"] k = some (.str c)) :
    b_l_row_fault_1 [s0, .fz (.tuple ds), .fz (.int k), .fz (.int m)] = if x < 1 ∨ m < x then .ret (.fz (.str c)) [s0, .fz (.tuple ds), .fz (.int k), .fz (.int m)] else .nx [s0, .fz (.tuple ds), .fz (.int k), .fz (.int m)] := by
  by_cases h1 : x < 1
  · simp [b_l_row_fault_1, hx, hc, h1, mkT, small]
  · by_cases h2 : m < x
    · simp [b_l_row_fault_1, hx, hc, h1, h2, mkT, small]
    · simp [b_l_row_fault_1, hx, h1, h2]
theorem c30 (a b c : PyData) : cut [a, b, c] none (some 3) = [a, b, c] := rfl
theorem c20 (a b c : PyData) : cut [a, b, c] none (some 2) = [a, b] := rfl
theorem rfL_turn (s0 s2 s3 : Sl) (l : Lot) : ∃ s2' s3', b_l_row_fault_2 [s0, .fz (encL l), s2, s3] = match errL l with
    | some c => .ret (.fz (.str c)) [s0, .fz (encL l), s2', s3']
    | none => .nx [s0, .fz (encL l), s2', s3'] := by
  have c10 : cPow 10 10 = true := by decide
  have c6 : cPow 10 6 = true := by decide
  have hit : fAB oEnum (fCons (fLst (fSl (.e (fLst (fLs (fCons (ret (.int 999)) (fCons (fOp oPow (.e (ret (.int 10))) (.e (ret (.int 10)))) (fCons (fOp oPow (.e (ret (.int 10))) (.e (ret (.int 6)))) fNil)))))) fNoP (fP (fCB oLen [(.v 1)])))) fNil) [s0, .fz (encL l), s2, s3] = .ok ([.tuple [.int 0, .int 999], .tuple [.int 1, .int 10000000000], .tuple [.int 2, .int 1000000]], [s0, .fz (encL l), s2, s3]) := by
    have en : oEnum [.list [PyData.int 999, .int 10000000000, .int 1000000]] = some [.tuple [.int 0, .int 999], .tuple [.int 1, .int 10000000000], .tuple [.int 2, .int 1000000]] := rfl
    simp [c10, c6, mkL, small, encL, c30, en]
  have g : ∀ (k m : Int) (a b : Sl), gTp (gsCons (gSet 2) (gsCons (gSet 3) gsNil)) (.tuple [.int k, .int m]) [s0, .fz (encL l), a, b] = some [s0, .fz (encL l), .fz (.int k), .fz (.int m)] := fun _ _ _ _ => rfl
  have r0 := rf_one s0 [.int l.1, .int l.2.1, .int l.2.2] 0 l.1 999 "BadDay" rfl n3_0
  have r1 := rf_one s0 [.int l.1, .int l.2.1, .int l.2.2] 1 l.2.1 10000000000 "BadCount" rfl n3_1
  have r2 := rf_one s0 [.int l.1, .int l.2.1, .int l.2.2] 2 l.2.2 1000000 "BadDuty" rfl n3_2
  unfold b_l_row_fault_2
  rw [sFor_eq hit]
  unfold errL
  have ee : encL l = .tuple [.int l.1, .int l.2.1, .int l.2.2] := rfl
  rw [← ee] at r0 r1 r2
  by_cases h0 : l.1 < 1 ∨ 999 < l.1
  · refine ⟨.fz (.int 0), .fz (.int 999), ?_⟩
    unfold forE
    rw [if_pos h0] at r0 ⊢
    simp only [g, r0]
  · rw [if_neg h0] at r0 ⊢
    by_cases h1 : l.2.1 < 1 ∨ 10000000000 < l.2.1
    · refine ⟨.fz (.int 1), .fz (.int 10000000000), ?_⟩
      rw [if_pos h1] at r1 ⊢
      unfold forE
      simp only [g, r0]
      unfold forE
      simp only [g, r1]
    · rw [if_neg h1] at r1 ⊢
      by_cases h2 : l.2.2 < 1 ∨ 1000000 < l.2.2
      · refine ⟨.fz (.int 2), .fz (.int 1000000), ?_⟩
        rw [if_pos h2] at r2 ⊢
        unfold forE
        simp only [g, r0]
        unfold forE
        simp only [g, r1]
        unfold forE
        simp only [g, r2]
      · refine ⟨.fz (.int 2), .fz (.int 1000000), ?_⟩
        rw [if_neg h2] at r2 ⊢
        unfold forE
        simp only [g, r0]
        unfold forE
        simp only [g, r1]
        unfold forE
        simp only [g, r2]
        unfold forE
        rfl
theorem rfO_turn (s0 s2 s3 : Sl) (l : Ot) : ∃ s2' s3', b_l_row_fault_2 [s0, .fz (encO l), s2, s3] = match errO l with
    | some c => .ret (.fz (.str c)) [s0, .fz (encO l), s2', s3']
    | none => .nx [s0, .fz (encO l), s2', s3'] := by
  have c10 : cPow 10 10 = true := by decide
  have c6 : cPow 10 6 = true := by decide
  have hit : fAB oEnum (fCons (fLst (fSl (.e (fLst (fLs (fCons (ret (.int 999)) (fCons (fOp oPow (.e (ret (.int 10))) (.e (ret (.int 10)))) (fCons (fOp oPow (.e (ret (.int 10))) (.e (ret (.int 6)))) fNil)))))) fNoP (fP (fCB oLen [(.v 1)])))) fNil) [s0, .fz (encO l), s2, s3] = .ok ([.tuple [.int 0, .int 999], .tuple [.int 1, .int 10000000000]], [s0, .fz (encO l), s2, s3]) := by
    have en : oEnum [.list [PyData.int 999, .int 10000000000]] = some [.tuple [.int 0, .int 999], .tuple [.int 1, .int 10000000000]] := rfl
    simp [c10, c6, mkL, small, encO, c20, en]
  have g : ∀ (k m : Int) (a b : Sl), gTp (gsCons (gSet 2) (gsCons (gSet 3) gsNil)) (.tuple [.int k, .int m]) [s0, .fz (encO l), a, b] = some [s0, .fz (encO l), .fz (.int k), .fz (.int m)] := fun _ _ _ _ => rfl
  have r0 := rf_one s0 [.int l.1, .int l.2] 0 l.1 999 "BadDay" rfl n3_0
  have r1 := rf_one s0 [.int l.1, .int l.2] 1 l.2 10000000000 "BadCount" rfl n3_1
  unfold b_l_row_fault_2
  rw [sFor_eq hit]
  unfold errO
  have ee : encO l = .tuple [.int l.1, .int l.2] := rfl
  rw [← ee] at r0 r1
  by_cases h0 : l.1 < 1 ∨ 999 < l.1
  · refine ⟨.fz (.int 0), .fz (.int 999), ?_⟩
    unfold forE
    rw [if_pos h0] at r0 ⊢
    simp only [g, r0]
  · rw [if_neg h0] at r0 ⊢
    by_cases h1 : l.2 < 1 ∨ 10000000000 < l.2
    · refine ⟨.fz (.int 1), .fz (.int 10000000000), ?_⟩
      rw [if_pos h1] at r1 ⊢
      unfold forE
      simp only [g, r0]
      unfold forE
      simp only [g, r1]
    · refine ⟨.fz (.int 1), .fz (.int 10000000000), ?_⟩
      rw [if_neg h1] at r1 ⊢
      unfold forE
      simp only [g, r0]
      unfold forE
      simp only [g, r1]
      unfold forE
      rfl
theorem rfL_loop (s0 : Sl) : ∀ (ls : List Lot) (a b c : Sl), ∃ a' b' c', forE (gSet 1) b_l_row_fault_2 (ls.map encL) [s0, a, b, c] = match ls.findSome? errL with
    | some e => .ret (.fz (.str e)) [s0, a', b', c']
    | none => .nx [s0, a', b', c']
  | [], a, b, c => ⟨a, b, c, rfl⟩
  | l :: ls, a, b, c => by
    rw [List.map_cons]
    unfold forE
    have e : gSet 1 (encL l) [s0, a, b, c] = some [s0, .fz (encL l), b, c] := rfl
    obtain ⟨b', c', t⟩ := rfL_turn s0 b c l
    simp only [e, t, List.findSome?_cons]
    cases h : errL l with
    | some x => exact ⟨_, _, _, rfl⟩
    | none => exact rfL_loop s0 ls (.fz (encL l)) b' c'
theorem rfO_loop (s0 : Sl) : ∀ (ls : List Ot) (a b c : Sl), ∃ a' b' c', forE (gSet 1) b_l_row_fault_2 (ls.map encO) [s0, a, b, c] = match ls.findSome? errO with
    | some e => .ret (.fz (.str e)) [s0, a', b', c']
    | none => .nx [s0, a', b', c']
  | [], a, b, c => ⟨a, b, c, rfl⟩
  | l :: ls, a, b, c => by
    rw [List.map_cons]
    unfold forE
    have e : gSet 1 (encO l) [s0, a, b, c] = some [s0, .fz (encO l), b, c] := rfl
    obtain ⟨b', c', t⟩ := rfO_turn s0 b c l
    simp only [e, t, List.findSome?_cons]
    cases h : errO l with
    | some x => exact ⟨_, _, _, rfl⟩
    | none => exact rfO_loop s0 ls (.fz (encO l)) b' c'
theorem F_l_row_faultL_eq (ls : List Lot) : F_l_row_fault [.list (ls.map encL)] = .ok (.fz (.str ((errLs ls).getD ""))) := by
  show toOut (g_l_row_fault [.fz (.list (ls.map encL)), .un, .un, .un]) = _
  unfold errLs
  by_cases h : 30 < ls.length
  · have h' : (30 : Int) < (ls.length : Int) := by omega
    rw [if_pos h]
    simp [g_l_row_fault, h']
  · have h' : ¬ (30 : Int) < (ls.length : Int) := by omega
    rw [if_neg h]
    obtain ⟨a, b, c, q⟩ := rfL_loop (.fz (.list (ls.map encL))) ls .un .un .un
    cases hf : ls.findSome? errL with
    | some c => rw [hf] at q; simp [g_l_row_fault, h', sFor, q]
    | none => rw [hf] at q; simp [g_l_row_fault, h', sFor, q]
theorem F_l_row_faultO_eq (ls : List Ot) : F_l_row_fault [.list (ls.map encO)] = .ok (.fz (.str ((errOs ls).getD ""))) := by
  show toOut (g_l_row_fault [.fz (.list (ls.map encO)), .un, .un, .un]) = _
  unfold errOs
  by_cases h : 30 < ls.length
  · have h' : (30 : Int) < (ls.length : Int) := by omega
    rw [if_pos h]
    simp [g_l_row_fault, h']
  · have h' : ¬ (30 : Int) < (ls.length : Int) := by omega
    rw [if_neg h]
    obtain ⟨a, b, c, q⟩ := rfO_loop (.fz (.list (ls.map encO))) ls .un .un .un
    cases hf : ls.findSome? errO with
    | some c => rw [hf] at q; simp [g_l_row_fault, h', sFor, q]
    | none => rw [hf] at q; simp [g_l_row_fault, h', sFor, q]
/-- the names of refusals are no empty texts -/
theorem errL_ne {l : Lot} {c : Str} (h : errL l = some c) : c = "BadDay" ∨ c = "BadCount" ∨ c = "BadDuty" := by
  unfold errL at h
  split at h
  · cases h; exact .inl rfl
  · split at h
    · cases h; exact .inr (.inl rfl)
    · split at h
      · cases h; exact .inr (.inr rfl)
      · cases h
theorem errO_ne {l : Ot} {c : Str} (h : errO l = some c) : c = "BadDay" ∨ c = "BadCount" ∨ c = "BadDuty" := by
  unfold errO at h
  split at h
  · cases h; exact .inl rfl
  · split at h
    · cases h; exact .inr (.inl rfl)
    · cases h
theorem errLs_ne {ls : List Lot} {c : Str} (h : errLs ls = some c) : c = "BadRows" ∨ c = "BadDay" ∨ c = "BadCount" ∨ c = "BadDuty" := by
  unfold errLs at h
  split at h
  · cases h; exact .inl rfl
  · obtain ⟨p, _, e⟩ := List.exists_of_findSome?_eq_some h
    exact .inr (errL_ne e)
theorem errOs_ne {ls : List Ot} {c : Str} (h : errOs ls = some c) : c = "BadRows" ∨ c = "BadDay" ∨ c = "BadCount" ∨ c = "BadDuty" := by
  unfold errOs at h
  split at h
  · cases h; exact .inl rfl
  · obtain ⟨p, _, e⟩ := List.exists_of_findSome?_eq_some h
    exact .inr (errO_ne e)
theorem ne4 {c : Str} (h : c = "BadRows" ∨ c = "BadDay" ∨ c = "BadCount" ∨ c = "BadDuty") : c ≠ "" := by
  rcases h with rfl | rfl | rfl | rfl <;> decide
theorem F_l_fault_eq (ls : List Lot) (os : List Ot) (t : Int) : F_l_fault [.list (ls.map encL), .list (os.map encO), .int t] = .ok (.fz (.str ((err3 ls os t).getD ""))) := by
  show toOut (g_l_fault [.fz (.list (ls.map encL)), .fz (.list (os.map encO)), .fz (.int t)]) = _
  have f1 := F_l_row_faultL_eq ls
  have f2 := F_l_row_faultO_eq os
  unfold err3
  cases h1 : errLs ls with
  | some c =>
    have hn := ne4 (errLs_ne h1)
    rw [h1] at f1
    simp only [Option.getD_some] at f1
    simp [g_l_fault, f1, oNE, hn]
  | none =>
    rw [h1] at f1
    simp only [Option.getD_none] at f1
    cases h2 : errOs os with
    | some c =>
      have hn := ne4 (errOs_ne h2)
      rw [h2] at f2
      simp only [Option.getD_some] at f2
      simp [g_l_fault, f1, f2, oNE, hn]
    | none =>
      rw [h2] at f2
      simp only [Option.getD_none] at f2
      by_cases h3 : t < 0
      · simp [g_l_fault, f1, f2, oNE, h3]
      · by_cases h4 : 400 < t
        · simp [g_l_fault, f1, f2, oNE, h3, h4]
        · simp [g_l_fault, f1, f2, oNE, h3, h4]
def err2 (os : List Ot) (t : Int) : Option Str := match errOs os with
  | some c => some c
  | none => if t < 0 ∨ 400 < t then some "BadTerm" else none
theorem F_l_faultN_eq (os : List Ot) (t : Int) : F_l_fault [.none, .list (os.map encO), .int t] = .ok (.fz (.str ((err2 os t).getD ""))) := by
  show toOut (g_l_fault [.fz .none, .fz (.list (os.map encO)), .fz (.int t)]) = _
  have f2 := F_l_row_faultO_eq os
  unfold err2
  cases h2 : errOs os with
  | some c =>
    have hn := ne4 (errOs_ne h2)
    rw [h2] at f2
    simp only [Option.getD_some] at f2
    simp [g_l_fault, f2, oNE, hn]
  | none =>
    rw [h2] at f2
    simp only [Option.getD_none] at f2
    by_cases h3 : t < 0
    · simp [g_l_fault, f2, oNE, h3]
    · by_cases h4 : 400 < t
      · simp [g_l_fault, f2, oNE, h3, h4]
      · simp [g_l_fault, f2, oNE, h3, h4]
end Mm

namespace Mm
open PySem L2 Fx
variable [Tabz]
/-! ### spoilt cases -/
theorem c31 {α : Type} (xs : List α) : cut xs none (some 31) = xs.take 31 := cut_take xs 31
theorem c3w (a b c : PyData) : cut [a, b, c] none (some 3) = [a, b, c] := rfl
theorem spoiltL_ok {io : List PyData} {ls : List Lot} (hd : Dw io) (hl : ls.length ≤ 30) : ∃ (r : Rt) (ls' : List Lot) (io' : List PyData), F_l_spoilt io [.list (ls.map encL), .int 3] = .ok (r, io') ∧ rtD r = .list (ls'.map encL) ∧ Dw io' ∧ ls'.length ≤ 31 := by
  show ∃ (r : Rt) (ls' : List Lot) (io' : List PyData), toOutI (g_l_spoilt [.ow io, .fz (.list (ls.map encL)), .fz (.int 3), .un, .un, .un]) = _ ∧ _
  obtain ⟨r1, io1, p1, d1, a1, b1⟩ := pick_ok (m := 7) hd (by decide) (by decide)
  have h1s : small 1 = true := rfl
  have h2s : small 2 = true := rfl
  have h3s : small 3 = true := rfl
  have h0s : small 0 = true := rfl
  by_cases h1 : r1 = 1
  · have hr : oRep (.list [PyData.tuple [.int 9, .int 1, .int 1]]) (.int 31) = some ((List.replicate 31 ((9, 1, 1) : Lot)).map encL) := by
      simp [oRep, small, encL, List.replicate]
    have s1 : small ((ls.map encL).length + ((List.replicate 31 ((9, 1, 1) : Lot)).map encL).length) = true := small_of (by simp; omega)
    have e : (ls.map encL ++ (List.replicate 31 ((9, 1, 1) : Lot)).map encL).take 31 = ((ls ++ List.replicate 31 ((9, 1, 1) : Lot)).take 31).map encL := by rw [← List.map_append, List.map_take]
    refine ⟨.ow (((ls ++ List.replicate 31 ((9, 1, 1) : Lot)).take 31).map encL), _, io1, ?_, rfl, d1, by rw [List.length_take]; omega⟩
    rw [← e]
    generalize (List.replicate 31 ((9, 1, 1) : Lot)).map encL = r at *
    generalize ls.map encL = ld at *
    simp [g_l_spoilt, p1, h1, oEQ, mkT, mkL, h1s, h3s, c3w, hr, s1, c31]
  · have en := oEQ_nil (n := 4) (ds := ls.map encL) (by decide) (gi_encL 1 ls)
    cases ls with
    | nil =>
      refine ⟨.fz (.list (([] : List Lot).map encL)), [], io1, ?_, rfl, d1, by simp⟩
      have e0 : (([] : List Lot).map encL).isEmpty = true := rfl
      rw [e0] at en
      generalize ([] : List Lot).map encL = ld at *
      have e1 : oEQ (.int r1) (.int 1) = some (.bool false) := by simp [oEQ, h1]
      simp [g_l_spoilt, p1, e1, mkL, h0s, en]
    | cons l0 ls0 =>
      have e0 : ((l0 :: ls0).map encL).isEmpty = false := rfl
      rw [e0] at en
      generalize hls : l0 :: ls0 = ls at *
      have hne : 0 < ls.length := by rw [← hls]; simp
      have e1 : oEQ (.int r1) (.int 1) = some (.bool false) := by simp [oEQ, h1]
      obtain ⟨r2, io2, p2, d2, a2, b2⟩ := pick_ok (m := 2) d1 (by decide) (by decide)
      by_cases h2 : r2 = 0
      · have e2 : oEQ (.int r2) (.int 0) = some (.bool true) := by simp [oEQ, h2]
        refine ⟨.fz (.list (ls.map encL)), ls, io2, ?_, rfl, d2, by omega⟩
        generalize ls.map encL = ld at *
        simp [g_l_spoilt, p1, e1, mkL, h0s, en, p2, e2]
      · have e2 : oEQ (.int r2) (.int 0) = some (.bool false) := by simp [oEQ, h2]
        obtain ⟨r3, io3, p3, d3, a3, b3⟩ := pick_ok (m := (ls.length : Int)) d2 (by omega) (by omega)
        obtain ⟨k, rfl⟩ : ∃ k : Nat, r3 = (k : Int) := ⟨r3.toNat, by omega⟩
        have hk : k < ls.length := by omega
        obtain ⟨r4, io4, p4, d4, a4, b4⟩ := pick_ok (m := 3) d3 (by decide) (by decide)
        obtain ⟨x, io5, p5, d5, _, _⟩ := odd_ok d4
        have ax := at_lot hk
        have q1 : cut (ls.map encL) none (some (k : Int)) = (ls.take k).map encL := by rw [cut_take, List.map_take]
        have q2 : cut (ls.map encL) (some ((k : Int) + 1)) none = (ls.drop (k + 1)).map encL := by rw [cut_dropS, List.map_drop]
        have s1 : small (((ls.take k).map encL).length + 1) = true := small_of (by simp; omega)
        have s2 : small (((ls.take k).map encL).length + 1 + ((ls.drop (k + 1)).map encL).length) = true := small_of (by simp; omega)
        have hlen : (ls.map encL).length = ls.length := by simp
        have fin : ∀ l' : Lot, (ls.take k).map encL ++ (encL l' :: (ls.drop (k + 1)).map encL) = (ls.take k ++ l' :: ls.drop (k + 1)).map encL := fun l' => by simp
        have hll : ∀ l' : Lot, (ls.take k ++ l' :: ls.drop (k + 1)).length ≤ 31 := fun l' => by simp; omega
        have hr4 : r4 = 0 ∨ r4 = 1 ∨ r4 = 2 := by omega
        have u0 : ∀ a b c : PyData, cut [a, b, c] none (some 0) = [] := fun _ _ _ => rfl
        have u1 : ∀ a b c : PyData, cut [a, b, c] none (some 1) = [a] := fun _ _ _ => rfl
        have u2 : ∀ a b c : PyData, cut [a, b, c] none (some 2) = [a, b] := fun _ _ _ => rfl
        have v1 : ∀ a b c : PyData, cut [a, b, c] (some 1) none = [b, c] := fun _ _ _ => rfl
        have v2 : ∀ a b c : PyData, cut [a, b, c] (some 2) none = [c] := fun _ _ _ => rfl
        have v3 : ∀ a b c : PyData, cut [a, b, c] (some 3) none = [] := fun _ _ _ => rfl
        generalize ls.getD k (0, 0, 0) = z at *
        rcases hr4 with rfl | rfl | rfl
        · refine ⟨.ow ((ls.take k ++ (x, z.2.1, z.2.2) :: ls.drop (k + 1)).map encL), _, io5, ?_, rfl, d5, hll _⟩
          rw [← fin]
          generalize (ls.take k).map encL = t1 at *
          generalize (ls.drop (k + 1)).map encL = t2 at *
          generalize ls.map encL = ld at *
          simp [g_l_spoilt, p1, e1, mkL, mkT, h0s, h1s, h2s, h3s, en, p2, e2, hlen, p3, ax, encL, p4, p5, u0, v1, q1, q2, s1, s2]
        · refine ⟨.ow ((ls.take k ++ (z.1, x, z.2.2) :: ls.drop (k + 1)).map encL), _, io5, ?_, rfl, d5, hll _⟩
          rw [← fin]
          generalize (ls.take k).map encL = t1 at *
          generalize (ls.drop (k + 1)).map encL = t2 at *
          generalize ls.map encL = ld at *
          simp [g_l_spoilt, p1, e1, mkL, mkT, h0s, h1s, h2s, h3s, en, p2, e2, hlen, p3, ax, encL, p4, p5, u1, v2, q1, q2, s1, s2]
        · refine ⟨.ow ((ls.take k ++ (z.1, z.2.1, x) :: ls.drop (k + 1)).map encL), _, io5, ?_, rfl, d5, hll _⟩
          rw [← fin]
          generalize (ls.take k).map encL = t1 at *
          generalize (ls.drop (k + 1)).map encL = t2 at *
          generalize ls.map encL = ld at *
          simp [g_l_spoilt, p1, e1, mkL, mkT, h0s, h1s, h2s, h3s, en, p2, e2, hlen, p3, ax, encL, p4, p5, u2, v3, q1, q2, s1, s2]
theorem spoiltO_ok {io : List PyData} {ls : List Ot} (hd : Dw io) (hl : ls.length ≤ 30) : ∃ (r : Rt) (ls' : List Ot) (io' : List PyData), F_l_spoilt io [.list (ls.map encO), .int 2] = .ok (r, io') ∧ rtD r = .list (ls'.map encO) ∧ Dw io' ∧ ls'.length ≤ 31 := by
  show ∃ (r : Rt) (ls' : List Ot) (io' : List PyData), toOutI (g_l_spoilt [.ow io, .fz (.list (ls.map encO)), .fz (.int 2), .un, .un, .un]) = _ ∧ _
  obtain ⟨r1, io1, p1, d1, a1, b1⟩ := pick_ok (m := 7) hd (by decide) (by decide)
  have h1s : small 1 = true := rfl
  have h2s : small 2 = true := rfl
  have h3s : small 3 = true := rfl
  have h0s : small 0 = true := rfl
  have w2 : ∀ a b c : PyData, cut [a, b, c] none (some 2) = [a, b] := fun _ _ _ => rfl
  by_cases h1 : r1 = 1
  · have hr : oRep (.list [PyData.tuple [.int 9, .int 1]]) (.int 31) = some ((List.replicate 31 ((9, 1) : Ot)).map encO) := by
      simp [oRep, small, encO, List.replicate]
    have s1 : small ((ls.map encO).length + ((List.replicate 31 ((9, 1) : Ot)).map encO).length) = true := small_of (by simp; omega)
    have e : (ls.map encO ++ (List.replicate 31 ((9, 1) : Ot)).map encO).take 31 = ((ls ++ List.replicate 31 ((9, 1) : Ot)).take 31).map encO := by rw [← List.map_append, List.map_take]
    refine ⟨.ow (((ls ++ List.replicate 31 ((9, 1) : Ot)).take 31).map encO), _, io1, ?_, rfl, d1, by rw [List.length_take]; omega⟩
    rw [← e]
    generalize (List.replicate 31 ((9, 1) : Ot)).map encO = r at *
    generalize ls.map encO = ld at *
    simp [g_l_spoilt, p1, h1, oEQ, mkT, mkL, h1s, h3s, w2, hr, s1, c31]
  · have en := oEQ_nil (n := 4) (ds := ls.map encO) (by decide) (gi_encO 1 ls)
    cases ls with
    | nil =>
      refine ⟨.fz (.list (([] : List Ot).map encO)), [], io1, ?_, rfl, d1, by simp⟩
      have e0 : (([] : List Ot).map encO).isEmpty = true := rfl
      rw [e0] at en
      generalize ([] : List Ot).map encO = ld at *
      have e1 : oEQ (.int r1) (.int 1) = some (.bool false) := by simp [oEQ, h1]
      simp [g_l_spoilt, p1, e1, mkL, h0s, en]
    | cons l0 ls0 =>
      have e0 : ((l0 :: ls0).map encO).isEmpty = false := rfl
      rw [e0] at en
      generalize hls : l0 :: ls0 = ls at *
      have hne : 0 < ls.length := by rw [← hls]; simp
      have e1 : oEQ (.int r1) (.int 1) = some (.bool false) := by simp [oEQ, h1]
      obtain ⟨r2, io2, p2, d2, a2, b2⟩ := pick_ok (m := 2) d1 (by decide) (by decide)
      by_cases h2 : r2 = 0
      · have e2 : oEQ (.int r2) (.int 0) = some (.bool true) := by simp [oEQ, h2]
        refine ⟨.fz (.list (ls.map encO)), ls, io2, ?_, rfl, d2, by omega⟩
        generalize ls.map encO = ld at *
        simp [g_l_spoilt, p1, e1, mkL, h0s, en, p2, e2]
      · have e2 : oEQ (.int r2) (.int 0) = some (.bool false) := by simp [oEQ, h2]
        obtain ⟨r3, io3, p3, d3, a3, b3⟩ := pick_ok (m := (ls.length : Int)) d2 (by omega) (by omega)
        obtain ⟨k, rfl⟩ : ∃ k : Nat, r3 = (k : Int) := ⟨r3.toNat, by omega⟩
        have hk : k < ls.length := by omega
        obtain ⟨r4, io4, p4, d4, a4, b4⟩ := pick_ok (m := 2) d3 (by decide) (by decide)
        obtain ⟨x, io5, p5, d5, _, _⟩ := odd_ok d4
        have ax := at_out hk
        have q1 : cut (ls.map encO) none (some (k : Int)) = (ls.take k).map encO := by rw [cut_take, List.map_take]
        have q2 : cut (ls.map encO) (some ((k : Int) + 1)) none = (ls.drop (k + 1)).map encO := by rw [cut_dropS, List.map_drop]
        have s1 : small (((ls.take k).map encO).length + 1) = true := small_of (by simp; omega)
        have s2 : small (((ls.take k).map encO).length + 1 + ((ls.drop (k + 1)).map encO).length) = true := small_of (by simp; omega)
        have hlen : (ls.map encO).length = ls.length := by simp
        have fin : ∀ l' : Ot, (ls.take k).map encO ++ (encO l' :: (ls.drop (k + 1)).map encO) = (ls.take k ++ l' :: ls.drop (k + 1)).map encO := fun l' => by simp
        have hll : ∀ l' : Ot, (ls.take k ++ l' :: ls.drop (k + 1)).length ≤ 31 := fun l' => by simp; omega
        have hr4 : r4 = 0 ∨ r4 = 1 := by omega
        have u0 : ∀ a b : PyData, cut [a, b] none (some 0) = [] := fun _ _ => rfl
        have u1 : ∀ a b : PyData, cut [a, b] none (some 1) = [a] := fun _ _ => rfl
        have v1 : ∀ a b : PyData, cut [a, b] (some 1) none = [b] := fun _ _ => rfl
        have v2 : ∀ a b : PyData, cut [a, b] (some 2) none = [] := fun _ _ => rfl
        generalize otO ls k = z at *
        rcases hr4 with rfl | rfl
        · refine ⟨.ow ((ls.take k ++ (x, z.2) :: ls.drop (k + 1)).map encO), _, io5, ?_, rfl, d5, hll _⟩
          rw [← fin]
          generalize (ls.take k).map encO = t1 at *
          generalize (ls.drop (k + 1)).map encO = t2 at *
          generalize ls.map encO = ld at *
          simp [g_l_spoilt, p1, e1, mkL, mkT, h0s, h1s, h2s, en, p2, e2, hlen, p3, ax, encO, p4, p5, u0, v1, q1, q2, s1, s2]
        · refine ⟨.ow ((ls.take k ++ (z.1, x) :: ls.drop (k + 1)).map encO), _, io5, ?_, rfl, d5, hll _⟩
          rw [← fin]
          generalize (ls.take k).map encO = t1 at *
          generalize (ls.drop (k + 1)).map encO = t2 at *
          generalize ls.map encO = ld at *
          simp [g_l_spoilt, p1, e1, mkL, mkT, h0s, h1s, h2s, en, p2, e2, hlen, p3, ax, encO, p4, p5, u1, v2, q1, q2, s1, s2]
theorem spoilt_case_ok {io : List PyData} {most : Int} (hd : Dw io) (h0 : 0 ≤ most) (h1 : most ≤ 30) :
    ∃ (ls : List Lot) (os : List Ot) (t : Int) (io' : List PyData), F_l_spoilt_case io [.int most] = .ok (.fz (.tuple [.list (ls.map encL), .list (os.map encO), .int t]), io') ∧ Dw io' ∧ ls.length ≤ 31 ∧ os.length ≤ 31 := by
  show ∃ (ls : List Lot) (os : List Ot) (t : Int) (io' : List PyData), toOutI (g_l_spoilt_case [.ow io, .fz (.int most), .un, .un, .un]) = _ ∧ _
  obtain ⟨ls, os, t, io1, e1, d1, l1, l2, g1, g2, t0, t1⟩ := case_ok (most := most) hd h0 (by omega)
  unfold g_l_spoilt_case
  have st1 : sAsg (gTp (gsCons (gSet 2) (gsCons (gSet 3) (gsCons (gSet 4) gsNil)))) (fCallI 0 F_l_case (fCons (fVar 1) fNil)) [.ow io, .fz (.int most), .un, .un, .un] = .nx [.ow io1, .fz (.int most), .fz (.list (ls.map encL)), .fz (.list (os.map encO)), .fz (.int t)] := by simp [e1]
  rw [seq_nx st1]
  obtain ⟨r2, io2, p2, d2, a2, b2⟩ := pick_ok (m := 3) d1 (by decide) (by decide)
  have st2 : ∃ (ls' : List Lot) (io3 : List PyData), Dw io3 ∧ ls'.length ≤ 31 ∧ sIf (fB (fOp oEQ (.e (fCallI 0 F_l_pick (fCons (ret (.int 3)) fNil))) (.e (ret (.int 0))))) (sSet 2 (fCallI 0 F_l_spoilt (fCons (fVar 2) (fCons (ret (.int 3)) fNil)))) sNil [.ow io1, .fz (.int most), .fz (.list (ls.map encL)), .fz (.list (os.map encO)), .fz (.int t)] = .nx [.ow io3, .fz (.int most), .fz (.list (ls'.map encL)), .fz (.list (os.map encO)), .fz (.int t)] := by
    by_cases h : r2 = 0
    · obtain ⟨r, ls', io3, e, er, d3, hl⟩ := spoiltL_ok (ls := ls) d2 (by omega)
      exact ⟨ls', io3, d3, hl, by simp [p2, h, oEQ, e]; exact er⟩
    · exact ⟨ls, io2, d2, by omega, by simp [p2, h, oEQ]⟩
  obtain ⟨ls', io3, d3, hl3, st2⟩ := st2
  rw [seq_nx st2]
  obtain ⟨r4, io4, p4, d4, a4, b4⟩ := pick_ok (m := 3) d3 (by decide) (by decide)
  have st3 : ∃ (os' : List Ot) (io5 : List PyData), Dw io5 ∧ os'.length ≤ 31 ∧ sIf (fB (fOp oEQ (.e (fCallI 0 F_l_pick (fCons (ret (.int 3)) fNil))) (.e (ret (.int 0))))) (sSet 3 (fCallI 0 F_l_spoilt (fCons (fVar 3) (fCons (ret (.int 2)) fNil)))) sNil [.ow io3, .fz (.int most), .fz (.list (ls'.map encL)), .fz (.list (os.map encO)), .fz (.int t)] = .nx [.ow io5, .fz (.int most), .fz (.list (ls'.map encL)), .fz (.list (os'.map encO)), .fz (.int t)] := by
    by_cases h : r4 = 0
    · obtain ⟨r, os', io5, e, er, d5, hl⟩ := spoiltO_ok (ls := os) d4 (by omega)
      exact ⟨os', io5, d5, hl, by simp [p4, h, oEQ, e]; exact er⟩
    · exact ⟨os, io4, d4, by omega, by simp [p4, h, oEQ]⟩
  obtain ⟨os', io5, d5, hl5, st3⟩ := st3
  rw [seq_nx st3]
  obtain ⟨r6, io6, p6, d6, a6, b6⟩ := pick_ok (m := 4) d5 (by decide) (by decide)
  by_cases h : r6 = 0
  · obtain ⟨x, io7, p7, d7, _, _⟩ := odd_ok d6
    exact ⟨ls', os', x, io7, by simp [p6, h, oEQ, p7, mkT, small], d7, hl3, hl5⟩
  · exact ⟨ls', os', t, io6, by simp [p6, h, oEQ, mkT, small], d6, hl3, hl5⟩
end Mm

namespace Mm
open PySem L2 Fx
variable [Tabz]
/-! ### lines of outs -/
noncomputable def lineV (ls : List Lot) (os : List Ot) (t d : Int) (j : Nat) : Int := if j = 0 then topV ls os t else topV ls (os ++ [(d, (j : Int))]) t
noncomputable def lineL (ls : List Lot) (os : List Ot) (t d : Int) (m : Nat) : List Int := (List.range (m + 1)).map (lineV ls os t d)
theorem line_loop (ls : List Lot) (os : List Ot) (t d : Int) (n1 : ls.length ≤ 60) (n2 : os.length ≤ 60) (hg : ∀ l ∈ ls, GoodL l) (s0 s1 s4 : Sl) (m : Nat) (hm : m ≤ 1000) :
    ∃ s8', forE (gSet 8) b_line_of_1 (rng 1 m) [s0, s1, .fz (.int t), .fz (.int d), s4, .fz (.list (ls.map encL)), .fz (.list (os.map encO)), .ow (dI (lineL ls os t d 0)), .un] = .nx [s0, s1, .fz (.int t), .fz (.int d), s4, .fz (.list (ls.map encL)), .fz (.list (os.map encO)), .ow (dI (lineL ls os t d m)), s8'] := by
  obtain ⟨ρ', ef, i⟩ := forE_inv (fun j ρ => ∃ s8, ρ = [s0, s1, .fz (.int t), .fz (.int d), s4, .fz (.list (ls.map encL)), .fz (.list (os.map encO)), .ow (dI (lineL ls os t d j)), s8]) (rng 1 m) 0 [s0, s1, .fz (.int t), .fz (.int d), s4, .fz (.list (ls.map encL)), .fz (.list (os.map encO)), .ow (dI (lineL ls os t d 0)), .un] ⟨_, rfl⟩ (g := gSet 8) (s := b_line_of_1) (by
    rintro j x ρ hx ⟨s8, rfl⟩
    obtain ⟨hj, rfl⟩ := rng_get hx
    have f5 := F_top_eq (ls := ls) (os := os ++ [(d, 1 + (j : Int))]) (t := t) (by omega) (by simp; omega) hg
    have em : (os ++ [(d, 1 + (j : Int))]).map encO = os.map encO ++ [.tuple [.int d, .int (1 + (j : Int))]] := by rw [List.map_append]; rfl
    rw [em] at f5
    have hs : small ((os.map encO).length + 1) = true := small_of (by simp; omega)
    have ll : (dI (lineL ls os t d (0 + j))).length = j + 1 := by simp [lineL]
    have ka := kAppend_of (d := .int (topV ls (os ++ [(d, 1 + (j : Int))]) t)) (ds := dI (lineL ls os t d (0 + j))) (by rw [ll]; omega)
    have el : dI (lineL ls os t d (0 + j + 1)) = dI (lineL ls os t d (0 + j)) ++ [.int (topV ls (os ++ [(d, 1 + (j : Int))]) t)] := by
      unfold lineL
      rw [List.range_succ (n := 0 + j + 1), List.map_append]
      unfold dI
      rw [List.map_append]
      congr 1
      simp only [List.map_cons, List.map_nil]
      unfold lineV
      rw [if_neg (by omega)]
      rw [show ((0 + j + 1 : Nat) : Int) = 1 + (j : Int) by omega]
    refine ⟨_, [s0, s1, .fz (.int t), .fz (.int d), s4, .fz (.list (ls.map encL)), .fz (.list (os.map encO)), .ow (dI (lineL ls os t d (0 + j + 1))), .fz (.int (1 + (j : Int)))], rfl, .inl ?_, _, rfl⟩
    rw [el]
    have h2 : small 2 = true := rfl
    have h1 : small 1 = true := rfl
    generalize topV ls (os ++ [(d, 1 + (j : Int))]) t = v at *
    generalize dI (lineL ls os t d (0 + j)) = ld at *
    generalize os.map encO = od at *
    simp [b_line_of_1, mkT, mkL, h1, h2, hs, f5, ka, mutO, sMut])
  obtain ⟨s8, rfl⟩ := i
  refine ⟨s8, ?_⟩
  rw [ef, rng_len, Nat.zero_add]
theorem F_line_of_eq (ls : List Lot) (os : List Ot) (t d m : Int) : F_line_of [.list (ls.map encL), .list (os.map encO), .int t, .int d, .int m] = oE (err3 ls os t) (oE (errD d) (if m < 0 ∨ 40 < m then .exc "BadCount" else .ok (.ow (dI (lineL ls os t d m.toNat))))) := by
  show toOut (g_line_of [.fz (.list (ls.map encL)), .fz (.list (os.map encO)), .fz (.int t), .fz (.int d), .fz (.int m), .un, .un, .un, .un]) = _
  rcases heads (ls := ls) (os := os) (t := t) with ⟨c, e, h⟩ | ⟨e, f1, f2, f3⟩
  · rw [e]
    rcases h with h | ⟨h1, h2⟩ | ⟨h1, h2, h3⟩
    · simp [g_line_of, h, oE]
    · simp [g_line_of, h1, h2, oE]
    · simp [g_line_of, h1, h2, h3, oE]
  · rw [e]
    obtain ⟨e1, e2, e3⟩ := err3_none e
    have n1 := errLs_len e1
    have n2 := errOs_len e2
    by_cases h1 : d < 1 ∨ 999 < d
    · simp [g_line_of, f1, f2, f3, oE, F_need_day_eq, errD, h1]
    · by_cases h2 : m < 0
      · rw [if_pos (.inl h2)]
        simp [g_line_of, f1, f2, f3, oE, F_need_day_eq, errD, h1, h2]
      · by_cases h3 : 40 < m
        · rw [if_pos (.inr h3)]
          simp [g_line_of, f1, f2, f3, oE, F_need_day_eq, errD, h1, h2, h3]
        · rw [if_neg (by omega)]
          have f4 := F_top_eq (ls := ls) (os := os) (t := t) (by omega) (by omega) (good_errLs e1)
          obtain ⟨s8, lp⟩ := line_loop ls os t d (by omega) (by omega) (good_errLs e1) (.fz (.list (ls.map encL))) (.fz (.list (os.map encO))) (.fz (.int m)) m.toNat (by omega)
          have l0 : dI (lineL ls os t d 0) = [.int (topV ls os t)] := rfl
          rw [l0] at lp
          have er := oRng2_of (i := 1) (j := m + 1) (by decide) (by omega)
          rw [show (m + 1 - 1).toNat = m.toNat by omega] at er
          generalize dI (lineL ls os t d m.toNat) = nd at *
          generalize topV ls os t = v at *
          simp [g_line_of, f1, f2, f3, oE, F_need_day_eq, errD, h1, h2, h3, f4, mkL, small, er, sFor, lp]
end Mm

namespace Mm
open PySem L2 Fx
variable [Tabz]
/-! ### papers -/
def inOrd : Int → List (Int × Int) → Bool
  | _, [] => true
  | a, s :: r => decide (a < s.1 ∧ s.1 ≤ s.2 ∧ s.2 ≤ 999) && inOrd s.2 r
def prv (ss : List (Int × Int)) (k : Nat) : Int := if k = 0 then 0 else (ss.getD (k - 1) (0, 0)).2
theorem at_pr {ss : List (Int × Int)} {k : Nat} (h : k < ss.length) : atI (ss.map encP) (k : Int) = some (encP (ss.getD k (0, 0))) := at_map encP (by simp [h])
theorem ord_turn (ss : List (Int × Int)) (k : Nat) (hk : k < ss.length) (s : Int × Int) (hp : 0 ≤ prv ss k) :
    b_in_order_1 [.fz (.list (ss.map encP)), .fz (.int (k : Int)), .fz (encP s)] = if prv ss k < s.1 ∧ s.1 ≤ s.2 ∧ s.2 ≤ 999 then .nx [.fz (.list (ss.map encP)), .fz (.int (k : Int)), .fz (encP s)] else .ret (.fz (.bool false)) [.fz (.list (ss.map encP)), .fz (.int (k : Int)), .fz (encP s)] := by
  have f := F_is_stretch_eq s.1 s.2
  have ep : encP s = .tuple [.int s.1, .int s.2] := rfl
  unfold prv at hp ⊢
  cases k with
  | zero =>
    by_cases h : 1 ≤ s.1 ∧ s.1 ≤ s.2 ∧ s.2 ≤ 999
    · rw [if_pos (by rw [if_pos rfl]; omega)]
      simp only [h, and_self, decide_true] at f
      generalize ss.map encP = sd at *
      rw [ep]
      simp [b_in_order_1, f]
    · rw [if_neg (by rw [if_pos rfl]; omega)]
      simp only [h, decide_false] at f
      generalize ss.map encP = sd at *
      rw [ep]
      simp [b_in_order_1, f]
  | succ k =>
    rw [if_neg (show ¬ k + 1 = 0 by omega)] at hp ⊢
    have a1 : atI (ss.map encP) (((k + 1 : Nat) : Int) - 1) = some (encP (ss.getD k (0, 0))) := by
      rw [show ((k + 1 : Nat) : Int) - 1 = (k : Int) by omega]
      exact at_pr (by omega)
    rw [Nat.add_sub_cancel] at hp ⊢
    generalize ss.getD k (0, 0) = p at *
    have epp : encP p = .tuple [.int p.1, .int p.2] := rfl
    rw [epp] at a1
    have h0 : (0 : Int) < ((k + 1 : Nat) : Int) := by omega
    by_cases h : 1 ≤ s.1 ∧ s.1 ≤ s.2 ∧ s.2 ≤ 999
    · simp only [h, and_self, decide_true] at f
      by_cases h2 : s.1 ≤ p.2
      · rw [if_neg (by omega)]
        generalize ss.map encP = sd at *
        generalize ((k + 1 : Nat) : Int) = kk at *
        rw [ep]
        simp [b_in_order_1, f, h0, two_ix0, two_ix1, a1, h2]
      · rw [if_pos (by omega)]
        generalize ss.map encP = sd at *
        generalize ((k + 1 : Nat) : Int) = kk at *
        rw [ep]
        simp [b_in_order_1, f, h0, two_ix0, two_ix1, a1, h2]
    · simp only [h, decide_false] at f
      rw [if_neg (by omega)]
      generalize ss.map encP = sd at *
      generalize ((k + 1 : Nat) : Int) = kk at *
      rw [ep]
      simp [b_in_order_1, f]
theorem ord_loop (ss : List (Int × Int)) : ∀ (r : List (Int × Int)) (k : Nat) (s1 s2 : Sl), ss.drop k = r → 0 ≤ prv ss k → ∃ s1' s2',
    forE (gTp (gsCons (gSet 1) (gsCons (gSet 2) gsNil))) b_in_order_1 ((r.map encP).zipIdx k |>.map fun (p : PyData × Nat) => PyData.tuple [.int (p.2 : Nat), p.1]) [.fz (.list (ss.map encP)), s1, s2] =
      if inOrd (prv ss k) r = true then .nx [.fz (.list (ss.map encP)), s1', s2'] else .ret (.fz (.bool false)) [.fz (.list (ss.map encP)), s1', s2']
  | [], k, s1, s2, _, _ => ⟨s1, s2, by simp [forE, inOrd]⟩
  | s :: r, k, s1, s2, hd, hp => by
    have hk : k < ss.length := by
      rcases Nat.lt_or_ge k ss.length with z | z
      · exact z
      · rw [List.drop_eq_nil_of_le z] at hd; cases hd
    have hs : ss.getD k (0, 0) = s := by
      have := congrArg (fun z => z[0]?) hd
      rw [List.getElem?_drop, Nat.add_zero] at this
      simp [List.getD_eq_getElem?_getD, this]
    rw [List.map_cons, List.zipIdx_cons, List.map_cons]
    unfold forE
    have e : gTp (gsCons (gSet 1) (gsCons (gSet 2) gsNil)) (PyData.tuple [.int ((k : Nat) : Int), encP s]) [.fz (.list (ss.map encP)), s1, s2] = some [.fz (.list (ss.map encP)), .fz (.int ((k : Nat) : Int)), .fz (encP s)] := rfl
    simp only [e, ord_turn ss k hk s hp]
    by_cases h : prv ss k < s.1 ∧ s.1 ≤ s.2 ∧ s.2 ≤ 999
    · simp only [if_pos h]
      have hq : prv ss (k + 1) = s.2 := by
        unfold prv
        rw [if_neg (by omega), Nat.add_sub_cancel, hs]
      obtain ⟨a, b, q⟩ := ord_loop ss r (k + 1) (.fz (.int ((k : Nat) : Int))) (.fz (encP s)) (by rw [← List.drop_drop, hd]; rfl) (by rw [hq]; omega)
      refine ⟨a, b, q.trans ?_⟩
      rw [hq]
      unfold inOrd
      simp only [h, and_self, decide_true, Bool.true_and]
      rw [inOrd.eq_def]
    · simp only [if_neg h]
      refine ⟨.fz (.int ((k : Nat) : Int)), .fz (encP s), ?_⟩
      unfold inOrd
      simp only [h, decide_false, Bool.false_and, Bool.false_eq_true, if_false]
theorem F_in_order_eq (ss : List (Int × Int)) : F_in_order [.list (ss.map encP)] = .ok (.fz (.bool (inOrd 0 ss))) := by
  show toOut (g_in_order [.fz (.list (ss.map encP)), .un, .un]) = _
  obtain ⟨a, b, q⟩ := ord_loop ss ss 0 .un .un rfl (Int.le_refl _)
  have e1 : oEnum [.list (ss.map encP)] = some ((ss.map encP).zipIdx 0 |>.map fun (p : PyData × Nat) => PyData.tuple [.int (p.2 : Nat), p.1]) := rfl
  have hp : prv ss 0 = 0 := rfl
  rw [hp] at q
  generalize ((ss.map encP).zipIdx 0 |>.map fun (p : PyData × Nat) => PyData.tuple [.int (p.2 : Nat), p.1]) = es at *
  generalize ss.map encP = sd at *
  cases h : inOrd 0 ss with
  | true => rw [h] at q; simp only [if_true] at q; simp [g_in_order, e1, sFor, q]
  | false => rw [h] at q; simp only [Bool.false_eq_true, if_false] at q; simp [g_in_order, e1, sFor, q]
def inAny (ss : List (Int × Int)) (d : Int) : Bool := ss.any fun s => decide (s.1 ≤ d ∧ d ≤ s.2)
theorem F_holds_day_eq (s : Int × Int) (d : Int) : F_holds_day [encP s, .int d] = .ok (.fz (.bool (decide (s.1 ≤ d ∧ d ≤ s.2)))) := by
  show toOut (g_holds_day [.fz (encP s), .fz (.int d)]) = _
  by_cases h1 : s.1 ≤ d <;> by_cases h2 : d ≤ s.2 <;> simp [g_holds_day, encP, two_ix0, two_ix1, h1, h2]
def outS (u : Int) (ss : List (Int × Int)) : List Lot → Int
  | [] => 0
  | l :: ls => (if u ≤ l.2.2 ∧ inAny ss l.1 = false then l.2.1 else 0) + outS u ss ls
theorem outside_turn (s0 : Sl) (u f : Int) (ss : List (Int × Int)) (hs : ss.length ≤ 1000) (l : Lot) : b_outside_1 [s0, .fz (.int u), .fz (.list (ss.map encP)), .fz (.int f), .fz (.int l.1), .fz (.int l.2.1), .fz (.int l.2.2), .un] = .nx [s0, .fz (.int u), .fz (.list (ss.map encP)), .fz (.int (f + if u ≤ l.2.2 ∧ inAny ss l.1 = false then l.2.1 else 0)), .fz (.int l.1), .fz (.int l.2.1), .fz (.int l.2.2), .un] := by
  have q : q_outside_1 [s0, .fz (.int u), .fz (.list (ss.map encP)), .fz (.int f), .fz (.int l.1), .fz (.int l.2.1), .fz (.int l.2.2), .un] = .ok ((ss.map fun s => decide (s.1 ≤ l.1 ∧ l.1 ≤ s.2)).map PyData.bool, [s0, .fz (.int u), .fz (.list (ss.map encP)), .fz (.int f), .fz (.int l.1), .fz (.int l.2.1), .fz (.int l.2.2), .un]) := by
    unfold q_outside_1
    rw [lc_all ss encP (fun s => PyData.bool (decide (s.1 ≤ l.1 ∧ l.1 ≤ s.2))) (ρ := [s0, .fz (.int u), .fz (.list (ss.map encP)), .fz (.int f), .fz (.int l.1), .fz (.int l.2.1), .fz (.int l.2.2), .un]) (by simp) (by omega) fun s _ => ⟨[s0, .fz (.int u), .fz (.list (ss.map encP)), .fz (.int f), .fz (.int l.1), .fz (.int l.2.1), .fz (.int l.2.2), .fz (encP s)], rfl, [s0, .fz (.int u), .fz (.list (ss.map encP)), .fz (.int f), .fz (.int l.1), .fz (.int l.2.1), .fz (.int l.2.2), .fz (encP s)], by simp [F_holds_day_eq], rfl⟩]
    rw [List.map_map]; rfl
  have hb := asBools_map (ss.map fun s => decide (s.1 ≤ l.1 ∧ l.1 ≤ s.2))
  have ha : (ss.map fun s => decide (s.1 ≤ l.1 ∧ l.1 ≤ s.2)).any id = inAny ss l.1 := by
    unfold inAny
    rw [List.any_map]
    rfl
  generalize (ss.map fun s => decide (s.1 ≤ l.1 ∧ l.1 ≤ s.2)) = bs at *
  generalize bs.map PyData.bool = bd at *
  generalize ss.map encP = sd at *
  by_cases h1 : u ≤ l.2.2
  · cases h2 : inAny ss l.1 with
    | true => rw [h2] at ha; simp [b_outside_1, h1, q, hb, ha]
    | false => rw [h2] at ha; simp [b_outside_1, h1, q, hb, ha]
  · simp [b_outside_1, h1]
theorem outside_loop (s0 : Sl) (u : Int) (ss : List (Int × Int)) (hs : ss.length ≤ 1000) : ∀ (ls : List Lot) (f : Int) (a b c : Sl), ∃ a' b' c',
    forE (gTp (gsCons (gSet 4) (gsCons (gSet 5) (gsCons (gSet 6) gsNil)))) b_outside_1 (ls.map encL) [s0, .fz (.int u), .fz (.list (ss.map encP)), .fz (.int f), a, b, c, .un] = .nx [s0, .fz (.int u), .fz (.list (ss.map encP)), .fz (.int (f + outS u ss ls)), a', b', c', .un]
  | [], f, a, b, c => ⟨a, b, c, by simp [forE, outS]⟩
  | l :: ls, f, a, b, c => by
    rw [List.map_cons]
    unfold forE
    have e : gTp (gsCons (gSet 4) (gsCons (gSet 5) (gsCons (gSet 6) gsNil))) (encL l) [s0, .fz (.int u), .fz (.list (ss.map encP)), .fz (.int f), a, b, c, .un] = some [s0, .fz (.int u), .fz (.list (ss.map encP)), .fz (.int f), .fz (.int l.1), .fz (.int l.2.1), .fz (.int l.2.2), .un] := rfl
    simp only [e, outside_turn s0 u f ss hs l]
    obtain ⟨a', b', c', q⟩ := outside_loop s0 u ss hs ls (f + if u ≤ l.2.2 ∧ inAny ss l.1 = false then l.2.1 else 0) (.fz (.int l.1)) (.fz (.int l.2.1)) (.fz (.int l.2.2))
    refine ⟨a', b', c', q.trans ?_⟩
    rw [outS, Int.add_assoc]
theorem F_outside_eq (ls : List Lot) (u : Int) (ss : List (Int × Int)) (hs : ss.length ≤ 1000) : F_outside [.list (ls.map encL), .int u, .list (ss.map encP)] = .ok (.fz (.int (outS u ss ls))) := by
  show toOut (g_outside [.fz (.list (ls.map encL)), .fz (.int u), .fz (.list (ss.map encP)), .un, .un, .un, .un, .un]) = _
  obtain ⟨a, b, c, q⟩ := outside_loop (.fz (.list (ls.map encL))) u ss hs ls 0 .un .un .un
  rw [Int.zero_add] at q
  generalize ss.map encP = sd at *
  simp [g_outside, sFor, q]
def barS (os : List Ot) (t : Int) (ss : List (Int × Int)) : Int := (ss.map fun s => outAg os t s.1 s.2).sum
theorem F_good_paper_eq (ls : List Lot) (os : List Ot) (t u n : Int) (ss : List (Int × Int)) (hs : ss.length ≤ 1000) : F_good_paper [.list (ls.map encL), .list (os.map encO), .int t, .tuple [.int u, .int n, .list (ss.map encP)]] = oE (err3 ls os t) (.ok (.fz (.bool (inOrd 0 ss && decide (outS u ss ls + barS os t ss = n))))) := by
  show toOut (g_good_paper [.fz (.list (ls.map encL)), .fz (.list (os.map encO)), .fz (.int t), .fz (.tuple [.int u, .int n, .list (ss.map encP)]), .un, .un, .un, .un, .un, .un, .un]) = _
  rcases heads (ls := ls) (os := os) (t := t) with ⟨c, e, h⟩ | ⟨e, f1, f2, f3⟩
  · rw [e]
    generalize ss.map encP = sd at *
    rcases h with h | ⟨h1, h2⟩ | ⟨h1, h2, h3⟩
    · simp [g_good_paper, h, oE]
    · simp [g_good_paper, h1, h2, oE]
    · simp [g_good_paper, h1, h2, h3, oE]
  · rw [e]
    obtain ⟨e1, e2, e3⟩ := err3_none e
    have n2 := errOs_len e2
    have f4 := F_in_order_eq ss
    have f5 := F_outside_eq ls u ss hs
    have q : q_good_paper_1 [.fz (.list (ls.map encL)), .fz (.list (os.map encO)), .fz (.int t), .fz (.tuple [.int u, .int n, .list (ss.map encP)]), .fz (.list (ls.map encL)), .fz (.list (os.map encO)), .fz (.int u), .fz (.int n), .fz (.list (ss.map encP)), .un, .un] = .ok (dI (ss.map fun s => outAg os t s.1 s.2), [.fz (.list (ls.map encL)), .fz (.list (os.map encO)), .fz (.int t), .fz (.tuple [.int u, .int n, .list (ss.map encP)]), .fz (.list (ls.map encL)), .fz (.list (os.map encO)), .fz (.int u), .fz (.int n), .fz (.list (ss.map encP)), .un, .un]) := by
      unfold q_good_paper_1
      rw [lc_all ss encP (fun s => PyData.int (outAg os t s.1 s.2)) (ρ := [.fz (.list (ls.map encL)), .fz (.list (os.map encO)), .fz (.int t), .fz (.tuple [.int u, .int n, .list (ss.map encP)]), .fz (.list (ls.map encL)), .fz (.list (os.map encO)), .fz (.int u), .fz (.int n), .fz (.list (ss.map encP)), .un, .un]) (by simp) (by omega) fun s _ => ⟨[.fz (.list (ls.map encL)), .fz (.list (os.map encO)), .fz (.int t), .fz (.tuple [.int u, .int n, .list (ss.map encP)]), .fz (.list (ls.map encL)), .fz (.list (os.map encO)), .fz (.int u), .fz (.int n), .fz (.list (ss.map encP)), .un, .fz (encP s)], rfl, [.fz (.list (ls.map encL)), .fz (.list (os.map encO)), .fz (.int t), .fz (.tuple [.int u, .int n, .list (ss.map encP)]), .fz (.list (ls.map encL)), .fz (.list (os.map encO)), .fz (.int u), .fz (.int n), .fz (.list (ss.map encP)), .un, .fz (encP s)], ?_, rfl⟩]
      · unfold dI
        rw [List.map_map]; rfl
      · have f := F_out_against_eq os t s.1 s.2 (by omega)
        have ep : encP s = .tuple [.int s.1, .int s.2] := rfl
        rw [← ep] at f
        generalize encP s = sp at *
        generalize ss.map encP = sd at *
        simp [f]
    have hsum := asInts_map (ss.map fun s => outAg os t s.1 s.2)
    unfold barS
    generalize (ss.map fun s => outAg os t s.1 s.2) = bs at *
    generalize outS u ss ls = ov at *
    unfold dI at q
    generalize bs.map PyData.int = bd at *
    generalize ss.map encP = sd at *
    cases h : inOrd 0 ss with
    | false => rw [h] at f4; simp [g_good_paper, f1, f2, f3, f4, oE]
    | true =>
      rw [h] at f4
      by_cases h2 : ov + bs.sum = n
      · simp [g_good_paper, f1, f2, f3, f4, f5, q, hsum, oEQ, h2, oE]
      · simp [g_good_paper, f1, f2, f3, f4, f5, q, hsum, oEQ, h2, oE]
end Mm

/-! the best counts of lots with other duties in the same order, and of other days -/
namespace Mm
open PySem L2 Fx
variable [Tabz]
theorem byK_order {n : Nat} {k1 k2 : Nat → List Int} (h : ∀ i j, i < n → j < n → lexLe (k1 i) (k1 j) = lexLe (k2 i) (k2 j)) : byK n k1 = byK n k2 := by
  unfold byK
  have e := List.map_mergeSort (r := fun a b => lexLe (k1 a) (k1 b)) (s := fun a b => lexLe (k2 a) (k2 b)) (f := id) (l := List.range n) (fun a ha b hb => by
    rw [List.mem_range] at ha hb
    exact h a b ha hb)
  simpa using e
theorem getD_map {α β : Type} (g : α → β) (xs : List α) (i : Nat) (a : α) (b : β) (h : i < xs.length) : (xs.map g).getD i b = g (xs.getD i a) := by
  simp [h]
/-- other duties -/
def reD (f : Int → Int) (ls : List Lot) : List Lot := ls.map fun l => (l.1, l.2.1, f l.2.2)
/-- other days -/
def reL (k : Int) (ls : List Lot) : List Lot := ls.map fun l => (l.1 + k, l.2.1, l.2.2)
def reO (k : Int) (os : List Ot) : List Ot := os.map fun o => (o.1 + k, o.2)
section
variable {ls : List Lot} {os : List Ot} {t : Int}
theorem reD_len (f : Int → Int) : (reD f ls).length = ls.length := by simp [reD]
theorem reL_len (k : Int) : (reL k ls).length = ls.length := by simp [reL]
theorem reD_get (f : Int → Int) {i : Nat} (h : i < ls.length) : (reD f ls).getD i (0, 0, 0) = ((ls.getD i (0, 0, 0)).1, (ls.getD i (0, 0, 0)).2.1, f (ls.getD i (0, 0, 0)).2.2) := getD_map _ ls i _ _ h
theorem reL_get (k : Int) {i : Nat} (h : i < ls.length) : (reL k ls).getD i (0, 0, 0) = ((ls.getD i (0, 0, 0)).1 + k, (ls.getD i (0, 0, 0)).2.1, (ls.getD i (0, 0, 0)).2.2) := getD_map _ ls i _ _ h
theorem get_mem {i : Nat} (h : i < ls.length) : ls.getD i (0, 0, 0) ∈ ls := List.mem_of_getElem? (i := i) (show ls[i]? = some (ls.getD i (0, 0, 0)) by simp [h])
theorem dutyL_reD {f : Int → Int} (hf : ∀ a ∈ ls, ∀ b ∈ ls, (f a.2.2 < f b.2.2 ↔ a.2.2 < b.2.2)) : dutyL (reD f ls) = dutyL ls := by
  unfold dutyL
  rw [reD_len]
  apply byK_order
  intro i j hi hj
  have h1 := hf _ (get_mem hi) _ (get_mem hj)
  have h2 := hf _ (get_mem hj) _ (get_mem hi)
  unfold dyL
  rw [reD_get f hi, reD_get f hj]
  simp only [lexLe]
  rw [Bool.eq_iff_iff]
  simp only [Bool.or_eq_true, Bool.and_eq_true, decide_eq_true_eq]
  generalize f (ls.getD i (0, 0, 0)).2.2 = x at *
  generalize f (ls.getD j (0, 0, 0)).2.2 = y at *
  constructor
  · rintro (h | ⟨h, r⟩)
    · exact .inl (by omega)
    · exact .inr ⟨by omega, r⟩
  · rintro (h | ⟨h, r⟩)
    · exact .inl (by omega)
    · exact .inr ⟨by omega, r⟩
theorem strL_reD (f : Int → Int) : strL (reD f ls) = strL ls := by
  unfold strL reD
  rw [List.map_map]; rfl
theorem inS_reD (f : Int → Int) (ts : List Int) (a b : Int) : inS (reD f ls) ts a b = inS ls ts a b := by
  unfold inS
  rw [reD_len]
  apply S_congr
  intro i hi
  rw [List.mem_range] at hi
  unfold dyL
  rw [reD_get f hi]
theorem roomF_reD (f : Int → Int) (ts : List Int) (d : Int) : ∀ (ps : List (Int × Int)) (m : Int), roomF (reD f ls) os t ts d ps m = roomF ls os t ts d ps m
  | [], m => rfl
  | p :: r, m => by
    unfold roomF
    rw [roomF_reD f ts d r]
    unfold spr
    rw [inS_reD]
theorem roomAt_reD (f : Int → Int) (ts : List Int) {k : Nat} (h : k < ls.length) : roomAt (reD f ls) os t ts k = roomAt ls os t ts k := by
  unfold roomAt
  rw [roomF_reD, strL_reD]
  unfold dyL
  rw [reD_get f h]
theorem bestG_reD (f : Int → Int) : ∀ (o : List Nat) (ts : List Int), (∀ k ∈ o, k < ls.length) → bestG (reD f ls) os t o ts = bestG ls os t o ts
  | [], ts, _ => rfl
  | k :: o, ts, h => by
    unfold bestG
    rw [roomAt_reD f ts (h k List.mem_cons_self)]
    exact bestG_reD f o _ fun j hj => h j (List.mem_cons_of_mem _ hj)
theorem best_reD {f : Int → Int} (hf : ∀ a ∈ ls, ∀ b ∈ ls, (f a.2.2 < f b.2.2 ↔ a.2.2 < b.2.2)) : best (reD f ls) os t = best ls os t := by
  unfold best
  rw [dutyL_reD hf, reD_len]
  exact bestG_reD f _ _ fun k hk => byK_mem.mp hk
theorem val_mul (k : Int) : ∀ (ls : List Lot) (ts : List Int), val (reD (fun u => u * k) ls) ts = val ls ts * k
  | [], ts => by simp [val, valL, reD]
  | _ :: _, [] => by simp [val, valL, reD]
  | l :: ls, x :: ts => by
    have ih := val_mul k ls ts
    unfold val reD at ih ⊢
    simp only [List.map_cons, valL, List.sum_cons]
    rw [ih, Int.add_mul]
    congr 1
    rw [Int.mul_assoc, Int.mul_comm k x, Int.mul_assoc]
theorem val_add (k : Int) : ∀ (ls : List Lot) (ts : List Int), ts.length = ls.length → val (reD (fun u => u + k) ls) ts = val ls ts + k * ts.sum
  | [], [], _ => by simp [val, valL, reD]
  | [], _ :: _, h => by cases h
  | _ :: _, [], h => by cases h
  | l :: ls, x :: ts, h => by
    have ih := val_add k ls ts (by simpa using h)
    unfold val reD at ih ⊢
    simp only [List.map_cons, valL, List.sum_cons]
    rw [ih, Int.mul_add, Int.add_mul]
    omega
/-! ### other days -/
theorem outAg_re (k t a b : Int) : ∀ os : List Ot, outAg (reO k os) t (a + k) (b + k) = outAg os t a b
  | [] => rfl
  | o :: os => by
    have ih := outAg_re k t a b os
    unfold reO at ih ⊢
    rw [List.map_cons, outAg_cons, outAg_cons, ih]
    congr 1
    by_cases h : a ≤ o.1 ∧ o.1 ≤ b + t
    · rw [if_pos h, if_pos ⟨by have := h.1; show a + k ≤ o.1 + k; omega, by have := h.2; show o.1 + k ≤ b + k + t; omega⟩]
    · rw [if_neg h, if_neg (fun z => h ⟨by have : a + k ≤ o.1 + k := z.1; omega, by have : o.1 + k ≤ b + k + t := z.2; omega⟩)]
theorem insU_re (k x : Int) : ∀ ys : List Int, insU (x + k) (ys.map (· + k)) = (insU x ys).map (· + k)
  | [] => rfl
  | y :: ys => by
    have ih := insU_re k x ys
    rw [List.map_cons]
    unfold insU
    by_cases h1 : x < y
    · rw [if_pos h1, if_pos (by omega)]; rfl
    · rw [if_neg h1, if_neg (by omega)]
      by_cases h2 : x = y
      · rw [if_pos h2, if_pos (by omega)]; rfl
      · rw [if_neg h2, if_neg (by omega), ih]; rfl
theorem sortU_re (k : Int) : ∀ xs : List Int, sortU (xs.map (· + k)) = (sortU xs).map (· + k)
  | [] => rfl
  | x :: xs => by
    have ih := sortU_re k xs
    unfold sortU at ih ⊢
    rw [List.map_cons, List.foldr_cons, ih, insU_re, List.foldr_cons]
theorem prs_re (k : Int) : ∀ xs : List Int, prs (xs.map (· + k)) = (prs xs).map fun p => (p.1 + k, p.2 + k)
  | [] => rfl
  | x :: xs => by
    have ih := prs_re k xs
    rw [List.map_cons]
    unfold prs
    rw [ih, List.map_append]
    simp [Function.comp_def]
theorem strL_re (k : Int) : strL (reL k ls) = (strL ls).map fun p => (p.1 + k, p.2 + k) := by
  unfold strL reL
  rw [List.map_map, ← prs_re, ← sortU_re, List.map_map]; rfl
theorem inS_re (k : Int) (ts : List Int) (a b : Int) : inS (reL k ls) ts (a + k) (b + k) = inS ls ts a b := by
  unfold inS
  rw [reL_len]
  apply S_congr
  intro i hi
  rw [List.mem_range] at hi
  unfold dyL
  rw [reL_get k hi]
  by_cases h : a ≤ (ls.getD i (0, 0, 0)).1 ∧ (ls.getD i (0, 0, 0)).1 ≤ b
  · rw [if_pos h, if_pos ⟨by have := h.1; show a + k ≤ (ls.getD i (0, 0, 0)).1 + k; omega, by have := h.2; show (ls.getD i (0, 0, 0)).1 + k ≤ b + k; omega⟩]
  · rw [if_neg h, if_neg (fun z => h ⟨by have : a + k ≤ (ls.getD i (0, 0, 0)).1 + k := z.1; omega, by have : (ls.getD i (0, 0, 0)).1 + k ≤ b + k := z.2; omega⟩)]
theorem spr_re (k : Int) (ts : List Int) (p : Int × Int) : spr (reL k ls) (reO k os) t ts (p.1 + k, p.2 + k) = spr ls os t ts p := by
  unfold spr
  rw [inS_re, outAg_re]
theorem roomF_re (k : Int) (ts : List Int) (d : Int) : ∀ (ps : List (Int × Int)) (m : Int), roomF (reL k ls) (reO k os) t ts (d + k) (ps.map fun p => (p.1 + k, p.2 + k)) m = roomF ls os t ts d ps m
  | [], m => rfl
  | p :: r, m => by
    rw [List.map_cons]
    unfold roomF
    rw [roomF_re k ts d r, spr_re]
    congr 1
    by_cases h : p.1 ≤ d ∧ d ≤ p.2
    · rw [if_pos h, if_pos ⟨by have := h.1; show p.1 + k ≤ d + k; omega, by have := h.2; show d + k ≤ p.2 + k; omega⟩]
    · rw [if_neg h, if_neg (fun z => h ⟨by have : p.1 + k ≤ d + k := z.1; omega, by have : d + k ≤ p.2 + k := z.2; omega⟩)]
theorem roomAt_re (k : Int) (ts : List Int) {i : Nat} (h : i < ls.length) : roomAt (reL k ls) (reO k os) t ts i = roomAt ls os t ts i := by
  unfold roomAt
  unfold dyL
  rw [reL_get k h, strL_re]
  exact roomF_re k ts _ _ _
theorem bestG_re (k : Int) : ∀ (o : List Nat) (ts : List Int), (∀ k ∈ o, k < ls.length) → bestG (reL k ls) (reO k os) t o ts = bestG ls os t o ts
  | [], ts, _ => rfl
  | i :: o, ts, h => by
    unfold bestG
    rw [roomAt_re k ts (h i List.mem_cons_self)]
    exact bestG_re k o _ fun j hj => h j (List.mem_cons_of_mem _ hj)
theorem best_re (k : Int) : best (reL k ls) (reO k os) t = best ls os t := by
  have e : dutyL (reL k ls) = dutyL ls := by
    unfold dutyL
    rw [reL_len]
    apply byK_order
    intro i j hi hj
    unfold dyL
    rw [reL_get k hi, reL_get k hj]
    simp only [lexLe]
    rw [Bool.eq_iff_iff]
    simp only [Bool.or_eq_true, Bool.and_eq_true, decide_eq_true_eq, Int.add_lt_add_iff_right, show (((ls.getD i (0, 0, 0)).1 + k = (ls.getD j (0, 0, 0)).1 + k) = ((ls.getD i (0, 0, 0)).1 = (ls.getD j (0, 0, 0)).1)) from propext ⟨fun h => by omega, fun h => by omega⟩]
  unfold best
  rw [e, reL_len]
  exact bestG_re k _ _ fun k hk => byK_mem.mp hk
end
end Mm

/-! no counts that can be dealt out have more units at a duty or above than the best counts -/
namespace Mm
open PySem L2 Fx
open Classical in
noncomputable def iv (p : Prop) (x : Int) : Int := if p then x else 0
theorem iv_t {p : Prop} (h : p) (x : Int) : iv p x = x := if_pos h
theorem iv_f {p : Prop} (h : ¬ p) (x : Int) : iv p x = 0 := if_neg h
theorem iv_if {p : Prop} [Decidable p] (x : Int) : (if p then x else 0) = iv p x := by
  by_cases h : p
  · rw [iv_t h, if_pos h]
  · rw [iv_f h, if_neg h]
def sumM {α : Type} (xs : List α) (g : α → Int) : Int := (xs.map g).sum
theorem sumM_cons {α : Type} (x : α) (xs : List α) (g : α → Int) : sumM (x :: xs) g = g x + sumM xs g := by unfold sumM; rw [List.map_cons, List.sum_cons]
theorem sumM_le {α : Type} {g h : α → Int} : ∀ {xs : List α}, (∀ x ∈ xs, g x ≤ h x) → sumM xs g ≤ sumM xs h
  | [], _ => Int.le_refl _
  | x :: xs, k => by
    rw [sumM_cons, sumM_cons]
    have h1 := k x List.mem_cons_self
    have h2 := sumM_le (xs := xs) fun y hy => k y (List.mem_cons_of_mem _ hy)
    omega
theorem sumM_add {α : Type} {g h : α → Int} : ∀ {xs : List α}, sumM xs (fun x => g x + h x) = sumM xs g + sumM xs h
  | [] => rfl
  | x :: xs => by
    rw [sumM_cons, sumM_cons, sumM_cons, sumM_add (xs := xs)]
    omega
theorem sumM_perm {α : Type} {xs ys : List α} (h : xs.Perm ys) (g : α → Int) : sumM xs g = sumM ys g := by
  induction h with
  | nil => rfl
  | cons x _ ih => rw [sumM_cons, sumM_cons, ih]
  | swap x y l => rw [sumM_cons, sumM_cons, sumM_cons, sumM_cons]; omega
  | trans _ _ i1 i2 => exact i1.trans i2
theorem give_set {dy : Nat → Int} {e t c : Int} {o : List Nat} {left left' : List Int} (g : Gv dy e t o left left' c) (h0 : ∀ i ∈ o, 0 ≤ at0 left i) (hc : 0 ≤ c) (A : Nat → Prop) :
    S o (fun i => iv (A i) (at0 left i)) ≤ iv (∃ i ∈ o, A i ∧ dy i ≤ e ∧ e ≤ dy i + t) c + S o (fun i => iv (A i) (at0 left' i)) := by
  by_cases h : ∃ i ∈ o, A i ∧ dy i ≤ e ∧ e ≤ dy i + t
  · rw [iv_t h]
    have h1 : S o (fun i => iv (A i) (at0 left i) + iv ((e - t ≤ dy i ∧ dy i ≤ e) ∧ dy i ≤ e) (at0 left' i)) ≤ S o (fun i => iv (A i) (at0 left' i) + iv ((e - t ≤ dy i ∧ dy i ≤ e) ∧ dy i ≤ e) (at0 left i)) := S_le fun i hi => by
      have h2 := g.bd i hi
      by_cases hw : e - t ≤ dy i ∧ dy i ≤ e
      · have hw2 : (e - t ≤ dy i ∧ dy i ≤ e) ∧ dy i ≤ e := ⟨hw, hw.2⟩
        rw [iv_t hw2, iv_t hw2]
        by_cases ha : A i
        · rw [iv_t ha, iv_t ha]; omega
        · rw [iv_f ha, iv_f ha]; omega
      · rw [g.off i hw]
        omega
    rw [S_add, S_add] at h1
    have h2 := g.sum e
    simp only [iv_if] at h2
    omega
  · rw [iv_f h]
    have h1 : S o (fun i => iv (A i) (at0 left i)) = S o (fun i => iv (A i) (at0 left' i)) := S_congr fun i hi => by
      by_cases ha : A i
      · rw [g.off i fun hw => h ⟨i, hi, ha, hw.2, by omega⟩]
      · rw [iv_f ha, iv_f ha]
    omega
theorem deal_set {dy : Nat → Int} {ot : Nat → Ot} {t : Int} {o : List Nat} (nd : o.Nodup) (pw : o.Pairwise (fun i j => dy i ≤ dy j)) (A : Nat → Prop) : ∀ (p : List Nat) (left : List Int), (∀ j ∈ p, 0 ≤ (ot j).2) → (∀ i ∈ o, i < left.length ∧ 0 ≤ at0 left i) →
    S o (fun i => iv (A i) (at0 left i)) ≤ sumM p (fun j => iv (∃ i ∈ o, A i ∧ dy i ≤ (ot j).1 ∧ (ot j).1 ≤ dy i + t) (ot j).2) + S o (fun i => iv (A i) (at0 (dealG dy ot t o p left).1 i))
  | [], left, _, _ => by
    show _ ≤ 0 + S o (fun i => iv (A i) (at0 left i))
    omega
  | j :: r, left, hc, hl => by
    have g := give_ok dy (ot j).1 t o left (ot j).2 nd pw hl (hc j List.mem_cons_self)
    have ih := deal_set (t := t) nd pw A r (give dy (ot j).1 t o left (ot j).2).1 (fun x hx => hc x (List.mem_cons_of_mem _ hx)) (fun i hi => ⟨by rw [g.len]; exact (hl i hi).1, (g.bd i hi).1⟩)
    have h1 := give_set g (fun i hi => (hl i hi).2) (hc j List.mem_cons_self) A
    rw [sumM_cons]
    show _ ≤ _ + S o (fun i => iv (A i) (at0 (dealG dy ot t o r (give dy (ot j).1 t o left (ot j).2).1).1 i))
    omega
section
variable {ls : List Lot} {os : List Ot} {t : Int} {ts : List Int}
/-- the units of a set of lots -/
noncomputable def sumA (ls : List Lot) (ts : List Int) (A : Nat → Prop) : Int := S (List.range ls.length) fun i => iv (A i) (at0 ts i)
/-- what goes out that can be of a set of lots -/
noncomputable def cov (ls : List Lot) (os : List Ot) (t : Int) (A : Nat → Prop) : Int := sumM os fun o => iv (∃ i, i < ls.length ∧ A i ∧ dyL ls i ≤ o.1 ∧ o.1 ≤ dyL ls i + t) o.2
variable [Tabz]
theorem set_hall (O : Okk ls os t) (T : Tk ls ts) (hf : fitB ls os t ts) (A : Nat → Prop) : sumA ls ts A ≤ cov ls os t A := by
  have q := deal_set (dy := dyL ls) (ot := otO os) (t := t) (o := ageL ls) (byK_nodup _ _) byK_day A (ageO os) ts (fun j hj => O.co _ (List.mem_of_getElem? (i := j) (by have := byK_mem.mp hj; simp [this]))) (fun i hi => by
    have hi := byK_mem.mp hi
    exact ⟨by rw [T.len]; exact hi, T.pos i hi⟩)
  obtain ⟨h1, h2, h3⟩ := deal_facts (os := os) (t := t) O T
  have z := (sum_zero (xs := (dealR ls os t ts).1) fun i hi => (h3 i (by rw [h2] at hi; exact hi)).1).mp (h1.mpr hf)
  rw [S_zero (g := fun i => iv (A i) (at0 (dealG (dyL ls) (otO os) t (ageL ls) (ageO os) ts).1 i)) fun i hi => by
    have e : at0 (dealG (dyL ls) (otO os) t (ageL ls) (ageO os) ts).1 i = 0 := z i (by rw [h2]; exact byK_mem.mp hi)
    rw [e]
    by_cases ha : A i
    · rw [iv_t ha]
    · rw [iv_f ha]] at q
  have e1 : S (ageL ls) (fun i => iv (A i) (at0 ts i)) = sumA ls ts A := S_perm (byK_perm _ _) _
  have e2 : sumM (ageO os) (fun j => iv (∃ i ∈ ageL ls, A i ∧ dyL ls i ≤ (otO os j).1 ∧ (otO os j).1 ≤ dyL ls i + t) (otO os j).2) = cov ls os t A := by
    have h := sumM_perm (ageO_perm os) fun o => iv (∃ i, i < ls.length ∧ A i ∧ dyL ls i ≤ o.1 ∧ o.1 ≤ dyL ls i + t) o.2
    unfold cov
    rw [← h]
    unfold sumM
    rw [List.map_map]
    congr 1
    apply List.map_congr_left
    intro j _
    show iv _ _ = iv _ _
    congr 1
    apply propext
    exact ⟨fun ⟨i, a, b⟩ => ⟨i, byK_mem.mp a, b⟩, fun ⟨i, a, b⟩ => ⟨i, byK_mem.mpr a, b⟩⟩
  rw [e1, e2] at q
  omega
theorem cov_sub (hc : ∀ o ∈ os, 0 ≤ o.2) (A B : Nat → Prop) : cov ls os t (fun i => A i ∨ B i) + cov ls os t (fun i => A i ∧ B i) ≤ cov ls os t A + cov ls os t B := by
  unfold cov
  rw [← sumM_add, ← sumM_add]
  refine sumM_le fun o ho => ?_
  dsimp only
  have h0 := hc o ho
  by_cases a : ∃ i, i < ls.length ∧ A i ∧ dyL ls i ≤ o.1 ∧ o.1 ≤ dyL ls i + t
  · by_cases b : ∃ i, i < ls.length ∧ B i ∧ dyL ls i ≤ o.1 ∧ o.1 ≤ dyL ls i + t
    · rw [iv_t a, iv_t b]
      have h1 : ∀ p : Prop, iv p o.2 ≤ o.2 := fun p => by
        by_cases h : p
        · rw [iv_t h]; omega
        · rw [iv_f h]; omega
      have := h1 (∃ i, i < ls.length ∧ (A i ∨ B i) ∧ dyL ls i ≤ o.1 ∧ o.1 ≤ dyL ls i + t)
      have := h1 (∃ i, i < ls.length ∧ (A i ∧ B i) ∧ dyL ls i ≤ o.1 ∧ o.1 ≤ dyL ls i + t)
      omega
    · rw [iv_t a, iv_f b, iv_f (p := ∃ i, i < ls.length ∧ (A i ∧ B i) ∧ dyL ls i ≤ o.1 ∧ o.1 ≤ dyL ls i + t) fun ⟨i, h, z, r⟩ => b ⟨i, h, z.2, r⟩]
      obtain ⟨i, h, z, r⟩ := a
      rw [iv_t (p := ∃ i, i < ls.length ∧ (A i ∨ B i) ∧ dyL ls i ≤ o.1 ∧ o.1 ≤ dyL ls i + t) ⟨i, h, .inl z, r⟩]
      omega
  · rw [iv_f a, iv_f (p := ∃ i, i < ls.length ∧ (A i ∧ B i) ∧ dyL ls i ≤ o.1 ∧ o.1 ≤ dyL ls i + t) fun ⟨i, h, z, r⟩ => a ⟨i, h, z.1, r⟩]
    by_cases b : ∃ i, i < ls.length ∧ B i ∧ dyL ls i ≤ o.1 ∧ o.1 ≤ dyL ls i + t
    · rw [iv_t b]
      obtain ⟨i, h, z, r⟩ := b
      rw [iv_t (p := ∃ i, i < ls.length ∧ (A i ∨ B i) ∧ dyL ls i ≤ o.1 ∧ o.1 ≤ dyL ls i + t) ⟨i, h, .inr z, r⟩]
      omega
    · rw [iv_f b, iv_f]
      · omega
      · rintro ⟨i, h, z | z, r⟩
        · exact a ⟨i, h, z, r⟩
        · exact b ⟨i, h, z, r⟩
theorem outAg_sum (t a b : Int) : ∀ os : List Ot, outAg os t a b = sumM os fun o => iv (a ≤ o.1 ∧ o.1 ≤ b + t) o.2
  | [] => rfl
  | o :: os => by rw [outAg_cons, sumM_cons, outAg_sum t a b os, iv_if]
theorem cov_stretch (hc : ∀ o ∈ os, 0 ≤ o.2) (a b : Int) : cov ls os t (fun i => a ≤ dyL ls i ∧ dyL ls i ≤ b) ≤ outAg os t a b := by
  rw [outAg_sum]
  refine sumM_le fun o ho => ?_
  have h0 := hc o ho
  by_cases h : ∃ i, i < ls.length ∧ (a ≤ dyL ls i ∧ dyL ls i ≤ b) ∧ dyL ls i ≤ o.1 ∧ o.1 ≤ dyL ls i + t
  · rw [iv_t h]
    obtain ⟨i, _, ⟨h1, h2⟩, h3, h4⟩ := h
    rw [iv_t ⟨by omega, by omega⟩]
    omega
  · rw [iv_f h]
    by_cases q : a ≤ o.1 ∧ o.1 ≤ b + t
    · rw [iv_t q]; exact h0
    · rw [iv_f q]; exact Int.le_refl _
theorem sumA_mono (h0 : ∀ i, i < ls.length → 0 ≤ at0 ts i) {A B : Nat → Prop} (h : ∀ i, i < ls.length → A i → B i) : sumA ls ts A ≤ sumA ls ts B := S_le fun i hi => by
  rw [List.mem_range] at hi
  have := h0 i hi
  by_cases a : A i
  · rw [iv_t a, iv_t (h i hi a)]; omega
  · rw [iv_f a]
    by_cases b : B i
    · rw [iv_t b]; omega
    · rw [iv_f b]; omega
theorem sumA_two (A B : Nat → Prop) : sumA ls ts (fun i => A i ∨ B i) + sumA ls ts (fun i => A i ∧ B i) = sumA ls ts A + sumA ls ts B := by
  unfold sumA
  rw [← S_add, ← S_add]
  refine S_congr fun i _ => ?_
  by_cases a : A i <;> by_cases b : B i
  · rw [iv_t (show A i ∨ B i from .inl a), iv_t (show A i ∧ B i from ⟨a, b⟩), iv_t a, iv_t b]
  · rw [iv_t (show A i ∨ B i from .inl a), iv_f (show ¬ (A i ∧ B i) from fun z => b z.2), iv_t a, iv_f b]
  · rw [iv_t (show A i ∨ B i from .inr b), iv_f (show ¬ (A i ∧ B i) from fun z => a z.1), iv_f a, iv_t b]; omega
  · rw [iv_f (show ¬ (A i ∨ B i) from fun z => z.elim a b), iv_f (show ¬ (A i ∧ B i) from fun z => a z.1), iv_f a, iv_f b]
/-- a set of lots that takes all that it can of what goes out, and by lots of U alone -/
def Tight (ls : List Lot) (os : List Ot) (t : Int) (ts : List Int) (U A : Nat → Prop) : Prop := cov ls os t A ≤ sumA ls ts fun i => A i ∧ U i
theorem tight_or (O : Okk ls os t) (B : Bi ls os t ts) {U A C : Nat → Prop} (h1 : Tight ls os t ts U A) (h2 : Tight ls os t ts U C) : Tight ls os t ts U fun i => A i ∨ C i := by
  unfold Tight at *
  have a1 := cov_sub (ls := ls) (t := t) O.co A C
  have a2 := sumA_two (ls := ls) (ts := ts) (fun i => A i ∧ U i) (fun i => C i ∧ U i)
  have a3 := set_hall O B.tk B.fit fun i => A i ∧ C i
  have a4 : sumA ls ts (fun i => (A i ∧ U i) ∧ (C i ∧ U i)) ≤ sumA ls ts (fun i => A i ∧ C i) := sumA_mono B.tk.pos fun i _ h => ⟨h.1.1, h.2.1⟩
  have a5 : sumA ls ts (fun i => (A i ∧ U i) ∨ (C i ∧ U i)) ≤ sumA ls ts (fun i => (A i ∨ C i) ∧ U i) := sumA_mono B.tk.pos fun i _ h => h.elim (fun z => ⟨.inl z.1, z.2⟩) fun z => ⟨.inr z.1, z.2⟩
  show cov ls os t (fun i => A i ∨ C i) ≤ sumA ls ts (fun i => (A i ∨ C i) ∧ U i)
  omega
/-- one tight set for all of U that are not full -/
theorem tight_all (O : Okk ls os t) (B : Bi ls os t ts) {U : Nat → Prop} (h : ∀ k, k < ls.length → U k → at0 ts k = ctL ls k ∨ ∃ A : Nat → Prop, A k ∧ Tight ls os t ts U A) : ∀ n, n ≤ ls.length → ∃ A : Nat → Prop, Tight ls os t ts U A ∧ ∀ k, k < n → U k → ¬ A k → at0 ts k = ctL ls k
  | 0, _ => ⟨fun _ => False, by
      unfold Tight
      have e1 : cov ls os t (fun _ => False) ≤ sumM os fun _ => 0 := sumM_le fun o _ => by rw [iv_f (fun ⟨_, _, z, _⟩ => z)]; exact Int.le_refl _
      have e2 : sumM os (fun _ => (0 : Int)) ≤ 0 := by
        clear e1
        generalize os = xs
        induction xs with
        | nil => exact Int.le_refl _
        | cons x xs ih => rw [sumM_cons]; omega
      have e3 : 0 ≤ sumA ls ts (fun i => False ∧ U i) := S_nonneg fun i _ => by rw [iv_f (fun z => z.1)]; exact Int.le_refl _
      show cov ls os t (fun _ => False) ≤ sumA ls ts (fun i => False ∧ U i)
      omega, fun k hk => by omega⟩
  | n + 1, hn => by
    obtain ⟨A, hA, h2⟩ := tight_all O B h n (by omega)
    by_cases hu : U n
    · rcases h n (by omega) hu with e | ⟨C, hC, hT⟩
      · refine ⟨A, hA, fun k hk u na => ?_⟩
        by_cases z : k = n
        · rw [z]; exact e
        · exact h2 k (by omega) u na
      · refine ⟨fun i => A i ∨ C i, tight_or O B hA hT, fun k hk u na => ?_⟩
        by_cases z : k = n
        · exact absurd (.inr (by rw [z]; exact hC)) na
        · exact h2 k (by omega) u fun z => na (.inl z)
    · refine ⟨A, hA, fun k hk u na => ?_⟩
      by_cases z : k = n
      · rw [z] at u; exact absurd u hu
      · exact h2 k (by omega) u na
/-- so no other counts that can be dealt out have more units in U -/
theorem most_in (O : Okk ls os t) (B : Bi ls os t ts) {U : Nat → Prop} (h : ∀ k, k < ls.length → U k → at0 ts k = ctL ls k ∨ ∃ A : Nat → Prop, A k ∧ Tight ls os t ts U A) {ys : List Int} (Y : Bi ls os t ys) : sumA ls ys U ≤ sumA ls ts U := by
  obtain ⟨A, hA, hfull⟩ := tight_all O B h ls.length (Nat.le_refl _)
  unfold Tight at hA
  have s1 := set_hall O Y.tk Y.fit A
  have s2 : sumA ls ys (fun i => A i ∧ U i) ≤ sumA ls ys A := sumA_mono Y.tk.pos fun i _ z => z.1
  have s3 : sumA ls ys (fun i => ¬ A i ∧ U i) ≤ sumA ls ts (fun i => ¬ A i ∧ U i) := S_le fun i hi => by
    rw [List.mem_range] at hi
    by_cases z : ¬ A i ∧ U i
    · rw [iv_t z, iv_t z, hfull i hi z.2 z.1]
      exact Y.le i hi
    · rw [iv_f z, iv_f z]; exact Int.le_refl _
  have part : ∀ xs : List Int, sumA ls xs U = sumA ls xs (fun i => A i ∧ U i) + sumA ls xs (fun i => ¬ A i ∧ U i) := fun xs => by
    unfold sumA
    rw [← S_add]
    refine S_congr fun i _ => ?_
    by_cases a : A i <;> by_cases u : U i
    · rw [iv_t u, iv_t (show A i ∧ U i from ⟨a, u⟩), iv_f (show ¬ (¬ A i ∧ U i) from fun z => z.1 a)]; omega
    · rw [iv_f u, iv_f (show ¬ (A i ∧ U i) from fun z => u z.2), iv_f (show ¬ (¬ A i ∧ U i) from fun z => u z.2)]; omega
    · rw [iv_t u, iv_f (show ¬ (A i ∧ U i) from fun z => a z.1), iv_t (show ¬ A i ∧ U i from ⟨a, u⟩)]; omega
    · rw [iv_f u, iv_f (show ¬ (A i ∧ U i) from fun z => u z.2), iv_f (show ¬ (¬ A i ∧ U i) from fun z => u z.2)]; omega
  rw [part ys, part ts]
  omega
/-! ### the greedy counts -/
theorem roomF_hit (d : Int) : ∀ (ps : List (Int × Int)) (m : Int), roomF ls os t ts d ps m = m ∨ ∃ p ∈ ps, (p.1 ≤ d ∧ d ≤ p.2) ∧ roomF ls os t ts d ps m = spr ls os t ts p
  | [], m => .inl rfl
  | p :: r, m => by
    unfold roomF
    split
    · rename_i h1
      split
      · rename_i h2
        rcases roomF_hit d r (spr ls os t ts p) with e | ⟨q, hq, h3, h4⟩
        · exact .inr ⟨p, List.mem_cons_self, h1, e⟩
        · exact .inr ⟨q, List.mem_cons_of_mem _ hq, h3, h4⟩
      · rcases roomF_hit d r m with e | ⟨q, hq, h3, h4⟩
        · exact .inl e
        · exact .inr ⟨q, List.mem_cons_of_mem _ hq, h3, h4⟩
    · rcases roomF_hit d r m with e | ⟨q, hq, h3, h4⟩
      · exact .inl e
      · exact .inr ⟨q, List.mem_cons_of_mem _ hq, h3, h4⟩
theorem bestG_off {i : Nat} : ∀ (o : List Nat) (ts : List Int), i ∉ o → (∀ k ∈ o, k < ts.length) → at0 (bestG ls os t o ts) i = at0 ts i
  | [], ts, _, _ => rfl
  | k :: o, ts, h, hl => by
    unfold bestG
    rw [bestG_off o _ (fun z => h (List.mem_cons_of_mem _ z)) (fun j hj => by rw [List.length_set]; exact hl j (List.mem_cons_of_mem _ hj)), at0_set _ _ _ _ (hl k List.mem_cons_self), if_neg]
    intro z
    exact h (z ▸ List.mem_cons_self)
theorem greedy (O : Okk ls os t) {U : Nat → Prop} : ∀ (o : List Nat) (ts : List Int), o.Nodup → o.Pairwise (fun a b => U b → U a) → (∀ k ∈ o, k < ls.length ∧ at0 ts k = 0) → (∀ i, i < ls.length → at0 ts i ≠ 0 → U i ∨ ∀ k ∈ o, ¬ U k) → Bi ls os t ts →
    ∀ k ∈ o, U k → at0 (bestG ls os t o ts) k = ctL ls k ∨ ∃ A : Nat → Prop, A k ∧ Tight ls os t (bestG ls os t o ts) U A
  | [], _, _, _, _, _, _, k, hk, _ => by cases hk
  | k0 :: o, ts, nd, pw, h, hn, B, k, hk, hu => by
    have BB := bestG_bi (k0 :: o) ts nd h B
    rw [List.nodup_cons] at nd
    rw [List.pairwise_cons] at pw
    obtain ⟨h1, h2⟩ := h k0 List.mem_cons_self
    have hl0 : k0 < ts.length := by rw [B.tk.len]; exact h1
    have B' := B.step h1 h2
    have hz : ∀ j ∈ o, j < ls.length ∧ at0 (ts.set k0 (roomAt ls os t ts k0)) j = 0 := fun j hj => ⟨(h j (List.mem_cons_of_mem _ hj)).1, by
      rw [at0_set _ _ _ _ hl0, if_neg (show ¬ k0 = j from fun z => nd.1 (z ▸ hj))]
      exact (h j (List.mem_cons_of_mem _ hj)).2⟩
    rcases List.mem_cons.mp hk with z | hk'
    · subst z
      have ek : at0 (bestG ls os t (k :: o) ts) k = roomAt ls os t ts k := by
        unfold bestG
        rw [bestG_off o _ nd.1 (fun j hj => by rw [List.length_set, B.tk.len]; exact (hz j hj).1), at0_set _ _ _ _ hl0, if_pos rfl]
      rcases roomF_hit (ls := ls) (os := os) (t := t) (ts := ts) (dyL ls k) (strL ls) ((ls.getD k (0, 0, 0)).2.1 - at0 ts k) with e | ⟨p, hp, hd, e⟩
      · left
        rw [ek]
        show roomF ls os t ts (dyL ls k) (strL ls) ((ls.getD k (0, 0, 0)).2.1 - at0 ts k) = _
        rw [e, h2, Int.sub_zero]
      · right
        refine ⟨fun i => p.1 ≤ dyL ls i ∧ dyL ls i ≤ p.2, hd, ?_⟩
        unfold Tight
        have c1 := cov_stretch (ls := ls) (t := t) O.co p.1 p.2
        have c2 := inS_set (ts := ts) (k := k) (v := roomAt ls os t ts k) (f := p.1) (l := p.2) B.tk.len h1
        rw [if_pos hd, h2] at c2
        have c3 : roomAt ls os t ts k = outAg os t p.1 p.2 - inS ls ts p.1 p.2 := e
        have c4 : inS ls (ts.set k (roomAt ls os t ts k)) p.1 p.2 ≤ sumA ls (bestG ls os t (k :: o) ts) (fun i => (p.1 ≤ dyL ls i ∧ dyL ls i ≤ p.2) ∧ U i) := S_le fun i hi => by
          rw [List.mem_range] at hi
          have p0 := BB.tk.pos i hi
          by_cases hw : p.1 ≤ dyL ls i ∧ dyL ls i ≤ p.2
          · rw [if_pos hw]
            by_cases hio : i ∈ o
            · rw [(hz i hio).2]
              by_cases u : U i
              · rw [iv_t ⟨hw, u⟩]; exact p0
              · rw [iv_f fun z => u z.2]; exact Int.le_refl _
            · have ei : at0 (bestG ls os t (k :: o) ts) i = at0 (ts.set k (roomAt ls os t ts k)) i := by
                unfold bestG
                exact bestG_off o _ hio (fun j hj => by rw [List.length_set, B.tk.len]; exact (hz j hj).1)
              by_cases u : U i
              · rw [iv_t ⟨hw, u⟩, ei]; exact Int.le_refl _
              · rw [iv_f fun z => u z.2]
                rw [at0_set _ _ _ _ hl0]
                by_cases z : k = i
                · exact absurd (z ▸ hu) u
                · rw [if_neg z]
                  by_cases y : at0 ts i = 0
                  · omega
                  · rcases hn i hi y with q | q
                    · exact absurd q u
                    · exact absurd hu (q k List.mem_cons_self)
          · rw [if_neg hw]
            by_cases y : (p.1 ≤ dyL ls i ∧ dyL ls i ≤ p.2) ∧ U i
            · exact absurd y.1 hw
            · rw [iv_f y]; exact Int.le_refl _
        show cov ls os t (fun i => p.1 ≤ dyL ls i ∧ dyL ls i ≤ p.2) ≤ sumA ls (bestG ls os t (k :: o) ts) (fun i => (p.1 ≤ dyL ls i ∧ dyL ls i ≤ p.2) ∧ U i)
        omega
    · have ih := greedy O o (ts.set k0 (roomAt ls os t ts k0)) nd.2 pw.2 hz (fun i hi y => by
        rw [at0_set _ _ _ _ hl0] at y
        by_cases z : k0 = i
        · left
          rw [← z]
          exact pw.1 k hk' hu
        · rw [if_neg z] at y
          rcases hn i hi y with q | q
          · exact .inl q
          · exact .inr fun j hj => q j (List.mem_cons_of_mem _ hj)) B' k hk' hu
      exact ih
theorem best_tight (O : Okk ls os t) (hg : ∀ l ∈ ls, GoodL l) (u : Int) : ∀ k, k < ls.length → u ≤ (ls.getD k (0, 0, 0)).2.2 → at0 (best ls os t) k = ctL ls k ∨ ∃ A : Nat → Prop, A k ∧ Tight ls os t (best ls os t) (fun i => u ≤ (ls.getD i (0, 0, 0)).2.2) A := by
  intro k hk hu
  refine greedy O (U := fun i => u ≤ (ls.getD i (0, 0, 0)).2.2) (dutyL ls) (zer ls.length) (byK_nodup _ _) ?_ (fun k hk => ⟨byK_mem.mp hk, zer_at _ _⟩) (fun i _ y => absurd (zer_at _ _) y) (Bi.zero O hg) k (byK_mem.mpr hk) hu
  refine (byK_pw ls.length _).imp fun {a b} h z => ?_
  simp only [lexLe, Bool.or_eq_true, Bool.and_eq_true, decide_eq_true_eq] at h
  show u ≤ (ls.getD a (0, 0, 0)).2.2
  have z' : u ≤ (ls.getD b (0, 0, 0)).2.2 := z
  rcases h with h | ⟨h, _⟩ <;> omega
/-- units of a duty or above -/
noncomputable def upU (ls : List Lot) (ts : List Int) (u : Int) : Int := sumA ls ts fun i => u ≤ (ls.getD i (0, 0, 0)).2.2
theorem best_most (O : Okk ls os t) (hg : ∀ l ∈ ls, GoodL l) {ys : List Int} (Y : Bi ls os t ys) (u : Int) : upU ls ys u ≤ upU ls (best ls os t) u := most_in O (best_bi O hg) (best_tight O hg u) Y
/-! ### refunds -/
theorem val_S : ∀ (ls : List Lot) (ts : List Int), ts.length = ls.length → val ls ts = S (List.range ls.length) fun i => (ls.getD i (0, 0, 0)).2.2 * at0 ts i := by
  intro ls ts h
  have e := valL_ix ls ts h
  unfold val S
  have e2 : (List.range ls.length).map (fun i => (ls.getD i (0, 0, 0)).2.2 * at0 ts i) = valL ls ts := by
    have := congrArg (List.map fun d => match d with | PyData.int i => i | _ => 0) e
    rw [List.map_map, List.map_map] at this
    simpa [Function.comp_def] using this
  rw [e2]
noncomputable def valM (ls : List Lot) (ts : List Int) (m : Nat) : Int := S (List.range ls.length) fun i => min (ls.getD i (0, 0, 0)).2.2 (m : Int) * at0 ts i
theorem valM_succ (ts : List Int) (m : Nat) : valM ls ts (m + 1) = valM ls ts m + upU ls ts ((m : Int) + 1) := by
  unfold valM upU sumA
  rw [← S_add]
  refine S_congr fun i _ => ?_
  by_cases h : (m : Int) + 1 ≤ (ls.getD i (0, 0, 0)).2.2
  · rw [iv_t h, show min (ls.getD i (0, 0, 0)).2.2 ((m + 1 : Nat) : Int) = (m : Int) + 1 by omega, show min (ls.getD i (0, 0, 0)).2.2 (m : Int) = (m : Int) by omega, Int.add_mul, Int.one_mul]
  · rw [iv_f h, show min (ls.getD i (0, 0, 0)).2.2 ((m + 1 : Nat) : Int) = min (ls.getD i (0, 0, 0)).2.2 (m : Int) by omega, Int.add_zero]
theorem valM_zero (hg : ∀ l ∈ ls, GoodL l) (ts : List Int) : valM ls ts 0 = 0 := S_zero fun i hi => by
  rw [List.mem_range] at hi
  have := (hg _ (get_mem hi)).u1
  rw [show min (ls.getD i (0, 0, 0)).2.2 ((0 : Nat) : Int) = 0 by omega, Int.zero_mul]
theorem valM_big (hg : ∀ l ∈ ls, GoodL l) (ts : List Int) (h : ts.length = ls.length) : valM ls ts 1000000 = val ls ts := by
  rw [val_S ls ts h]
  refine S_congr fun i hi => ?_
  rw [List.mem_range] at hi
  have := (hg _ (get_mem hi)).u2
  rw [show min (ls.getD i (0, 0, 0)).2.2 ((1000000 : Nat) : Int) = (ls.getD i (0, 0, 0)).2.2 by omega]
theorem valM_le (hg : ∀ l ∈ ls, GoodL l) {xs ys : List Int} (h : ∀ u, upU ls xs u ≤ upU ls ys u) : ∀ m, valM ls xs m ≤ valM ls ys m
  | 0 => by rw [valM_zero hg, valM_zero hg]; exact Int.le_refl _
  | m + 1 => by
    rw [valM_succ, valM_succ]
    have := valM_le hg h m
    have := h ((m : Int) + 1)
    omega
theorem val_le (hg : ∀ l ∈ ls, GoodL l) {xs ys : List Int} (hx : xs.length = ls.length) (hy : ys.length = ls.length) (h : ∀ u, upU ls xs u ≤ upU ls ys u) : val ls xs ≤ val ls ys := by
  rw [← valM_big hg xs hx, ← valM_big hg ys hy]
  exact valM_le hg h _
theorem top_most (O : Okk ls os t) (hg : ∀ l ∈ ls, GoodL l) {ys : List Int} (Y : Bi ls os t ys) : val ls ys ≤ topV ls os t := val_le hg Y.tk.len (best_len ls os t) (best_most O hg Y)
/-- a longer term -/
theorem bi_term {t' : Int} (hc : ∀ o ∈ os, 0 ≤ o.2) (B : Bi ls os t ts) (h : t ≤ t') : Bi ls os t' ts := ⟨B.tk, B.le, fun p hp => by
  have h1 := B.fit p hp
  have h2 : outAg os t p.1 p.2 ≤ outAg os t' p.1 p.2 := by
    rw [outAg_sum, outAg_sum]
    refine sumM_le fun o ho => ?_
    have h0 := hc o ho
    by_cases a : p.1 ≤ o.1 ∧ o.1 ≤ p.2 + t
    · rw [iv_t a, iv_t ⟨a.1, by have := a.2; omega⟩]; omega
    · rw [iv_f a]
      by_cases b : p.1 ≤ o.1 ∧ o.1 ≤ p.2 + t'
      · rw [iv_t b]; exact h0
      · rw [iv_f b]; exact Int.le_refl _
  unfold spr at h1 ⊢
  omega⟩
theorem top_term {t' : Int} (O : Okk ls os t) (hg : ∀ l ∈ ls, GoodL l) (h : t ≤ t') : topV ls os t ≤ topV ls os t' :=
  top_most ⟨O.nl, O.no, O.co, Int.le_trans O.ht h⟩ hg (bi_term O.co (best_bi O hg) h)
end
end Mm

/-! the most units of a set of lots, told by what bars one more; one unit more that goes out -/
namespace Mm
open PySem L2 Fx
noncomputable def ctA (ls : List Lot) (A : Nat → Prop) : Int := S (List.range ls.length) fun i => iv (A i) (ctL ls i)
noncomputable def cutV (ls : List Lot) (os : List Ot) (t : Int) (U A : Nat → Prop) : Int := cov ls os t A + ctA ls fun i => ¬ A i ∧ U i
/-- sets of lots that hold with a lot all that go ahead of it -/
def Cl (ls : List Lot) (U : Nat → Prop) : Prop := (dutyL ls).Pairwise fun a b => U b → U a
section
variable {ls : List Lot} {os : List Ot} {t : Int} {ts : List Int}
theorem sumA_part (U A : Nat → Prop) : sumA ls ts U = sumA ls ts (fun i => A i ∧ U i) + sumA ls ts (fun i => ¬ A i ∧ U i) := by
  unfold sumA
  rw [← S_add]
  refine S_congr fun i _ => ?_
  by_cases a : A i <;> by_cases u : U i
  · rw [iv_t u, iv_t (show A i ∧ U i from ⟨a, u⟩), iv_f (show ¬ (¬ A i ∧ U i) from fun z => z.1 a)]; omega
  · rw [iv_f u, iv_f (show ¬ (A i ∧ U i) from fun z => u z.2), iv_f (show ¬ (¬ A i ∧ U i) from fun z => u z.2)]; omega
  · rw [iv_t u, iv_f (show ¬ (A i ∧ U i) from fun z => a z.1), iv_t (show ¬ A i ∧ U i from ⟨a, u⟩)]; omega
  · rw [iv_f u, iv_f (show ¬ (A i ∧ U i) from fun z => u z.2), iv_f (show ¬ (¬ A i ∧ U i) from fun z => u z.2)]; omega
variable [Tabz]
theorem cut_weak (O : Okk ls os t) (B : Bi ls os t ts) (U A : Nat → Prop) : sumA ls ts U ≤ cutV ls os t U A := by
  have s1 := set_hall O B.tk B.fit A
  have s2 : sumA ls ts (fun i => A i ∧ U i) ≤ sumA ls ts A := sumA_mono B.tk.pos fun i _ z => z.1
  have s3 : sumA ls ts (fun i => ¬ A i ∧ U i) ≤ ctA ls (fun i => ¬ A i ∧ U i) := S_le fun i hi => by
    rw [List.mem_range] at hi
    by_cases z : ¬ A i ∧ U i
    · rw [iv_t z, iv_t z]
      exact B.le i hi
    · rw [iv_f z, iv_f z]; exact Int.le_refl _
  have := sumA_part (ls := ls) (ts := ts) U A
  unfold cutV
  omega
theorem cut_strong (O : Okk ls os t) (hg : ∀ l ∈ ls, GoodL l) {U : Nat → Prop} (hU : Cl ls U) : ∃ A : Nat → Prop, cutV ls os t U A = sumA ls (best ls os t) U := by
  have B := best_bi O hg
  obtain ⟨A, hA, hfull⟩ := tight_all O B (U := U) (fun k hk hu => greedy O (U := U) (dutyL ls) (zer ls.length) (byK_nodup _ _) hU (fun k hk => ⟨byK_mem.mp hk, zer_at _ _⟩) (fun i _ y => absurd (zer_at _ _) y) (Bi.zero O hg) k (byK_mem.mpr hk) hu) ls.length (Nat.le_refl _)
  refine ⟨A, Int.le_antisymm ?_ (cut_weak O B U A)⟩
  have h1 := sumA_part (ls := ls) (ts := best ls os t) U A
  have h2 : ctA ls (fun i => ¬ A i ∧ U i) = sumA ls (best ls os t) (fun i => ¬ A i ∧ U i) := S_congr fun i hi => by
    rw [List.mem_range] at hi
    by_cases z : ¬ A i ∧ U i
    · rw [iv_t z, iv_t z, ← hfull i hi z.2 z.1]
    · rw [iv_f z, iv_f z]
  have h3 : cov ls os t A ≤ sumA ls (best ls os t) (fun i => A i ∧ U i) := hA
  unfold cutV
  omega
theorem cl_up (u : Int) : Cl ls fun i => u ≤ (ls.getD i (0, 0, 0)).2.2 := by
  refine (byK_pw ls.length _).imp fun {a b} h z => ?_
  simp only [lexLe, Bool.or_eq_true, Bool.and_eq_true, decide_eq_true_eq] at h
  have z' : u ≤ (ls.getD b (0, 0, 0)).2.2 := z
  rcases h with h | ⟨h, _⟩ <;> omega
/-- an out more -/
def tch (ls : List Lot) (t d : Int) (A : Nat → Prop) : Prop := ∃ i, i < ls.length ∧ A i ∧ dyL ls i ≤ d ∧ d ≤ dyL ls i + t
theorem cov_more (d m : Int) (A : Nat → Prop) : cov ls (os ++ [(d, m)]) t A = cov ls os t A + iv (tch ls t d A) m := by
  unfold cov sumM
  rw [List.map_append, List.sum_append]
  congr 1
  show iv _ _ + 0 = _
  rw [Int.add_zero]
  rfl
theorem okk_more {d m : Int} (O : Okk ls os t) (hn : os.length ≤ 61) (hm : 0 ≤ m) : Okk ls (os ++ [(d, m)]) t := ⟨O.nl, by simp; omega, fun o ho => by
  rcases List.mem_append.mp ho with h | h
  · exact O.co o h
  · rw [List.mem_singleton] at h; rw [h]; exact hm, O.ht⟩
theorem ctA_two (U V A B : Nat → Prop) (h : ∀ i, U i → V i) (hg : ∀ i, i < ls.length → 0 ≤ ctL ls i) : ctA ls (fun i => ¬ (A i ∧ B i) ∧ U i) + ctA ls (fun i => ¬ (A i ∨ B i) ∧ V i) ≤ ctA ls (fun i => ¬ B i ∧ U i) + ctA ls (fun i => ¬ A i ∧ V i) := by
  unfold ctA
  rw [← S_add, ← S_add]
  refine S_le fun i hi => ?_
  dsimp only
  have h0 := hg i (List.mem_range.mp hi)
  have iv0 : ∀ p : Prop, 0 ≤ iv p (ctL ls i) := fun p => by
    by_cases q : p
    · rw [iv_t q]; exact h0
    · rw [iv_f q]; exact Int.le_refl _
  by_cases a : A i <;> by_cases b : B i
  · rw [iv_f (show ¬ (¬ (A i ∧ B i) ∧ U i) from fun z => z.1 ⟨a, b⟩), iv_f (show ¬ (¬ (A i ∨ B i) ∧ V i) from fun z => z.1 (.inl a))]
    have := iv0 (¬ B i ∧ U i)
    have := iv0 (¬ A i ∧ V i)
    omega
  · rw [iv_f (show ¬ (¬ (A i ∨ B i) ∧ V i) from fun z => z.1 (.inl a)), iv_f (show ¬ (¬ A i ∧ V i) from fun z => z.1 a)]
    by_cases u : U i
    · rw [iv_t (show ¬ (A i ∧ B i) ∧ U i from ⟨fun z => b z.2, u⟩), iv_t (show ¬ B i ∧ U i from ⟨b, u⟩)]; exact Int.le_refl _
    · rw [iv_f (show ¬ (¬ (A i ∧ B i) ∧ U i) from fun z => u z.2), iv_f (show ¬ (¬ B i ∧ U i) from fun z => u z.2)]; exact Int.le_refl _
  · rw [iv_f (show ¬ (¬ (A i ∨ B i) ∧ V i) from fun z => z.1 (.inr b)), iv_f (show ¬ (¬ B i ∧ U i) from fun z => z.1 b)]
    by_cases u : U i
    · rw [iv_t (show ¬ (A i ∧ B i) ∧ U i from ⟨fun z => a z.1, u⟩), iv_t (show ¬ A i ∧ V i from ⟨a, h i u⟩)]; omega
    · rw [iv_f (show ¬ (¬ (A i ∧ B i) ∧ U i) from fun z => u z.2)]
      have := iv0 (¬ A i ∧ V i)
      omega
  · have e1 : (¬ (A i ∧ B i) ∧ U i) = (¬ B i ∧ U i) := propext ⟨fun z => ⟨b, z.2⟩, fun z => ⟨fun y => b y.2, z.2⟩⟩
    have e2 : (¬ (A i ∨ B i) ∧ V i) = (¬ A i ∧ V i) := propext ⟨fun z => ⟨a, z.2⟩, fun z => ⟨fun y => y.elim a b, z.2⟩⟩
    rw [e1, e2]
    exact Int.le_refl _
theorem ct_nonneg (hg : ∀ l ∈ ls, GoodL l) : ∀ i, i < ls.length → 0 ≤ ctL ls i := fun i hi => by
  have := (hg _ (get_mem hi)).c1
  show 0 ≤ (ls.getD i (0, 0, 0)).2.1
  omega
/-- the most units with an out more of m units -/
noncomputable abbrev rk (ls : List Lot) (os : List Ot) (t d m : Int) (U : Nat → Prop) : Int := sumA ls (best ls (os ++ [(d, m)]) t) U
variable {d : Int}
theorem rk_mono (O : Okk ls os t) (hg : ∀ l ∈ ls, GoodL l) (hn : os.length ≤ 61) {m m' : Int} (hm : 0 ≤ m) (hmm : m ≤ m') {U : Nat → Prop} (hU : Cl ls U) : rk ls os t d m U ≤ rk ls os t d m' U ∧ rk ls os t d m' U ≤ rk ls os t d m U + (m' - m) := by
  have O1 := okk_more (d := d) O hn hm
  have O2 := okk_more (d := d) (m := m') O hn (by omega)
  obtain ⟨A, hA⟩ := cut_strong O1 hg hU
  obtain ⟨A', hA'⟩ := cut_strong O2 hg hU
  have w1 := cut_weak O1 (best_bi O1 hg) U A'
  have w2 := cut_weak O2 (best_bi O2 hg) U A
  unfold cutV at hA hA' w1 w2
  rw [cov_more] at hA hA' w1 w2
  unfold rk
  constructor
  · by_cases h : tch ls t d A'
    · rw [iv_t h] at hA' w1; omega
    · rw [iv_f h] at hA' w1; omega
  · by_cases h : tch ls t d A
    · rw [iv_t h] at hA w2; omega
    · rw [iv_f h] at hA w2; omega
theorem rk_concave (O : Okk ls os t) (hg : ∀ l ∈ ls, GoodL l) (hn : os.length ≤ 61) {m : Int} (hm : 0 ≤ m) {U : Nat → Prop} (hU : Cl ls U) : rk ls os t d m U + rk ls os t d (m + 2) U ≤ 2 * rk ls os t d (m + 1) U := by
  have O0 := okk_more (d := d) O hn hm
  have O1 := okk_more (d := d) (m := m + 1) O hn (by omega)
  have O2 := okk_more (d := d) (m := m + 2) O hn (by omega)
  obtain ⟨A, hA⟩ := cut_strong O1 hg hU
  have w0 := cut_weak O0 (best_bi O0 hg) U A
  have w2 := cut_weak O2 (best_bi O2 hg) U A
  unfold cutV at hA w0 w2
  rw [cov_more] at hA w0 w2
  unfold rk
  by_cases h : tch ls t d A
  · rw [iv_t h] at hA w0 w2; omega
  · rw [iv_f h] at hA w0 w2; omega
theorem rk_gain (O : Okk ls os t) (hg : ∀ l ∈ ls, GoodL l) (hn : os.length ≤ 61) {m : Int} (hm : 0 ≤ m) {U V : Nat → Prop} (hU : Cl ls U) (hV : Cl ls V) (h : ∀ i, U i → V i) (e : rk ls os t d (m + 1) V ≤ rk ls os t d m V) : rk ls os t d (m + 1) U ≤ rk ls os t d m U := by
  have O0 := okk_more (d := d) O hn hm
  have O1 := okk_more (d := d) (m := m + 1) O hn (by omega)
  obtain ⟨A, hA⟩ := cut_strong O1 hg hV
  obtain ⟨B, hB⟩ := cut_strong O0 hg hU
  have w1 := cut_weak O0 (best_bi O0 hg) V A
  have w2 := cut_weak O0 (best_bi O0 hg) V fun i => A i ∨ B i
  have w3 := cut_weak O1 (best_bi O1 hg) U fun i => A i ∧ B i
  have s1 := cov_sub (ls := ls) (t := t) O0.co A B
  have s2 := ctA_two U V A B h (ct_nonneg hg)
  unfold cutV at hA hB w1 w2 w3
  dsimp only at w2 w3
  unfold rk at e ⊢
  have na : ¬ tch ls t d A := fun z => by
    rw [cov_more] at hA w1
    rw [iv_t z] at hA w1
    omega
  have nb : ¬ tch ls t d fun i => A i ∧ B i := fun ⟨i, h1, h2, h3⟩ => na ⟨i, h1, h2.1, h3⟩
  have e1 : cov ls (os ++ [(d, m + 1)]) t A = cov ls (os ++ [(d, m)]) t A := by rw [cov_more, cov_more, iv_f na, iv_f na]
  have e2 : cov ls (os ++ [(d, m + 1)]) t (fun i => A i ∧ B i) = cov ls (os ++ [(d, m)]) t (fun i => A i ∧ B i) := by rw [cov_more, cov_more, iv_f nb, iv_f nb]
  omega
/-! ### prefixes of the order -/
theorem cl_pre {P R : List Nat} (h : dutyL ls = P ++ R) : Cl ls fun i => i ∈ P := by
  have nd := byK_nodup ls.length fun i => [-(ls.getD i (0, 0, 0)).2.2, dyL ls i, (i : Int)]
  have nd' : (P ++ R).Nodup := h ▸ nd
  unfold Cl
  rw [h, List.pairwise_append]
  rw [List.nodup_append] at nd'
  refine ⟨?_, ?_, fun a ha b hb z => ha⟩
  · exact List.Pairwise.imp_of_mem (fun {a b} ha hb _ _ => ha) (List.pairwise_of_forall (R := fun _ _ => True) (fun _ _ => trivial))
  · exact List.Pairwise.imp_of_mem (fun {a b} ha hb _ z => absurd rfl (nd'.2.2 b z b hb)) (List.pairwise_of_forall (R := fun _ _ => True) (fun _ _ => trivial))
theorem S_at {o : List Nat} (nd : o.Nodup) {k : Nat} (hk : k ∈ o) (x : Int) : S o (fun i => iv (i = k) x) = x := by
  induction o with
  | nil => cases hk
  | cons j o ih =>
    rw [List.nodup_cons] at nd
    have e : S (j :: o) (fun i => iv (i = k) x) = iv (j = k) x + S o (fun i => iv (i = k) x) := sumM_cons j o _
    rw [e]
    by_cases h : j = k
    · rw [iv_t h, S_zero fun i hi => iv_f (fun z => nd.1 (by rw [h, ← z]; exact hi)) _, Int.add_zero]
    · rw [iv_f h, ih nd.2 ((List.mem_cons.mp hk).resolve_left fun z => h z.symm), Int.zero_add]
theorem sumA_snoc {P : List Nat} {k : Nat} (hk : k < ls.length) (hn : k ∉ P) : sumA ls ts (fun i => i ∈ P ++ [k]) = sumA ls ts (fun i => i ∈ P) + at0 ts k := by
  have e := S_at List.nodup_range (List.mem_range.mpr hk) (at0 ts k)
  unfold sumA
  rw [← e, ← S_add]
  refine S_congr fun i _ => ?_
  by_cases h : i = k
  · rw [iv_t (show i ∈ P ++ [k] by simp [h]), iv_f (show ¬ i ∈ P from h ▸ hn), iv_t h, h]; omega
  · by_cases q : i ∈ P
    · rw [iv_t (show i ∈ P ++ [k] by simp [q]), iv_t q, iv_f h]; omega
    · rw [iv_f (show ¬ i ∈ P ++ [k] by simp [q, h]), iv_f q, iv_f h]; omega
theorem rise_one (O : Okk ls os t) (hg : ∀ l ∈ ls, GoodL l) (hn : os.length ≤ 61) {m : Int} (hm : 0 ≤ m) : ∀ (R P : List Nat), dutyL ls = P ++ R → rk ls os t d (m + 1) (fun i => i ∈ P) = rk ls os t d m (fun i => i ∈ P) + 1 → ∀ k ∈ R, at0 (best ls (os ++ [(d, m + 1)]) t) k = at0 (best ls (os ++ [(d, m)]) t) k
  | [], _, _, _, k, hk => by cases hk
  | j :: R, P, h, e, k, hk => by
    have h' : dutyL ls = (P ++ [j]) ++ R := by rw [h]; simp
    have nd : (P ++ j :: R).Nodup := h ▸ byK_nodup ls.length fun i => [-(ls.getD i (0, 0, 0)).2.2, dyL ls i, (i : Int)]
    have hj : j < ls.length := byK_mem.mp (show j ∈ dutyL ls by rw [h]; simp)
    have jn : j ∉ P := fun z => by
      rw [List.nodup_append] at nd
      exact nd.2.2 j z j List.mem_cons_self rfl
    have s1 := sumA_snoc (ts := best ls (os ++ [(d, m)]) t) hj jn
    have s2 := sumA_snoc (ts := best ls (os ++ [(d, m + 1)]) t) hj jn
    have b := rk_mono (d := d) (m := m) (m' := m + 1) O hg hn hm (by omega) (cl_pre h')
    have g : ¬ rk ls os t d (m + 1) (fun i => i ∈ P ++ [j]) ≤ rk ls os t d m (fun i => i ∈ P ++ [j]) := fun z => by
      have := rk_gain O hg hn hm (cl_pre h) (cl_pre h') (fun i hi => by simp [hi]) z
      omega
    unfold rk at *
    rcases List.mem_cons.mp hk with z | z
    · subst z; omega
    · exact rise_one O hg hn hm R (P ++ [j]) h' (by unfold rk; omega) k z
theorem rise (O : Okk ls os t) (hg : ∀ l ∈ ls, GoodL l) (hn : os.length ≤ 61) {m : Int} (hm : 0 ≤ m) : ∀ (R P : List Nat), dutyL ls = P ++ R → rk ls os t d (m + 1) (fun i => i ∈ P) = rk ls os t d m (fun i => i ∈ P) →
    (∀ k ∈ R, at0 (best ls (os ++ [(d, m + 1)]) t) k = at0 (best ls (os ++ [(d, m)]) t) k) ∨ ∃ k0 ∈ R, at0 (best ls (os ++ [(d, m + 1)]) t) k0 = at0 (best ls (os ++ [(d, m)]) t) k0 + 1 ∧ ∀ k ∈ R, k ≠ k0 → at0 (best ls (os ++ [(d, m + 1)]) t) k = at0 (best ls (os ++ [(d, m)]) t) k
  | [], _, _, _ => .inl fun k hk => by cases hk
  | j :: R, P, h, e => by
    have h' : dutyL ls = (P ++ [j]) ++ R := by rw [h]; simp
    have nd : (P ++ j :: R).Nodup := h ▸ byK_nodup ls.length fun i => [-(ls.getD i (0, 0, 0)).2.2, dyL ls i, (i : Int)]
    have hj : j < ls.length := byK_mem.mp (show j ∈ dutyL ls by rw [h]; simp)
    have jn : j ∉ P := fun z => by
      rw [List.nodup_append] at nd
      exact nd.2.2 j z j List.mem_cons_self rfl
    have jr : j ∉ R := fun z => by
      rw [List.nodup_append, List.nodup_cons] at nd
      exact nd.2.1.1 z
    have s1 := sumA_snoc (ts := best ls (os ++ [(d, m)]) t) hj jn
    have s2 := sumA_snoc (ts := best ls (os ++ [(d, m + 1)]) t) hj jn
    have b := rk_mono (d := d) (m := m) (m' := m + 1) O hg hn hm (by omega) (cl_pre h')
    by_cases z : rk ls os t d (m + 1) (fun i => i ∈ P ++ [j]) = rk ls os t d m (fun i => i ∈ P ++ [j])
    · have ej : at0 (best ls (os ++ [(d, m + 1)]) t) j = at0 (best ls (os ++ [(d, m)]) t) j := by unfold rk at *; omega
      rcases rise O hg hn hm R (P ++ [j]) h' z with q | ⟨k0, hk0, q1, q2⟩
      · left
        intro k hk
        rcases List.mem_cons.mp hk with y | y
        · rw [y]; exact ej
        · exact q k y
      · right
        refine ⟨k0, List.mem_cons_of_mem _ hk0, q1, fun k hk ne => ?_⟩
        rcases List.mem_cons.mp hk with y | y
        · rw [y]; exact ej
        · exact q2 k y ne
    · right
      refine ⟨j, List.mem_cons_self, by unfold rk at *; omega, fun k hk ne => ?_⟩
      rcases List.mem_cons.mp hk with y | y
      · exact absurd y ne
      · exact rise_one O hg hn hm R (P ++ [j]) h' (by omega) k y
/-! ### outs that come to the same -/
theorem roomF_outs {os' : List Ot} (ts : List Int) (e : Int) (h : ∀ a b, outAg os t a b = outAg os' t a b) : ∀ (ps : List (Int × Int)) (m : Int), roomF ls os t ts e ps m = roomF ls os' t ts e ps m
  | [], m => rfl
  | p :: r, m => by
    unfold roomF
    rw [roomF_outs ts e h r]
    unfold spr
    rw [h]
theorem bestG_outs {os' : List Ot} (h : ∀ a b, outAg os t a b = outAg os' t a b) : ∀ (o : List Nat) (ts : List Int), bestG ls os t o ts = bestG ls os' t o ts
  | [], ts => rfl
  | k :: o, ts => by
    unfold bestG roomAt
    rw [roomF_outs ts _ h]
    exact bestG_outs h o _
theorem best_outs {os' : List Ot} (h : ∀ a b, outAg os t a b = outAg os' t a b) : best ls os t = best ls os' t := bestG_outs h _ _
theorem best_zero (d : Int) : best ls (os ++ [(d, 0)]) t = best ls os t := best_outs fun a b => by
  rw [outAg_sum, outAg_sum]
  unfold sumM
  rw [List.map_append, List.sum_append]
  show _ + (iv _ 0 + 0) = _
  have : ∀ p : Prop, iv p 0 = 0 := fun p => by
    by_cases h : p
    · rw [iv_t h]
    · rw [iv_f h]
  rw [this]
  omega
/-- one unit more that goes out: at most one lot has one unit more -/
theorem best_rise (O : Okk ls os t) (hg : ∀ l ∈ ls, GoodL l) (hn : os.length ≤ 61) (d : Int) :
    (best ls (os ++ [(d, 1)]) t = best ls os t) ∨ ∃ k0, k0 < ls.length ∧ at0 (best ls (os ++ [(d, 1)]) t) k0 = at0 (best ls os t) k0 + 1 ∧ ∀ k, k ≠ k0 → at0 (best ls (os ++ [(d, 1)]) t) k = at0 (best ls os t) k := by
  have q := rise (d := d) (m := 0) O hg hn (Int.le_refl _) (dutyL ls) [] rfl (by
    unfold rk sumA
    rw [S_zero fun i _ => iv_f (by simp) _, S_zero fun i _ => iv_f (by simp) _])
  rw [best_zero, Int.zero_add] at q
  have l1 := best_len ls (os ++ [(d, 1)]) t
  have l2 := best_len ls os t
  have off : ∀ k, ¬ k < ls.length → at0 (best ls (os ++ [(d, 1)]) t) k = at0 (best ls os t) k := fun k hk => by
    unfold at0
    rw [List.getD_eq_getElem?_getD, List.getD_eq_getElem?_getD, List.getElem?_eq_none (by omega), List.getElem?_eq_none (by omega)]
  rcases q with q | ⟨k0, hk0, q1, q2⟩
  · left
    apply List.ext_getElem (by omega)
    intro i h1 h2
    have := q i (byK_mem.mpr (by omega))
    unfold at0 at this
    simpa [h1, h2] using this
  · right
    refine ⟨k0, byK_mem.mp hk0, q1, fun k ne => ?_⟩
    by_cases hk : k < ls.length
    · exact q2 k (byK_mem.mpr hk) ne
    · exact off k hk
theorem val_rise {xs ys : List Int} (hx : xs.length = ls.length) (hy : ys.length = ls.length) {k0 : Nat} (hk : k0 < ls.length) (h1 : at0 ys k0 = at0 xs k0 + 1) (h2 : ∀ k, k ≠ k0 → at0 ys k = at0 xs k) : val ls ys = val ls xs + (ls.getD k0 (0, 0, 0)).2.2 := by
  rw [val_S ls ys hy, val_S ls xs hx]
  have e := S_at List.nodup_range (List.mem_range.mpr hk) (ls.getD k0 (0, 0, 0)).2.2
  rw [← e, ← S_add]
  refine S_congr fun i _ => ?_
  by_cases h : i = k0
  · rw [iv_t h, h, h1, Int.mul_add, Int.mul_one]
  · rw [iv_f h, h2 i h, Int.add_zero]
/-! ### lines -/
theorem valM_concave (O : Okk ls os t) (hg : ∀ l ∈ ls, GoodL l) (hn : os.length ≤ 61) {m : Int} (hm : 0 ≤ m) : ∀ n : Nat, valM ls (best ls (os ++ [(d, m)]) t) n + valM ls (best ls (os ++ [(d, m + 2)]) t) n ≤ 2 * valM ls (best ls (os ++ [(d, m + 1)]) t) n
  | 0 => by rw [valM_zero hg, valM_zero hg, valM_zero hg]; omega
  | n + 1 => by
    rw [valM_succ, valM_succ, valM_succ]
    have h1 := valM_concave O hg hn hm n
    have h2 := rk_concave (d := d) O hg hn hm (cl_up ((n : Int) + 1))
    unfold rk at h2
    unfold upU
    omega
theorem top_concave (O : Okk ls os t) (hg : ∀ l ∈ ls, GoodL l) (hn : os.length ≤ 61) {m : Int} (hm : 0 ≤ m) : topV ls (os ++ [(d, m)]) t + topV ls (os ++ [(d, m + 2)]) t ≤ 2 * topV ls (os ++ [(d, m + 1)]) t := by
  have h := valM_concave (d := d) O hg hn hm 1000000
  rw [valM_big hg _ (best_len _ _ _), valM_big hg _ (best_len _ _ _), valM_big hg _ (best_len _ _ _)] at h
  exact h
theorem top_more (O : Okk ls os t) (hg : ∀ l ∈ ls, GoodL l) (hn : os.length ≤ 61) {m : Int} (hm : 0 ≤ m) : topV ls (os ++ [(d, m)]) t ≤ topV ls (os ++ [(d, m + 1)]) t := 
  val_le hg (best_len _ _ _) (best_len _ _ _) fun u => (rk_mono (d := d) O hg hn hm (by omega) (cl_up u)).1
end
end Mm

/-! one unit more that comes in -/
namespace Mm
open PySem L2 Fx
abbrev kyL (ls : List Lot) (i : Nat) : List Int := [-(ls.getD i (0, 0, 0)).2.2, dyL ls i, (i : Int)]
/-- sets of lots that hold with a lot all that go ahead of it, by keys -/
def Dn (ls : List Lot) (U : Nat → Prop) : Prop := ∀ a b, a < ls.length → b < ls.length → lexLe (kyL ls a) (kyL ls b) = true → U b → U a
variable [Tabz]
theorem ky_anti {ls ls' : List Lot} {a b : Nat} (h1 : lexLe (kyL ls a) (kyL ls' b) = true) (h2 : lexLe (kyL ls' b) (kyL ls a) = true) : a = b := by
  simp only [lexLe, Bool.or_eq_true, Bool.and_eq_true, decide_eq_true_eq] at h1 h2
  omega
section
variable {ls : List Lot} {os : List Ot} {t d u : Int} {ts : List Int}
theorem cl_dn {U : Nat → Prop} (h : Dn ls U) : Cl ls U := by
  have pw := byK_pw ls.length fun i => kyL ls i
  exact List.Pairwise.imp_of_mem (fun {a b} ha hb l z => h a b (byK_mem.mp ha) (byK_mem.mp hb) l z) pw
theorem dn_pre {P R : List Nat} (h : dutyL ls = P ++ R) : Dn ls fun i => i ∈ P := by
  intro a b ha hb l hb'
  have pw : (P ++ R).Pairwise fun a b => lexLe (kyL ls a) (kyL ls b) = true := by
    rw [← h]; exact byK_pw ls.length fun i => kyL ls i
  rw [List.pairwise_append] at pw
  have hm : a ∈ P ++ R := by rw [← h]; exact byK_mem.mpr ha
  rcases List.mem_append.mp hm with z | z
  · exact z
  · have := pw.2.2 b hb' a z
    rw [ky_anti l this]
    exact hb'
/-! ### a lot more -/
abbrev mo (ls : List Lot) (d u : Int) : List Lot := ls ++ [(d, 1, u)]
theorem mo_len : (mo ls d u).length = ls.length + 1 := by simp
theorem mo_old {i : Nat} (h : i < ls.length) : (mo ls d u).getD i (0, 0, 0) = ls.getD i (0, 0, 0) := by
  simp [mo, List.getElem?_append_left h]
theorem mo_new : (mo ls d u).getD ls.length (0, 0, 0) = (d, 1, u) := by simp [mo]
theorem ky_old {i : Nat} (h : i < ls.length) : kyL (mo ls d u) i = kyL ls i := by
  unfold kyL dyL
  rw [mo_old h]
theorem S_last (n : Nat) (g : Nat → Int) : S (List.range (n + 1)) g = S (List.range n) g + g n := by
  unfold S
  rw [List.range_succ, List.map_append, List.sum_append]
  simp
theorem sumA_mo (xs : List Int) (U : Nat → Prop) : sumA (mo ls d u) xs U = sumA ls xs U + iv (U ls.length) (at0 xs ls.length) := by
  unfold sumA
  rw [mo_len, S_last]
theorem ctA_mo (U : Nat → Prop) : ctA (mo ls d u) U = ctA ls U + iv (U ls.length) 1 := by
  unfold ctA
  rw [mo_len, S_last]
  congr 1
  · refine S_congr fun i hi => ?_
    rw [List.mem_range] at hi
    unfold ctL
    rw [mo_old hi]
  · unfold ctL
    rw [mo_new]
theorem cov_mo_le (hc : ∀ o ∈ os, 0 ≤ o.2) (A : Nat → Prop) : cov ls os t A ≤ cov (mo ls d u) os t A := sumM_le fun o ho => by
  have h0 := hc o ho
  by_cases h : ∃ i, i < ls.length ∧ A i ∧ dyL ls i ≤ o.1 ∧ o.1 ≤ dyL ls i + t
  · rw [iv_t h]
    obtain ⟨i, h1, h2, h3⟩ := h
    rw [iv_t ⟨i, by rw [mo_len]; omega, h2, by unfold dyL; rw [mo_old h1]; exact h3⟩]
    exact Int.le_refl _
  · rw [iv_f h]
    by_cases q : ∃ i, i < (mo ls d u).length ∧ A i ∧ dyL (mo ls d u) i ≤ o.1 ∧ o.1 ≤ dyL (mo ls d u) i + t
    · rw [iv_t q]; exact h0
    · rw [iv_f q]; exact Int.le_refl _
theorem cov_mo_eq {A : Nat → Prop} (hA : ¬ A ls.length) : cov (mo ls d u) os t A = cov ls os t A := by
  unfold cov
  congr 1
  funext o
  congr 1
  apply propext
  constructor
  · rintro ⟨i, h1, h2, h3⟩
    rw [mo_len] at h1
    have h4 : i < ls.length := by
      by_cases z : i = ls.length
      · rw [z] at h2; exact absurd h2 hA
      · omega
    unfold dyL at h3
    rw [mo_old h4] at h3
    exact ⟨i, h4, h2, h3⟩
  · rintro ⟨i, h1, h2, h3⟩
    exact ⟨i, by rw [mo_len]; omega, h2, by unfold dyL; rw [mo_old h1]; exact h3⟩
theorem cov_restr (A : Nat → Prop) : cov ls os t (fun i => A i ∧ i < ls.length) = cov ls os t A := by
  unfold cov
  congr 1
  funext o
  congr 1
  apply propext
  exact ⟨fun ⟨i, h1, h2, h3⟩ => ⟨i, h1, h2.1, h3⟩, fun ⟨i, h1, h2, h3⟩ => ⟨i, h1, ⟨h2, h1⟩, h3⟩⟩
theorem ctA_congr {A B : Nat → Prop} (h : ∀ i, i < ls.length → (A i ↔ B i)) : ctA ls A = ctA ls B := S_congr fun i hi => by
  rw [show A i = B i from propext (h i (List.mem_range.mp hi))]
theorem sumA_congr {A B : Nat → Prop} (h : ∀ i, i < ls.length → (A i ↔ B i)) : sumA ls ts A = sumA ls ts B := S_congr fun i hi => by
  rw [show A i = B i from propext (h i (List.mem_range.mp hi))]
structure Mo (ls : List Lot) (os : List Ot) (t d u : Int) : Prop where
  o1 : Okk ls os t
  o2 : Okk (mo ls d u) os t
  g1 : ∀ l ∈ ls, GoodL l
  g2 : ∀ l ∈ mo ls d u, GoodL l
/-- ahead of the new lot the counts stay -/
theorem mo_ahead (M : Mo ls os t d u) {U : Nat → Prop} (hn : ¬ U ls.length) (h1 : Cl ls U) (h2 : Cl (mo ls d u) U) : sumA (mo ls d u) (best (mo ls d u) os t) U = sumA ls (best ls os t) U := by
  obtain ⟨A, hA⟩ := cut_strong M.o1 M.g1 h1
  obtain ⟨B, hB⟩ := cut_strong M.o2 M.g2 h2
  have w1 := cut_weak M.o2 (best_bi M.o2 M.g2) U fun i => A i ∧ i < ls.length
  have w2 := cut_weak M.o1 (best_bi M.o1 M.g1) U B
  unfold cutV at hA hB w1 w2
  dsimp only at w1
  rw [cov_mo_eq (fun z => by have := z.2; omega), cov_restr, ctA_mo, iv_f (fun z => hn z.2)] at w1
  rw [ctA_mo, iv_f (fun z => hn z.2)] at hB
  rw [ctA_congr (A := fun i => ¬ (A i ∧ i < ls.length) ∧ U i) (B := fun i => ¬ A i ∧ U i) fun i hi => ⟨fun z => ⟨fun a => z.1 ⟨a, hi⟩, z.2⟩, fun z => ⟨fun a => z.1 a.1, z.2⟩⟩] at w1
  have := cov_mo_le (ls := ls) (t := t) (d := d) (u := u) M.o1.co B
  omega
/-- U with the new lot -/
abbrev wi (ls : List Lot) (U : Nat → Prop) : Nat → Prop := fun i => U i ∨ i = ls.length
theorem mo_behind (M : Mo ls os t d u) {U : Nat → Prop} (hn : ∀ i, U i → i < ls.length) (h1 : Cl ls U) (h2 : Cl (mo ls d u) (wi ls U)) : sumA ls (best ls os t) U ≤ sumA (mo ls d u) (best (mo ls d u) os t) (wi ls U) ∧ sumA (mo ls d u) (best (mo ls d u) os t) (wi ls U) ≤ sumA ls (best ls os t) U + 1 := by
  obtain ⟨A, hA⟩ := cut_strong M.o1 M.g1 h1
  obtain ⟨B, hB⟩ := cut_strong M.o2 M.g2 h2
  have w1 := cut_weak M.o2 (best_bi M.o2 M.g2) (wi ls U) fun i => A i ∧ i < ls.length
  have w2 := cut_weak M.o1 (best_bi M.o1 M.g1) U B
  unfold cutV at hA hB w1 w2
  dsimp only at w1
  rw [cov_mo_eq (fun z => by have := z.2; omega), cov_restr, ctA_mo, iv_t ⟨fun z => by have := z.2; omega, .inr rfl⟩] at w1
  rw [ctA_mo] at hB
  rw [ctA_congr (A := fun i => ¬ (A i ∧ i < ls.length) ∧ wi ls U i) (B := fun i => ¬ A i ∧ U i) fun i hi => ⟨fun z => ⟨fun a => z.1 ⟨a, hi⟩, z.2.resolve_right (by omega)⟩, fun z => ⟨fun a => z.1 a.1, .inl z.2⟩⟩] at w1
  rw [ctA_congr (A := fun i => ¬ B i ∧ wi ls U i) (B := fun i => ¬ B i ∧ U i) fun i hi => ⟨fun z => ⟨z.1, z.2.resolve_right (by omega)⟩, fun z => ⟨z.1, .inl z.2⟩⟩] at hB
  have := cov_mo_le (ls := ls) (t := t) (d := d) (u := u) M.o1.co B
  have i0 : ∀ p : Prop, 0 ≤ iv p 1 := fun p => by
    by_cases h : p
    · rw [iv_t h]; decide
    · rw [iv_f h]; decide
  have := i0 (¬ B ls.length ∧ wi ls U ls.length)
  constructor <;> omega
theorem mo_lose (M : Mo ls os t d u) {U V : Nat → Prop} (hV : ∀ i, V i → i < ls.length) (hUV : ∀ i, U i → V i) (h1 : Cl ls U) (h2 : Cl (mo ls d u) (wi ls U)) (h3 : Cl ls V) (h4 : Cl (mo ls d u) (wi ls V))
    (e : sumA (mo ls d u) (best (mo ls d u) os t) (wi ls U) ≤ sumA ls (best ls os t) U) : sumA (mo ls d u) (best (mo ls d u) os t) (wi ls V) ≤ sumA ls (best ls os t) V := by
  obtain ⟨B, hB⟩ := cut_strong M.o2 M.g2 h2
  obtain ⟨A, hA, nA⟩ : ∃ A : Nat → Prop, cutV ls os t V A = sumA ls (best ls os t) V ∧ ¬ A ls.length := by
    obtain ⟨A0, hA⟩ := cut_strong M.o1 M.g1 h3
    refine ⟨fun i => A0 i ∧ i < ls.length, ?_, fun z => by have := z.2; omega⟩
    rw [← hA]
    unfold cutV
    dsimp only
    rw [cov_restr, ctA_congr (A := fun i => ¬ (A0 i ∧ i < ls.length) ∧ V i) (B := fun i => ¬ A0 i ∧ V i) fun i hi => ⟨fun z => ⟨fun a => z.1 ⟨a, hi⟩, z.2⟩, fun z => ⟨fun a => z.1 a.1, z.2⟩⟩]
  have w0 := cut_weak M.o1 (best_bi M.o1 M.g1) U B
  have w1 := cut_weak M.o2 (best_bi M.o2 M.g2) (wi ls V) fun i => A i ∨ B i
  have w2 := cut_weak M.o1 (best_bi M.o1 M.g1) U fun i => A i ∧ B i
  have s1 := cov_sub (ls := mo ls d u) (t := t) M.o2.co A B
  have s2 := ctA_two U V A B hUV (ct_nonneg M.g1)
  unfold cutV at hA hB w0 w1 w2
  dsimp only at w1 w2
  have c1 := cov_mo_le (ls := ls) (t := t) (d := d) (u := u) M.o1.co B
  rw [ctA_mo] at hB w1
  rw [ctA_congr (A := fun i => ¬ B i ∧ wi ls U i) (B := fun i => ¬ B i ∧ U i) fun i hi => ⟨fun z => ⟨z.1, z.2.resolve_right (by omega)⟩, fun z => ⟨z.1, .inl z.2⟩⟩] at hB
  rw [ctA_congr (A := fun i => ¬ (A i ∨ B i) ∧ wi ls V i) (B := fun i => ¬ (A i ∨ B i) ∧ V i) fun i hi => ⟨fun z => ⟨z.1, z.2.resolve_right (by omega)⟩, fun z => ⟨z.1, .inl z.2⟩⟩] at w1
  have nB : B ls.length := Classical.byContradiction fun z => by
    rw [iv_t ⟨z, .inr rfl⟩] at hB
    omega
  rw [iv_f (fun z => z.1 nB)] at hB
  rw [iv_f (fun z => z.1 (.inr nB))] at w1
  rw [cov_mo_eq (A := fun i => A i ∧ B i) (fun z => nA z.1), cov_mo_eq (A := A) nA] at s1
  omega
/-! ### the walk -/
def Ah (ls : List Lot) (d u : Int) (i : Nat) : Prop := i < ls.length ∧ lexLe (kyL (mo ls d u) i) (kyL (mo ls d u) ls.length) = true
theorem dn_ahead {U : Nat → Prop} (h : Dn ls U) (hU : ∀ i, U i → Ah ls d u i) : Dn (mo ls d u) U := by
  intro a b ha hb l z
  rw [mo_len] at ha hb
  have hb2 := hU b z
  by_cases e : a = ls.length
  · subst e
    exact absurd (ky_anti l hb2.2) (by have := hb2.1; omega)
  · have ha' : a < ls.length := by omega
    rw [ky_old ha', ky_old hb2.1] at l
    exact h a b ha' hb2.1 l z
theorem dn_behind {U : Nat → Prop} (h : Dn ls U) (hn : ∀ i, U i → i < ls.length) (hU : ∀ i, Ah ls d u i → U i) : Dn (mo ls d u) (wi ls U) := by
  intro a b ha hb l z
  rw [mo_len] at ha hb
  by_cases e : a = ls.length
  · exact .inr e
  · have ha' : a < ls.length := by omega
    rcases z with z | z
    · have hb' := hn b z
      rw [ky_old ha', ky_old hb'] at l
      exact .inl (h a b ha' hb' l z)
    · rw [z] at l
      exact .inl (hU a ⟨ha', l⟩)
theorem pre_len {P R : List Nat} (h : dutyL ls = P ++ R) : ∀ i, i ∈ P → i < ls.length := fun i hi => byK_mem.mp (show i ∈ dutyL ls by rw [h]; exact List.mem_append_left _ hi)
theorem sumA_snoc' {P : List Nat} {k : Nat} {ys : List Int} (hk : k < ls.length) (hn : k ∉ P) : sumA (mo ls d u) ys (wi ls fun i => i ∈ P ++ [k]) = sumA (mo ls d u) ys (wi ls fun i => i ∈ P) + at0 ys k := by
  rw [sumA_mo, sumA_mo, iv_t (.inr rfl), iv_t (.inr rfl)]
  rw [sumA_congr (A := wi ls fun i => i ∈ P ++ [k]) (B := fun i => i ∈ P ++ [k]) fun i hi => ⟨fun z => z.resolve_right (by omega), .inl⟩, sumA_congr (A := wi ls fun i => i ∈ P) (B := fun i => i ∈ P) fun i hi => ⟨fun z => z.resolve_right (by omega), .inl⟩, sumA_snoc hk hn]
  omega
theorem split_at {P R : List Nat} {j : Nat} (h : dutyL ls = P ++ j :: R) : dutyL ls = (P ++ [j]) ++ R ∧ j < ls.length ∧ j ∉ P ∧ j ∉ R := by
  have nd : (P ++ j :: R).Nodup := h ▸ byK_nodup ls.length fun i => kyL ls i
  rw [List.nodup_append, List.nodup_cons] at nd
  exact ⟨by rw [h]; simp, byK_mem.mp (show j ∈ dutyL ls by rw [h]; simp), fun z => nd.2.2 j z j List.mem_cons_self rfl, nd.2.1.1⟩
theorem fall_none (M : Mo ls os t d u) : ∀ (R P : List Nat), dutyL ls = P ++ R → (∀ i, Ah ls d u i → i ∈ P) → sumA (mo ls d u) (best (mo ls d u) os t) (wi ls fun i => i ∈ P) = sumA ls (best ls os t) (fun i => i ∈ P) → ∀ k ∈ R, at0 (best (mo ls d u) os t) k = at0 (best ls os t) k
  | [], _, _, _, _, k, hk => by cases hk
  | j :: R, P, h, hA, e, k, hk => by
    obtain ⟨h', hj, jn, _⟩ := split_at h
    have hA' : ∀ i, Ah ls d u i → i ∈ P ++ [j] := fun i z => List.mem_append_left _ (hA i z)
    have s1 := sumA_snoc (ts := best ls os t) hj jn
    have s2 := sumA_snoc' (d := d) (u := u) (ys := best (mo ls d u) os t) hj jn
    have b := mo_behind (U := fun i => i ∈ P ++ [j]) M (pre_len h') (cl_dn (dn_pre h')) (cl_dn (dn_behind (dn_pre h') (pre_len h') hA'))
    have g := mo_lose (U := fun i => i ∈ P) (V := fun i => i ∈ P ++ [j]) M (pre_len h') (fun i hi => List.mem_append_left _ hi) (cl_dn (dn_pre h)) (cl_dn (dn_behind (dn_pre h) (pre_len h) hA)) (cl_dn (dn_pre h')) (cl_dn (dn_behind (dn_pre h') (pre_len h') hA')) (by omega)
    rcases List.mem_cons.mp hk with z | z
    · subst z; omega
    · exact fall_none M R (P ++ [j]) h' hA' (by omega) k z
theorem fall_one (M : Mo ls os t d u) : ∀ (R P : List Nat), dutyL ls = P ++ R → (∀ i, Ah ls d u i → i ∈ P) → sumA (mo ls d u) (best (mo ls d u) os t) (wi ls fun i => i ∈ P) = sumA ls (best ls os t) (fun i => i ∈ P) + 1 →
    (∀ k ∈ R, at0 (best (mo ls d u) os t) k = at0 (best ls os t) k) ∨ ∃ k0 ∈ R, (at0 (best (mo ls d u) os t) k0 = at0 (best ls os t) k0 - 1 ∧ ¬ Ah ls d u k0) ∧ ∀ k ∈ R, k ≠ k0 → at0 (best (mo ls d u) os t) k = at0 (best ls os t) k
  | [], _, _, _, _ => .inl fun k hk => by cases hk
  | j :: R, P, h, hA, e => by
    obtain ⟨h', hj, jn, jr⟩ := split_at h
    have hA' : ∀ i, Ah ls d u i → i ∈ P ++ [j] := fun i z => List.mem_append_left _ (hA i z)
    have s1 := sumA_snoc (ts := best ls os t) hj jn
    have s2 := sumA_snoc' (d := d) (u := u) (ys := best (mo ls d u) os t) hj jn
    have b := mo_behind (U := fun i => i ∈ P ++ [j]) M (pre_len h') (cl_dn (dn_pre h')) (cl_dn (dn_behind (dn_pre h') (pre_len h') hA'))
    by_cases z : sumA (mo ls d u) (best (mo ls d u) os t) (wi ls fun i => i ∈ P ++ [j]) = sumA ls (best ls os t) (fun i => i ∈ P ++ [j]) + 1
    · have ej : at0 (best (mo ls d u) os t) j = at0 (best ls os t) j := by omega
      rcases fall_one M R (P ++ [j]) h' hA' z with q | ⟨k0, hk0, q1, q2⟩
      · left
        intro k hk
        rcases List.mem_cons.mp hk with y | y
        · rw [y]; exact ej
        · exact q k y
      · right
        refine ⟨k0, List.mem_cons_of_mem _ hk0, q1, fun k hk ne => ?_⟩
        rcases List.mem_cons.mp hk with y | y
        · rw [y]; exact ej
        · exact q2 k y ne
    · right
      refine ⟨j, List.mem_cons_self, ⟨by omega, fun q => jn (hA j q)⟩, fun k hk ne => ?_⟩
      rcases List.mem_cons.mp hk with y | y
      · exact absurd y ne
      · exact fall_none M R (P ++ [j]) h' hA' (by omega) k y
theorem fall_walk (M : Mo ls os t d u) : ∀ (R P : List Nat), dutyL ls = P ++ R → (∀ i ∈ P, Ah ls d u i) → sumA (mo ls d u) (best (mo ls d u) os t) (fun i => i ∈ P) = sumA ls (best ls os t) (fun i => i ∈ P) →
    (at0 (best (mo ls d u) os t) ls.length = 0 ∧ ∀ k ∈ R, at0 (best (mo ls d u) os t) k = at0 (best ls os t) k) ∨ (at0 (best (mo ls d u) os t) ls.length = 1 ∧ ((∀ k ∈ R, at0 (best (mo ls d u) os t) k = at0 (best ls os t) k) ∨ ∃ k0 ∈ R, (at0 (best (mo ls d u) os t) k0 = at0 (best ls os t) k0 - 1 ∧ ¬ Ah ls d u k0) ∧ ∀ k ∈ R, k ≠ k0 → at0 (best (mo ls d u) os t) k = at0 (best ls os t) k)) := by
  intro R P h hA e
  have turn : (∀ i, Ah ls d u i → i ∈ P) → (at0 (best (mo ls d u) os t) ls.length = 0 ∧ ∀ k ∈ R, at0 (best (mo ls d u) os t) k = at0 (best ls os t) k) ∨ (at0 (best (mo ls d u) os t) ls.length = 1 ∧ ((∀ k ∈ R, at0 (best (mo ls d u) os t) k = at0 (best ls os t) k) ∨ ∃ k0 ∈ R, (at0 (best (mo ls d u) os t) k0 = at0 (best ls os t) k0 - 1 ∧ ¬ Ah ls d u k0) ∧ ∀ k ∈ R, k ≠ k0 → at0 (best (mo ls d u) os t) k = at0 (best ls os t) k)) := fun hB => by
    have b := mo_behind (U := fun i => i ∈ P) M (pre_len h) (cl_dn (dn_pre h)) (cl_dn (dn_behind (dn_pre h) (pre_len h) hB))
    have nn : ¬ ls.length ∈ P := fun z => by have := pre_len h _ z; omega
    have s1 : sumA (mo ls d u) (best (mo ls d u) os t) (wi ls fun i => i ∈ P) = sumA (mo ls d u) (best (mo ls d u) os t) (fun i => i ∈ P) + at0 (best (mo ls d u) os t) ls.length := by
      rw [sumA_mo, sumA_mo, iv_t (.inr rfl), iv_f nn, sumA_congr (A := wi ls fun i => i ∈ P) (B := fun i => i ∈ P) fun i hi => ⟨fun z => z.resolve_right (by omega), .inl⟩]
      omega
    by_cases z : sumA (mo ls d u) (best (mo ls d u) os t) (wi ls fun i => i ∈ P) = sumA ls (best ls os t) (fun i => i ∈ P)
    · exact .inl ⟨by omega, fall_none M R P h hB z⟩
    · exact .inr ⟨by omega, fall_one M R P h hB (by omega)⟩
  cases R with
  | nil => 
    refine turn fun i hi => ?_
    have : i ∈ dutyL ls := byK_mem.mpr hi.1
    rw [h, List.append_nil] at this
    exact this
  | cons j R =>
    obtain ⟨h', hj, jn, jr⟩ := split_at h
    by_cases hj2 : Ah ls d u j
    · have hA' : ∀ i ∈ P ++ [j], Ah ls d u i := fun i hi => by
        rcases List.mem_append.mp hi with z | z
        · exact hA i z
        · rw [List.mem_singleton.mp z]; exact hj2
      have nn : ¬ ls.length ∈ P ++ [j] := fun z => by have := pre_len h' _ z; omega
      have nn2 : ¬ ls.length ∈ P := fun z => by have := pre_len h _ z; omega
      have a := mo_ahead (U := fun i => i ∈ P ++ [j]) M nn (cl_dn (dn_pre h')) (cl_dn (dn_ahead (dn_pre h') hA'))
      have s1 := sumA_snoc (ts := best ls os t) hj jn
      have s2 : sumA (mo ls d u) (best (mo ls d u) os t) (fun i => i ∈ P ++ [j]) = sumA (mo ls d u) (best (mo ls d u) os t) (fun i => i ∈ P) + at0 (best (mo ls d u) os t) j := by
        rw [sumA_mo, sumA_mo, iv_f nn, iv_f nn2, sumA_snoc hj jn]
        omega
      have ej : at0 (best (mo ls d u) os t) j = at0 (best ls os t) j := by omega
      rcases fall_walk M R (P ++ [j]) h' hA' a with ⟨q1, q2⟩ | ⟨q1, q2⟩
      · left
        refine ⟨q1, fun k hk => ?_⟩
        rcases List.mem_cons.mp hk with y | y
        · rw [y]; exact ej
        · exact q2 k y
      · right
        refine ⟨q1, ?_⟩
        rcases q2 with q | ⟨k0, hk0, r1, r2⟩
        · left
          intro k hk
          rcases List.mem_cons.mp hk with y | y
          · rw [y]; exact ej
          · exact q k y
        · right
          refine ⟨k0, List.mem_cons_of_mem _ hk0, r1, fun k hk ne => ?_⟩
          rcases List.mem_cons.mp hk with y | y
          · rw [y]; exact ej
          · exact r2 k y ne
    · refine turn fun i hi => ?_
      have hm : i ∈ P ++ j :: R := by rw [← h]; exact byK_mem.mpr hi.1
      have pw : (P ++ j :: R).Pairwise fun a b => lexLe (kyL ls a) (kyL ls b) = true := by
        rw [← h]; exact byK_pw ls.length fun i => kyL ls i
      rw [List.pairwise_append, List.pairwise_cons] at pw
      rcases List.mem_append.mp hm with z | z
      · exact z
      · exfalso
        apply hj2
        rcases List.mem_cons.mp z with y | y
        · rw [← y]; exact hi
        · refine ⟨hj, ?_⟩
          have l1 := pw.2.1.1 i y
          rw [← ky_old (d := d) (u := u) hj, ← ky_old (d := d) (u := u) hi.1] at l1
          exact lexLe_trans l1 hi.2
termination_by R => R.length
/-- one unit more that comes in: it is taken or not; at most one other lot has one unit less, and is no dearer -/
theorem best_fall (M : Mo ls os t d u) : (at0 (best (mo ls d u) os t) ls.length = 0 ∧ ∀ k, k < ls.length → at0 (best (mo ls d u) os t) k = at0 (best ls os t) k) ∨ (at0 (best (mo ls d u) os t) ls.length = 1 ∧ ((∀ k, k < ls.length → at0 (best (mo ls d u) os t) k = at0 (best ls os t) k) ∨ ∃ k0, k0 < ls.length ∧ at0 (best (mo ls d u) os t) k0 = at0 (best ls os t) k0 - 1 ∧ (ls.getD k0 (0, 0, 0)).2.2 ≤ u ∧ ∀ k, k < ls.length → k ≠ k0 → at0 (best (mo ls d u) os t) k = at0 (best ls os t) k)) := by
  have q := fall_walk M (dutyL ls) [] rfl (fun i hi => by cases hi) (by
    unfold sumA
    rw [S_zero fun i _ => iv_f (by simp) _, S_zero fun i _ => iv_f (by simp) _])
  rcases q with ⟨q1, q2⟩ | ⟨q1, q2⟩
  · exact .inl ⟨q1, fun k hk => q2 k (byK_mem.mpr hk)⟩
  · refine .inr ⟨q1, ?_⟩
    rcases q2 with q | ⟨k0, hk0, ⟨r1, r2⟩, r3⟩
    · exact .inl fun k hk => q k (byK_mem.mpr hk)
    · have hk := byK_mem.mp hk0
      refine .inr ⟨k0, hk, r1, ?_, fun k hk ne => r3 k (byK_mem.mpr hk) ne⟩
      have tot := lexLe_total (kyL (mo ls d u) k0) (kyL (mo ls d u) ls.length)
      have nl : lexLe (kyL (mo ls d u) k0) (kyL (mo ls d u) ls.length) = false := by
        cases z : lexLe (kyL (mo ls d u) k0) (kyL (mo ls d u) ls.length) with
        | false => rfl
        | true => exact absurd ⟨hk, z⟩ r2
      rw [nl, Bool.false_or] at tot
      rw [ky_old hk] at tot
      unfold kyL dyL at tot
      rw [mo_new] at tot
      simp only [lexLe, Bool.or_eq_true, Bool.and_eq_true, decide_eq_true_eq] at tot
      rcases tot with z | ⟨z, _⟩ <;> omega
theorem val_mo {ys : List Int} (hy : ys.length = ls.length + 1) : val (mo ls d u) ys = S (List.range ls.length) (fun i => (ls.getD i (0, 0, 0)).2.2 * at0 ys i) + u * at0 ys ls.length := by
  rw [val_S (mo ls d u) ys (by rw [hy, mo_len]), mo_len, S_last, mo_new]
  congr 1
  refine S_congr fun i hi => ?_
  rw [mo_old (List.mem_range.mp hi)]
end
end Mm

/-! papers that are told: what the program computes -/
namespace Mm
open PySem L2 Fx
variable [Tabz]
abbrev Pr := Int × Int
/-- stretches of which those that share a day are made one -/
def joinR (c : Pr) : List Pr → List Pr
  | [] => [c]
  | s :: r => if s.1 ≤ c.2 then joinR (c.1, max c.2 s.2) r else c :: joinR s r
def joinS : List Pr → List Pr
  | [] => []
  | s :: r => joinR s r
theorem ix_last (n : Nat) : ixN (n + 1) (-1) = some n := by
  unfold ixN
  rw [if_neg (show ¬ (0 : Int) ≤ -1 by decide), if_pos (by omega)]
  congr 1
  omega
theorem at_snoc (xs : List PyData) (x : PyData) : atI (xs ++ [x]) (-1) = some x := by
  unfold atI
  rw [show (xs ++ [x]).length = xs.length + 1 by simp, ix_last]
  simp
theorem set_snoc (xs : List PyData) (x y : PyData) : kSet y (.int (-1)) (xs ++ [x]) = some (xs ++ [y]) := by
  show ((ixN (xs ++ [x]).length (-1)).map fun n => (xs ++ [x]).set n y) = _
  rw [show (xs ++ [x]).length = xs.length + 1 by simp, ix_last]
  simp
theorem joinR_len : ∀ (r : List Pr) (c : Pr), (joinR c r).length ≤ r.length + 1
  | [], c => by simp [joinR]
  | s :: r, c => by
    unfold joinR
    split
    · have := joinR_len r (c.1, max c.2 s.2); rw [List.length_cons]; omega
    · have := joinR_len r s; rw [List.length_cons, List.length_cons]; omega
theorem join_loop (s0 : Sl) : ∀ (r : List Pr) (acc : List Pr) (c : Pr) (s2 s3 : Sl), acc.length + r.length ≤ 50000 → ∃ s2' s3', forE (gTp (gsCons (gSet 2) (gsCons (gSet 3) gsNil))) b_joined_1 (r.map encP) [s0, .ow ((acc ++ [c]).map encP), s2, s3] = .nx [s0, .ow ((acc ++ joinR c r).map encP), s2', s3']
  | [], acc, c, s2, s3, _ => ⟨s2, s3, rfl⟩
  | s :: r, acc, c, s2, s3, hl => by
    rw [List.length_cons] at hl
    rw [List.map_cons]
    unfold forE
    have e0 : gTp (gsCons (gSet 2) (gsCons (gSet 3) gsNil)) (encP s) [s0, .ow ((acc ++ [c]).map encP), s2, s3] = some [s0, .ow ((acc ++ [c]).map encP), .fz (.int s.1), .fz (.int s.2)] := rfl
    have ea : (acc ++ [c]).map encP = acc.map encP ++ [encP c] := by rw [List.map_append]; rfl
    have hp : (0 : Int) < ((acc.map encP ++ [encP c]).length : Int) := by rw [List.length_append, List.length_singleton]; omega
    have hp2 : ((acc.map encP ++ [encP c]).length : Int) > 0 := hp
    have a1 := at_snoc (acc.map encP) (encP c)
    have hl1 : (acc.map encP ++ [encP c]).length = acc.length + 1 := by simp
    have h2s : small 2 = true := rfl
    have ec : encP c = .tuple [.int c.1, .int c.2] := rfl
    unfold joinR
    by_cases h : s.1 ≤ c.2
    · rw [if_pos h]
      obtain ⟨s2', s3', ih⟩ := join_loop s0 r acc (c.1, max c.2 s.2) (.fz (.int s.1)) (.fz (.int s.2)) (by omega)
      refine ⟨s2', s3', ?_⟩
      have tn : b_joined_1 [s0, .ow ((acc ++ [c]).map encP), .fz (.int s.1), .fz (.int s.2)] = .nx [s0, .ow ((acc ++ [(c.1, max c.2 s.2)]).map encP), .fz (.int s.1), .fz (.int s.2)] := by
        have eb : (acc ++ [((c.1, max c.2 s.2) : Pr)]).map encP = acc.map encP ++ [.tuple [.int c.1, .int (max c.2 s.2)]] := by rw [List.map_append]; rfl
        have em : (if s.2 > c.2 then s.2 else c.2) = max c.2 s.2 := by split <;> omega
        have st := set_snoc (acc.map encP) (encP c) (.tuple [.int c.1, .int (max c.2 s.2)])
        rw [ea, eb]
        rw [ec] at a1 st ⊢
        rw [ec] at hl1
        have hz : (0 : Int) < (acc.length : Int) + 1 := by omega
        generalize acc.map encP = ad at *
        unfold b_joined_1
        simp [hl1, hz, a1, two_ix0, two_ix1, h, em, mkT, h2s, st, sMut, mutO]
      simp only [e0, tn]
      exact ih
    · rw [if_neg h]
      obtain ⟨s2', s3', ih⟩ := join_loop s0 r (acc ++ [c]) s (.fz (.int s.1)) (.fz (.int s.2)) (by simp; omega)
      refine ⟨s2', s3', ?_⟩
      have tn : b_joined_1 [s0, .ow ((acc ++ [c]).map encP), .fz (.int s.1), .fz (.int s.2)] = .nx [s0, .ow (((acc ++ [c]) ++ [s]).map encP), .fz (.int s.1), .fz (.int s.2)] := by
        have eb : ((acc ++ [c]) ++ [s]).map encP = (acc ++ [c]).map encP ++ [.tuple [.int s.1, .int s.2]] := by rw [List.map_append]; rfl
        have ka := kAppend_of (d := .tuple [.int s.1, .int s.2]) (ds := (acc ++ [c]).map encP) (by simp; omega)
        rw [eb]
        rw [ea] at ka ⊢
        rw [ec] at a1 ka ⊢
        rw [ec] at hl1
        have hz : (0 : Int) < (acc.length : Int) + 1 := by omega
        generalize acc.map encP = ad at *
        unfold b_joined_1
        simp [hl1, hz, a1, two_ix0, two_ix1, h, mkT, h2s, ka, sMut, mutO]
      simp only [e0, tn]
      rw [ih]
      simp
theorem F_joined_eq (ps : List Pr) (hl : ps.length ≤ 40000) : F_joined [.list (ps.map encP)] = .ok (.ow ((joinS (sortP ps)).map encP)) := by
  show toOut (g_joined [.fz (.list (ps.map encP)), .un, .un, .un]) = _
  have h0s : small 0 = true := rfl
  have so : oSortP [.list (ps.map encP)] = some ((sortP ps).map encP) := by
    show (asPairs (ps.map encPr)).map _ = _
    rw [asPairs_map]; rfl
  have sl : (sortP ps).length = ps.length := (sortP_perm ps).length_eq
  generalize sortP ps = qs at *
  cases qs with
  | nil =>
    unfold g_joined
    rw [List.map_nil] at so
    generalize ps.map encP = pd at *
    simp [mkL, h0s, so, sFor, forE, joinS, -oSortP]
  | cons s r =>
    rw [List.length_cons] at sl
    obtain ⟨s2, s3, q⟩ := join_loop (.fz (.list (ps.map encP))) r [] s (.fz (.int s.1)) (.fz (.int s.2)) (by simp; omega)
    rw [List.nil_append, List.nil_append] at q
    have ka : kAppend (.tuple [.int s.1, .int s.2]) [] = some [.tuple [.int s.1, .int s.2]] := rfl
    have e0 : gTp (gsCons (gSet 2) (gsCons (gSet 3) gsNil)) (encP s) [.fz (.list (ps.map encP)), .ow [], .un, .un] = some [.fz (.list (ps.map encP)), .ow [], .fz (.int s.1), .fz (.int s.2)] := rfl
    have tn : b_joined_1 [.fz (.list (ps.map encP)), .ow [], .fz (.int s.1), .fz (.int s.2)] = .nx [.fz (.list (ps.map encP)), .ow ([s].map encP), .fz (.int s.1), .fz (.int s.2)] := by
      have h2s : small 2 = true := rfl
      unfold b_joined_1
      simp [mkT, h2s, ka, sMut, mutO, encP]
    have fr : forE (gTp (gsCons (gSet 2) (gsCons (gSet 3) gsNil))) b_joined_1 ((s :: r).map encP) [.fz (.list (ps.map encP)), .ow [], .un, .un] = .nx [.fz (.list (ps.map encP)), .ow ((joinR s r).map encP), s2, s3] := by
      rw [List.map_cons]
      unfold forE
      simp only [e0, tn]
      exact q
    unfold g_joined joinS
    generalize (s :: r).map encP = qd at *
    generalize (joinR s r).map encP = jd at *
    generalize ps.map encP = pd at *
    simp [mkL, h0s, so, sFor, fr, -oSortP]
/-- the days of lots of which not all units are taken -/
noncomputable def shutL (ls : List Lot) (ts : List Int) : List Int := ((List.range ls.length).filter fun i => decide (at0 ts i < ctL ls i)).map (dyL ls)
theorem F_shut_days_eq (ls : List Lot) (ts : List Int) (hl : ts.length = ls.length) (hn : ls.length ≤ 1000) : F_shut_days [.list (ls.map encL), .list (dI ts)] = .ok (.ow (dI (shutL ls ts))) := by
  show toOut (g_shut_days [.fz (.list (ls.map encL)), .fz (.list (dI ts)), .un]) = _
  have q : q_shut_days_1 [.fz (.list (ls.map encL)), .fz (.list (dI ts)), .un] = .ok (dI (shutL ls ts), [.fz (.list (ls.map encL)), .fz (.list (dI ts)), .un]) := by
    unfold q_shut_days_1
    rw [lc_if (List.range ls.length) (fun i => PyData.int (i : Nat)) (fun i => decide (at0 ts i < ctL ls i)) (fun i => PyData.int (dyL ls i)) (ρ := [.fz (.list (ls.map encL)), .fz (.list (dI ts)), .un]) (by
      simp [oRng1_of (j := (ls.length : Int)) (by omega) (by omega), rng]) (by rw [List.length_range]; omega) fun i hi => ⟨[.fz (.list (ls.map encL)), .fz (.list (dI ts)), .fz (.int (i : Int))], rfl, [.fz (.list (ls.map encL)), .fz (.list (dI ts)), .fz (.int (i : Int))], by
        rw [List.mem_range] at hi
        have a1 := at_lot (ls := ls) hi
        have a2 := at_int (xs := ts) (i := i) (by omega)
        generalize dI ts = td at *
        generalize ls.map encL = ld at *
        simp [a1, a2, encL, encL_ix1, ctL], fun _ => ⟨[.fz (.list (ls.map encL)), .fz (.list (dI ts)), .fz (.int (i : Int))], by
        rw [List.mem_range] at hi
        have a1 := at_lot (ls := ls) hi
        generalize ls.map encL = ld at *
        simp [a1, encL, encL_ix0, dyL], rfl⟩, fun _ => rfl⟩]
    unfold shutL dI
    rw [List.map_map]; rfl
  unfold g_shut_days
  generalize dI (shutL ls ts) = sd at *
  generalize dI ts = td at *
  generalize ls.map encL = ld at *
  simp [q]
noncomputable def isBar (ls : List Lot) (os : List Ot) (t : Int) (ts : List Int) (p : Pr) : Bool := decide (spr ls os t ts p = 0) && (shutL ls ts).any (fun d => decide (p.1 ≤ d ∧ d ≤ p.2))
noncomputable def barL (ls : List Lot) (os : List Ot) (t : Int) (ts : List Int) : List Pr := (strL ls).filter (isBar ls os t ts)
theorem bar_loop (ls : List Lot) (os : List Ot) (t : Int) (ts : List Int) (hl : ts.length = ls.length) (hn : ls.length ≤ 100) (ho : os.length ≤ 1000) : ∀ (ps acc : List Pr) (s6 : Sl), acc.length + ps.length ≤ 50000 → ∃ s6', forE (gSet 6) b_barring_1 (ps.map encP) [.fz (.list (ls.map encL)), .fz (.list (os.map encO)), .fz (.int t), .fz (.list (dI ts)), .fz (.list (dI (shutL ls ts))), .ow (acc.map encP), s6, .un] = .nx [.fz (.list (ls.map encL)), .fz (.list (os.map encO)), .fz (.int t), .fz (.list (dI ts)), .fz (.list (dI (shutL ls ts))), .ow ((acc ++ ps.filter (isBar ls os t ts)).map encP), s6', .un]
  | [], acc, s6, _ => ⟨s6, by rw [List.filter_nil, List.append_nil]; rfl⟩
  | p :: ps, acc, s6, hc => by
    rw [List.length_cons] at hc
    rw [List.map_cons]
    unfold forE
    have e0 : gSet 6 (encP p) [.fz (.list (ls.map encL)), .fz (.list (os.map encO)), .fz (.int t), .fz (.list (dI ts)), .fz (.list (dI (shutL ls ts))), .ow (acc.map encP), s6, .un] = some [.fz (.list (ls.map encL)), .fz (.list (os.map encO)), .fz (.int t), .fz (.list (dI ts)), .fz (.list (dI (shutL ls ts))), .ow (acc.map encP), .fz (encP p), .un] := rfl
    have f := F_spare_eq ls os t ts p (by omega) ho hl
    have sl : (shutL ls ts).length ≤ 1000 := by
      unfold shutL
      rw [List.length_map]
      have := List.length_filter_le (fun i => decide (at0 ts i < ctL ls i)) (List.range ls.length)
      rw [List.length_range] at this
      omega
    have q : q_barring_1 [.fz (.list (ls.map encL)), .fz (.list (os.map encO)), .fz (.int t), .fz (.list (dI ts)), .fz (.list (dI (shutL ls ts))), .ow (acc.map encP), .fz (encP p), .un] = .ok (((shutL ls ts).map fun d => decide (p.1 ≤ d ∧ d ≤ p.2)).map PyData.bool, [.fz (.list (ls.map encL)), .fz (.list (os.map encO)), .fz (.int t), .fz (.list (dI ts)), .fz (.list (dI (shutL ls ts))), .ow (acc.map encP), .fz (encP p), .un]) := by
      unfold q_barring_1
      rw [lc_all (shutL ls ts) PyData.int (fun d => PyData.bool (decide (p.1 ≤ d ∧ d ≤ p.2))) (ρ := [.fz (.list (ls.map encL)), .fz (.list (os.map encO)), .fz (.int t), .fz (.list (dI ts)), .fz (.list (dI (shutL ls ts))), .ow (acc.map encP), .fz (encP p), .un]) (by simp) (by omega) fun d _ => ⟨[.fz (.list (ls.map encL)), .fz (.list (os.map encO)), .fz (.int t), .fz (.list (dI ts)), .fz (.list (dI (shutL ls ts))), .ow (acc.map encP), .fz (encP p), .fz (.int d)], rfl, [.fz (.list (ls.map encL)), .fz (.list (os.map encO)), .fz (.int t), .fz (.list (dI ts)), .fz (.list (dI (shutL ls ts))), .ow (acc.map encP), .fz (encP p), .fz (.int d)], by simp [F_holds_day_eq], rfl⟩]
      rw [List.map_map]; rfl
    have oa : oAny [.list (((shutL ls ts).map fun d => decide (p.1 ≤ d ∧ d ≤ p.2)).map PyData.bool)] = some (.bool ((shutL ls ts).any fun d => decide (p.1 ≤ d ∧ d ≤ p.2))) := by
      show (asBools _).map _ = _
      rw [asBools_map]
      simp [Function.comp_def]
    have hd : (p :: ps).filter (isBar ls os t ts) = (if isBar ls os t ts p = true then [p] else []) ++ ps.filter (isBar ls os t ts) := by
      by_cases h : isBar ls os t ts p = true
      · rw [if_pos h, List.filter_cons_of_pos h]; rfl
      · rw [if_neg h, List.filter_cons_of_neg h]; rfl
    rw [hd, ← List.append_assoc]
    obtain ⟨s6', ih⟩ := bar_loop ls os t ts hl hn ho ps (acc ++ if isBar ls os t ts p = true then [p] else []) (.fz (encP p)) (by rw [List.length_append]; split <;> simp <;> omega)
    refine ⟨s6', ?_⟩
    have tn : b_barring_1 [.fz (.list (ls.map encL)), .fz (.list (os.map encO)), .fz (.int t), .fz (.list (dI ts)), .fz (.list (dI (shutL ls ts))), .ow (acc.map encP), .fz (encP p), .un] = .nx [.fz (.list (ls.map encL)), .fz (.list (os.map encO)), .fz (.int t), .fz (.list (dI ts)), .fz (.list (dI (shutL ls ts))), .ow ((acc ++ if isBar ls os t ts p = true then [p] else []).map encP), .fz (encP p), .un] := by
      have ka := kAppend_of (d := encP p) (ds := acc.map encP) (by simp; omega)
      have ea : (acc ++ [p]).map encP = acc.map encP ++ [encP p] := by rw [List.map_append]; rfl
      have ei : isBar ls os t ts p = (decide (spr ls os t ts p = 0) && (shutL ls ts).any (fun d => decide (p.1 ≤ d ∧ d ≤ p.2))) := rfl
      rw [ei]
      generalize ((shutL ls ts).map fun d => decide (p.1 ≤ d ∧ d ≤ p.2)).map PyData.bool = bd at *
      generalize ((shutL ls ts).any fun d => decide (p.1 ≤ d ∧ d ≤ p.2)) = b at *
      generalize spr ls os t ts p = v at *
      unfold b_barring_1
      by_cases hv : v = 0
      · subst hv
        cases b with
        | true =>
          rw [if_pos (by simp), ea]
          generalize dI (shutL ls ts) = sd at *
          generalize dI ts = td at *
          generalize ls.map encL = ld at *
          generalize os.map encO = od at *
          generalize acc.map encP = ad at *
          generalize encP p = pd at *
          simp [f, oEQ, q, oa, ka, sMut, mutO, -oAny]
        | false =>
          rw [if_neg (by simp), List.append_nil]
          generalize dI (shutL ls ts) = sd at *
          generalize dI ts = td at *
          generalize ls.map encL = ld at *
          generalize os.map encO = od at *
          generalize acc.map encP = ad at *
          generalize encP p = pd at *
          simp [f, oEQ, q, oa, -oAny]
      · rw [if_neg (by simp [hv]), List.append_nil]
        generalize dI (shutL ls ts) = sd at *
        generalize dI ts = td at *
        generalize ls.map encL = ld at *
        generalize os.map encO = od at *
        generalize acc.map encP = ad at *
        generalize encP p = pd at *
        simp [f, oEQ, hv]
    simp only [e0, tn]
    exact ih
noncomputable def barS' (ls : List Lot) (os : List Ot) (t : Int) (ts : List Int) : List Pr := joinS (sortP (barL ls os t ts))
theorem F_barring_eq (ls : List Lot) (os : List Ot) (t : Int) (ts : List Int) (hl : ts.length = ls.length) (hn : ls.length < 64) (ho : os.length ≤ 1000) : F_barring [.list (ls.map encL), .list (os.map encO), .int t, .list (dI ts)] = .ok (.ow ((barS' ls os t ts).map encP)) := by
  show toOut (g_barring [.fz (.list (ls.map encL)), .fz (.list (os.map encO)), .fz (.int t), .fz (.list (dI ts)), .un, .un, .un, .un]) = _
  have f1 := F_shut_days_eq ls ts hl (by omega)
  have f2 := F_all_stretches_eq ls hn
  have sl := strL_len hn
  obtain ⟨s6, q⟩ := bar_loop ls os t ts hl (by omega) ho (strL ls) [] .un (by simp; omega)
  rw [List.nil_append, List.map_nil] at q
  have f3 := F_joined_eq (barL ls os t ts) (by
    have := List.length_filter_le (isBar ls os t ts) (strL ls)
    unfold barL
    omega)
  have h0s : small 0 = true := rfl
  have eb : (strL ls).filter (isBar ls os t ts) = barL ls os t ts := rfl
  rw [eb] at q
  unfold g_barring barS'
  generalize (joinS (sortP (barL ls os t ts))).map encP = jd at *
  generalize (barL ls os t ts).map encP = bd at *
  generalize (strL ls).map encP = pd at *
  generalize dI (shutL ls ts) = sd at *
  generalize dI ts = td at *
  generalize ls.map encL = ld at *
  generalize os.map encO = od at *
  simp [f1, f2, mkL, h0s, sFor, q, f3]
end Mm

namespace Mm
open PySem L2 Fx
variable [Tabz]
def plU (ls : List Lot) (u : Int) : List Nat := (List.range ls.length).filter fun i => decide (u ≤ (ls.getD i (0, 0, 0)).2.2)
def dearU (ls : List Lot) (u : Int) : List Lot := (plU ls u).map fun i => ls.getD i (0, 0, 0)
def someU (ls : List Lot) (c : List Int) (u : Int) : List Int := (plU ls u).map (at0 c)
abbrev Pap := Int × Int × List Pr
def encPa (p : Pap) : PyData := .tuple [.int p.1, .int p.2.1, .list (p.2.2.map encP)]
noncomputable def papU (ls : List Lot) (os : List Ot) (t u : Int) : Pap := (u, (someU ls (best ls os t) u).sum, barS' (dearU ls u) os t (someU ls (best ls os t) u))
noncomputable def papL (ls : List Lot) (os : List Ot) (t : Int) : List Pap := ((sortU (ls.map (·.2.2))).reverse).map (papU ls os t)
theorem plU_len (ls : List Lot) (u : Int) : (plU ls u).length ≤ ls.length := by
  have := List.length_filter_le (fun i => decide (u ≤ (ls.getD i (0, 0, 0)).2.2)) (List.range ls.length)
  rw [List.length_range] at this
  exact this
theorem plU_mem {ls : List Lot} {u : Int} {i : Nat} : i ∈ plU ls u ↔ i < ls.length ∧ u ≤ (ls.getD i (0, 0, 0)).2.2 := by
  unfold plU
  rw [List.mem_filter, List.mem_range, decide_eq_true_eq]
section
variable {ls : List Lot} {os : List Ot} {t : Int}
theorem pap_turn (n1 : ls.length < 64) (n2 : os.length ≤ 1000) (u : Int) (acc : List Pap) (ha : acc.length ≤ 1000) (s6 s7 s9 s10 : Sl) :
    ∃ s7' s9' s10', b_papers_of_1 [.fz (.list (ls.map encL)), .fz (.list (os.map encO)), .fz (.int t), .fz (.list (dI (best ls os t))), .ow (acc.map encPa), .fz (.int u), .un, s7, .un, s9, s10] = .nx [.fz (.list (ls.map encL)), .fz (.list (os.map encO)), .fz (.int t), .fz (.list (dI (best ls os t))), .ow ((acc ++ [papU ls os t u]).map encPa), .fz (.int u), .un, s7', .un, s9', s10'] := by
  have bl := best_len ls os t
  have pl := plU_len ls u
  have q2 : q_papers_of_2 [.fz (.list (ls.map encL)), .fz (.list (os.map encO)), .fz (.int t), .fz (.list (dI (best ls os t))), .ow (acc.map encPa), .fz (.int u), .un, s7, .un, s9, s10] = .ok (dN (plU ls u), [.fz (.list (ls.map encL)), .fz (.list (os.map encO)), .fz (.int t), .fz (.list (dI (best ls os t))), .ow (acc.map encPa), .fz (.int u), .un, s7, .un, s9, s10]) := by
    unfold q_papers_of_2
    rw [lc_if (List.range ls.length) (fun i => PyData.int (i : Nat)) (fun i => decide (u ≤ (ls.getD i (0, 0, 0)).2.2)) (fun i => PyData.int (i : Nat)) (ρ := [.fz (.list (ls.map encL)), .fz (.list (os.map encO)), .fz (.int t), .fz (.list (dI (best ls os t))), .ow (acc.map encPa), .fz (.int u), .un, s7, .un, s9, s10]) (by
      simp [oRng1_of (j := (ls.length : Int)) (by omega) (by omega), rng]) (by rw [List.length_range]; omega) fun i hi => ⟨[.fz (.list (ls.map encL)), .fz (.list (os.map encO)), .fz (.int t), .fz (.list (dI (best ls os t))), .ow (acc.map encPa), .fz (.int u), .un, s7, .fz (.int (i : Int)), s9, s10], rfl, [.fz (.list (ls.map encL)), .fz (.list (os.map encO)), .fz (.int t), .fz (.list (dI (best ls os t))), .ow (acc.map encPa), .fz (.int u), .un, s7, .fz (.int (i : Int)), s9, s10], by
        rw [List.mem_range] at hi
        have a1 := at_lot (ls := ls) hi
        generalize ls.map encL = ld at *
        simp [a1, encL, encL_ix2], fun _ => ⟨[.fz (.list (ls.map encL)), .fz (.list (os.map encO)), .fz (.int t), .fz (.list (dI (best ls os t))), .ow (acc.map encPa), .fz (.int u), .un, s7, .fz (.int (i : Int)), s9, s10], rfl, rfl⟩, fun _ => rfl⟩]
    rfl
  have q3 : q_papers_of_3 [.fz (.list (ls.map encL)), .fz (.list (os.map encO)), .fz (.int t), .fz (.list (dI (best ls os t))), .ow (acc.map encPa), .fz (.int u), .un, .ow (dN (plU ls u)), .un, s9, s10] = .ok ((dearU ls u).map encL, [.fz (.list (ls.map encL)), .fz (.list (os.map encO)), .fz (.int t), .fz (.list (dI (best ls os t))), .ow (acc.map encPa), .fz (.int u), .un, .fz (.list (dN (plU ls u))), .un, s9, s10]) := by
    unfold q_papers_of_3
    rw [lc_all (plU ls u) (fun i => PyData.int (i : Nat)) (fun i => encL (ls.getD i (0, 0, 0))) (ρ := [.fz (.list (ls.map encL)), .fz (.list (os.map encO)), .fz (.int t), .fz (.list (dI (best ls os t))), .ow (acc.map encPa), .fz (.int u), .un, .fz (.list (dN (plU ls u))), .un, s9, s10]) (by simp) (by omega) fun i hi => ⟨[.fz (.list (ls.map encL)), .fz (.list (os.map encO)), .fz (.int t), .fz (.list (dI (best ls os t))), .ow (acc.map encPa), .fz (.int u), .un, .fz (.list (dN (plU ls u))), .fz (.int (i : Int)), s9, s10], rfl, [.fz (.list (ls.map encL)), .fz (.list (os.map encO)), .fz (.int t), .fz (.list (dI (best ls os t))), .ow (acc.map encPa), .fz (.int u), .un, .fz (.list (dN (plU ls u))), .fz (.int (i : Int)), s9, s10], by
        have a1 := at_lot (ls := ls) (plU_mem.mp hi).1
        generalize ls.map encL = ld at *
        generalize encL (ls.getD i (0, 0, 0)) = e at *
        simp [a1], rfl⟩]
    unfold dearU
    rw [List.map_map]; rfl
  have q4 : q_papers_of_4 [.fz (.list (ls.map encL)), .fz (.list (os.map encO)), .fz (.int t), .fz (.list (dI (best ls os t))), .ow (acc.map encPa), .fz (.int u), .un, .fz (.list (dN (plU ls u))), .un, .ow ((dearU ls u).map encL), s10] = .ok (dI (someU ls (best ls os t) u), [.fz (.list (ls.map encL)), .fz (.list (os.map encO)), .fz (.int t), .fz (.list (dI (best ls os t))), .ow (acc.map encPa), .fz (.int u), .un, .fz (.list (dN (plU ls u))), .un, .ow ((dearU ls u).map encL), s10]) := by
    unfold q_papers_of_4
    rw [lc_all (plU ls u) (fun i => PyData.int (i : Nat)) (fun i => PyData.int (at0 (best ls os t) i)) (ρ := [.fz (.list (ls.map encL)), .fz (.list (os.map encO)), .fz (.int t), .fz (.list (dI (best ls os t))), .ow (acc.map encPa), .fz (.int u), .un, .fz (.list (dN (plU ls u))), .un, .ow ((dearU ls u).map encL), s10]) (by simp) (by omega) fun i hi => ⟨[.fz (.list (ls.map encL)), .fz (.list (os.map encO)), .fz (.int t), .fz (.list (dI (best ls os t))), .ow (acc.map encPa), .fz (.int u), .un, .fz (.list (dN (plU ls u))), .fz (.int (i : Int)), .ow ((dearU ls u).map encL), s10], rfl, [.fz (.list (ls.map encL)), .fz (.list (os.map encO)), .fz (.int t), .fz (.list (dI (best ls os t))), .ow (acc.map encPa), .fz (.int u), .un, .fz (.list (dN (plU ls u))), .fz (.int (i : Int)), .ow ((dearU ls u).map encL), s10], by
        have a1 := at_int (xs := best ls os t) (i := i) (by rw [bl]; exact (plU_mem.mp hi).1)
        generalize dI (best ls os t) = bd at *
        generalize at0 (best ls os t) i = x at *
        simp [a1], rfl⟩]
    unfold someU dI
    rw [List.map_map]; rfl
  have dl : (dearU ls u).length = (plU ls u).length := by simp [dearU]
  have sl : (someU ls (best ls os t) u).length = (plU ls u).length := by simp [someU]
  have f := F_barring_eq (dearU ls u) os t (someU ls (best ls os t) u) (by omega) (by omega) n2
  have es : oSum [.list (dI (someU ls (best ls os t) u))] = some (.int (someU ls (best ls os t) u).sum) := by simp only [oSum, asInts_map, Option.map_some]
  have ka := kAppend_of (d := encPa (papU ls os t u)) (ds := acc.map encPa) (by simp; omega)
  have ea : (acc ++ [papU ls os t u]).map encPa = acc.map encPa ++ [encPa (papU ls os t u)] := by rw [List.map_append]; rfl
  have ep : PyData.tuple [.int u, .int (someU ls (best ls os t) u).sum, .list ((barS' (dearU ls u) os t (someU ls (best ls os t) u)).map encP)] = encPa (papU ls os t u) := rfl
  have h3s : small 3 = true := rfl
  refine ⟨.fz (.list (dN (plU ls u))), .fz (.list ((dearU ls u).map encL)), .fz (.list (dI (someU ls (best ls os t) u))), ?_⟩
  rw [ea]
  unfold b_papers_of_1
  generalize encPa (papU ls os t u) = pe at *
  generalize (barS' (dearU ls u) os t (someU ls (best ls os t) u)).map encP = bs at *
  generalize (someU ls (best ls os t) u).sum = sm at *
  generalize dI (someU ls (best ls os t) u) = sd at *
  generalize (dearU ls u).map encL = dd at *
  generalize dN (plU ls u) = pd at *
  generalize dI (best ls os t) = bd at *
  generalize ls.map encL = ld at *
  generalize os.map encO = od at *
  generalize acc.map encPa = ad at *
  simp [q2, q3, q4, es, f, mkT, h3s, ep, ka, sMut, mutO, -oSum]
theorem pap_loop (n1 : ls.length < 64) (n2 : os.length ≤ 1000) : ∀ (us : List Int) (acc : List Pap) (s5 s7 s9 s10 : Sl), acc.length + us.length ≤ 1000 → ∃ s5' s7' s9' s10', forE (gSet 5) b_papers_of_1 (dI us) [.fz (.list (ls.map encL)), .fz (.list (os.map encO)), .fz (.int t), .fz (.list (dI (best ls os t))), .ow (acc.map encPa), s5, .un, s7, .un, s9, s10] = .nx [.fz (.list (ls.map encL)), .fz (.list (os.map encO)), .fz (.int t), .fz (.list (dI (best ls os t))), .ow ((acc ++ us.map (papU ls os t)).map encPa), s5', .un, s7', .un, s9', s10']
  | [], acc, s5, s7, s9, s10, _ => ⟨s5, s7, s9, s10, by rw [List.map_nil, List.append_nil]; rfl⟩
  | u :: us, acc, s5, s7, s9, s10, h => by
    rw [List.length_cons] at h
    obtain ⟨s7', s9', s10', tn⟩ := pap_turn (t := t) n1 n2 u acc (by omega) .un s7 s9 s10
    obtain ⟨s5'', s7'', s9'', s10'', ih⟩ := pap_loop n1 n2 us (acc ++ [papU ls os t u]) (.fz (.int u)) s7' s9' s10' (by simp; omega)
    refine ⟨s5'', s7'', s9'', s10'', ?_⟩
    unfold dI
    rw [List.map_cons]
    unfold forE
    have e0 : gSet 5 (.int u) [.fz (.list (ls.map encL)), .fz (.list (os.map encO)), .fz (.int t), .fz (.list (dI (best ls os t))), .ow (acc.map encPa), s5, .un, s7, .un, s9, s10] = some [.fz (.list (ls.map encL)), .fz (.list (os.map encO)), .fz (.int t), .fz (.list (dI (best ls os t))), .ow (acc.map encPa), .fz (.int u), .un, s7, .un, s9, s10] := rfl
    simp only [e0, tn]
    rw [List.map_cons, show acc ++ papU ls os t u :: us.map (papU ls os t) = (acc ++ [papU ls os t u]) ++ us.map (papU ls os t) by simp]
    exact ih
theorem F_papers_of_eq (n1 : ls.length < 64) (n2 : os.length ≤ 1000) : F_papers_of [.list (ls.map encL), .list (os.map encO), .int t] = .ok (.ow ((papL ls os t).map encPa)) := by
  show toOut (g_papers_of [.fz (.list (ls.map encL)), .fz (.list (os.map encO)), .fz (.int t), .un, .un, .un, .un, .un, .un, .un, .un]) = _
  have f1 := F_best_counts_eq (t := t) n1 n2
  have q1 : q_papers_of_1 [.fz (.list (ls.map encL)), .fz (.list (os.map encO)), .fz (.int t), .fz (.list (dI (best ls os t))), .ow [], .un, .un, .un, .un, .un, .un] = .ok (dI (ls.map (·.2.2)), [.fz (.list (ls.map encL)), .fz (.list (os.map encO)), .fz (.int t), .fz (.list (dI (best ls os t))), .ow [], .un, .un, .un, .un, .un, .un]) := by
    unfold q_papers_of_1
    rw [lc_all ls encL (fun l => PyData.int l.2.2) (ρ := [.fz (.list (ls.map encL)), .fz (.list (os.map encO)), .fz (.int t), .fz (.list (dI (best ls os t))), .ow [], .un, .un, .un, .un, .un, .un]) (by simp) (by omega) fun l _ => ⟨[.fz (.list (ls.map encL)), .fz (.list (os.map encO)), .fz (.int t), .fz (.list (dI (best ls os t))), .ow [], .un, .fz (encL l), .un, .un, .un, .un], rfl, [.fz (.list (ls.map encL)), .fz (.list (os.map encO)), .fz (.int t), .fz (.list (dI (best ls os t))), .ow [], .un, .fz (encL l), .un, .un, .un, .un], by simp [encL, encL_ix2], rfl⟩]
    unfold dI
    rw [List.map_map]; rfl
  have sl := sortU_len (ls.map (·.2.2))
  rw [List.length_map] at sl
  obtain ⟨s5, s7, s9, s10, q⟩ := pap_loop (ls := ls) (os := os) (t := t) n1 n2 (sortU (ls.map (·.2.2))).reverse [] .un .un .un .un (by simp; omega)
  rw [List.nil_append, List.map_nil] at q
  have er : (dI (sortU (ls.map (·.2.2)))).reverse = dI (sortU (ls.map (·.2.2))).reverse := by unfold dI; rw [List.map_reverse]
  have h0s : small 0 = true := rfl
  have hl : (ls.map (fun l : Lot => l.2.2)).length < 64 := by simpa using n1
  have so : oSortU (.list (dI (ls.map (·.2.2)))) = some (dI (sortU (ls.map (·.2.2)))) := by
    generalize ls.map (fun l : Lot => l.2.2) = xs at hl ⊢
    have := asInts_map xs
    simp [oSortU, this, hl]
  unfold g_papers_of papL
  generalize ((sortU (ls.map (·.2.2))).reverse.map (papU ls os t)).map encPa = pd at *
  generalize dI (sortU (ls.map (·.2.2))).reverse = rd at *
  generalize dI (sortU (ls.map (·.2.2))) = sd at *
  generalize dI (ls.map (·.2.2)) = ud at *
  generalize dI (best ls os t) = bd at *
  generalize ls.map encL = ld at *
  generalize os.map encO = od at *
  simp [f1, mkL, h0s, q1, so, er, sFor, q, -oSortU]
theorem F_papers_eq (ls : List Lot) (os : List Ot) (t : Int) : F_papers [.list (ls.map encL), .list (os.map encO), .int t] = oE (err3 ls os t) (.ok (.ow ((papL ls os t).map encPa))) := by
  show toOut (g_papers [.fz (.list (ls.map encL)), .fz (.list (os.map encO)), .fz (.int t), .un, .un]) = _
  rcases heads (ls := ls) (os := os) (t := t) with ⟨c, e, h⟩ | ⟨e, f1, f2, f3⟩
  · rw [e]
    rcases h with h | ⟨h1, h2⟩ | ⟨h1, h2, h3⟩
    · simp [g_papers, h, oE]
    · simp [g_papers, h1, h2, oE]
    · simp [g_papers, h1, h2, h3, oE]
  · rw [e]
    obtain ⟨e1, e2, e3⟩ := err3_none e
    have f4 := F_papers_of_eq (ls := ls) (os := os) (t := t) (by have := errLs_len e1; omega) (by have := errOs_len e2; omega)
    generalize (papL ls os t).map encPa = pd at *
    generalize ls.map encL = ld at *
    generalize os.map encO = od at *
    simp [g_papers, f1, f2, f3, f4, oE]
end
end Mm

/-! papers that are told are good ones -/
namespace Mm
open PySem L2 Fx
variable [Tabz]
theorem iv_or (p : Prop) (x : Int) : (iv p x = x ∧ p) ∨ (iv p x = 0 ∧ ¬ p) := by
  by_cases h : p
  · exact .inl ⟨iv_t h x, h⟩
  · exact .inr ⟨iv_f h x, h⟩
section
variable {ls : List Lot} {os : List Ot} {t : Int} {ts : List Int}
/-- the greedy counts, the tight sets by stretches -/
theorem greedy_st (O : Okk ls os t) {U : Nat → Prop} : ∀ (o : List Nat) (ts : List Int), o.Nodup → o.Pairwise (fun a b => U b → U a) → (∀ k ∈ o, k < ls.length ∧ at0 ts k = 0) → (∀ i, i < ls.length → at0 ts i ≠ 0 → U i ∨ ∀ k ∈ o, ¬ U k) → Bi ls os t ts →
    ∀ k ∈ o, U k → at0 (bestG ls os t o ts) k = ctL ls k ∨ ∃ p : Pr, (p.1 ≤ dyL ls k ∧ dyL ls k ≤ p.2) ∧ outAg os t p.1 p.2 ≤ sumA ls (bestG ls os t o ts) fun i => (p.1 ≤ dyL ls i ∧ dyL ls i ≤ p.2) ∧ U i
  | [], _, _, _, _, _, _, k, hk, _ => by cases hk
  | k0 :: o, ts, nd, pw, h, hn, B, k, hk, hu => by
    have BB := bestG_bi (k0 :: o) ts nd h B
    rw [List.nodup_cons] at nd
    rw [List.pairwise_cons] at pw
    obtain ⟨h1, h2⟩ := h k0 List.mem_cons_self
    have hl0 : k0 < ts.length := by rw [B.tk.len]; exact h1
    have B' := B.step h1 h2
    have hz : ∀ j ∈ o, j < ls.length ∧ at0 (ts.set k0 (roomAt ls os t ts k0)) j = 0 := fun j hj => ⟨(h j (List.mem_cons_of_mem _ hj)).1, by
      rw [at0_set _ _ _ _ hl0, if_neg (show ¬ k0 = j from fun z => nd.1 (z ▸ hj))]
      exact (h j (List.mem_cons_of_mem _ hj)).2⟩
    rcases List.mem_cons.mp hk with z | hk'
    · subst z
      have ek : at0 (bestG ls os t (k :: o) ts) k = roomAt ls os t ts k := by
        unfold bestG
        rw [bestG_off o _ nd.1 (fun j hj => by rw [List.length_set, B.tk.len]; exact (hz j hj).1), at0_set _ _ _ _ hl0, if_pos rfl]
      rcases roomF_hit (ls := ls) (os := os) (t := t) (ts := ts) (dyL ls k) (strL ls) ((ls.getD k (0, 0, 0)).2.1 - at0 ts k) with e | ⟨p, hp, hd, e⟩
      · left
        rw [ek]
        show roomF ls os t ts (dyL ls k) (strL ls) ((ls.getD k (0, 0, 0)).2.1 - at0 ts k) = _
        rw [e, h2, Int.sub_zero]
      · right
        refine ⟨p, hd, ?_⟩
        have c2 := inS_set (ts := ts) (k := k) (v := roomAt ls os t ts k) (f := p.1) (l := p.2) B.tk.len h1
        rw [if_pos hd, h2] at c2
        have c3 : roomAt ls os t ts k = outAg os t p.1 p.2 - inS ls ts p.1 p.2 := e
        have c4 : inS ls (ts.set k (roomAt ls os t ts k)) p.1 p.2 ≤ sumA ls (bestG ls os t (k :: o) ts) (fun i => (p.1 ≤ dyL ls i ∧ dyL ls i ≤ p.2) ∧ U i) := S_le fun i hi => by
          rw [List.mem_range] at hi
          have p0 := BB.tk.pos i hi
          by_cases hw : p.1 ≤ dyL ls i ∧ dyL ls i ≤ p.2
          · rw [if_pos hw]
            by_cases hio : i ∈ o
            · rw [(hz i hio).2]
              by_cases u : U i
              · rw [iv_t ⟨hw, u⟩]; exact p0
              · rw [iv_f fun z => u z.2]; exact Int.le_refl _
            · have ei : at0 (bestG ls os t (k :: o) ts) i = at0 (ts.set k (roomAt ls os t ts k)) i := by
                unfold bestG
                exact bestG_off o _ hio (fun j hj => by rw [List.length_set, B.tk.len]; exact (hz j hj).1)
              by_cases u : U i
              · rw [iv_t ⟨hw, u⟩, ei]; exact Int.le_refl _
              · rw [iv_f fun z => u z.2]
                rw [at0_set _ _ _ _ hl0]
                by_cases z : k = i
                · exact absurd (z ▸ hu) u
                · rw [if_neg z]
                  by_cases y : at0 ts i = 0
                  · omega
                  · rcases hn i hi y with q | q
                    · exact absurd q u
                    · exact absurd hu (q k List.mem_cons_self)
          · rw [if_neg hw]
            by_cases y : (p.1 ≤ dyL ls i ∧ dyL ls i ≤ p.2) ∧ U i
            · exact absurd y.1 hw
            · rw [iv_f y]; exact Int.le_refl _
        omega
    · exact greedy_st O o (ts.set k0 (roomAt ls os t ts k0)) nd.2 pw.2 hz (fun i hi y => by
        rw [at0_set _ _ _ _ hl0] at y
        by_cases z : k0 = i
        · left
          rw [← z]
          exact pw.1 k hk' hu
        · rw [if_neg z] at y
          rcases hn i hi y with q | q
          · exact .inl q
          · exact .inr fun j hj => q j (List.mem_cons_of_mem _ hj)) B' k hk' hu
/-- units of a duty or above within a stretch -/
noncomputable def wS (ls : List Lot) (c : List Int) (u : Int) (s : Pr) : Int := sumA ls c fun i => (s.1 ≤ dyL ls i ∧ dyL ls i ≤ s.2) ∧ u ≤ (ls.getD i (0, 0, 0)).2.2
theorem best_st (O : Okk ls os t) (hg : ∀ l ∈ ls, GoodL l) (u : Int) : ∀ k, k < ls.length → u ≤ (ls.getD k (0, 0, 0)).2.2 → at0 (best ls os t) k = ctL ls k ∨ ∃ p : Pr, (p.1 ≤ dyL ls k ∧ dyL ls k ≤ p.2) ∧ outAg os t p.1 p.2 ≤ wS ls (best ls os t) u p := fun k hk hu =>
  greedy_st O (U := fun i => u ≤ (ls.getD i (0, 0, 0)).2.2) (dutyL ls) (zer ls.length) (byK_nodup _ _) (cl_up u) (fun k hk => ⟨byK_mem.mp hk, zer_at _ _⟩) (fun i _ y => absurd (zer_at _ _) y) (Bi.zero O hg) k (byK_mem.mpr hk) hu
theorem w_le (O : Okk ls os t) (B : Bi ls os t ts) (u : Int) (s : Pr) : wS ls ts u s ≤ outAg os t s.1 s.2 := by
  have h1 := set_hall O B.tk B.fit fun i => s.1 ≤ dyL ls i ∧ dyL ls i ≤ s.2
  have h2 := cov_stretch (ls := ls) (t := t) O.co s.1 s.2
  have h3 : wS ls ts u s ≤ sumA ls ts (fun i => s.1 ≤ dyL ls i ∧ dyL ls i ≤ s.2) := sumA_mono B.tk.pos fun i _ z => z.1
  omega
/-- a stretch that takes all that goes out against it -/
def Tg (ls : List Lot) (os : List Ot) (t : Int) (ts : List Int) (u : Int) (s : Pr) : Prop := s.1 ≤ s.2 ∧ outAg os t s.1 s.2 = wS ls ts u s
theorem tg_join (O : Okk ls os t) (B : Bi ls os t ts) {u : Int} {a b : Pr} (ha : Tg ls os t ts u a) (hb : Tg ls os t ts u b) (h1 : a.1 ≤ b.1) (h2 : b.1 ≤ a.2) : Tg ls os t ts u (a.1, max a.2 b.2) := by
  have g1 : outAg os t a.1 (max a.2 b.2) + outAg os t b.1 (min a.2 b.2) ≤ outAg os t a.1 a.2 + outAg os t b.1 b.2 := by
    rw [outAg_sum, outAg_sum, outAg_sum, outAg_sum, ← sumM_add, ← sumM_add]
    refine sumM_le fun o ho => ?_
    have h0 := O.co o ho
    have q1 := iv_or (a.1 ≤ o.1 ∧ o.1 ≤ max a.2 b.2 + t) o.2
    have q2 := iv_or (b.1 ≤ o.1 ∧ o.1 ≤ min a.2 b.2 + t) o.2
    have q3 := iv_or (a.1 ≤ o.1 ∧ o.1 ≤ a.2 + t) o.2
    have q4 := iv_or (b.1 ≤ o.1 ∧ o.1 ≤ b.2 + t) o.2
    have ht := O.ht
    omega
  have g2 : wS ls ts u (a.1, max a.2 b.2) + wS ls ts u (b.1, min a.2 b.2) = wS ls ts u a + wS ls ts u b := by
    unfold wS sumA
    rw [← S_add, ← S_add]
    refine S_congr fun i _ => ?_
    dsimp only
    have q1 := iv_or ((a.1 ≤ dyL ls i ∧ dyL ls i ≤ max a.2 b.2) ∧ u ≤ (ls.getD i (0, 0, 0)).2.2) (at0 ts i)
    have q2 := iv_or ((b.1 ≤ dyL ls i ∧ dyL ls i ≤ min a.2 b.2) ∧ u ≤ (ls.getD i (0, 0, 0)).2.2) (at0 ts i)
    have q3 := iv_or ((a.1 ≤ dyL ls i ∧ dyL ls i ≤ a.2) ∧ u ≤ (ls.getD i (0, 0, 0)).2.2) (at0 ts i)
    have q4 := iv_or ((b.1 ≤ dyL ls i ∧ dyL ls i ≤ b.2) ∧ u ≤ (ls.getD i (0, 0, 0)).2.2) (at0 ts i)
    generalize (ls.getD i (0, 0, 0)).2.2 = z at *
    generalize dyL ls i = y at *
    omega
  have w1 := w_le O B u (a.1, max a.2 b.2)
  have w2 := w_le O B u (b.1, min a.2 b.2)
  dsimp only at w1 w2
  refine ⟨by have := ha.1; show a.1 ≤ max a.2 b.2; omega, ?_⟩
  have e1 := ha.2
  have e2 := hb.2
  show outAg os t a.1 (max a.2 b.2) = _
  omega
theorem join_tg (O : Okk ls os t) (B : Bi ls os t ts) {u : Int} : ∀ (r : List Pr) (c : Pr), Tg ls os t ts u c → (∀ s ∈ r, Tg ls os t ts u s ∧ c.1 ≤ s.1) → r.Pairwise (fun a b => a.1 ≤ b.1) → ∀ s ∈ joinR c r, Tg ls os t ts u s
  | [], c, hc, _, _, s, hs => by
    unfold joinR at hs
    rw [List.mem_singleton.mp hs]; exact hc
  | x :: r, c, hc, hr, pw, s, hs => by
    rw [List.pairwise_cons] at pw
    have hx := hr x List.mem_cons_self
    unfold joinR at hs
    by_cases h : x.1 ≤ c.2
    · rw [if_pos h] at hs
      exact join_tg O B r (c.1, max c.2 x.2) (tg_join O B hc hx.1 hx.2 h) (fun y hy => hr y (List.mem_cons_of_mem _ hy)) pw.2 s hs
    · rw [if_neg h] at hs
      rcases List.mem_cons.mp hs with z | z
      · rw [z]; exact hc
      · exact join_tg O B r x hx.1 (fun y hy => ⟨(hr y (List.mem_cons_of_mem _ hy)).1, pw.1 y hy⟩) pw.2 s z
theorem join_ord : ∀ (r : List Pr) (c : Pr) (a : Int), a < c.1 → c.1 ≤ c.2 → c.2 ≤ 999 → (∀ s ∈ r, s.1 ≤ s.2 ∧ s.2 ≤ 999) → inOrd a (joinR c r) = true
  | [], c, a, h1, h2, h3, _ => by
    show (decide (a < c.1 ∧ c.1 ≤ c.2 ∧ c.2 ≤ 999) && true) = true
    rw [decide_eq_true ⟨h1, h2, h3⟩]; rfl
  | x :: r, c, a, h1, h2, h3, hr => by
    have hx := hr x List.mem_cons_self
    unfold joinR
    by_cases h : x.1 ≤ c.2
    · rw [if_pos h]
      exact join_ord r (c.1, max c.2 x.2) a h1 (by dsimp only; omega) (by dsimp only; omega) fun y hy => hr y (List.mem_cons_of_mem _ hy)
    · rw [if_neg h]
      show (decide (a < c.1 ∧ c.1 ≤ c.2 ∧ c.2 ≤ 999) && inOrd c.2 (joinR x r)) = true
      rw [decide_eq_true ⟨h1, h2, h3⟩, join_ord r x c.2 (by omega) hx.1 hx.2 fun y hy => hr y (List.mem_cons_of_mem _ hy)]; rfl
theorem join_cover {d : Int} : ∀ (r : List Pr) (c : Pr), (∃ s ∈ c :: r, s.1 ≤ d ∧ d ≤ s.2) → (∀ s ∈ r, c.1 ≤ s.1) → r.Pairwise (fun a b => a.1 ≤ b.1) → inAny (joinR c r) d = true
  | [], c, ⟨s, hs, h⟩, _, _ => by
    rw [List.mem_singleton] at hs
    subst hs
    show (decide (s.1 ≤ d ∧ d ≤ s.2) || false) = true
    rw [decide_eq_true h]; rfl
  | x :: r, c, ⟨s, hs, h⟩, hc, pw => by
    rw [List.pairwise_cons] at pw
    have hx := hc x List.mem_cons_self
    unfold joinR
    by_cases hj : x.1 ≤ c.2
    · rw [if_pos hj]
      refine join_cover r (c.1, max c.2 x.2) ?_ (fun y hy => hc y (List.mem_cons_of_mem _ hy)) pw.2
      rcases List.mem_cons.mp hs with z | z
      · exact ⟨_, List.mem_cons_self, by rw [← z]; exact h.1, by rw [← z]; show d ≤ max s.2 x.2; omega⟩
      · rcases List.mem_cons.mp z with y | y
        · exact ⟨_, List.mem_cons_self, by rw [y] at h; show c.1 ≤ d; omega, by rw [y] at h; show d ≤ max c.2 x.2; omega⟩
        · exact ⟨s, List.mem_cons_of_mem _ y, h⟩
    · rw [if_neg hj]
      show (decide (c.1 ≤ d ∧ d ≤ c.2) || inAny (joinR x r) d) = true
      rcases List.mem_cons.mp hs with z | z
      · rw [z] at h
        rw [decide_eq_true h]; rfl
      · rw [join_cover r x ⟨s, z, h⟩ pw.1 pw.2, Bool.or_true]
theorem ord_any {d : Int} : ∀ (ss : List Pr) (a : Int), inOrd a ss = true → inAny ss d = true → a < d
  | [], a, _, h => by cases h
  | s :: ss, a, h, k => by
    have h' : (decide (a < s.1 ∧ s.1 ≤ s.2 ∧ s.2 ≤ 999) && inOrd s.2 ss) = true := h
    rw [Bool.and_eq_true, decide_eq_true_eq] at h'
    have k' : (decide (s.1 ≤ d ∧ d ≤ s.2) || inAny ss d) = true := k
    rw [Bool.or_eq_true, decide_eq_true_eq] at k'
    rcases k' with z | z
    · omega
    · have := ord_any ss s.2 h'.2 z
      omega
theorem sum_any {u : Int} : ∀ (ss : List Pr) (a : Int), inOrd a ss = true → (ss.map (wS ls ts u)).sum = sumA ls ts fun i => inAny ss (dyL ls i) = true ∧ u ≤ (ls.getD i (0, 0, 0)).2.2
  | [], _, _ => by
    unfold sumA
    rw [S_zero fun i _ => iv_f (fun z => by cases z.1) _]
    rfl
  | s :: ss, a, h => by
    have h' : (decide (a < s.1 ∧ s.1 ≤ s.2 ∧ s.2 ≤ 999) && inOrd s.2 ss) = true := h
    rw [Bool.and_eq_true, decide_eq_true_eq] at h'
    rw [List.map_cons, List.sum_cons, sum_any ss s.2 h'.2]
    unfold wS sumA
    rw [← S_add]
    refine S_congr fun i _ => ?_
    dsimp only
    have ea : inAny (s :: ss) (dyL ls i) = (decide (s.1 ≤ dyL ls i ∧ dyL ls i ≤ s.2) || inAny ss (dyL ls i)) := rfl
    rw [ea]
    by_cases hu : u ≤ (ls.getD i (0, 0, 0)).2.2
    · by_cases h1 : s.1 ≤ dyL ls i ∧ dyL ls i ≤ s.2
      · have h2 : ¬ inAny ss (dyL ls i) = true := fun z => by
          have := ord_any ss s.2 h'.2 z
          omega
        rw [iv_t ⟨h1, hu⟩, iv_f (fun z => h2 z.1), iv_t ⟨by rw [decide_eq_true h1]; rfl, hu⟩, Int.add_zero]
      · rw [iv_f (fun z => h1 z.1), Int.zero_add, decide_eq_false h1, Bool.false_or]
    · rw [iv_f (fun z => hu z.2), iv_f (fun z => hu z.2), iv_f (fun z => hu z.2)]; rfl
theorem outS_eq (u : Int) (ss : List Pr) (ls : List Lot) : outS u ss ls = ctA ls fun i => inAny ss (dyL ls i) = false ∧ u ≤ (ls.getD i (0, 0, 0)).2.2 := by
  have e1 : ∀ ls : List Lot, outS u ss ls = sumM ls fun l => iv (inAny ss l.1 = false ∧ u ≤ l.2.2) l.2.1 := by
    intro ls
    induction ls with
    | nil => rfl
    | cons l ls ih =>
      rw [sumM_cons, ← ih]
      show (if u ≤ l.2.2 ∧ inAny ss l.1 = false then l.2.1 else 0) + outS u ss ls = _
      rw [iv_if, show (u ≤ l.2.2 ∧ inAny ss l.1 = false) = (inAny ss l.1 = false ∧ u ≤ l.2.2) from propext ⟨fun z => ⟨z.2, z.1⟩, fun z => ⟨z.2, z.1⟩⟩]
  rw [e1]
  have e2 := range_getD ls (0, 0, 0)
  unfold ctA S
  conv => lhs; rw [← e2]
  unfold sumM
  rw [List.map_map]
  rfl
/-! ### the lots of a duty or above -/
theorem dear_get {u : Int} {j : Nat} (h : j < (plU ls u).length) : (dearU ls u).getD j (0, 0, 0) = ls.getD ((plU ls u).getD j 0) (0, 0, 0) := getD_map (fun i => ls.getD i (0, 0, 0)) (plU ls u) j 0 _ h
theorem some_get {u : Int} {c : List Int} {j : Nat} (h : j < (plU ls u).length) : at0 (someU ls c u) j = at0 c ((plU ls u).getD j 0) := getD_map (at0 c) (plU ls u) j 0 _ h
theorem inS_dear (u : Int) (c : List Int) (f l : Int) : inS (dearU ls u) (someU ls c u) f l = wS ls c u (f, l) := by
  have e : (List.range (dearU ls u).length).map (fun j => if f ≤ dyL (dearU ls u) j ∧ dyL (dearU ls u) j ≤ l then at0 (someU ls c u) j else 0) = (plU ls u).map fun i => if f ≤ dyL ls i ∧ dyL ls i ≤ l then at0 c i else 0 := by
    have dl : (dearU ls u).length = (plU ls u).length := by simp [dearU]
    rw [dl]
    conv => rhs; rw [← range_getD (plU ls u) 0]
    rw [List.map_map]
    apply List.map_congr_left
    intro j hj
    rw [List.mem_range] at hj
    unfold dyL
    rw [dear_get hj, some_get hj]
    rfl
  unfold inS S
  rw [e]
  unfold plU
  rw [sum_filter]
  unfold wS sumA
  refine S_congr fun i _ => ?_
  by_cases hu : u ≤ (ls.getD i (0, 0, 0)).2.2
  · rw [if_pos (decide_eq_true hu), iv_if]
    by_cases h : f ≤ dyL ls i ∧ dyL ls i ≤ l
    · rw [iv_t h, iv_t ⟨h, hu⟩]
    · rw [iv_f h, iv_f fun z => h z.1]
  · rw [if_neg (by rw [decide_eq_false hu]; decide), iv_f fun z => hu z.2]
theorem some_sum (u : Int) (c : List Int) : (someU ls c u).sum = upU ls c u := by
  unfold someU plU
  rw [sum_filter]
  unfold upU sumA
  refine S_congr fun i _ => ?_
  by_cases hu : u ≤ (ls.getD i (0, 0, 0)).2.2
  · rw [if_pos (decide_eq_true hu), iv_t hu]
  · rw [if_neg (by rw [decide_eq_false hu]; decide), iv_f hu]
theorem min_mem : ∀ {xs : List Int}, xs ≠ [] → ∃ m ∈ xs, ∀ x ∈ xs, m ≤ x
  | [], h => absurd rfl h
  | [x], _ => ⟨x, List.mem_singleton.mpr rfl, fun y hy => by rw [List.mem_singleton.mp hy]; exact Int.le_refl _⟩
  | x :: y :: r, _ => by
    obtain ⟨m, hm, h⟩ := min_mem (xs := y :: r) (by simp)
    by_cases z : x ≤ m
    · refine ⟨x, List.mem_cons_self, fun w hw => ?_⟩
      rcases List.mem_cons.mp hw with e | e
      · rw [e]; exact Int.le_refl _
      · have := h w e; omega
    · refine ⟨m, List.mem_cons_of_mem _ hm, fun w hw => ?_⟩
      rcases List.mem_cons.mp hw with e | e
      · rw [e]; omega
      · exact h w e
theorem max_mem : ∀ {xs : List Int}, xs ≠ [] → ∃ m ∈ xs, ∀ x ∈ xs, x ≤ m
  | [], h => absurd rfl h
  | [x], _ => ⟨x, List.mem_singleton.mpr rfl, fun y hy => by rw [List.mem_singleton.mp hy]; exact Int.le_refl _⟩
  | x :: y :: r, _ => by
    obtain ⟨m, hm, h⟩ := max_mem (xs := y :: r) (by simp)
    by_cases z : m ≤ x
    · refine ⟨x, List.mem_cons_self, fun w hw => ?_⟩
      rcases List.mem_cons.mp hw with e | e
      · rw [e]; exact Int.le_refl _
      · have := h w e; omega
    · refine ⟨m, List.mem_cons_of_mem _ hm, fun w hw => ?_⟩
      rcases List.mem_cons.mp hw with e | e
      · rw [e]; omega
      · exact h w e
theorem dear_day {u d : Int} : d ∈ (dearU ls u).map (·.1) ↔ ∃ i, i < ls.length ∧ u ≤ (ls.getD i (0, 0, 0)).2.2 ∧ dyL ls i = d := by
  unfold dearU
  rw [List.map_map, List.mem_map]
  constructor
  · rintro ⟨i, hi, rfl⟩
    exact ⟨i, (plU_mem.mp hi).1, (plU_mem.mp hi).2, rfl⟩
  · rintro ⟨i, h1, h2, rfl⟩
    exact ⟨i, plU_mem.mpr ⟨h1, h2⟩, rfl⟩
/-- a lot of which not all is taken lies in a stretch that bars -/
theorem bar_has (O : Okk ls os t) (hg : ∀ l ∈ ls, GoodL l) {u : Int} {i : Nat} (hi : i < ls.length) (hu : u ≤ (ls.getD i (0, 0, 0)).2.2) (hc : at0 (best ls os t) i < ctL ls i) : ∃ p ∈ barL (dearU ls u) os t (someU ls (best ls os t) u), p.1 ≤ dyL ls i ∧ dyL ls i ≤ p.2 := by
  rcases best_st O hg u i hi hu with e | ⟨q, hq, hw⟩
  · omega
  have B := best_bi O hg
  -- the days within q
  have ne : ((dearU ls u).map (·.1)).filter (fun d => decide (q.1 ≤ d ∧ d ≤ q.2)) ≠ [] := fun z => by
    have : dyL ls i ∈ ((dearU ls u).map (·.1)).filter (fun d => decide (q.1 ≤ d ∧ d ≤ q.2)) := List.mem_filter.mpr ⟨dear_day.mpr ⟨i, hi, hu, rfl⟩, decide_eq_true hq⟩
    rw [z] at this
    cases this
  obtain ⟨f, hf, f2⟩ := min_mem ne
  obtain ⟨l, hl, l2⟩ := max_mem ne
  have md : dyL ls i ∈ ((dearU ls u).map (·.1)).filter (fun d => decide (q.1 ≤ d ∧ d ≤ q.2)) := List.mem_filter.mpr ⟨dear_day.mpr ⟨i, hi, hu, rfl⟩, decide_eq_true hq⟩
  have a1 := f2 _ md
  have a2 := l2 _ md
  have f3 := List.mem_filter.mp hf
  have l3 := List.mem_filter.mp hl
  have f4 := of_decide_eq_true f3.2
  have l4 := of_decide_eq_true l3.2
  have ew : wS ls (best ls os t) u (f, l) = wS ls (best ls os t) u q := S_congr fun k hk => by
    rw [List.mem_range] at hk
    dsimp only
    by_cases hku : u ≤ (ls.getD k (0, 0, 0)).2.2
    · by_cases hkq : q.1 ≤ dyL ls k ∧ dyL ls k ≤ q.2
      · have mk : dyL ls k ∈ ((dearU ls u).map (·.1)).filter (fun d => decide (q.1 ≤ d ∧ d ≤ q.2)) := List.mem_filter.mpr ⟨dear_day.mpr ⟨k, hk, hku, rfl⟩, decide_eq_true hkq⟩
        rw [iv_t ⟨⟨f2 _ mk, l2 _ mk⟩, hku⟩, iv_t ⟨hkq, hku⟩]
      · rw [iv_f (fun z => hkq ⟨by have := z.1.1; omega, by have := z.1.2; omega⟩), iv_f (fun z => hkq z.1)]
    · rw [iv_f (fun z => hku z.2), iv_f (fun z => hku z.2)]
  have eg : outAg os t f l ≤ outAg os t q.1 q.2 := outAg_mono O.co fun o _ h1 h2 => ⟨by omega, by omega⟩
  have wl := w_le O B u (f, l)
  dsimp only at wl
  refine ⟨(f, l), ?_, a1, a2⟩
  unfold barL
  rw [List.mem_filter]
  refine ⟨(mem_prs (sortU_pw _)).mpr ⟨mem_sortU.mpr f3.1, mem_sortU.mpr l3.1, by omega⟩, ?_⟩
  unfold isBar
  rw [Bool.and_eq_true]
  constructor
  · refine decide_eq_true ?_
    unfold spr
    rw [inS_dear]
    dsimp only
    omega
  · rw [List.any_eq_true]
    refine ⟨dyL ls i, ?_, decide_eq_true ⟨a1, a2⟩⟩
    unfold shutL
    rw [List.mem_map]
    obtain ⟨j, hj, ej⟩ := List.mem_iff_getElem.mp (plU_mem.mpr ⟨hi, hu⟩ : i ∈ plU ls u)
    have dl : (dearU ls u).length = (plU ls u).length := by simp [dearU]
    have ej' : (plU ls u).getD j 0 = i := by simp [hj, ej]
    refine ⟨j, List.mem_filter.mpr ⟨List.mem_range.mpr (by omega), decide_eq_true ?_⟩, ?_⟩
    · unfold ctL
      rw [some_get hj, dear_get hj, ej']
      exact hc
    · unfold dyL
      rw [dear_get hj, ej']
/-- a told paper: its stretches are in order, and what is outside and what goes out against them come to the units -/
theorem pap_good (O : Okk ls os t) (hg : ∀ l ∈ ls, GoodL l) (u : Int) : inOrd 0 (papU ls os t u).2.2 = true ∧ outS u (papU ls os t u).2.2 ls + barS os t (papU ls os t u).2.2 = (papU ls os t u).2.1 := by
  have B := best_bi O hg
  show inOrd 0 (joinS (sortP (barL (dearU ls u) os t (someU ls (best ls os t) u)))) = true ∧ outS u (joinS (sortP (barL (dearU ls u) os t (someU ls (best ls os t) u)))) ls + barS os t (joinS (sortP (barL (dearU ls u) os t (someU ls (best ls os t) u)))) = (someU ls (best ls os t) u).sum
  rw [some_sum]
  have bl : ∀ p ∈ barL (dearU ls u) os t (someU ls (best ls os t) u), Tg ls os t (best ls os t) u p ∧ 1 ≤ p.1 ∧ p.2 ≤ 999 := fun p hp => by
    unfold barL at hp
    rw [List.mem_filter] at hp
    obtain ⟨h1, h2⟩ := hp
    have hm := (mem_prs (sortU_pw _)).mp (show (p.1, p.2) ∈ prs (sortU ((dearU ls u).map (·.1))) from h1)
    unfold isBar at h2
    rw [Bool.and_eq_true, decide_eq_true_eq] at h2
    have h3 := h2.1
    unfold spr at h3
    rw [inS_dear] at h3
    obtain ⟨i, hi, _, e1⟩ := dear_day.mp (mem_sortU.mp hm.1)
    obtain ⟨j, hj, _, e2⟩ := dear_day.mp (mem_sortU.mp hm.2.1)
    have g1 := (hg _ (get_mem hi)).d1
    have g2 := (hg _ (get_mem hj)).d2
    refine ⟨⟨hm.2.2, ?_⟩, by rw [← e1]; exact g1, by rw [← e2]; exact g2⟩
    show _ = wS ls (best ls os t) u (p.1, p.2)
    omega
  have sm : ∀ p, p ∈ sortP (barL (dearU ls u) os t (someU ls (best ls os t) u)) ↔ p ∈ barL (dearU ls u) os t (someU ls (best ls os t) u) := fun p => (sortP_perm _).mem_iff
  have pw : (sortP (barL (dearU ls u) os t (someU ls (best ls os t) u))).Pairwise (fun a b => a.1 ≤ b.1) := (sortP_pw _).imp fun {a b} h => by
    have := leP_iff.mp h
    omega
  have hs : ∀ p ∈ sortP (barL (dearU ls u) os t (someU ls (best ls os t) u)), Tg ls os t (best ls os t) u p ∧ 1 ≤ p.1 ∧ p.2 ≤ 999 := fun p hp => bl p ((sm p).mp hp)
  have cover : ∀ i, i < ls.length → u ≤ (ls.getD i (0, 0, 0)).2.2 → at0 (best ls os t) i < ctL ls i → ∃ p ∈ sortP (barL (dearU ls u) os t (someU ls (best ls os t) u)), p.1 ≤ dyL ls i ∧ dyL ls i ≤ p.2 := fun i hi hu hc => by
    obtain ⟨p, hp, h⟩ := bar_has O hg hi hu hc
    exact ⟨p, (sm p).mpr hp, h⟩
  generalize sortP (barL (dearU ls u) os t (someU ls (best ls os t) u)) = qs at *
  have key : inOrd 0 (joinS qs) = true ∧ (∀ s ∈ joinS qs, Tg ls os t (best ls os t) u s) ∧ ∀ i, i < ls.length → u ≤ (ls.getD i (0, 0, 0)).2.2 → at0 (best ls os t) i < ctL ls i → inAny (joinS qs) (dyL ls i) = true := by
    cases qs with
    | nil =>
      refine ⟨rfl, fun s hs => ?_, fun i h1 h2 h3 => ?_⟩
      · cases hs
      · obtain ⟨p, hp, _⟩ := cover i h1 h2 h3
        cases hp
    | cons c r =>
      rw [List.pairwise_cons] at pw
      have hc := hs c List.mem_cons_self
      refine ⟨join_ord r c 0 (by omega) hc.1.1 hc.2.2 fun s h => ⟨(hs s (List.mem_cons_of_mem _ h)).1.1, (hs s (List.mem_cons_of_mem _ h)).2.2⟩, join_tg O B r c hc.1 (fun s h => ⟨(hs s (List.mem_cons_of_mem _ h)).1, pw.1 s h⟩) pw.2, fun i h1 h2 h3 => ?_⟩
      exact join_cover r c (cover i h1 h2 h3) pw.1 pw.2
  obtain ⟨k1, k2, k3⟩ := key
  refine ⟨k1, ?_⟩
  have e1 : barS os t (joinS qs) = ((joinS qs).map (wS ls (best ls os t) u)).sum := by
    unfold barS
    congr 1
    exact List.map_congr_left fun s hs => (k2 s hs).2
  rw [e1, sum_any _ 0 k1, outS_eq]
  unfold ctA sumA upU sumA
  rw [← S_add]
  refine S_congr fun i hi => ?_
  rw [List.mem_range] at hi
  by_cases hu : u ≤ (ls.getD i (0, 0, 0)).2.2
  · rw [iv_t hu]
    cases ha : inAny (joinS qs) (dyL ls i) with
    | true => rw [iv_f (fun z => by have z1 := z.1; rw [ha] at z1; cases z1), iv_t ⟨ha, hu⟩, Int.zero_add]
    | false =>
      rw [iv_t ⟨ha, hu⟩, iv_f (fun z => by have z1 := z.1; rw [ha] at z1; cases z1), Int.add_zero]
      have h1 := B.le i hi
      by_cases z : at0 (best ls os t) i < ctL ls i
      · rw [k3 i hi hu z] at ha; cases ha
      · omega
  · rw [iv_f (fun z => hu z.2), iv_f (fun z => hu z.2), iv_f hu]; rfl
/-- stretches of any kind never come to less -/
theorem pap_weak (O : Okk ls os t) (B : Bi ls os t ts) (u : Int) (ss : List Pr) (h : inOrd 0 ss = true) : upU ls ts u ≤ outS u ss ls + barS os t ss := by
  have e1 : ((ss.map (wS ls ts u)).sum : Int) ≤ barS os t ss := by
    unfold barS
    show sumM ss (wS ls ts u) ≤ sumM ss fun s => outAg os t s.1 s.2
    exact sumM_le fun s _ => w_le O B u s
  rw [sum_any ss 0 h] at e1
  have e2 : upU ls ts u ≤ outS u ss ls + sumA ls ts fun i => inAny ss (dyL ls i) = true ∧ u ≤ (ls.getD i (0, 0, 0)).2.2 := by
    rw [outS_eq]
    unfold ctA upU sumA
    rw [← S_add]
    refine S_le fun i hi => ?_
    rw [List.mem_range] at hi
    have h1 := B.le i hi
    by_cases hu : u ≤ (ls.getD i (0, 0, 0)).2.2
    · rw [iv_t hu]
      cases ha : inAny ss (dyL ls i) with
      | true => rw [iv_f (fun z => by have z1 := z.1; rw [ha] at z1; cases z1), iv_t ⟨ha, hu⟩]; omega
      | false => rw [iv_t ⟨ha, hu⟩, iv_f (fun z => by have z1 := z.1; rw [ha] at z1; cases z1)]; omega
    · rw [iv_f hu, iv_f (fun z => hu z.2), iv_f (fun z => hu z.2)]; decide
  omega
end
end Mm

namespace K18
open PySem L2 Fx Mm
variable [Tabz]
/-! stretches in order -/
def lastE (a : Int) : List Pr → Int
  | [] => a
  | s :: r => lastE s.2 r
theorem ord_cons {a : Int} {s : Pr} {r : List Pr} : inOrd a (s :: r) = true ↔ (a < s.1 ∧ s.1 ≤ s.2 ∧ s.2 ≤ 999) ∧ inOrd s.2 r = true := by
  show (decide (a < s.1 ∧ s.1 ≤ s.2 ∧ s.2 ≤ 999) && inOrd s.2 r) = true ↔ _
  rw [Bool.and_eq_true, decide_eq_true_eq]
theorem ord_snoc {x y : Int} : ∀ (f : List Pr) (a : Int), inOrd a f = true → lastE a f < x → x ≤ y → y ≤ 999 → inOrd a (f ++ [(x, y)]) = true ∧ lastE a (f ++ [(x, y)]) = y
  | [], a, _, h1, h2, h3 => ⟨ord_cons.mpr ⟨⟨h1, h2, h3⟩, rfl⟩, rfl⟩
  | s :: f, a, h, h1, h2, h3 => by
    obtain ⟨q1, q2⟩ := ord_cons.mp h
    obtain ⟨i1, i2⟩ := ord_snoc f s.2 q2 h1 h2 h3
    exact ⟨ord_cons.mpr ⟨q1, i1⟩, i2⟩
theorem ord_weak {a b : Int} (h : a ≤ b) : ∀ (r : List Pr), inOrd b r = true → inOrd a r = true
  | [], _ => rfl
  | s :: r, k => by
    obtain ⟨q1, q2⟩ := ord_cons.mp k
    exact ord_cons.mpr ⟨⟨by omega, q1.2⟩, q2⟩
theorem ord_drop (s : Pr) (y : List Pr) : ∀ (x : List Pr) (a : Int), inOrd a (x ++ s :: y) = true → inOrd a (x ++ y) = true
  | [], a, h => by
    obtain ⟨q1, q2⟩ := ord_cons.mp h
    exact ord_weak (by omega) y q2
  | c :: x, a, h => by
    obtain ⟨q1, q2⟩ := ord_cons.mp h
    exact ord_cons.mpr ⟨q1, ord_drop s y x c.2 q2⟩
theorem ord_shrink (s : Pr) (m : Int) (h1 : s.1 ≤ m) (h2 : m ≤ s.2) (y : List Pr) : ∀ (x : List Pr) (a : Int), inOrd a (x ++ s :: y) = true → inOrd a (x ++ (s.1, m) :: y) = true
  | [], a, h => by
    obtain ⟨q1, q2⟩ := ord_cons.mp h
    exact ord_cons.mpr ⟨⟨q1.1, h1, by show m ≤ 999; omega⟩, ord_weak h2 y q2⟩
  | c :: x, a, h => by
    obtain ⟨q1, q2⟩ := ord_cons.mp h
    exact ord_cons.mpr ⟨q1, ord_shrink s m h1 h2 y x c.2 q2⟩
theorem a2_right {α β : Type} {P : β → Prop} : ∀ {xs : List α} {ys : List β}, A2 (fun _ y => P y) xs ys → ∀ y ∈ ys, P y
  | _, _, .nil, y, hy => by cases hy
  | _, _, .cons h t, y, hy => by
    rcases List.mem_cons.mp hy with z | z
    · rw [z]; exact h
    · exact a2_right t y z
/-! the law's own sum -/
theorem sum1 (ls : List Lot) (os : List Ot) (t u : Int) (sd : List PyData) (ho : os.length ≤ 1000) : ∀ (ss : List Pr) (f : Int) (a b : Sl), ∃ a' b', forE (gTp (gsCons (gSet 6) (gsCons (gSet 7) gsNil))) b_l_sum_of_1 (ss.map encP) [.fz (.list (ls.map encL)), .fz (.list (os.map encO)), .fz (.int t), .fz (.int u), .fz (.list sd), .fz (.int f), a, b, .un, .un, .un, .un, .un] = .nx [.fz (.list (ls.map encL)), .fz (.list (os.map encO)), .fz (.int t), .fz (.int u), .fz (.list sd), .fz (.int (f + barS os t ss)), a', b', .un, .un, .un, .un, .un]
  | [], f, a, b => ⟨a, b, by simp [forE, barS]⟩
  | s :: ss, f, a, b => by
    rw [List.map_cons]
    unfold forE
    have e : gTp (gsCons (gSet 6) (gsCons (gSet 7) gsNil)) (encP s) [.fz (.list (ls.map encL)), .fz (.list (os.map encO)), .fz (.int t), .fz (.int u), .fz (.list sd), .fz (.int f), a, b, .un, .un, .un, .un, .un] = some [.fz (.list (ls.map encL)), .fz (.list (os.map encO)), .fz (.int t), .fz (.int u), .fz (.list sd), .fz (.int f), .fz (.int s.1), .fz (.int s.2), .un, .un, .un, .un, .un] := rfl
    have q : q_l_sum_of_1 [.fz (.list (ls.map encL)), .fz (.list (os.map encO)), .fz (.int t), .fz (.int u), .fz (.list sd), .fz (.int f), .fz (.int s.1), .fz (.int s.2), .un, .un, .un, .un, .un] = .ok (dI (outAgL os t s.1 s.2), [.fz (.list (ls.map encL)), .fz (.list (os.map encO)), .fz (.int t), .fz (.int u), .fz (.list sd), .fz (.int f), .fz (.int s.1), .fz (.int s.2), .un, .un, .un, .un, .un]) := by
      unfold q_l_sum_of_1 outAgL
      rw [lc_if os encO (fun o => decide (s.1 ≤ o.1 ∧ o.1 ≤ s.2 + t)) (fun o => PyData.int o.2) (ρ := [.fz (.list (ls.map encL)), .fz (.list (os.map encO)), .fz (.int t), .fz (.int u), .fz (.list sd), .fz (.int f), .fz (.int s.1), .fz (.int s.2), .un, .un, .un, .un, .un]) (by simp) (by omega) fun o _ => ⟨[.fz (.list (ls.map encL)), .fz (.list (os.map encO)), .fz (.int t), .fz (.int u), .fz (.list sd), .fz (.int f), .fz (.int s.1), .fz (.int s.2), .fz (.int o.1), .fz (.int o.2), .un, .un, .un], rfl, [.fz (.list (ls.map encL)), .fz (.list (os.map encO)), .fz (.int t), .fz (.int u), .fz (.list sd), .fz (.int f), .fz (.int s.1), .fz (.int s.2), .fz (.int o.1), .fz (.int o.2), .un, .un, .un], ?_, fun _ => ⟨[.fz (.list (ls.map encL)), .fz (.list (os.map encO)), .fz (.int t), .fz (.int u), .fz (.list sd), .fz (.int f), .fz (.int s.1), .fz (.int s.2), .fz (.int o.1), .fz (.int o.2), .un, .un, .un], by simp, rfl⟩, fun _ => rfl⟩]
      · simp
      · by_cases h1 : s.1 ≤ o.1 <;> by_cases h2 : o.1 ≤ s.2 + t <;> simp [h1, h2]
    have tn : b_l_sum_of_1 [.fz (.list (ls.map encL)), .fz (.list (os.map encO)), .fz (.int t), .fz (.int u), .fz (.list sd), .fz (.int f), .fz (.int s.1), .fz (.int s.2), .un, .un, .un, .un, .un] = .nx [.fz (.list (ls.map encL)), .fz (.list (os.map encO)), .fz (.int t), .fz (.int u), .fz (.list sd), .fz (.int (f + outAg os t s.1 s.2)), .fz (.int s.1), .fz (.int s.2), .un, .un, .un, .un, .un] := by
      have hs := asInts_map (outAgL os t s.1 s.2)
      unfold outAg
      generalize outAgL os t s.1 s.2 = zs at *
      simp [b_l_sum_of_1, q, hs]
    simp only [e, tn]
    obtain ⟨a', b', q2⟩ := sum1 ls os t u sd ho ss (f + outAg os t s.1 s.2) (.fz (.int s.1)) (.fz (.int s.2))
    refine ⟨a', b', q2.trans ?_⟩
    have eb : barS os t (s :: ss) = outAg os t s.1 s.2 + barS os t ss := by simp [barS]
    rw [eb, Int.add_assoc]
theorem filt_any (ss : List Pr) (d : Int) : ((ss.filter fun s => decide (s.1 ≤ d ∧ d ≤ s.2)).map encP).isEmpty = !inAny ss d := by
  unfold inAny
  induction ss with
  | nil => rfl
  | cons s ss ih =>
    rw [List.any_cons]
    by_cases h : s.1 ≤ d ∧ d ≤ s.2
    · rw [List.filter_cons_of_pos (by simpa using h)]
      simp only [h, and_self, decide_true, Bool.true_or, Bool.not_true, List.map_cons, List.isEmpty_cons]
    · rw [List.filter_cons_of_neg (by simpa using h), ih]
      simp only [h, decide_false, Bool.false_or]
theorem sum2 (ls0 : List Lot) (os : List Ot) (t u : Int) (ss : List Pr) (hs : ss.length ≤ 1000) (a b : Sl) : ∀ (ls : List Lot) (f : Int) (c d e g : Sl), ∃ c' d' e' g', forE (gTp (gsCons (gSet 8) (gsCons (gSet 9) (gsCons (gSet 10) gsNil)))) b_l_sum_of_2 (ls.map encL) [.fz (.list (ls0.map encL)), .fz (.list (os.map encO)), .fz (.int t), .fz (.int u), .fz (.list (ss.map encP)), .fz (.int f), a, b, c, d, e, g, .un] = .nx [.fz (.list (ls0.map encL)), .fz (.list (os.map encO)), .fz (.int t), .fz (.int u), .fz (.list (ss.map encP)), .fz (.int (f + outS u ss ls)), a, b, c', d', e', g', .un]
  | [], f, c, d, e, g => ⟨c, d, e, g, by simp [forE, outS]⟩
  | l :: ls, f, c, d, e, g => by
    rw [List.map_cons]
    unfold forE
    have e0 : gTp (gsCons (gSet 8) (gsCons (gSet 9) (gsCons (gSet 10) gsNil))) (encL l) [.fz (.list (ls0.map encL)), .fz (.list (os.map encO)), .fz (.int t), .fz (.int u), .fz (.list (ss.map encP)), .fz (.int f), a, b, c, d, e, g, .un] = some [.fz (.list (ls0.map encL)), .fz (.list (os.map encO)), .fz (.int t), .fz (.int u), .fz (.list (ss.map encP)), .fz (.int f), a, b, .fz (.int l.1), .fz (.int l.2.1), .fz (.int l.2.2), g, .un] := rfl
    have q : q_l_sum_of_2 [.fz (.list (ls0.map encL)), .fz (.list (os.map encO)), .fz (.int t), .fz (.int u), .fz (.list (ss.map encP)), .fz (.int f), a, b, .fz (.int l.1), .fz (.int l.2.1), .fz (.int l.2.2), g, .un] = .ok ((ss.filter fun s => decide (s.1 ≤ l.1 ∧ l.1 ≤ s.2)).map encP, [.fz (.list (ls0.map encL)), .fz (.list (os.map encO)), .fz (.int t), .fz (.int u), .fz (.list (ss.map encP)), .fz (.int f), a, b, .fz (.int l.1), .fz (.int l.2.1), .fz (.int l.2.2), g, .un]) := by
      unfold q_l_sum_of_2
      rw [lc_if ss encP (fun s => decide (s.1 ≤ l.1 ∧ l.1 ≤ s.2)) encP (ρ := [.fz (.list (ls0.map encL)), .fz (.list (os.map encO)), .fz (.int t), .fz (.int u), .fz (.list (ss.map encP)), .fz (.int f), a, b, .fz (.int l.1), .fz (.int l.2.1), .fz (.int l.2.2), g, .un]) (by simp) (by omega) fun s _ => ⟨[.fz (.list (ls0.map encL)), .fz (.list (os.map encO)), .fz (.int t), .fz (.int u), .fz (.list (ss.map encP)), .fz (.int f), a, b, .fz (.int l.1), .fz (.int l.2.1), .fz (.int l.2.2), g, .fz (encP s)], rfl, [.fz (.list (ls0.map encL)), .fz (.list (os.map encO)), .fz (.int t), .fz (.int u), .fz (.list (ss.map encP)), .fz (.int f), a, b, .fz (.int l.1), .fz (.int l.2.1), .fz (.int l.2.2), g, .fz (encP s)], ?_, fun _ => ⟨[.fz (.list (ls0.map encL)), .fz (.list (os.map encO)), .fz (.int t), .fz (.int u), .fz (.list (ss.map encP)), .fz (.int f), a, b, .fz (.int l.1), .fz (.int l.2.1), .fz (.int l.2.2), g, .fz (encP s)], by simp, rfl⟩, fun _ => rfl⟩]
      · rfl
      · by_cases h1 : s.1 ≤ l.1 <;> by_cases h2 : l.1 ≤ s.2 <;> simp [encP, two_ix0, two_ix1, h1, h2]
    have hem := filt_any ss l.1
    have gn : gi 4 (.list ((ss.filter fun s => decide (s.1 ≤ l.1 ∧ l.1 ≤ s.2)).map encP)) = true := by
      show ((ss.filter fun s => decide (s.1 ≤ l.1 ∧ l.1 ≤ s.2)).map encP).all (gi 3) = true
      rw [List.all_map]
      exact List.all_eq_true.mpr fun _ _ => rfl
    have en := oEQ_nil (n := 4) (by decide) gn
    rw [hem] at en
    have tn : b_l_sum_of_2 [.fz (.list (ls0.map encL)), .fz (.list (os.map encO)), .fz (.int t), .fz (.int u), .fz (.list (ss.map encP)), .fz (.int f), a, b, .fz (.int l.1), .fz (.int l.2.1), .fz (.int l.2.2), g, .un] = .nx [.fz (.list (ls0.map encL)), .fz (.list (os.map encO)), .fz (.int t), .fz (.int u), .fz (.list (ss.map encP)), .fz (.int (f + if u ≤ l.2.2 ∧ inAny ss l.1 = false then l.2.1 else 0)), a, b, .fz (.int l.1), .fz (.int l.2.1), .fz (.int l.2.2), .ow ((ss.filter fun s => decide (s.1 ≤ l.1 ∧ l.1 ≤ s.2)).map encP), .un] := by
      generalize (ss.filter fun s => decide (s.1 ≤ l.1 ∧ l.1 ≤ s.2)).map encP = fd at *
      generalize ss.map encP = sd at *
      have c0 : cMul l.2.1 0 = true := decide_eq_true (.inr (by decide))
      have c1 : cMul l.2.1 1 = true := decide_eq_true (.inr (by decide))
      by_cases h1 : u ≤ l.2.2
      · cases h2 : inAny ss l.1 with
        | true => rw [h2] at en; simp only [Bool.not_true] at en; simp [b_l_sum_of_2, q, h1, mkL, small, en, c0]
        | false => rw [h2] at en; simp only [Bool.not_false] at en; simp [b_l_sum_of_2, q, h1, mkL, small, en, c1]
      · simp [b_l_sum_of_2, q, h1, c0]
    simp only [e0, tn]
    obtain ⟨c', d', e', g', q2⟩ := sum2 ls0 os t u ss hs a b ls (f + if u ≤ l.2.2 ∧ inAny ss l.1 = false then l.2.1 else 0) (.fz (.int l.1)) (.fz (.int l.2.1)) (.fz (.int l.2.2)) (.ow ((ss.filter fun s => decide (s.1 ≤ l.1 ∧ l.1 ≤ s.2)).map encP))
    refine ⟨c', d', e', g', q2.trans ?_⟩
    rw [outS, Int.add_assoc]
theorem l_sum_eq (ls : List Lot) (os : List Ot) (t u : Int) (ss : List Pr) (ho : os.length ≤ 1000) (hs : ss.length ≤ 1000) : F_l_sum_of [.list (ls.map encL), .list (os.map encO), .int t, .int u, .list (ss.map encP)] = .ok (.fz (.int (barS os t ss + outS u ss ls))) := by
  show toOut (g_l_sum_of [.fz (.list (ls.map encL)), .fz (.list (os.map encO)), .fz (.int t), .fz (.int u), .fz (.list (ss.map encP)), .un, .un, .un, .un, .un, .un, .un, .un]) = _
  obtain ⟨a, b, q1⟩ := sum1 ls os t u (ss.map encP) ho ss 0 .un .un
  rw [Int.zero_add] at q1
  obtain ⟨c, d, e, g, q2⟩ := sum2 ls os t u ss hs a b ls (barS os t ss) .un .un .un .un
  generalize ss.map encP = sd at *
  simp [g_l_sum_of, sFor, q1, q2]
/-! drawn stretches -/
theorem some_turn (io : List PyData) (hd : Dw io) (ls : List Lot) (ds : List Int) (hl : ds.length ≤ 1000) (f : List Pr) (hf : f.length ≤ 1000) (a : Int) (hds : ∀ d ∈ ds, d ≤ 999) (ho : inOrd 0 f = true) (hle : lastE 0 f = a) (s4 s7 s9 s10 : Sl) :
    ∃ (io' : List PyData) (f' : List Pr) (a' : Int) (s7' s9' s10' : Sl), Dw io' ∧ f'.length ≤ f.length + 1 ∧ (inOrd 0 f' = true ∧ lastE 0 f' = a') ∧ b_l_some_stretches_1 [.ow io, .fz (.list (ls.map encL)), .fz (.list (dI ds)), .un, s4, .ow (f.map encP), .fz (.int a), s7, .un, s9, s10] = .nx [.ow io', .fz (.list (ls.map encL)), .fz (.list (dI ds)), .un, s4, .ow (f'.map encP), .fz (.int a'), s7', .un, s9', s10'] := by
  have q3 : q_l_some_stretches_3 [.ow io, .fz (.list (ls.map encL)), .fz (.list (dI ds)), .un, s4, .ow (f.map encP), .fz (.int a), s7, .un, s9, s10] = .ok (dI (ds.filter fun d => decide (a < d)), [.ow io, .fz (.list (ls.map encL)), .fz (.list (dI ds)), .un, s4, .ow (f.map encP), .fz (.int a), s7, .un, s9, s10]) := by
    unfold q_l_some_stretches_3
    rw [lc_if ds PyData.int (fun d => decide (a < d)) PyData.int (ρ := [.ow io, .fz (.list (ls.map encL)), .fz (.list (dI ds)), .un, s4, .ow (f.map encP), .fz (.int a), s7, .un, s9, s10]) (by simp) (by omega) fun d _ => ⟨[.ow io, .fz (.list (ls.map encL)), .fz (.list (dI ds)), .un, s4, .ow (f.map encP), .fz (.int a), s7, .fz (.int d), s9, s10], rfl, [.ow io, .fz (.list (ls.map encL)), .fz (.list (dI ds)), .un, s4, .ow (f.map encP), .fz (.int a), s7, .fz (.int d), s9, s10], by simp, fun _ => ⟨[.ow io, .fz (.list (ls.map encL)), .fz (.list (dI ds)), .un, s4, .ow (f.map encP), .fz (.int a), s7, .fz (.int d), s9, s10], by simp, rfl⟩, fun _ => rfl⟩]
    rfl
  have hlen : (ds.filter fun d => decide (a < d)).length ≤ 1000 := Nat.le_trans (List.length_filter_le _ _) hl
  have hps : ∀ d ∈ ds.filter (fun d => decide (a < d)), a < d ∧ d ≤ 999 := fun d hd => by
    rw [List.mem_filter] at hd
    exact ⟨of_decide_eq_true hd.2, hds d hd.1⟩
  generalize (ds.filter fun d => decide (a < d)) = ps at *
  have en := oNE_nil (n := 4) (ds := dI ps) (by decide) (gi_ints 2 ps)
  cases ps with
  | nil =>
    have e0 : (!(dI ([] : List Int)).isEmpty) = false := rfl
    rw [e0] at en
    refine ⟨io, f, a, .ow (dI []), s9, s10, hd, by omega, ⟨ho, hle⟩, ?_⟩
    generalize dI ([] : List Int) = pd at *
    generalize dI ds = dd at *
    generalize f.map encP = fd at *
    simp [b_l_some_stretches_1, q3, mkL, small, en]
  | cons p0 ps0 =>
    have e0 : (!(dI (p0 :: ps0)).isEmpty) = true := rfl
    rw [e0] at en
    have hne : dI (p0 :: ps0) ≠ [] := by simp
    have hall : ∀ d ∈ dI (p0 :: ps0), ∃ x, x ∈ p0 :: ps0 ∧ d = .int x := fun d hd => by
      obtain ⟨x, hx, rfl⟩ := List.mem_map.mp hd
      exact ⟨x, hx, rfl⟩
    generalize p0 :: ps0 = ps at *
    obtain ⟨d1, io1, p1, hd1, x, hx, rfl⟩ := one_ok (P := fun d => ∃ x, x ∈ ps ∧ d = .int x) hd hne (by simp; omega) hall
    have q4 : q_l_some_stretches_4 [.ow io1, .fz (.list (ls.map encL)), .fz (.list (dI ds)), .un, s4, .ow (f.map encP), .fz (.int a), .fz (.list (dI ps)), .un, .fz (.int x), s10] = .ok (dI (ps.filter fun d => decide (x ≤ d)), [.ow io1, .fz (.list (ls.map encL)), .fz (.list (dI ds)), .un, s4, .ow (f.map encP), .fz (.int a), .fz (.list (dI ps)), .un, .fz (.int x), s10]) := by
      unfold q_l_some_stretches_4
      rw [lc_if ps PyData.int (fun d => decide (x ≤ d)) PyData.int (ρ := [.ow io1, .fz (.list (ls.map encL)), .fz (.list (dI ds)), .un, s4, .ow (f.map encP), .fz (.int a), .fz (.list (dI ps)), .un, .fz (.int x), s10]) (by simp) (by omega) fun d _ => ⟨[.ow io1, .fz (.list (ls.map encL)), .fz (.list (dI ds)), .un, s4, .ow (f.map encP), .fz (.int a), .fz (.list (dI ps)), .fz (.int d), .fz (.int x), s10], rfl, [.ow io1, .fz (.list (ls.map encL)), .fz (.list (dI ds)), .un, s4, .ow (f.map encP), .fz (.int a), .fz (.list (dI ps)), .fz (.int d), .fz (.int x), s10], by simp, fun _ => ⟨[.ow io1, .fz (.list (ls.map encL)), .fz (.list (dI ds)), .un, s4, .ow (f.map encP), .fz (.int a), .fz (.list (dI ps)), .fz (.int d), .fz (.int x), s10], by simp, rfl⟩, fun _ => rfl⟩]
      rfl
    have hne2 : dI (ps.filter fun d => decide (x ≤ d)) ≠ [] := by
      intro z
      have : x ∈ ps.filter fun d => decide (x ≤ d) := List.mem_filter.mpr ⟨hx, by simp⟩
      rw [List.map_eq_nil_iff.mp z] at this
      cases this
    have hl2 : (ps.filter fun d => decide (x ≤ d)).length ≤ 1000 := Nat.le_trans (List.length_filter_le _ _) hlen
    obtain ⟨d2, io2, p2, hd2, y, hy, rfl⟩ := one_ok (P := fun d => ∃ y, (x ≤ y ∧ y ≤ 999) ∧ d = .int y) hd1 hne2 (by simp; omega) (fun d hd => by
      obtain ⟨y, hy, rfl⟩ := List.mem_map.mp hd
      rw [List.mem_filter] at hy
      exact ⟨y, ⟨of_decide_eq_true hy.2, (hps y hy.1).2⟩, rfl⟩)
    have os := ord_snoc (x := x) (y := y) f 0 ho (by rw [hle]; exact (hps x hx).1) hy.1 hy.2
    have ka := kAppend_of (d := .tuple [.int x, .int y]) (ds := f.map encP) (by rw [List.length_map]; omega)
    refine ⟨io2, f ++ [(x, y)], y, .fz (.list (dI ps)), .fz (.int x), .fz (.int y), hd2, by simp, os, ?_⟩
    have ef : (f ++ [(x, y)]).map encP = f.map encP ++ [.tuple [.int x, .int y]] := by rw [List.map_append]; rfl
    rw [ef]
    generalize dI (ps.filter fun d => decide (x ≤ d)) = gd at *
    generalize dI ps = pd at *
    generalize dI ds = dd at *
    generalize f.map encP = fd at *
    simp [b_l_some_stretches_1, q3, mkL, mkT, small, en, p1, q4, p2, ka, mutO, sMut]
theorem some_ok {io : List PyData} (hd : Dw io) (ls : List Lot) (hl : ls.length ≤ 30) (hg : ∀ l ∈ ls, GoodL l) : ∃ (ss : List Pr) (io' : List PyData), F_l_some_stretches io [.list (ls.map encL)] = .ok (.ow (ss.map encP), io') ∧ Dw io' ∧ ss.length ≤ 4 ∧ inOrd 0 ss = true := by
  show ∃ (ss : List Pr) (io' : List PyData), toOutI (g_l_some_stretches [.ow io, .fz (.list (ls.map encL)), .un, .un, .un, .un, .un, .un, .un, .un, .un]) = _ ∧ _
  have q1 : q_l_some_stretches_1 [.ow io, .fz (.list (ls.map encL)), .un, .un, .un, .un, .un, .un, .un, .un, .un] = .ok (dI (ls.map (·.1)), [.ow io, .fz (.list (ls.map encL)), .un, .un, .un, .un, .un, .un, .un, .un, .un]) := by
    unfold q_l_some_stretches_1
    rw [lc_all ls encL (fun l => PyData.int l.1) (ρ := [.ow io, .fz (.list (ls.map encL)), .un, .un, .un, .un, .un, .un, .un, .un, .un]) (by simp) (by omega) fun l _ => ⟨[.ow io, .fz (.list (ls.map encL)), .un, .fz (encL l), .un, .un, .un, .un, .un, .un, .un], rfl, [.ow io, .fz (.list (ls.map encL)), .un, .fz (encL l), .un, .un, .un, .un, .un, .un, .un], by simp [encL, encL_ix0], rfl⟩]
    unfold dI
    rw [List.map_map]; rfl
  obtain ⟨xs, ρw, eq, r1, io2, rfl, d2⟩ := lc_draw (fi := fAB oRng1 (fCons (ret (.int 3)) fNil)) (g := gSet 4) (fe := fOp oAdd (.e (ret (.int 1))) (.e (fCallI 0 F_l_pick (fCons (ret (.int 999)) fNil)))) (vs := [4]) (ρ := [.ow io, .fz (.list (ls.map encL)), .un, .un, .un, .un, .un, .un, .un, .un, .un]) (ρ0 := [.ow io, .fz (.list (ls.map encL)), .un, .un, .un, .un, .un, .un, .un, .un, .un]) [(0 : Int), 1, 2] PyData.int PyData.int (fun ρ => ∃ io, ρ = [.ow io, .fz (.list (ls.map encL)), .un, .un, .un, .un, .un, .un, .un, .un, .un] ∧ Dw io) (fun _ y => y ≤ 999)
    (by simp [show oRng1 [.int 3] = some (rng 0 3) from rfl, rng, List.range, List.range.loop]) (by decide) ⟨io, rfl, hd⟩ (by
    rintro x hm ρ ⟨io, rfl, hd⟩
    obtain ⟨r, io', p1, d1, a1, b1⟩ := pick_ok (m := 999) hd (by decide) (by decide)
    exact ⟨[.ow io, .fz (.list (ls.map encL)), .un, .un, .fz (.int x), .un, .un, .un, .un, .un, .un], rfl, 1 + r, [.ow io', .fz (.list (ls.map encL)), .un, .un, .fz (.int x), .un, .un, .un, .un, .un, .un], by simp [p1], (by omega), io', rfl, d1⟩)
  have hx9 := a2_right r1
  have hx3 : xs.length = 3 := by have := r1.len; simpa using this
  have q2 : q_l_some_stretches_2 [.ow io, .fz (.list (ls.map encL)), .un, .un, .un, .un, .un, .un, .un, .un, .un] = .ok (dI xs, [.ow io2, .fz (.list (ls.map encL)), .un, .un, .un, .un, .un, .un, .un, .un, .un]) := by
    unfold q_l_some_stretches_2
    rw [eq]
    simp [Fx.rest]
  have hso : oSortI [.list (dI (ls.map (·.1)) ++ dI xs)] = some (dI (sortI (ls.map (·.1) ++ xs))) := by
    rw [show dI (ls.map (·.1)) ++ dI xs = dI (ls.map (·.1) ++ xs) by unfold dI; rw [List.map_append]]
    simp only [oSortI, asInts_map, Option.map_some]
  have s1 : small ((dI (ls.map (·.1))).length + (dI xs).length) = true := small_of (by simp; omega)
  have hls : (sortI (ls.map (·.1) ++ xs)).length ≤ 1000 := by rw [(sortI_perm _).length_eq]; simp; omega
  have st1 : sSeq (sSet 2 (fLst (fLB oSortI [(.e (fLst (fOpL oCat (.e (fLst q_l_some_stretches_1)) (.e (fLst q_l_some_stretches_2)))))]))) (sSeq (sSetL 5 (fLs fNil)) (sSet 6 (ret (.int 0)))) [.ow io, .fz (.list (ls.map encL)), .un, .un, .un, .un, .un, .un, .un, .un, .un] = .nx [.ow io2, .fz (.list (ls.map encL)), .fz (.list (dI (sortI (ls.map (·.1) ++ xs)))), .un, .un, .ow (([] : List Pr).map encP), .fz (.int 0), .un, .un, .un, .un] := by
    generalize dI (sortI (ls.map (·.1) ++ xs)) = sd at *
    generalize dI (ls.map (·.1)) = d1 at *
    generalize dI xs = d2 at *
    have h0s : small 0 = true := rfl
    simp [q1, q2, s1, hso, mkL, h0s, -oSortI]
  have hds : ∀ d ∈ sortI (ls.map (·.1) ++ xs), d ≤ 999 := fun d hd => by
    rcases List.mem_append.mp ((sortI_perm _).mem_iff.mp hd) with z | z
    · obtain ⟨l, hl, rfl⟩ := List.mem_map.mp z
      exact (hg l hl).d2
    · exact hx9 d z
  generalize sortI (ls.map (·.1) ++ xs) = ds at *
  obtain ⟨r3, io3, p3, d3, a3, b3⟩ := pick_ok (m := 4) d2 (by decide) (by decide)
  obtain ⟨ρ', ef, i⟩ := forE_inv (fun j ρ => ∃ (io : List PyData) (f : List Pr) (a : Int) (s4 s7 s9 s10 : Sl), Dw io ∧ f.length ≤ j ∧ (inOrd 0 f = true ∧ lastE 0 f = a) ∧ ρ = [.ow io, .fz (.list (ls.map encL)), .fz (.list (dI ds)), .un, s4, .ow (f.map encP), .fz (.int a), s7, .un, s9, s10]) (rng 0 r3.toNat) 0 [.ow io3, .fz (.list (ls.map encL)), .fz (.list (dI ds)), .un, .un, .ow (([] : List Pr).map encP), .fz (.int 0), .un, .un, .un, .un] ⟨io3, [], 0, _, _, _, _, d3, Nat.le_refl _, ⟨rfl, rfl⟩, rfl⟩ (g := gSet 4) (s := b_l_some_stretches_1) (by
    rintro j x ρ hx ⟨io, f, a, s4, s7, s9, s10, hd, hf, ho, rfl⟩
    have hj := (rng_get hx).1
    obtain ⟨io', f', a', s7', s9', s10', d', hf', ho', e⟩ := some_turn io hd ls ds hls f (by omega) a hds ho.1 ho.2 (.fz x) s7 s9 s10
    exact ⟨_, _, rfl, .inl e, io', f', a', _, _, _, _, d', by omega, ho', rfl⟩)
  obtain ⟨io4, f, a, s4, s7, s9, s10, d4, hf, ho4, rfl⟩ := i
  rw [rng_len] at hf
  refine ⟨f, io4, ?_, d4, by omega, ho4.1⟩
  have er := oRng1_of (j := r3) a3 (by omega)
  unfold g_l_some_stretches
  have sp : ∀ {a b c : Rho → Fl} {ρ ρ1 : Rho}, sSeq a b ρ = .nx ρ1 → sSeq a (sSeq b c) ρ = c ρ1 := fun {a b c ρ ρ1} h => by
    unfold sSeq at h ⊢
    cases ha : a ρ with
    | nx ρ2 => rw [ha] at h; simp only [h]
    | ret _ _ => rw [ha] at h; cases h
    | brk _ => rw [ha] at h; cases h
    | ct _ => rw [ha] at h; cases h
    | exc _ _ => rw [ha] at h; cases h
    | bad => rw [ha] at h; cases h
  have asc : ∀ (a b c d : Rho → Fl) (ρ : Rho), sSeq a (sSeq b (sSeq c d)) ρ = sSeq a (sSeq (sSeq b c) d) ρ := fun a b c d ρ => by
    unfold sSeq
    cases a ρ with
    | nx ρ2 =>
      dsimp only
      cases b ρ2 <;> rfl
    | _ => rfl
  rw [asc, sp st1]
  generalize dI ds = dd at *
  generalize f.map encP = fd at *
  rw [List.map_nil] at ef
  simp [p3, er, sFor, ef]
theorem changed_ok {io : List PyData} (hd : Dw io) (ss : List Pr) (hl : ss.length ≤ 100) (ho : inOrd 0 ss = true) : ∃ (ss' : List Pr) (io' : List PyData), F_l_changed io [.list (ss.map encP)] = .ok (.ow (ss'.map encP), io') ∧ Dw io' ∧ ss'.length ≤ 100 ∧ inOrd 0 ss' = true := by
  show ∃ (ss' : List Pr) (io' : List PyData), toOutI (g_l_changed [.ow io, .fz (.list (ss.map encP)), .un, .un, .un]) = _ ∧ _
  have gn : gi 4 (.list (ss.map encP)) = true := by
    show (ss.map encP).all (gi 3) = true
    rw [List.all_map]
    exact List.all_eq_true.mpr fun _ _ => rfl
  have en := oEQ_nil (n := 4) (by decide) gn
  have h0s : small 0 = true := rfl
  have h1s : small 1 = true := rfl
  have h2s : small 2 = true := rfl
  cases hb : (ss.map encP).isEmpty with
  | true =>
    rw [hb] at en
    refine ⟨[], io, ?_, hd, by simp, rfl⟩
    generalize ss.map encP = sd at *
    simp [g_l_changed, mkL, h0s, en]
  | false =>
    rw [hb] at en
    have hl0 : 0 < ss.length := by
      cases ss with
      | nil => cases hb
      | cons _ _ => simp
    obtain ⟨r1, io1, p1, d1, a1, b1⟩ := pick_ok (m := (ss.length : Int)) hd (by omega) (by omega)
    obtain ⟨k, rfl⟩ : ∃ k : Nat, r1 = (k : Int) := ⟨r1.toNat, by omega⟩
    have hk : k < ss.length := by omega
    have ax := at_pr (ss := ss) hk
    obtain ⟨r2, io2, p2, d2, a2, b2⟩ := pick_ok (m := 2) d1 (by decide) (by decide)
    have q1 : cut (ss.map encP) none (some (k : Int)) = (ss.take k).map encP := by rw [cut_take, List.map_take]
    have q2 : cut (ss.map encP) (some ((k : Int) + 1)) none = (ss.drop (k + 1)).map encP := by rw [cut_dropS, List.map_drop]
    have hlen : (ss.map encP).length = ss.length := by simp
    have es : ss.take k ++ (ss.getD k (0, 0)) :: ss.drop (k + 1) = ss := by
      have h1 : ss.getD k (0, 0) = ss[k] := by simp [hk]
      rw [h1, ← List.drop_eq_getElem_cons hk, List.take_append_drop]
    have ho' := ho
    rw [← es] at ho'
    have hz : (ss.getD k (0, 0)).1 ≤ (ss.getD k (0, 0)).2 := by
      have : ∀ (x : List Pr) (a : Int) (s : Pr) (y : List Pr), inOrd a (x ++ s :: y) = true → s.1 ≤ s.2 := fun x => by
        induction x with
        | nil => intro a s y h; exact (ord_cons.mp h).1.2.1
        | cons c x ih => intro a s y h; exact ih c.2 s y (ord_cons.mp h).2
      exact this _ _ _ _ ho'
    have ez : encP (ss.getD k (0, 0)) = .tuple [.int (ss.getD k (0, 0)).1, .int (ss.getD k (0, 0)).2] := rfl
    rw [ez] at ax
    by_cases h : r2 = 0
    · refine ⟨ss.take k ++ ss.drop (k + 1), io2, ?_, d2, by simp; omega, ord_drop _ _ _ _ ho'⟩
      have t1 : small (((ss.take k).map encP).length + ((ss.drop (k + 1)).map encP).length) = true := small_of (by simp; omega)
      rw [List.map_append]
      generalize (ss.take k).map encP = w1 at *
      generalize (ss.drop (k + 1)).map encP = w2 at *
      generalize ss.map encP = sd at *
      generalize (ss.getD k (0, 0)).1 = z1 at *
      generalize (ss.getD k (0, 0)).2 = z2 at *
      have e2 : oEQ (.int r2) (.int 0) = some (.bool true) := by rw [h]; rfl
      simp [g_l_changed, mkL, h0s, en, hlen, p1, ax, p2, e2, q1, q2, t1]
    · refine ⟨ss.take k ++ ((ss.getD k (0, 0)).1, (ss.getD k (0, 0)).1 + ((ss.getD k (0, 0)).2 - (ss.getD k (0, 0)).1) / 2) :: ss.drop (k + 1), io2, ?_, d2, by simp; omega, ord_shrink _ _ (by omega) (by omega) _ _ _ ho'⟩
      have t1 : small (((ss.take k).map encP).length + 1) = true := small_of (by simp; omega)
      have t2 : small (((ss.take k).map encP).length + 1 + ((ss.drop (k + 1)).map encP).length) = true := small_of (by simp; omega)
      have f2 : (ss.take k ++ (((ss.getD k (0, 0)).1, (ss.getD k (0, 0)).1 + ((ss.getD k (0, 0)).2 - (ss.getD k (0, 0)).1) / 2) : Pr) :: ss.drop (k + 1)).map encP = (ss.take k).map encP ++ (.tuple [.int (ss.getD k (0, 0)).1, .int ((ss.getD k (0, 0)).1 + ((ss.getD k (0, 0)).2 - (ss.getD k (0, 0)).1) / 2)] :: (ss.drop (k + 1)).map encP) := by rw [List.map_append]; rfl
      rw [f2]
      generalize (ss.take k).map encP = w1 at *
      generalize (ss.drop (k + 1)).map encP = w2 at *
      generalize ss.map encP = sd at *
      generalize (ss.getD k (0, 0)).1 = z1 at *
      generalize (ss.getD k (0, 0)).2 = z2 at *
      have c2 : cDiv (z2 - z1) 2 = true := cDiv2 _
      have e2 : oEQ (.int r2) (.int 0) = some (.bool false) := by
        show some (PyData.bool (decide (r2 = 0))) = _
        rw [decide_eq_false h]
      simp [g_l_changed, mkL, mkT, h0s, h1s, h2s, en, hlen, p1, ax, p2, e2, q1, q2, t1, t2, c2]
theorem turn1 {ls : List Lot} {os : List Ot} {t : Int} (he : err3 ls os t = none) (u : Int) (ss : List Pr) (hl : ss.length ≤ 100) (ho : inOrd 0 ss = true) (io : List PyData) (s5 s8 s11 : Sl) :
    ∃ s11', b_law_1 [.un, .ow io, .fz (.list (ls.map encL)), .fz (.list (os.map encO)), .fz (.int t), s5, .fz (.int u), .fz (.int (upU ls (best ls os t) u)), s8, .un, .fz (.list (ss.map encP)), s11] = .nx [.un, .ow io, .fz (.list (ls.map encL)), .fz (.list (os.map encO)), .fz (.int t), s5, .fz (.int u), .fz (.int (upU ls (best ls os t) u)), s8, .un, .fz (.list (ss.map encP)), s11'] := by
  obtain ⟨e1, e2, e3⟩ := err3_none he
  have n2 := errOs_len e2
  have G1 := good_errLs e1
  have O := okk_of e1 e2 e3
  have f1 := l_sum_eq ls os t u ss (by omega) (by omega)
  have f2 := F_good_paper_eq ls os t u (barS os t ss + outS u ss ls) ss (by omega)
  have f3 := F_good_paper_eq ls os t u (barS os t ss + outS u ss ls - 1) ss (by omega)
  rw [he, ho, decide_eq_true (show outS u ss ls + barS os t ss = barS os t ss + outS u ss ls by omega)] at f2
  rw [he, ho, decide_eq_false (show ¬ outS u ss ls + barS os t ss = barS os t ss + outS u ss ls - 1 by omega)] at f3
  simp only [oE, Bool.and_self, Bool.and_false] at f2 f3
  have w := pap_weak O (best_bi O G1) u ss ho
  have hn : ¬ (barS os t ss + outS u ss ls < upU ls (best ls os t) u) := by omega
  refine ⟨.fz (.int (barS os t ss + outS u ss ls)), ?_⟩
  have h3s : small 3 = true := rfl
  generalize barS os t ss + outS u ss ls = sm at *
  generalize upU ls (best ls os t) u = un at *
  generalize ss.map encP = sd at *
  generalize ls.map encL = ld at *
  generalize os.map encO = od at *
  simp [b_law_1, f1, hn, mkT, h3s, f2, f3]
theorem join_len (ps : List Pr) : (joinS ps).length ≤ ps.length := by
  cases ps with
  | nil => exact Nat.le_refl _
  | cons c r =>
    have := joinR_len r c
    rw [List.length_cons]
    exact this
theorem pap_len {ls : List Lot} {os : List Ot} {t u : Int} (h : ls.length ≤ 9) : (papU ls os t u).2.2.length ≤ 100 := by
  show (joinS (sortP (barL (dearU ls u) os t (someU ls (best ls os t) u)))).length ≤ 100
  have h1 := join_len (sortP (barL (dearU ls u) os t (someU ls (best ls os t) u)))
  rw [(sortP_perm _).length_eq] at h1
  have h2 : (barL (dearU ls u) os t (someU ls (best ls os t) u)).length ≤ (strL (dearU ls u)).length := List.length_filter_le _ _
  have h3 := prs_len (sortU ((dearU ls u).map (·.1)))
  have h4 := sortU_len ((dearU ls u).map (·.1))
  have h5 : (dearU ls u).length ≤ 9 := by
    have := plU_len ls u
    simp [dearU]; omega
  rw [List.length_map] at h4
  have h6 : (sortU ((dearU ls u).map (·.1))).length * (sortU ((dearU ls u).map (·.1))).length ≤ 9 * 9 := Nat.mul_le_mul (by omega) (by omega)
  unfold strL at h2
  omega
theorem turn {ls : List Lot} {os : List Ot} {t : Int} (he : err3 ls os t = none) (hn : ls.length ≤ 9) (u : Int) (io : List PyData) (hd : Dw io) (s10 s11 : Sl) :
    Nx (fun ρ => ∃ (io : List PyData) (s10 s11 : Sl), Dw io ∧ ρ = [.un, .ow io, .fz (.list (ls.map encL)), .fz (.list (os.map encO)), .fz (.int t), .fz (.list (dI (best ls os t))), .fz (.int u), .fz (.int (papU ls os t u).2.1), .fz (.list ((papU ls os t u).2.2.map encP)), .un, s10, s11]) (b_law_2 [.un, .ow io, .fz (.list (ls.map encL)), .fz (.list (os.map encO)), .fz (.int t), .fz (.list (dI (best ls os t))), .fz (.int u), .fz (.int (papU ls os t u).2.1), .fz (.list ((papU ls os t u).2.2.map encP)), .un, s10, s11]) := by
  obtain ⟨e1, e2, e3⟩ := err3_none he
  have G1 := good_errLs e1
  have O := okk_of e1 e2 e3
  have pg := (pap_good O G1 u).1
  have pl := pap_len (ls := ls) (os := os) (t := t) (u := u) hn
  have eu : (papU ls os t u).2.1 = upU ls (best ls os t) u := some_sum u _
  rw [eu]
  generalize (papU ls os t u).2.2 = ss at *
  have bl := best_len ls os t
  have q1 : q_law_1 [.un, .ow io, .fz (.list (ls.map encL)), .fz (.list (os.map encO)), .fz (.int t), .fz (.list (dI (best ls os t))), .fz (.int u), .fz (.int (upU ls (best ls os t) u)), .fz (.list (ss.map encP)), .un, s10, s11] = .ok (dI (someU ls (best ls os t) u), [.un, .ow io, .fz (.list (ls.map encL)), .fz (.list (os.map encO)), .fz (.int t), .fz (.list (dI (best ls os t))), .fz (.int u), .fz (.int (upU ls (best ls os t) u)), .fz (.list (ss.map encP)), .un, s10, s11]) := by
    unfold q_law_1
    rw [lc_if (List.range ls.length) (fun i => PyData.int (i : Nat)) (fun i => decide (u ≤ (ls.getD i (0, 0, 0)).2.2)) (fun i => PyData.int (at0 (best ls os t) i)) (ρ := [.un, .ow io, .fz (.list (ls.map encL)), .fz (.list (os.map encO)), .fz (.int t), .fz (.list (dI (best ls os t))), .fz (.int u), .fz (.int (upU ls (best ls os t) u)), .fz (.list (ss.map encP)), .un, s10, s11]) (by
      simp [oRng1_of (j := (ls.length : Int)) (by omega) (by omega), rng]) (by rw [List.length_range]; omega) fun i hi => ⟨[.un, .ow io, .fz (.list (ls.map encL)), .fz (.list (os.map encO)), .fz (.int t), .fz (.list (dI (best ls os t))), .fz (.int u), .fz (.int (upU ls (best ls os t) u)), .fz (.list (ss.map encP)), .fz (.int (i : Int)), s10, s11], rfl, [.un, .ow io, .fz (.list (ls.map encL)), .fz (.list (os.map encO)), .fz (.int t), .fz (.list (dI (best ls os t))), .fz (.int u), .fz (.int (upU ls (best ls os t) u)), .fz (.list (ss.map encP)), .fz (.int (i : Int)), s10, s11], by
        rw [List.mem_range] at hi
        have a1 := at_lot (ls := ls) hi
        generalize ls.map encL = ld at *
        simp [a1, encL, encL_ix2], fun _ => ⟨[.un, .ow io, .fz (.list (ls.map encL)), .fz (.list (os.map encO)), .fz (.int t), .fz (.list (dI (best ls os t))), .fz (.int u), .fz (.int (upU ls (best ls os t) u)), .fz (.list (ss.map encP)), .fz (.int (i : Int)), s10, s11], by
        rw [List.mem_range] at hi
        have a1 := at_int (xs := best ls os t) (i := i) (by omega)
        generalize dI (best ls os t) = bd at *
        generalize at0 (best ls os t) i = x at *
        simp [a1], rfl⟩, fun _ => rfl⟩]
    unfold someU plU dI
    rw [List.map_map]; rfl
  have es : oSum [.list (dI (someU ls (best ls os t) u))] = some (.int (upU ls (best ls os t) u)) := by
    rw [← some_sum]
    simp only [oSum, asInts_map, Option.map_some]
  unfold b_law_2
  refine ex_seq ⟨[.un, .ow io, .fz (.list (ls.map encL)), .fz (.list (os.map encO)), .fz (.int t), .fz (.list (dI (best ls os t))), .fz (.int u), .fz (.int (upU ls (best ls os t) u)), .fz (.list (ss.map encP)), .un, s10, s11], ?_, ?_⟩
  · have nn : ∀ i : Int, oNE (.int i) (.int i) = some (.bool false) := fun i => by simp [oNE]
    generalize upU ls (best ls os t) u = un at *
    generalize dI (someU ls (best ls os t) u) = sd at *
    generalize dI (best ls os t) = bd at *
    generalize ss.map encP = sd2 at *
    simp [q1, es, nn, -oSum]
  obtain ⟨sa, io1, p1, d1, la, oa⟩ := some_ok hd ls (by omega) G1
  obtain ⟨sb, io2, p2, d2, lb, ob⟩ := changed_ok d1 ss pl pg
  rw [sFor_eq (ds := [.list (ss.map encP), .list (sa.map encP), .list (sb.map encP)]) (ρ1 := [.un, .ow io2, .fz (.list (ls.map encL)), .fz (.list (os.map encO)), .fz (.int t), .fz (.list (dI (best ls os t))), .fz (.int u), .fz (.int (upU ls (best ls os t) u)), .fz (.list (ss.map encP)), .un, s10, s11]) (by
    have h3s : small 3 = true := rfl
    generalize upU ls (best ls os t) u = un at *
    generalize dI (best ls os t) = bd at *
    generalize ss.map encP = sd2 at *
    generalize sa.map encP = sd3 at *
    generalize sb.map encP = sd4 at *
    generalize ls.map encL = ld at *
    simp [p1, p2, mkL, h3s])]
  obtain ⟨ρ', ef, i⟩ := forE_inv (fun _ ρ => ∃ (s10 s11 : Sl), ρ = [.un, .ow io2, .fz (.list (ls.map encL)), .fz (.list (os.map encO)), .fz (.int t), .fz (.list (dI (best ls os t))), .fz (.int u), .fz (.int (upU ls (best ls os t) u)), .fz (.list (ss.map encP)), .un, s10, s11]) [.list (ss.map encP), .list (sa.map encP), .list (sb.map encP)] 0 _ ⟨s10, s11, rfl⟩ (g := gSet 10) (s := b_law_1) (by
    rintro j x ρ hx ⟨s10, s11, rfl⟩
    have hm := List.mem_of_getElem? hx
    simp only [List.mem_cons, List.not_mem_nil, or_false] at hm
    have tn : ∃ zs : List Pr, x = .list (zs.map encP) ∧ zs.length ≤ 100 ∧ inOrd 0 zs = true := by
      rcases hm with z | z | z
      · exact ⟨ss, z, pl, pg⟩
      · exact ⟨sa, z, by omega, oa⟩
      · exact ⟨sb, z, lb, ob⟩
    obtain ⟨zs, rfl, z1, z2⟩ := tn
    obtain ⟨s11', e⟩ := turn1 he u zs z1 z2 io2 (.fz (.list (dI (best ls os t)))) (.fz (.list (ss.map encP))) s11
    exact ⟨_, _, rfl, .inl e, _, _, rfl⟩)
  obtain ⟨s10', s11', rfl⟩ := i
  exact ⟨_, ef, io2, s10', s11', d2, rfl⟩
theorem papL_len {ls : List Lot} {os : List Ot} {t : Int} : (papL ls os t).length ≤ ls.length := by
  have := sortU_len (ls.map (·.2.2))
  rw [List.length_map] at this
  simp [papL]; omega
theorem law_math (ns : List Int) (h : ns.length ≤ 63) : ∃ ρ', g_law (stLaw 12 ns) = .ret (.fz (.bool true)) ρ' := by
  have e0 : stLaw 12 ns = [.un, .ow (cells ns), .un, .un, .un, .un, .un, .un, .un, .un, .un, .un] := rfl
  rw [e0]
  obtain ⟨ls, os, t, io1, e1, d1, l1, l2, g1, g2, t0, t1⟩ := case_ok (most := 9) (dw_cells ns) (by decide) (by decide)
  have he := err3_good (ls := ls) (os := os) (t := t) (by omega) (by omega) g1 g2 t0 t1
  unfold g_law
  refine ex_seq (Q := fun f => ∃ ρ', f = .ret (.fz (.bool true)) ρ') ⟨[.un, .ow io1, .fz (.list (ls.map encL)), .fz (.list (os.map encO)), .fz (.int t), .un, .un, .un, .un, .un, .un, .un], by simp [e1], ?_⟩
  have f1 := F_best_eq ls os t
  have f2 := F_papers_eq ls os t
  rw [he] at f1 f2
  simp only [oE] at f1 f2
  refine ex_seq (Q := fun f => ∃ ρ', f = .ret (.fz (.bool true)) ρ') ⟨[.un, .ow io1, .fz (.list (ls.map encL)), .fz (.list (os.map encO)), .fz (.int t), .fz (.list (dI (best ls os t))), .un, .un, .un, .un, .un, .un], ?_, ?_⟩
  · generalize dI (best ls os t) = bd at *
    generalize ls.map encL = ld at *
    generalize os.map encO = od at *
    simp [f1]
  refine ex_mid (Q := fun f => ∃ ρ', f = .ret (.fz (.bool true)) ρ') (fun ρ => ∃ (io : List PyData) (s6 s7 s8 s10 s11 : Sl), Dw io ∧ ρ = [.un, .ow io, .fz (.list (ls.map encL)), .fz (.list (os.map encO)), .fz (.int t), .fz (.list (dI (best ls os t))), s6, s7, s8, .un, s10, s11]) ?_ ?_
  · rw [sFor_eq (ds := (papL ls os t).map encPa) (ρ1 := [.un, .ow io1, .fz (.list (ls.map encL)), .fz (.list (os.map encO)), .fz (.int t), .fz (.list (dI (best ls os t))), .un, .un, .un, .un, .un, .un]) (by
      generalize (papL ls os t).map encPa = pd at *
      generalize dI (best ls os t) = bd at *
      generalize ls.map encL = ld at *
      generalize os.map encO = od at *
      simp [f2])]
    obtain ⟨ρ', ef, i⟩ := forE_inv (fun _ ρ => ∃ (io : List PyData) (s6 s7 s8 s10 s11 : Sl), Dw io ∧ ρ = [.un, .ow io, .fz (.list (ls.map encL)), .fz (.list (os.map encO)), .fz (.int t), .fz (.list (dI (best ls os t))), s6, s7, s8, .un, s10, s11]) ((papL ls os t).map encPa) 0 _ ⟨io1, _, _, _, _, _, d1, rfl⟩ (g := gTp (gsCons (gSet 6) (gsCons (gSet 7) (gsCons (gSet 8) gsNil)))) (s := b_law_2) (by
      rintro j x ρ hx ⟨io, s6, s7, s8, s10, s11, hd, rfl⟩
      obtain ⟨p, hp, rfl⟩ := List.mem_map.mp (List.mem_of_getElem? hx)
      obtain ⟨u, _, rfl⟩ := List.mem_map.mp (show p ∈ ((sortU (ls.map (·.2.2))).reverse).map (papU ls os t) from hp)
      obtain ⟨ρ2, e2, io', s10', s11', d', rfl⟩ := turn he (by omega) u io hd s10 s11
      exact ⟨_, _, rfl, .inl e2, io', _, _, _, _, _, d', rfl⟩)
    exact ⟨ρ', ef, i⟩
  · rintro ρ ⟨io, s6, s7, s8, s10, s11, hd, rfl⟩
    have f3 := F_good_paper_eq ls os t 1000001 0 [] (by simp)
    have ez : outS 1000001 [] ls + barS os t [] = 0 := by
      rw [outS_eq]
      unfold ctA
      rw [S_zero fun i hi => iv_f (fun z => by
        have := (g1 _ (get_mem (List.mem_range.mp hi))).u2
        have := z.2
        omega) _]
      rfl
    rw [he, decide_eq_true ez] at f3
    simp only [oE] at f3
    have f3' : F_good_paper [.list (ls.map encL), .list (os.map encO), .int t, .tuple [.int 1000001, .int 0, .list []]] = .ok (.fz (.bool true)) := f3
    have c6 : cPow 10 6 = true := by decide
    have h3s : small 3 = true := rfl
    have h0s : small 0 = true := rfl
    generalize ls.map encL = ld at *
    generalize os.map encO = od at *
    exact ⟨_, by simp [c6, mkT, mkL, h3s, h0s, f3']; rfl⟩
end K18

namespace K18
open PySem L2 Fx Mm
abbrev R : PySem.W.OpenRow := PySem.W.OpenLaw.row PySem.Challenge.rw_drawback_k18_whole_papers_bar_a_unit_mor
abbrev hk : PySem.W.Hook := hookQ 5 fa fn tf
def ob (s : PySem.W.SharedT) : He.Al × Bool := obsQG 5 fa fn tf (HandSHeadRun.getT s)
theorem ob_eq (s : PySem.W.SharedT) : ob s = hk.obs s.abs := obsQG_eq (HandSHeadRun.getT_eq s)
def loose : List Str := ([("CustomsError" : Str), ("BadDay" : Str), ("BadTerm" : Str), ("BadCount" : Str), ("BadDuty" : Str), ("BadRows" : Str), ("LAST_DAY" : Str), ("LONGEST" : Str), ("need_day" : Str), ("need_term" : Str), ("is_stretch" : Str), ("goes_against" : Str), ("MOST_ROWS" : Str), ("MOST_UNITS" : Str), ("MOST_DUTY" : Str), ("need_count" : Str), ("need_duty" : Str), ("checked_lots" : Str), ("checked_outs" : Str), ("by_duty" : Str), ("out_against" : Str), ("days_of" : Str), ("all_stretches" : Str), ("in_stretch" : Str), ("spare" : Str), ("room_at" : Str), ("best_counts" : Str), ("best" : Str), ("joined" : Str), ("holds_day" : Str)] : List Str) ++ ([("shut_days" : Str), ("barring" : Str), ("papers_of" : Str), ("papers" : Str), ("in_order" : Str), ("outside" : Str), ("good_paper" : Str), ("_law_pick" : Str), ("_law_begin" : Str), ("_law_span" : Str), ("_law_some_term" : Str), ("_law_some_lots" : Str), ("_law_some_outs" : Str), ("_law_case" : Str), ("_law_one" : Str), ("_law_some_stretches" : Str), ("_law_sum_of" : Str), ("_law_changed" : Str)] : List Str)
theorem run (w : World) : HandSHeadRun.RunEq R (PySem.W.view R.prog [55]) hk ob 4000 loose w := by
  intro os
  kernel_rfl
end K18
open PySem PySem.W PySem.Calls PyProof.Rows
set_option maxHeartbeats 0 in
theorem PySem.Challenge.cw_drawback_k18_whole_papers_bar_a_unit_mor_holds : PySem.Challenge.rw_drawback_k18_whole_papers_bar_a_unit_mor.Holds := by
  w_on; o_law
  refine HandSHeadRun.head_any (r := OpenLaw.row PySem.Challenge.rw_drawback_k18_whole_papers_bar_a_unit_mor) (q := view (OpenLaw.row PySem.Challenge.rw_drawback_k18_whole_papers_bar_a_unit_mor).prog [55]) (H := K18.hk) (ob := K18.ob) (M := 4000) (loose := K18.loose) (d := HandSHeadRun.topDef (OpenLaw.row PySem.Challenge.rw_drawback_k18_whole_papers_bar_a_unit_mor).prog 55) (kwd := []) K18.ob_eq
    (by kernel_rfl) (fun s => by kernel_rfl) K18.run (by kernel_rfl) (by kernel_rfl) (by kernel_rfl) (by rfl) (by first | assumption | decide +kernel) (by decide +kernel) ⟨rfl, rfl, rfl, rfl, rfl, by decide +kernel⟩ ?hw ?hc
  case hw => w_witness2
  case hc =>
    refine LamX.walk_ofTsE (l := PySem.Challenge.rw_drawback_k18_whole_papers_bar_a_unit_mor) (n := 63) (k := 8) (x := "_law_script") (CX := fun _ => L2.CX0) rfl (by decide) (by kernel_rfl) ⟨rfl, by decide, by decide⟩ ?F (fun _ _ _ _ _ z => z)
    intro w mg fa h Y G hmg0
    obtain ⟨K, KX, c, t⟩ := Y
    have hmg : mg ("law" : PySem.Str) = some (.ref fa) := by
      have e : (HandSHeadRun.topDef (OpenLaw.row PySem.Challenge.rw_drawback_k18_whole_papers_bar_a_unit_mor).prog 55).name = ("law" : PySem.Str) := by kernel_rfl
      rw [← e]
      exact hmg0
    have T : Fx.Top K18.fa K18.fn K mg := ⟨c, h, KX, G⟩
    have e := hmg.symm.trans (T.glo 63 (x := "law"))
    cases e
    exact ⟨K, KX, Fx.law_at c t KX G (T.def_ (x := "law") (st := K18.s_law) 37) (fun _ _ _ _ _ _ _ _ => BindsTo.of_eq rfl) (fun base T => @K18.c_law (Fx.tzOf K18.tf K) _ _ _ _ _ T) (fun ns hl => @K18.law_math ⟨[]⟩ ns hl)⟩

