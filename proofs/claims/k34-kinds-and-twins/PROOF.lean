import PyProof.Rows.All
import Wide.All
import OpenK.AllK
import Wide.FinOn
import PySem.Challenge.RW_drawback_k34_kinds_and_twins
import HandS.ForMost
import HandS.ForExc
import HandS.IsInst
import HandS.Wide
import HandS.Conv
import HandS.Lambda
import HandS.Zip
import HandS.HeadHook4
import HandS.Deep
import HandS.ExcIs
import HandS.HeadHook1
import HandS.HeadWalk
import HandS.EndTab
import HandS.Head0
import HandS.Head1
import HandS.Head2
import HandS.HeadEnd
import HandS.TupAny
import HandS.More
import HandS.ExcValue
import KE.SortKeyHeap
import KE.KSortKey
import KE.KLam
import PyProof.Rows.SeqItemCall
import PyProof.Rows.CallKwBuiltin
import HandS.Style
import HandS.SortInts
import HandS.Set
import HandS.SetFor
import HandS.Strs
import HandS.Iter
import HandS.TupLe
import KE.GoesEnum
import KE.GoesMore
import HandS.SortRule
import HandS.Flow
import HandS.TupSets
import HandS.TryOnly
set_option Elab.async false
set_option linter.all false
set_option maxRecDepth 100000
set_option maxHeartbeats 8000000
namespace Fx
open PySem L2
class Tabz where
  T : List (Addr × Str)
  cA : Str → Addr
variable [Tabz]
def NT (o : HO) : Prop := ∀ ps, o ≠ .tbl ps
def NtH (H : Hp) : Prop := ∀ a ps, H a ≠ some (.tbl ps)
def Tb (H : Hp) : Prop := LamX.Tabs Tabz.T H
abbrev D := PyData
def flds (c : Str) : List Str := if c = "Kinds" then ["part_rows", "held"] else if c = "House" then ["term", "limit", "share", "goods", "lot_rows", "out_rows", "claim_rows", "past", "future"] else if c = "Desk" then ["house"] else []
def instD (c : Str) (ds : List PyData) : PyData := .dict [(.none, .str c), (.none, .tuple ds)]
inductive Nk where
  | lst | tup
  | ins (c : Str)
  | dct (ks : List Key)
inductive Tr where
  | fz (d : D)
  | ow (ds : List D)
  | dk (ks : List Key) (ds : List D)
  | dt (ks : List (List Key)) (ds : List D)
  | nd (k : Nk) (ts : List Tr)
inductive Sl where
  | un
  | fz (d : D)
  | ow (ds : List D)
  | raw (v : V)
  | tr (t : Tr)
  | lk (t : Tr)
  | pa (i : Nat) (q : List Nat)
abbrev Rho := List Sl
def kD : Key → D
  | .inl i => .int i
  | .inr x => .str x
mutual
/-- the value v is the data d, all of it tracked -/
inductive Rep (H : Hp) : V → D → Prop
  | non : Rep H .non .none
  | bl (b : Bool) : Rep H (.bl b) (.bool b)
  | int (i : Int) : Rep H (.int i) (.int i)
  | str (x : Str) : Rep H (.str x) (.str x)
  | lst {a : Addr} {xs : List V} {ds : List D} : H a = some (.lst xs) → RepA H xs ds → Rep H (.ref a) (.list ds)
  | tup {a : Addr} {xs : List V} {ds : List D} : H a = some (.tup xs) → RepA H xs ds → Rep H (.ref a) (.tuple ds)
  | ins {a dx : Addr} {c : Str} {xs : List V} {ds : List D} : H a = some (.ins (Tabz.cA c) dx ((flds c).zip xs)) → xs.length ≤ (flds c).length → RepA H xs ds → Rep H (.ref a) (instD c ds)
  | dct {a : Addr} {ks : List Key} {xs : List V} {ds : List D} : H a = some (.dK (ks.zip xs)) → ks.length = xs.length → RepA H xs ds → Rep H (.ref a) (.dict ((ks.map kD).zip ds))
inductive RepA (H : Hp) : List V → List D → Prop
  | nil : RepA H [] []
  | cons {v : V} {vs : List V} {d : D} {ds : List D} : Rep H v d → RepA H vs ds → RepA H (v :: vs) (d :: ds)
end
inductive Out (α : Type) where
  | ok (a : α)
  | exc (c : Str)
  | bad
def NodeOk (H : Hp) (p : Addr) : Nk → List V → Prop
  | .lst, vs => H p = some (.lst vs)
  | .tup, vs => H p = some (.tup vs)
  | .ins c, vs => vs.length ≤ (flds c).length ∧ ∃ dx, H p = some (.ins (Tabz.cA c) dx ((flds c).zip vs))
  | .dct ks, vs => ks.length = vs.length ∧ H p = some (.dK (ks.zip vs))
mutual
/-- the value v is the tree t, whose own objects are F -/
inductive TR (Hf H : Hp) : V → Tr → List Addr → Prop
  | fz {v : V} {d : D} : Rep Hf v d → TR Hf H v (.fz d) []
  | ow {p : Addr} {vs : List V} {ds : List D} : H p = some (.lst vs) → RepA Hf vs ds → TR Hf H (.ref p) (.ow ds) [p]
  | dk {p : Addr} {ks : List Key} {vs : List V} {ds : List D} : H p = some (.dK (ks.zip vs)) → ks.length = vs.length → RepA Hf vs ds → TR Hf H (.ref p) (.dk ks ds) [p]
  | dt {p : Addr} {ks : List (List Key)} {vs : List V} {ds : List D} : H p = some (.dT (ks.zip vs)) → ks.length = vs.length → RepA Hf vs ds → TR Hf H (.ref p) (.dt ks ds) [p]
  | nd {p : Addr} {k : Nk} {vs : List V} {ts : List Tr} {F : List Addr} : NodeOk H p k vs → TRs Hf H vs ts F → TR Hf H (.ref p) (.nd k ts) (p :: F)
inductive TRs (Hf H : Hp) : List V → List Tr → List Addr → Prop
  | nil : TRs Hf H [] [] []
  | cons {v : V} {vs : List V} {t : Tr} {ts : List Tr} {F F' : List Addr} : TR Hf H v t F → TRs Hf H vs ts F' → TRs Hf H (v :: vs) (t :: ts) (F ++ F')
end
inductive At (H : Hp) : V → Tr → List Nat → V → Tr → Prop
  | nil {v : V} {t : Tr} : At H v t [] v t
  | cons {p : Addr} {k : Nk} {vs : List V} {ts : List Tr} {n : Nat} {v w : V} {t s : Tr} {q : List Nat} : NodeOk H p k vs → vs[n]? = some v → ts[n]? = some t → At H v t q w s → At H (.ref p) (.nd k ts) (n :: q) w s
theorem NodeOk.inj {H : Hp} {p : Addr} : ∀ {k : Nk} {vs ws : List V}, NodeOk H p k vs → NodeOk H p k ws → vs = ws
  | .lst, vs, ws, h, h' => by
    have h : H p = some (.lst vs) := h
    have h' : H p = some (.lst ws) := h'
    rw [h] at h'; cases h'; rfl
  | .tup, vs, ws, h, h' => by
    have h : H p = some (.tup vs) := h
    have h' : H p = some (.tup ws) := h'
    rw [h] at h'; cases h'; rfl
  | .ins c, vs, ws, ⟨l, dx, h⟩, ⟨l', dx', h'⟩ => by
    rw [h] at h'
    simp only [Option.some.injEq, HO.ins.injEq, true_and] at h'
    have e := congrArg (List.map Prod.snd) h'.2
    rwa [List.map_snd_zip (by omega), List.map_snd_zip (by omega)] at e
  | .dct ks, vs, ws, ⟨l, h⟩, ⟨l', h'⟩ => by
    rw [h] at h'
    simp only [Option.some.injEq, HO.dK.injEq] at h'
    have e := congrArg (List.map Prod.snd) h'
    rwa [List.map_snd_zip (by omega), List.map_snd_zip (by omega)] at e
theorem NodeOk.obj {H : Hp} {p : Addr} : ∀ {k : Nk} {vs : List V}, NodeOk H p k vs → ∃ o, H p = some o ∧ NT o
  | .lst, vs, h => ⟨_, h, fun _ z => nomatch z⟩
  | .tup, vs, h => ⟨_, h, fun _ z => nomatch z⟩
  | .ins c, vs, ⟨_, dx, h⟩ => ⟨_, h, fun _ z => nomatch z⟩
  | .dct ks, vs, ⟨_, h⟩ => ⟨_, h, fun _ z => nomatch z⟩
theorem NodeOk.of {H H' : Hp} {p : Addr} (e : H' p = H p) : ∀ {k : Nk} {vs : List V}, NodeOk H p k vs → NodeOk H' p k vs
  | .lst, vs, h => (show H' p = _ from e.trans h)
  | .tup, vs, h => (show H' p = _ from e.trans h)
  | .ins c, vs, ⟨l, dx, h⟩ => ⟨l, dx, e.trans h⟩
  | .dct ks, vs, ⟨l, h⟩ => ⟨l, e.trans h⟩
mutual
theorem TR.inj {Hf Hf' H : Hp} : ∀ {v : V} {t : Tr} {F F' : List Addr}, TR Hf H v t F → TR Hf' H v t F' → F = F'
  | _, _, _, _, .fz _, .fz _ => rfl
  | _, _, _, _, .ow _ _, .ow _ _ => rfl
  | _, _, _, _, .dk _ _ _, .dk _ _ _ => rfl
  | _, _, _, _, .dt _ _ _, .dt _ _ _ => rfl
  | _, _, _, _, .nd h a, .nd h' a' => by
    have e := h.inj h'
    subst e
    rw [TRs.inj a a']
theorem TRs.inj {Hf Hf' H : Hp} : ∀ {vs : List V} {ts : List Tr} {F F' : List Addr}, TRs Hf H vs ts F → TRs Hf' H vs ts F' → F = F'
  | _, _, _, _, .nil, .nil => rfl
  | _, _, _, _, .cons h a, .cons h' a' => by rw [TR.inj h h', TRs.inj a a']
end
mutual
/-- its objects are there -/
theorem TR.obj {Hf H : Hp} : ∀ {v : V} {t : Tr} {F : List Addr}, TR Hf H v t F → ∀ a ∈ F, ∃ o, H a = some o ∧ NT o
  | _, _, _, .fz _, a, z => nomatch z
  | _, _, _, .ow h _, a, z => by
    rw [List.mem_singleton] at z; subst z
    exact ⟨_, h, fun _ y => nomatch y⟩
  | _, _, _, .dk h _ _, a, z => by
    rw [List.mem_singleton] at z; subst z
    exact ⟨_, h, fun _ y => nomatch y⟩
  | _, _, _, .dt h _ _, a, z => by
    rw [List.mem_singleton] at z; subst z
    exact ⟨_, h, fun _ y => nomatch y⟩
  | _, _, _, .nd h k, a, z => by
    rcases List.mem_cons.mp z with e | z
    · subst e; exact h.obj
    · exact TRs.obj k a z
theorem TRs.obj {Hf H : Hp} : ∀ {v : List V} {t : List Tr} {F : List Addr}, TRs Hf H v t F → ∀ a ∈ F, ∃ o, H a = some o ∧ NT o
  | _, _, _, .nil, a, z => nomatch z
  | _, _, _, .cons h k, a, z => (List.mem_append.mp z).elim (TR.obj h a) (TRs.obj k a)
end
def OwnS (H : Hp) (v : V) : Sl → Addr → Prop
  | .ow _, a => v = .ref a
  | .tr t, a => ∃ Hf F, TR Hf H v t F ∧ a ∈ F
  | _, _ => False
def OwnI (H : Hp) (σ : St) (ρ : Rho) (i : Nat) (a : Addr) : Prop := ∃ s v, ρ[i]? = some s ∧ σ[i]? = some (some v) ∧ OwnS H v s a
def OwnA (H : Hp) (σ : St) (ρ : Rho) (a : Addr) : Prop := ∃ i, OwnI H σ ρ i a
def LkA (H : Hp) (σ : St) (ρ : Rho) (a : Addr) : Prop := ∃ (i : Nat) (t : Tr) (v : V) (Hf : Hp) (F : List Addr), ρ[i]? = some (Sl.lk t) ∧ σ[i]? = some (some v) ∧ TR Hf H v t F ∧ a ∈ F
def SlOk (Hf H : Hp) : Option (Option V) → Sl → Prop
  | _, .un => True
  | some (some v), .fz d => Rep Hf v d
  | some (some w), .raw v => w = v
  | some (some (.ref p)), .ow ds => Hf p = none ∧ ∃ vs, H p = some (.lst vs) ∧ RepA Hf vs ds
  | some (some v), .tr t => ∃ F, TR Hf H v t F ∧ F.Nodup ∧ ∀ a ∈ F, Hf a = none
  | some (some v), .lk t => ∃ F, TR Hf H v t F
  | _, .pa _ _ => True
  | _, _ => False
def isTr (ρ : Rho) (i : Nat) (t : Tr) : Prop := ρ[i]? = some (.tr t) ∨ ρ[i]? = some (.lk t)
structure Rp (Hf H : Hp) (σ : St) (ρ : Rho) : Prop where
  sub : Same Hf H
  tb : Tb H
  nt : NtH Hf
  len : ρ.length ≤ σ.length
  sl : ∀ (i : Nat) (s : Sl), ρ[i]? = some s → SlOk Hf H σ[i]? s
  nd : ∀ (i j : Nat) (a : Addr), OwnI H σ ρ i a → OwnI H σ ρ j a → i = j
  lk : ∀ a, LkA H σ ρ a → ¬ OwnA H σ ρ a
  al : ∀ (j i : Nat) (q : List Nat) (t : Tr), ρ[j]? = some (.pa i q) → isTr ρ i t → ∃ v w s, σ[i]? = some (some v) ∧ σ[j]? = some (some w) ∧ At H v t q w s
def Keep (σ : St) (ρ : Rho) (H H' : Hp) : Prop := ∀ a o, H a = some o → NT o → ¬ OwnA H σ ρ a → H' a = some o
def Quiet (σ : St) (ρ : Rho) (H : Hp) (σ' : St) (ρ' : Rho) (H' : Hp) : Prop := ∀ i t, ρ[i]? = some (.tr t) → ρ'[i]? = some (.tr t) ∧ σ'[i]? = σ[i]? ∧ ∀ a, OwnI H σ ρ i a → H' a = H a
def Stay (σ : St) (ρ : Rho) (σ' : St) (ρ' : Rho) : Prop := ∀ i : Nat, (∃ t : Tr, ρ[i]? = some (Sl.lk t)) ∨ (∃ (k : Nat) (q : List Nat), ρ[i]? = some (Sl.pa k q)) → ρ'[i]? = ρ[i]? ∧ σ'[i]? = σ[i]?
structure Nxt (q : Bool) (σ : St) (ρ : Rho) (Hf H : Hp) (σ' : St) (ρ' : Rho) (Hf' H' : Hp) : Prop where
  sub : Same Hf Hf'
  keep : Keep σ ρ H H'
  os : ∀ a, OwnA H' σ' ρ' a → OwnA H σ ρ a ∨ H a = none
  ls : ∀ a, LkA H' σ' ρ' a → LkA H σ ρ a
  dom : ∀ a, H' a = none → H a = none
  fr : ∀ a, Hf a = none → Hf' a = none ∨ H a = none ∨ OwnA H σ ρ a
  qt : q = true → Quiet σ ρ H σ' ρ' H' ∧ Stay σ ρ σ' ρ'
  rp : Rp Hf' H' σ' ρ'
section
variable {q : Bool} {Hf Hf1 Hf2 H H1 H2 H' Hf' : Hp} {σ σ1 σ2 σ' : St} {ρ ρ1 ρ2 ρ' : Rho}
mutual
theorem rep_same (e : Same Hf Hf') : ∀ {v : V} {d : D}, Rep Hf v d → Rep Hf' v d
  | _, _, .non => .non
  | _, _, .bl b => .bl b
  | _, _, .int i => .int i
  | _, _, .str x => .str x
  | _, _, .lst h a => .lst (e _ _ h) (repA_same e a)
  | _, _, .tup h a => .tup (e _ _ h) (repA_same e a)
  | _, _, .ins h l a => .ins (e _ _ h) l (repA_same e a)
  | _, _, .dct h l a => .dct (e _ _ h) l (repA_same e a)
theorem repA_same (e : Same Hf Hf') : ∀ {v : List V} {d : List D}, RepA Hf v d → RepA Hf' v d
  | _, _, .nil => .nil
  | _, _, .cons h a => .cons (rep_same e h) (repA_same e a)
end
mutual
theorem TR.mono (e : Same Hf Hf') : ∀ {v : V} {t : Tr} {F : List Addr}, TR Hf H v t F → (∀ a ∈ F, H' a = H a) → TR Hf' H' v t F
  | _, _, _, .fz r, _ => .fz (rep_same e r)
  | _, _, _, .ow h r, k => .ow ((k _ (List.mem_singleton.mpr rfl)).trans h) (repA_same e r)
  | _, _, _, .dk h l r, k => .dk ((k _ (List.mem_singleton.mpr rfl)).trans h) l (repA_same e r)
  | _, _, _, .dt h l r, k => .dt ((k _ (List.mem_singleton.mpr rfl)).trans h) l (repA_same e r)
  | _, _, _, .nd h r, k => .nd (h.of (k _ List.mem_cons_self)) (TRs.mono e r fun a z => k a (List.mem_cons_of_mem _ z))
theorem TRs.mono (e : Same Hf Hf') : ∀ {v : List V} {t : List Tr} {F : List Addr}, TRs Hf H v t F → (∀ a ∈ F, H' a = H a) → TRs Hf' H' v t F
  | _, _, _, .nil, _ => .nil
  | _, _, _, .cons h r, k => .cons (TR.mono e h fun a z => k a (List.mem_append_left _ z)) (TRs.mono e r fun a z => k a (List.mem_append_right _ z))
end
theorem TRs.len : ∀ {vs : List V} {ts : List Tr} {F : List Addr}, TRs Hf H vs ts F → vs.length = ts.length
  | _, _, _, .nil => rfl
  | _, _, _, .cons _ r => by rw [List.length_cons, List.length_cons, r.len]
theorem TRs.get : ∀ {vs : List V} {ts : List Tr} {F : List Addr} {n : Nat} {v : V} {t : Tr}, TRs Hf H vs ts F → vs[n]? = some v → ts[n]? = some t → ∃ L M R, F = L ++ (M ++ R) ∧ TR Hf H v t M
  | _, _, _, 0, v, t, .cons (F := F) (F' := F') h r, e1, e2 => by
    simp only [List.getElem?_cons_zero, Option.some.injEq] at e1 e2
    subst e1 e2
    exact ⟨[], F, F', rfl, h⟩
  | _, _, _, n + 1, v, t, .cons (F := F) (F' := F') h r, e1, e2 => by
    simp only [List.getElem?_cons_succ] at e1 e2
    obtain ⟨L, M, R, e, z⟩ := TRs.get r e1 e2
    exact ⟨F ++ L, M, R, by rw [e, List.append_assoc], z⟩
  | _, _, _, _, _, _, .nil, e1, _ => by simp at e1
theorem TRs.set {s : Tr} : ∀ {vs : List V} {ts : List Tr} {F : List Addr} {n : Nat} {v : V} {t : Tr}, TRs Hf H vs ts F → vs[n]? = some v → ts[n]? = some t → ∃ L M R, F = L ++ (M ++ R) ∧ TR Hf H v t M ∧ ∀ {Hf' H' : Hp} {w : V} {M' : List Addr}, Same Hf Hf' → (∀ a, a ∈ L ∨ a ∈ R → H' a = H a) → TR Hf' H' w s M' → TRs Hf' H' (vs.set n w) (ts.set n s) (L ++ (M' ++ R))
  | _, _, _, 0, v, t, .cons (F := F) (F' := F') h r, e1, e2 => by
    simp only [List.getElem?_cons_zero, Option.some.injEq] at e1 e2
    subst e1 e2
    refine ⟨[], F, F', rfl, h, fun {Hf' H' w M'} e k z => ?_⟩
    rw [List.nil_append]
    exact .cons z (TRs.mono e r fun a y => k a (.inr y))
  | _, _, _, n + 1, v, t, .cons (F := F) (F' := F') h r, e1, e2 => by
    simp only [List.getElem?_cons_succ] at e1 e2
    obtain ⟨L, M, R, e, z, y⟩ := TRs.set (s := s) r e1 e2
    refine ⟨F ++ L, M, R, by rw [e, List.append_assoc], z, fun {Hf' H' w M'} e k z => ?_⟩
    rw [List.append_assoc]
    exact .cons (TR.mono e h fun a y => k a (.inl (List.mem_append_left _ y))) (y e (fun a x => k a (x.imp (fun u => List.mem_append_right _ u) id)) z)
  | _, _, _, _, _, _, .nil, e1, _ => by simp at e1
def Tr.at : Tr → List Nat → Option Tr
  | t, [] => some t
  | .nd _ ts, n :: q => match ts[n]? with
    | some t => t.at q
    | none => none
  | _, _ :: _ => none
def Tr.put : Tr → List Nat → Tr → Tr
  | _, [], s => s
  | .nd k ts, n :: q, s => match ts[n]? with
    | some t => .nd k (ts.set n (t.put q s))
    | none => .nd k ts
  | t, _ :: _, _ => t
theorem set_same {α : Type} : ∀ {l : List α} {n : Nat} {x : α}, l[n]? = some x → l.set n x = l
  | _ :: _, 0, _, h => by simp at h; subst h; rfl
  | _ :: l, n + 1, _, h => by simp only [List.getElem?_cons_succ] at h; rw [List.set_cons_succ, set_same h]
  | [], _, _, h => by simp at h
theorem TR.focus {s s' : Tr} : ∀ {qs : List Nat} {v : V} {t : Tr} {F : List Addr}, TR Hf H v t F → t.at qs = some s → ∃ w L M R, At H v t qs w s ∧ F = L ++ (M ++ R) ∧ TR Hf H w s M ∧ ∀ {Hf' H' : Hp} {M' : List Addr}, Same Hf Hf' → (∀ a, a ∈ L ∨ a ∈ R → H' a = H a) → TR Hf' H' w s' M' → TR Hf' H' v (t.put qs s') (L ++ (M' ++ R))
  | [], v, t, F, h, e => by
    cases t <;> (simp only [Tr.at, Option.some.injEq] at e; subst e; exact ⟨v, [], F, [], .nil, by simp, h, fun e k z => by simpa [Tr.put] using z⟩)
  | n :: qs, _, _, _, .nd (p := p) (k := k) (vs := vs) (ts := ts) (F := F) hn r, e => by
    simp only [Tr.at] at e
    cases e1 : ts[n]? with
    | none => rw [e1] at e; cases e
    | some t1 =>
      rw [e1] at e
      have hlen : vs.length = ts.length := by
        exact r.len
      obtain ⟨v1, e2⟩ : ∃ v1, vs[n]? = some v1 := by
        have : n < ts.length := (List.getElem?_eq_some_iff.mp e1).1
        exact ⟨vs[n], List.getElem?_eq_getElem (by omega)⟩
      obtain ⟨L, M, R, eF, h1, st⟩ := TRs.set (s := t1.put qs s') r e2 e1
      obtain ⟨w, L1, M1, R1, a1, eM, h2, st2⟩ := TR.focus (s' := s') (qs := qs) h1 e
      refine ⟨w, p :: (L ++ L1), M1, R1 ++ R, .cons hn e2 e1 a1, by rw [eF, eM]; simp [List.append_assoc], h2, fun {Hf' H' M'} es kp z => ?_⟩
      have z2 := st2 es (fun a y => kp a (y.imp (fun u => List.mem_cons_of_mem _ (List.mem_append_right _ u)) (fun u => List.mem_append_left _ u))) z
      have z3 := st es (fun a y => kp a (y.imp (fun u => List.mem_cons_of_mem _ (List.mem_append_left _ u)) (fun u => List.mem_append_right _ u))) z2
      rw [set_same e2] at z3
      have z4 := TR.nd (k := k) (hn.of (kp p (.inl List.mem_cons_self))) z3
      simp only [Tr.put, e1]
      have el : p :: (L ++ L1) ++ (M' ++ (R1 ++ R)) = p :: (L ++ (L1 ++ (M' ++ R1) ++ R)) := by simp [List.append_assoc]
      rw [el]
      exact z4
  | _ :: _, _, _, _, .fz _, e => by simp [Tr.at] at e
  | _ :: _, _, _, _, .ow _ _, e => by simp [Tr.at] at e
  | _ :: _, _, _, _, .dk _ _ _, e => by simp [Tr.at] at e
  | _ :: _, _, _, _, .dt _ _ _, e => by simp [Tr.at] at e
theorem At.inj {v w w' : V} {t s s' : Tr} {qs : List Nat} (h : At H v t qs w s) (h' : At H v t qs w' s') : w = w' ∧ s = s' := by
  induction h with
  | nil => cases h'; exact ⟨rfl, rfl⟩
  | cons a b c d ih =>
    cases h' with
    | cons a' b' c' d' =>
      have e := a.inj a'
      subst e
      rw [b] at b'; cases b'
      rw [c] at c'; cases c'
      exact ih d'
theorem At.at {v w : V} {t s : Tr} {qs : List Nat} (h : At H v t qs w s) : t.at qs = some s := by
  induction h with
  | nil => cases ‹Tr› <;> rfl
  | cons a b c d ih => simp only [Tr.at, c]; exact ih
theorem At.mono {v w : V} {t s : Tr} {qs : List Nat} (h : At H v t qs w s) : ∀ {Hf : Hp} {F : List Addr}, TR Hf H v t F → (∀ a ∈ F, H' a = H a) → At H' v t qs w s := by
  induction h with
  | nil => intros; exact .nil
  | @cons p k vs ts n v w t s q a b c d ih =>
    intro Hf F r e
    cases r with
    | nd a' r' =>
      have ev := a.inj a'
      subst ev
      obtain ⟨L, M, R, eF, z⟩ := TRs.get r' b c
      refine .cons (a.of (e p List.mem_cons_self)) b c (ih z fun x y => e x (List.mem_cons_of_mem _ ?_))
      rw [eF]
      exact List.mem_append_right _ (List.mem_append_left _ y)
theorem TR.atv {v w : V} {t s : Tr} {qs : List Nat} {F : List Addr} (r : TR Hf H v t F) (h : At H v t qs w s) : ∃ M, TR Hf H w s M ∧ ∀ a ∈ M, a ∈ F := by
  obtain ⟨w', L, M, R, h', e, z, _⟩ := r.focus (s' := .fz .none) h.at
  obtain ⟨e1, _⟩ := h.inj h'
  subst e1
  exact ⟨M, z, fun a y => by rw [e]; exact List.mem_append_right _ (List.mem_append_left _ y)⟩
theorem slok_un {o : Option (Option V)} : SlOk Hf H o .un := by
  cases o with
  | none => trivial
  | some o => cases o <;> trivial
theorem slok_pa {o : Option (Option V)} {i : Nat} {qs : List Nat} : SlOk Hf H o (.pa i qs) := by
  match o with
  | none => trivial
  | some none => trivial
  | some (some v) => cases v <;> trivial
theorem slok_fz {v : V} {d : D} : SlOk Hf H (some (some v)) (.fz d) ↔ Rep Hf v d := by cases v <;> exact Iff.rfl
theorem slok_fz' {o : Option (Option V)} {d : D} (h : SlOk Hf H o (.fz d)) : ∃ v, o = some (some v) ∧ Rep Hf v d := by
  match o, h with
  | some (some v), h => exact ⟨v, rfl, slok_fz.mp h⟩
  | none, h => exact h.elim
  | some none, h => exact h.elim
theorem slok_tr {v : V} {t : Tr} : SlOk Hf H (some (some v)) (.tr t) ↔ ∃ F, TR Hf H v t F ∧ F.Nodup ∧ ∀ a ∈ F, Hf a = none := by cases v <;> exact Iff.rfl
theorem slok_tr' {o : Option (Option V)} {t : Tr} (h : SlOk Hf H o (.tr t)) : ∃ v F, o = some (some v) ∧ TR Hf H v t F ∧ F.Nodup ∧ ∀ a ∈ F, Hf a = none := by
  match o, h with
  | some (some v), h =>
    obtain ⟨F, h⟩ := slok_tr.mp h
    exact ⟨v, F, rfl, h⟩
  | none, h => exact h.elim
  | some none, h => exact h.elim
theorem slok_lk {v : V} {t : Tr} : SlOk Hf H (some (some v)) (.lk t) ↔ ∃ F, TR Hf H v t F := by cases v <;> exact Iff.rfl
theorem slok_lk' {o : Option (Option V)} {t : Tr} (h : SlOk Hf H o (.lk t)) : ∃ v F, o = some (some v) ∧ TR Hf H v t F := by
  match o, h with
  | some (some v), h =>
    obtain ⟨F, h⟩ := slok_lk.mp h
    exact ⟨v, F, rfl, h⟩
  | none, h => exact h.elim
  | some none, h => exact h.elim
theorem slok_ow {o : Option (Option V)} {ds : List D} (h : SlOk Hf H o (.ow ds)) : ∃ p vs, o = some (some (.ref p)) ∧ Hf p = none ∧ H p = some (.lst vs) ∧ RepA Hf vs ds := by
  match o, h with
  | some (some (.ref p)), ⟨h1, vs, h2, h3⟩ => exact ⟨p, vs, rfl, h1, h2, h3⟩
  | none, h => exact h.elim
  | some none, h => exact h.elim
theorem slok_raw {w v : V} : SlOk Hf H (some (some w)) (.raw v) ↔ w = v := by cases w <;> exact Iff.rfl
theorem owns_ok {v : V} {s : Sl} {a : Addr} (h : SlOk Hf H (some (some v)) s) (o : OwnS H v s a) : Hf a = none ∧ ∃ u, H a = some u ∧ NT u := by
  cases s with
  | ow ds =>
    cases (show v = .ref a from o)
    obtain ⟨h1, vs, h2, _⟩ := h
    exact ⟨h1, _, h2, fun _ z => nomatch z⟩
  | tr t =>
    obtain ⟨Hf0, F0, r0, m⟩ := o
    obtain ⟨F, r, _, h2⟩ := slok_tr.mp h
    have e := r.inj r0
    subst e
    exact ⟨h2 a m, r.obj a m⟩
  | un => exact o.elim
  | fz _ => exact o.elim
  | raw _ => exact o.elim
  | lk _ => exact o.elim
  | pa _ _ => exact o.elim
theorem Rp.ownI (r : Rp Hf H σ ρ) {i : Nat} {a : Addr} (h : OwnI H σ ρ i a) : Hf a = none ∧ ∃ u, H a = some u ∧ NT u := by
  obtain ⟨s, v, e1, e2, o⟩ := h
  have q := r.sl i s e1
  rw [e2] at q
  exact owns_ok q o
theorem Rp.own (r : Rp Hf H σ ρ) {a : Addr} (h : OwnA H σ ρ a) : Hf a = none ∧ ∃ u, H a = some u ∧ NT u := r.ownI h.choose_spec
theorem Rp.lka (r : Rp Hf H σ ρ) {a : Addr} (h : LkA H σ ρ a) : ∃ u, H a = some u ∧ NT u := by
  obtain ⟨i, t, v, Hf0, F, e1, e2, z, m⟩ := h
  exact z.obj a m
theorem ownS_iff {v : V} {s : Sl} (hk : ∀ a, OwnS H v s a → H' a = H a) (hs : SlOk Hf H (some (some v)) s) (a : Addr) : OwnS H' v s a ↔ OwnS H v s a := by
  cases s with
  | tr t =>
    obtain ⟨F, r, _, _⟩ := slok_tr.mp hs
    have kk : ∀ a ∈ F, H' a = H a := fun a m => hk a ⟨Hf, F, r, m⟩
    have r' := r.mono (Same.refl _) kk
    constructor
    · rintro ⟨Hf0, F0, r0, m⟩
      have e := r'.inj r0
      subst e
      exact ⟨Hf, _, r, m⟩
    · rintro ⟨Hf0, F0, r0, m⟩
      have e := r.inj r0
      subst e
      exact ⟨Hf, _, r', m⟩
  | ow _ => exact Iff.rfl
  | un => exact Iff.rfl
  | fz _ => exact Iff.rfl
  | raw _ => exact Iff.rfl
  | lk _ => exact Iff.rfl
  | pa _ _ => exact Iff.rfl
theorem Rp.ownI_iff (r : Rp Hf H σ ρ) {i : Nat} (hk : ∀ a, OwnI H σ ρ i a → H' a = H a) (a : Addr) : OwnI H' σ ρ i a ↔ OwnI H σ ρ i a := by
  constructor
  · rintro ⟨s, v, e1, e2, o⟩
    have q := r.sl i s e1
    rw [e2] at q
    exact ⟨s, v, e1, e2, (ownS_iff (fun b z => hk b ⟨s, v, e1, e2, z⟩) q a).mp o⟩
  · rintro ⟨s, v, e1, e2, o⟩
    have q := r.sl i s e1
    rw [e2] at q
    exact ⟨s, v, e1, e2, (ownS_iff (fun b z => hk b ⟨s, v, e1, e2, z⟩) q a).mpr o⟩
theorem SlOk.mono (e : Same Hf Hf') {v : V} {s : Sl} (hk : ∀ a, OwnS H v s a → Hf' a = none ∧ H' a = H a) (hl : ∀ t F Hf0 a, s = .lk t → TR Hf0 H v t F → a ∈ F → H' a = H a) (h : SlOk Hf H (some (some v)) s) : SlOk Hf' H' (some (some v)) s := by
  cases s with
  | un => exact slok_un
  | pa _ _ => exact slok_pa
  | fz d => exact slok_fz.mpr (rep_same e (slok_fz.mp h))
  | raw w => exact slok_raw.mpr (slok_raw.mp h)
  | ow ds =>
    obtain ⟨p, vs, e1, h1, h2, h3⟩ := slok_ow h
    cases e1
    obtain ⟨g1, g2⟩ := hk p rfl
    exact ⟨g1, vs, by rw [g2]; exact h2, repA_same e h3⟩
  | tr t =>
    obtain ⟨F, r, n, _⟩ := slok_tr.mp h
    exact slok_tr.mpr ⟨F, r.mono e fun a m => (hk a ⟨Hf, F, r, m⟩).2, n, fun a m => (hk a ⟨Hf, F, r, m⟩).1⟩
  | lk t =>
    obtain ⟨F, r⟩ := slok_lk.mp h
    exact slok_lk.mpr ⟨F, r.mono e fun a m => hl t F Hf a rfl r m⟩
theorem slok_none {s : Sl} {o : Option (Option V)} (ho : ∀ v, o ≠ some (some v)) (h : SlOk Hf H o s) : SlOk Hf' H' o s := by
  match o, s, h with
  | none, .un, _ => trivial
  | none, .pa _ _, _ => trivial
  | some none, .un, _ => trivial
  | some none, .pa _ _, _ => trivial
  | some (some v), _, _ => exact absurd rfl (ho v)
theorem Rp.at_mono (r : Rp Hf H σ ρ) {i : Nat} {t s : Tr} {v w : V} {qs : List Nat} (ht : isTr ρ i t) (hv : σ[i]? = some (some v)) (hk : ∀ a, OwnI H σ ρ i a → H' a = H a) (hl : ∀ a, LkA H σ ρ a → H' a = H a) (h : At H v t qs w s) : At H' v t qs w s := by
  rcases ht with e | e
  · have z := r.sl i _ e
    rw [hv] at z
    obtain ⟨F, rr, _, _⟩ := slok_tr.mp z
    exact h.mono rr fun a m => hk a ⟨_, v, e, hv, Hf, F, rr, m⟩
  · have z := r.sl i _ e
    rw [hv] at z
    obtain ⟨F, rr⟩ := slok_lk.mp z
    exact h.mono rr fun a m => hl a ⟨i, t, v, Hf, F, e, hv, rr, m⟩
theorem Rp.lka_of (r : Rp Hf H σ ρ) (l : ∀ a, LkA H σ ρ a → H' a = H a) {a : Addr} (h1 : LkA H' σ ρ a) : LkA H σ ρ a := by
  obtain ⟨i, tt, v, Hf0, F, e1, e2, z, m⟩ := h1
  have sk := r.sl i _ e1
  rw [e2] at sk
  obtain ⟨F1, r1⟩ := slok_lk.mp sk
  have r2 : TR Hf H' v tt F1 := r1.mono (Same.refl _) fun b m => l b ⟨i, tt, v, Hf, F1, e1, e2, r1, m⟩
  have ee := r2.inj z
  subst ee
  exact ⟨i, tt, v, Hf, _, e1, e2, r1, m⟩
theorem Rp.grow (r : Rp Hf H σ ρ) (e : Same Hf Hf') (e' : Same Hf' H') (t : Tb H') (nt : NtH Hf') (o : ∀ a, OwnA H σ ρ a → Hf' a = none ∧ H' a = H a) (l : ∀ a, LkA H σ ρ a → H' a = H a) : Rp Hf' H' σ ρ := by
  have oi : ∀ i a, OwnI H' σ ρ i a ↔ OwnI H σ ρ i a := fun i a => r.ownI_iff (fun b z => (o b ⟨i, z⟩).2) a
  have oa : ∀ a, OwnA H' σ ρ a ↔ OwnA H σ ρ a := fun a => ⟨fun ⟨i, z⟩ => ⟨i, (oi i a).mp z⟩, fun ⟨i, z⟩ => ⟨i, (oi i a).mpr z⟩⟩
  refine ⟨e', t, nt, r.len, fun i s h => ?_, fun i j a h1 h2 => r.nd i j a ((oi i a).mp h1) ((oi j a).mp h2), fun a h1 h2 => ?_, fun j i qs t h1 h2 => ?_⟩
  · have z := r.sl i s h
    by_cases hv : ∃ v, σ[i]? = some (some v)
    · obtain ⟨v, hv⟩ := hv
      rw [hv] at z ⊢
      refine z.mono e (fun a q => o a ⟨i, s, v, h, hv, q⟩) fun t F Hf0 a es rr m => ?_
      subst es
      exact l a ⟨i, t, v, Hf0, F, h, hv, rr, m⟩
    · exact slok_none (fun v q => hv ⟨v, q⟩) z
  · obtain ⟨i, tt, v, Hf0, F, e1, e2, z, m⟩ := h1
    have sk := r.sl i _ e1
    rw [e2] at sk
    obtain ⟨F1, r1⟩ := slok_lk.mp sk
    have r2 : TR Hf H' v tt F1 := r1.mono (Same.refl _) fun b m => l b ⟨i, tt, v, Hf, F1, e1, e2, r1, m⟩
    have ee := r2.inj z
    subst ee
    exact r.lk a ⟨i, tt, v, Hf, _, e1, e2, r1, m⟩ ((oa a).mp h2)
  · obtain ⟨v, w, s, g1, g2, g3⟩ := r.al j i qs t h1 h2
    exact ⟨v, w, s, g1, g2, r.at_mono h2 g1 (fun a z => (o a ⟨i, z⟩).2) l g3⟩
theorem Quiet.refl : Quiet σ ρ H σ ρ H := fun i t e => ⟨e, rfl, fun _ _ => rfl⟩
theorem Stay.refl : Stay σ ρ σ ρ := fun i _ => ⟨rfl, rfl⟩
theorem Stay.trans (a : Stay σ ρ σ1 ρ1) (b : Stay σ1 ρ1 σ2 ρ2) : Stay σ ρ σ2 ρ2 := fun i h => by
  obtain ⟨e1, e2⟩ := a i h
  rw [← e1] at h
  obtain ⟨e3, e4⟩ := b i h
  exact ⟨e3.trans e1, e4.trans e2⟩
theorem Quiet.trans (a : Quiet σ ρ H σ1 ρ1 H1) (b : Quiet σ1 ρ1 H1 σ2 ρ2 H2) : Quiet σ ρ H σ2 ρ2 H2 := fun i t e => by
  obtain ⟨e1, e2, e3⟩ := a i t e
  obtain ⟨f1, f2, f3⟩ := b i t e1
  refine ⟨f1, f2.trans e2, fun x h => ?_⟩
  obtain ⟨s, v, g1, g2, g3⟩ := h
  rw [e] at g1
  cases g1
  obtain ⟨Hf0, F, r, m⟩ := g3
  have r1 : TR Hf0 H1 v t F := r.mono (Same.refl _) fun y z => e3 y ⟨_, v, e, g2, Hf0, F, r, z⟩
  exact (f3 x ⟨_, v, e1, e2.trans g2, Hf0, F, r1, m⟩).trans (e3 x ⟨_, v, e, g2, Hf0, F, r, m⟩)
theorem Nxt.refl (r : Rp Hf H σ ρ) : Nxt q σ ρ Hf H σ ρ Hf H := ⟨Same.refl _, fun _ _ h _ _ => h, fun _ h => .inl h, fun _ h => h, fun _ h => h, fun _ h => .inl h, fun _ => ⟨.refl, .refl⟩, r⟩
theorem Nxt.trans (a : Nxt q σ ρ Hf H σ1 ρ1 Hf1 H1) (b : Nxt q σ1 ρ1 Hf1 H1 σ2 ρ2 Hf2 H2) : Nxt q σ ρ Hf H σ2 ρ2 Hf2 H2 where
  sub := a.sub.trans b.sub
  keep := fun x o h t n => b.keep x o (a.keep x o h t n) t fun z => (a.os x z).elim n fun q => by rw [h] at q; cases q
  os := fun x z => (b.os x z).elim (a.os x) fun q => .inr (a.dom x q)
  ls := fun x h => a.ls x (b.ls x h)
  dom := fun x h => a.dom x (b.dom x h)
  fr := fun x h => (a.fr x h).elim (fun h1 => (b.fr x h1).elim .inl fun q => .inr (q.elim (fun z => .inl (a.dom x z)) fun z => (a.os x z).elim .inr .inl)) .inr
  qt := fun hq => ⟨.trans (a.qt hq).1 (b.qt hq).1, .trans (a.qt hq).2 (b.qt hq).2⟩
  rp := b.rp
theorem Nxt.any (a : Nxt q σ ρ Hf H σ1 ρ1 Hf1 H1) : Nxt false σ ρ Hf H σ1 ρ1 Hf1 H1 := ⟨a.sub, a.keep, a.os, a.ls, a.dom, a.fr, (fun z => nomatch z), a.rp⟩
theorem same_new {p : Addr} {o : HO} (h : H p = none) : Same H (upd H p o) := fun b x e => by
  rw [upd_ne (ne_of_none e h)]
  exact e
theorem same_upd2 {p : Addr} {o : HO} (e : Same Hf H) : Same (upd Hf p o) (upd H p o) := fun b x h => by
  by_cases q : b = p
  · subst q
    rw [upd_same] at h ⊢
    exact h
  · rw [upd_ne q] at h ⊢
    exact e _ _ h
theorem NtH.upd {p : Addr} {o : HO} (n : NtH Hf) (h : NT o) : NtH (upd Hf p o) := fun a ps z => by
  by_cases q : a = p
  · rw [q, upd_same] at z
    exact h ps (Option.some.inj z)
  · rw [upd_ne q] at z
    exact n a ps z
theorem Tb.upd {p : Addr} {o : HO} (t : Tb H) (h : H p = none) : Tb (L2.upd H p o) := LamX.Tabs.ext t fun b x e => by
  rw [upd_ne (ne_of_none e h)]
  exact e
theorem NT.lst {xs : List V} : NT (.lst xs) := fun _ z => by cases z
theorem NT.tup {xs : List V} : NT (.tup xs) := fun _ z => by cases z
theorem Tb.setO {p : Addr} {o o' : HO} (t : Tb H) (h : H p = some o) (ho : NT o) (hx : ∀ φ, o ≠ .ext φ) : Tb (L2.upd H p o') := fun x hx' => by
  obtain ⟨ps, a1, a2, a3⟩ := t x hx'
  have n1 : x.1 ≠ p := fun z => by rw [z, h] at a1; exact ho ps (Option.some.inj a1)
  refine ⟨ps, by rw [upd_ne n1]; exact a1, a2, fun pos cv hc => ?_⟩
  obtain ⟨c, e1, e2⟩ := a3 pos cv hc
  refine ⟨c, e1, ?_⟩
  have n2 : c ≠ p := fun z => by
    rw [z, h] at e2
    unfold LamX.CodeO at e2
    exact hx _ (Option.some.inj e2)
  rw [upd_ne n2]
  exact e2
theorem Tb.set {p : Addr} {vs ws : List V} (t : Tb H) (h : H p = some (.lst vs)) : Tb (L2.upd H p (.lst ws)) := t.setO h NT.lst fun _ z => nomatch z
theorem Rp.liv (r : Rp Hf H σ ρ) {a : Addr} (h : OwnA H σ ρ a ∨ LkA H σ ρ a) : ∃ u, H a = some u ∧ NT u := h.elim (fun z => (r.own z).2) r.lka
theorem Rp.new (r : Rp Hf H σ ρ) {p : Addr} {o : HO} (h : H p = none) (ho : NT o := by first | exact NT.lst | exact NT.tup) : Nxt q σ ρ Hf H σ ρ (upd Hf p o) (upd H p o) := by
  have hf : Hf p = none := r.sub.free h
  have ne : ∀ a, OwnA H σ ρ a ∨ LkA H σ ρ a → a ≠ p := fun a z => by
    obtain ⟨u, hu, _⟩ := r.liv z
    exact ne_of_none hu h
  have rg : Rp (upd Hf p o) (upd H p o) σ ρ := r.grow (same_new hf) (same_upd2 r.sub) (r.tb.upd h) (r.nt.upd ho) (fun a z => ⟨by rw [upd_ne (ne a (.inl z))]; exact (r.own z).1, upd_ne (ne a (.inl z))⟩) fun a z => upd_ne (ne a (.inr z))
  refine ⟨same_new hf, fun a x e _ _ => same_new h a x e, fun a ⟨i, z⟩ => .inl ⟨i, (r.ownI_iff (fun b y => upd_ne (ne b (.inl ⟨i, y⟩))) a).mp z⟩, fun a z => r.lka_of (fun b y => upd_ne (ne b (.inr y))) z, fun a => (same_new h).free, fun a z => by
    by_cases q : a = p
    · exact .inr (.inl (q ▸ h))
    · exact .inl (by rw [upd_ne q]; exact z), fun _ => ⟨fun i t e => ⟨e, rfl, fun a z => upd_ne (ne a (.inl ⟨i, z⟩))⟩, .refl⟩, rg⟩
theorem Rp.newO (r : Rp Hf H σ ρ) {p : Addr} {o : HO} (h : H p = none) : Nxt q σ ρ Hf H σ ρ Hf (upd H p o) := by
  have ne : ∀ a, OwnA H σ ρ a ∨ LkA H σ ρ a → a ≠ p := fun a z => by
    obtain ⟨u, hu, _⟩ := r.liv z
    exact ne_of_none hu h
  refine ⟨Same.refl _, fun a x e _ _ => same_new h a x e, fun a ⟨i, z⟩ => .inl ⟨i, (r.ownI_iff (fun b y => upd_ne (ne b (.inl ⟨i, y⟩))) a).mp z⟩, fun a z => r.lka_of (fun b y => upd_ne (ne b (.inr y))) z, fun a => (same_new h).free, fun _ z => .inl z, fun _ => ⟨fun i t e => ⟨e, rfl, fun a z => upd_ne (ne a (.inl ⟨i, z⟩))⟩, .refl⟩, r.grow (Same.refl _) (r.sub.trans (same_new h)) (r.tb.upd h) r.nt (fun a z => ⟨(r.own z).1, upd_ne (ne a (.inl z))⟩) fun a z => upd_ne (ne a (.inr z))⟩
def Hless : Sl → Prop
  | .un => True
  | .fz _ => True
  | .raw _ => True
  | _ => False
theorem Rp.weak (r : Rp Hf H σ ρ) (hl : ρ'.length ≤ σ'.length) (h : ∀ (j : Nat) (s : Sl), ρ'[j]? = some s → (ρ[j]? = some s ∧ σ'[j]? = σ[j]?) ∨ (Hless s ∧ SlOk Hf H σ'[j]? s)) : Nxt false σ ρ Hf H σ' ρ' Hf H := by
  have oi : ∀ i a, OwnI H σ' ρ' i a → OwnI H σ ρ i a := fun i a ⟨s, v, e1, e2, o⟩ => by
    rcases h i s e1 with ⟨g1, g2⟩ | ⟨g1, _⟩
    · exact ⟨s, v, g1, g2 ▸ e2, o⟩
    · cases s <;> first | exact o.elim | exact g1.elim
  have oa : ∀ a, OwnA H σ' ρ' a → OwnA H σ ρ a := fun a ⟨i, z⟩ => ⟨i, oi i a z⟩
  have tr : ∀ i t, isTr ρ' i t → isTr ρ i t ∧ σ'[i]? = σ[i]? := fun i t z => by
    rcases z with e | e
    · rcases h i _ e with ⟨g1, g2⟩ | ⟨g1, _⟩
      · exact ⟨.inl g1, g2⟩
      · exact g1.elim
    · rcases h i _ e with ⟨g1, g2⟩ | ⟨g1, _⟩
      · exact ⟨.inr g1, g2⟩
      · exact g1.elim
  have lkk : ∀ a, LkA H σ' ρ' a → LkA H σ ρ a := fun a ⟨i, t, v, Hf0, F, e1, e2, z, m⟩ => by
    rcases h i _ e1 with ⟨g1, g2⟩ | ⟨g1, _⟩
    · exact ⟨i, t, v, Hf0, F, g1, g2 ▸ e2, z, m⟩
    · exact g1.elim
  refine ⟨Same.refl _, fun _ _ h _ _ => h, fun a z => .inl (oa a z), lkk, fun _ h => h, fun _ h => .inl h, (fun z => nomatch z), r.sub, r.tb, r.nt, hl, fun i s e => ?_, fun i j a h1 h2 => r.nd i j a (oi i a h1) (oi j a h2), fun a ⟨i, t, v, Hf0, F, e1, e2, z, m⟩ h2 => ?_, fun j i qs t h1 h2 => ?_⟩
  · rcases h i s e with ⟨g1, g2⟩ | ⟨_, g⟩
    · rw [g2]; exact r.sl i s g1
    · exact g
  · obtain ⟨g1, g2⟩ := tr i t (.inr e1)
    rcases h i _ e1 with ⟨g1, g2⟩ | ⟨g1, _⟩
    · exact r.lk a ⟨i, t, v, Hf0, F, g1, g2 ▸ e2, z, m⟩ (oa a h2)
    · exact g1.elim
  · obtain ⟨g1, g2⟩ := tr i t h2
    rcases h j _ h1 with ⟨k1, k2⟩ | ⟨k1, _⟩
    · obtain ⟨v, w, s, a1, a2, a3⟩ := r.al j i qs t k1 g1
      exact ⟨v, w, s, g2.trans a1, k2.trans a2, a3⟩
    · exact k1.elim
theorem Rp.chgsF (r : Rp Hf H σ ρ) (I : Nat → Prop) (Fl : Addr → Prop) (hFl : ∀ a, Fl a → ¬ OwnA H σ ρ a ∧ ¬ LkA H σ ρ a) (hl : ρ'.length ≤ σ.length) (sub : Same Hf Hf') (sub' : Same Hf' H') (tb : Tb H') (nt : NtH Hf')
    (keep : ∀ a o, H a = some o → NT o → (∀ i, I i → ¬ OwnI H σ ρ i a) → H' a = some o) (dom : ∀ a, H' a = none → H a = none) (fr : ∀ a, Hf a = none → Hf' a = none ∨ H a = none ∨ ∃ i, I i ∧ OwnI H σ ρ i a)
    (same : ∀ (j : Nat) (s : Sl), ¬ I j → ρ'[j]? = some s → ρ[j]? = some s ∨ s = .un) (nlk : ∀ (i : Nat) (s : Sl), I i → ρ'[i]? = some s → (∀ t, s ≠ .lk t) ∧ ∀ k qs, s ≠ .pa k qs)
    (al : ∀ (j i : Nat) (qs : List Nat) (t : Tr), ρ'[j]? = some (.pa i qs) → isTr ρ' i t → I i → ∃ v w s, σ[i]? = some (some v) ∧ σ[j]? = some (some w) ∧ At H' v t qs w s)
    (ok : ∀ (i : Nat) (s : Sl), I i → ρ'[i]? = some s → SlOk Hf' H' σ[i]? s) (own : ∀ i a, I i → OwnI H' σ ρ' i a → (∃ k, I k ∧ OwnI H σ ρ k a) ∨ H a = none ∨ Fl a)
    (nd : ∀ i j a, I i → I j → OwnI H' σ ρ' i a → OwnI H' σ ρ' j a → i = j) : Rp Hf' H' σ ρ' ∧ (∀ a, OwnA H' σ ρ' a → OwnA H σ ρ a ∨ H a = none ∨ Fl a) ∧ (∀ a, LkA H' σ ρ' a → LkA H σ ρ a) ∧ ∀ j a, ¬ I j → OwnI H σ ρ j a → H' a = H a := by
  have ko : ∀ j a, ¬ I j → OwnI H σ ρ j a → H' a = H a := fun j a hj z => by
    obtain ⟨u, hu, tu⟩ := (r.ownI z).2
    rw [hu]
    exact keep a u hu tu fun i hi w => hj (r.nd i j a w z ▸ hi)
  have kl : ∀ a, LkA H σ ρ a → H' a = H a := fun a z => by
    obtain ⟨u, hu, tu⟩ := r.lka z
    rw [hu]
    exact keep a u hu tu fun i _ w => r.lk a z ⟨i, w⟩
  have oj : ∀ j a, ¬ I j → OwnI H' σ ρ' j a → OwnI H σ ρ j a := fun j a hj ⟨s, v, e1, e2, o⟩ => by
    rcases same j s hj e1 with e | e
    · exact (r.ownI_iff (fun b z => ko j b hj z) a).mp ⟨s, v, e, e2, o⟩
    · subst e; exact o.elim
  have oa : ∀ a, OwnA H' σ ρ' a → OwnA H σ ρ a ∨ H a = none ∨ Fl a := fun a ⟨j, z⟩ => by
    by_cases hj : I j
    · exact (own j a hj z).imp (fun ⟨k, _, w⟩ => ⟨k, w⟩) id
    · exact .inl ⟨j, oj j a hj z⟩
  have tri : ∀ i t, ¬ I i → isTr ρ' i t → isTr ρ i t := fun i t hi z => by
    rcases z with e | e
    · rcases same i _ hi e with e | e
      · exact .inl e
      · cases e
    · rcases same i _ hi e with e | e
      · exact .inr e
      · cases e
  have lkk : ∀ a, LkA H' σ ρ' a → LkA H σ ρ a := fun a ⟨i, t, v, Hf0, F, e1, e2, z, m⟩ => by
    have hi : ¬ I i := fun y => (nlk i _ y e1).1 t rfl
    rcases same i _ hi e1 with e | e
    · exact r.lka_of kl ⟨i, t, v, Hf0, F, e, e2, z, m⟩
    · cases e
  refine ⟨⟨sub', tb, nt, hl, fun i s e => ?_, fun i j a h1 h2 => ?_, fun a ⟨i, t, v, Hf0, F, e1, e2, z, m⟩ h2 => ?_, fun j i qs t h1 h2 => ?_⟩, oa, lkk, ko⟩
  · by_cases hi : I i
    · exact ok i s hi e
    · rcases same i s hi e with e | e
      · have z := r.sl i s e
        by_cases hv : ∃ v, σ[i]? = some (some v)
        · obtain ⟨v, hv⟩ := hv
          rw [hv] at z ⊢
          refine z.mono sub (fun a w => ?_) fun t F Hf0 a es rr m => ?_
          · have w' : OwnI H σ ρ i a := ⟨s, v, e, hv, w⟩
            refine ⟨(fr a (r.ownI w').1).elim id fun y => y.elim (fun y => ?_) fun ⟨k, hk, y⟩ => ?_, ko i a hi w'⟩
            · obtain ⟨u, hu, _⟩ := (r.ownI w').2
              rw [hu] at y; cases y
            · exact absurd (r.nd k i a y w' ▸ hk) hi
          · subst es
            exact kl a ⟨i, t, v, Hf0, F, e, hv, rr, m⟩
        · exact slok_none (fun v q => hv ⟨v, q⟩) z
      · subst e; exact slok_un
  · by_cases hi : I i
    · by_cases hj : I j
      · exact nd i j a hi hj h1 h2
      · have z2 := oj j a hj h2
        rcases own i a hi h1 with ⟨k, hk, z⟩ | z | z
        · exact absurd (r.nd k j a z z2 ▸ hk) hj
        rotate_left
        · exact absurd ⟨j, z2⟩ (hFl a z).1
        · obtain ⟨u, hu, _⟩ := (r.ownI z2).2
          rw [hu] at z; cases z
    · have z1 := oj i a hi h1
      by_cases hj : I j
      · rcases own j a hj h2 with ⟨k, hk, z⟩ | z | z
        · exact absurd (r.nd k i a z z1 ▸ hk) hi
        rotate_left
        · exact absurd ⟨i, z1⟩ (hFl a z).1
        · obtain ⟨u, hu, _⟩ := (r.ownI z1).2
          rw [hu] at z; cases z
      · exact r.nd i j a z1 (oj j a hj h2)
  · have hi : ¬ I i := fun y => (nlk i _ y e1).1 t rfl
    rcases same i _ hi e1 with e | e
    · have sk := r.sl i _ e
      rw [e2] at sk
      obtain ⟨F1, r1⟩ := slok_lk.mp sk
      have r2 : TR Hf H' v t F1 := r1.mono (Same.refl _) fun b m => kl b ⟨i, t, v, Hf, F1, e, e2, r1, m⟩
      have ee := r2.inj z
      subst ee
      have la : LkA H σ ρ a := ⟨i, t, v, Hf, _, e, e2, r1, m⟩
      rcases oa a h2 with y | y | y
      · exact r.lk a la y
      rotate_left
      · exact (hFl a y).2 la
      · obtain ⟨u, hu, _⟩ := r.lka la
        rw [hu] at y; cases y
    · cases e
  · by_cases hi : I i
    · exact al j i qs t h1 h2 hi
    · have hj : ¬ I j := fun y => (nlk j _ y h1).2 i qs rfl
      rcases same j _ hj h1 with e | e
      · have ti := tri i t hi h2
        obtain ⟨v, w, s, g1, g2, g3⟩ := r.al j i qs t e ti
        exact ⟨v, w, s, g1, g2, r.at_mono ti g1 (fun a z => ko i a hi z) kl g3⟩
      · cases e
theorem Rp.chgs (r : Rp Hf H σ ρ) (I : Nat → Prop) (hl : ρ'.length ≤ σ.length) (sub : Same Hf Hf') (sub' : Same Hf' H') (tb : Tb H') (nt : NtH Hf')
    (keep : ∀ a o, H a = some o → NT o → (∀ i, I i → ¬ OwnI H σ ρ i a) → H' a = some o) (dom : ∀ a, H' a = none → H a = none) (fr : ∀ a, Hf a = none → Hf' a = none ∨ H a = none ∨ ∃ i, I i ∧ OwnI H σ ρ i a)
    (same : ∀ (j : Nat) (s : Sl), ¬ I j → ρ'[j]? = some s → ρ[j]? = some s ∨ s = .un) (nlk : ∀ (i : Nat) (s : Sl), I i → ρ'[i]? = some s → (∀ t, s ≠ .lk t) ∧ ∀ k qs, s ≠ .pa k qs)
    (al : ∀ (j i : Nat) (qs : List Nat) (t : Tr), ρ'[j]? = some (.pa i qs) → isTr ρ' i t → I i → ∃ v w s, σ[i]? = some (some v) ∧ σ[j]? = some (some w) ∧ At H' v t qs w s)
    (ok : ∀ (i : Nat) (s : Sl), I i → ρ'[i]? = some s → SlOk Hf' H' σ[i]? s) (own : ∀ i a, I i → OwnI H' σ ρ' i a → (∃ k, I k ∧ OwnI H σ ρ k a) ∨ H a = none)
    (nd : ∀ i j a, I i → I j → OwnI H' σ ρ' i a → OwnI H' σ ρ' j a → i = j)
    (qt : q = true → (∀ (i : Nat) (s : Sl), I i → ρ[i]? = some s → (∀ t, s ≠ .tr t) ∧ (∀ t, s ≠ .lk t) ∧ ∀ k qs, s ≠ .pa k qs) ∧ ∀ j : Nat, ¬ I j → ρ'[j]? = ρ[j]?) : Nxt q σ ρ Hf H σ ρ' Hf' H' := by
  obtain ⟨rp', oa, lkk, ko⟩ := r.chgsF I (fun _ => False) (fun _ z => z.elim) hl sub sub' tb nt keep dom fr same nlk al ok (fun i a hi z => (own i a hi z).imp id .inl) nd
  refine ⟨sub, fun a o h t n => keep a o h t fun i _ z => n ⟨i, z⟩, fun a z => (oa a z).imp id fun y => y.elim id False.elim, lkk, dom, fun a z => (fr a z).imp id fun w => w.imp id fun ⟨i, _, y⟩ => ⟨i, y⟩, fun hq => ?_, rp'⟩
  obtain ⟨q1, q2⟩ := qt hq
  refine ⟨fun i t e => ?_, fun i h => ?_⟩
  · have hi : ¬ I i := fun z => (q1 i _ z e).1 t rfl
    exact ⟨(q2 i hi).trans e, rfl, fun a z => ko i a hi z⟩
  · have hi : ¬ I i := fun z => by
      rcases h with ⟨t, e⟩ | ⟨k, qs, e⟩
      · exact (q1 i _ z e).2.1 t rfl
      · exact (q1 i _ z e).2.2 k qs rfl
    exact ⟨q2 i hi, rfl⟩
end
end Fx
namespace Fx
open PySem L2
variable [Tabz]
section
variable {q : Bool} {Hf Hf' H H' : Hp} {σ σ' : St} {ρ ρ' : Rho}
theorem Nxt.qto (a : Nxt true σ ρ Hf H σ' ρ' Hf' H') : Nxt q σ ρ Hf H σ' ρ' Hf' H' := ⟨a.sub, a.keep, a.os, a.ls, a.dom, a.fr, fun _ => a.qt rfl, a.rp⟩
theorem ownI_ow {i : Nat} {ds : List D} {p : Addr} (hi : ρ[i]? = some (.ow ds)) (hp : σ[i]? = some (some (.ref p))) {a : Addr} : OwnI H σ ρ i a ↔ a = p := by
  constructor
  · rintro ⟨s, v, e1, e2, o⟩
    rw [hi] at e1; cases e1
    rw [hp] at e2; cases e2
    cases (show V.ref p = .ref a from o)
    rfl
  · rintro rfl
    exact ⟨_, _, hi, hp, rfl⟩
def Fre (H : Hp) (σ : St) (ρ : Rho) (p : Addr) : Prop := H p = none ∨ OwnA H σ ρ p
theorem Fre.back {Hf1 H1 : Hp} {σ1 : St} {ρ1 : Rho} (n : Nxt q σ ρ Hf H σ1 ρ1 Hf1 H1) {p : Addr} (h : Fre H1 σ1 ρ1 p) : Fre H σ ρ p := h.elim (fun z => .inl (n.dom p z)) fun z => (n.os p z).elim .inr .inl
theorem Fre.notLk (r : Rp Hf H σ ρ) {p : Addr} (h : Fre H σ ρ p) : ¬ LkA H σ ρ p := fun z => h.elim (fun y => by
  obtain ⟨o, ho, _⟩ := r.lka z
  rw [y] at ho; cases ho) (r.lk p z)
theorem Rp.chgO (r : Rp Hf H σ ρ) {i : Nat} {ds : List D} {p : Addr} {s' : Sl} (hi : ρ[i]? = some (.ow ds)) (hp : σ[i]? = some (some (.ref p))) (hs : Hless s' ∨ ∃ es, s' = .ow es) (sub : Same Hf Hf') (sub' : Same Hf' H') (tb : Tb H') (nt : NtH Hf')
    (keep : ∀ a o, H a = some o → NT o → a ≠ p → H' a = some o) (dom : ∀ a, H' a = none → H a = none) (fr : ∀ a, Hf a = none → Hf' a = none ∨ H a = none ∨ a = p) (ok : SlOk Hf' H' (some (some (.ref p))) s') : Nxt q σ ρ Hf H σ (ρ.set i s') Hf' H' := by
  have hlt : i < ρ.length := (List.getElem?_eq_some_iff.mp hi).1
  have gi : (ρ.set i s')[i]? = some s' := by rw [List.getElem?_set, if_pos rfl, if_pos hlt]
  have gj : ∀ j, j ≠ i → (ρ.set i s')[j]? = ρ[j]? := fun j n => by rw [List.getElem?_set, if_neg fun z => n z.symm]
  have ow' : ∀ a, OwnI H' σ (ρ.set i s') i a → a = p := fun a ⟨s, v, e1, e2, o⟩ => by
    rw [gi] at e1; cases e1
    rw [hp] at e2; cases e2
    rcases hs with h | ⟨es, rfl⟩
    · cases s' <;> first | exact o.elim | exact h.elim
    · cases (show V.ref p = .ref a from o); rfl
  refine r.chgs (· = i) (by rw [List.length_set]; exact r.len) sub sub' tb nt (fun a o h t n => keep a o h t fun z => n i rfl ((ownI_ow hi hp).mpr z)) dom (fun a z => (fr a z).imp id fun w => w.imp id fun y => ⟨i, rfl, (ownI_ow hi hp).mpr y⟩) (fun j s n e => .inl (by rw [← gj j n]; exact e)) ?_ ?_ ?_ ?_ ?_ ?_
  · rintro _ s rfl e
    rw [gi] at e; cases e
    rcases hs with h | ⟨es, rfl⟩
    · constructor
      · rintro t rfl; exact h.elim
      · rintro k qs rfl; exact h.elim
    · exact ⟨(fun _ z => nomatch z), (fun _ _ z => nomatch z)⟩
  · rintro j _ qs t h1 h2 rfl
    rcases h2 with e | e
    · rw [gi] at e; cases e
      rcases hs with h | ⟨es, h⟩
      · exact h.elim
      · cases h
    · rw [gi] at e; cases e
      rcases hs with h | ⟨es, h⟩
      · exact h.elim
      · cases h
  · rintro _ s rfl e
    rw [gi] at e; cases e
    rw [hp]; exact ok
  · rintro _ a rfl z
    exact .inl ⟨_, rfl, (ownI_ow hi hp).mpr (ow' a z)⟩
  · rintro _ _ a rfl rfl _ _; rfl
  · intro _
    refine ⟨?_, fun j n => gj j n⟩
    rintro _ s rfl e
    rw [hi] at e; cases e
    exact ⟨(fun _ z => nomatch z), (fun _ z => nomatch z), (fun _ _ z => nomatch z)⟩
end
section
variable {α β γ δ : Type}
inductive Res (α : Type) where
  | ok (p : α × Rho)
  | exc (c : Str) (ρ : Rho)
  | bad
abbrev M (α : Type) := Rho → Res α
@[simp] def bnd (f : M α) (k : α → M γ) : M γ := fun ρ => match f ρ with
  | .ok (a, ρ1) => k a ρ1
  | .exc c ρ1 => .exc c ρ1
  | .bad => .bad
@[simp] def ret (a : α) : M α := fun ρ => .ok (a, ρ)
@[simp] def opt (o : Option α) : M α := fun ρ => match o with
  | some a => .ok (a, ρ)
  | none => .bad
structure Gx where
  W : WX
  cA : Str → Addr
  q : Bool
abbrev qG (G : Gx) : Gx := ⟨G.W, G.cA, true⟩
def AfG (G : Gx) (R : Hp → β → α → Prop) (σ : St) (ρ : Rho) (Hf H : Hp) (Q : β → Hp → Prop) : Res α → Prop
  | .ok (a, ρ') => ∀ x Hf' H', Nxt G.q σ ρ Hf H σ ρ' Hf' H' → R Hf' x a → Q x H'
  | .exc c ρ' => ∀ Hf' H', Nxt G.q σ ρ Hf H σ ρ' Hf' H' → G.W (.ref (G.cA c)) none σ H'
  | .bad => False
def tG (G : Gx) (R : Hp → β → α → Prop) (f : M α) : St → Hp → (β → Hp → Prop) → Prop := fun σ H Q =>
  ∃ Hf ρ, Rp Hf H σ ρ ∧ AfG G R σ ρ Hf H Q (f ρ)
variable {G : Gx} {R : Hp → β → α → Prop} {R1 : Hp → δ → γ → Prop} {σ : St} {ρ ρ1 : Rho} {Hf H Hf1 H1 : Hp} {Q Q' : β → Hp → Prop} {f : M α} {g : M γ} {k : γ → M α}
theorem AfG.mono (h : ∀ x H, Q x H → Q' x H) : ∀ {o : Res α}, AfG G R σ ρ Hf H Q o → AfG G R σ ρ Hf H Q' o
  | .ok (a, ρ'), q => fun x Hf' H' n r => h x H' (q x Hf' H' n r)
  | .exc c ρ', q => q
  | .bad, q => q
theorem tG.mono (h : ∀ x H, Q x H → Q' x H) (t : tG G R f σ H Q) : tG G R f σ H Q' := by
  obtain ⟨Hf, ρ, rp, q⟩ := t
  exact ⟨Hf, ρ, rp, q.mono h⟩
theorem AfG.later (n : Nxt G.q σ ρ Hf H σ ρ1 Hf1 H1) : ∀ {o : Res α}, AfG G R σ ρ Hf H Q o → AfG G R σ ρ1 Hf1 H1 Q o
  | .ok (a, ρ'), q => fun x Hf' H' n' r => q x Hf' H' (n.trans n') r
  | .exc c ρ', q => fun Hf' H' n' => q Hf' H' (n.trans n')
  | .bad, q => q
theorem step (rp : Rp Hf H σ ρ) (af : AfG G R σ ρ Hf H Q (bnd g k ρ)) :
    tG G R1 g σ H fun y H1 => ∃ b Hf1 ρ1, Nxt G.q σ ρ Hf H σ ρ1 Hf1 H1 ∧ R1 Hf1 y b ∧ AfG G R σ ρ1 Hf1 H1 Q (k b ρ1) := by
  refine ⟨Hf, ρ, rp, ?_⟩
  unfold bnd at af
  cases e : g ρ with
  | ok p =>
    obtain ⟨b, ρ1⟩ := p
    rw [e] at af
    exact fun x Hf1 H1 n r => ⟨b, Hf1, ρ1, n, r, af.later n⟩
  | exc c ρ1 => rw [e] at af; exact af
  | bad => rw [e] at af; exact af
theorem fin {a : α} (rp : Rp Hf H σ ρ) (af : AfG G R σ ρ Hf H Q (ret a ρ)) {x : β} (r : R Hf x a) : Q x H := af x Hf H (.refl rp) r
theorem finO {o : Option α} (rp : Rp Hf H σ ρ) (af : AfG G R σ ρ Hf H Q (opt o ρ)) : ∃ a, o = some a ∧ ∀ x, R Hf x a → Q x H := by
  cases o with
  | none => exact af.elim
  | some a => exact ⟨a, rfl, fun x r => af x Hf H (.refl rp) r⟩
end
abbrev tE (G : Gx) (f : M D) : TE := tG G Rep f
abbrev tT (G : Gx) (f : M Bool) : TT := tG G (fun _ b c => b = c) f
abbrev tA (G : Gx) (f : M (List D)) : TA := tG G RepA f
section
variable {X : Cx} {G : Gx} {e a b : Expr} {es : List Expr} {f g : M D} {pos : Pos}
theorem _root_.L2.PE.imp {t t' : TE} (h : PE X e t) (i : ∀ σ H Q, t' σ H Q → t σ H Q) : PE X e t' := ⟨fun pins s σ H Q I q => h.run pins s σ H Q I (i _ _ _ q)⟩
theorem _root_.L2.PT.imp {t t' : TT} (h : PT X e t) (i : ∀ σ H Q, t' σ H Q → t σ H Q) : PT X e t' := ⟨fun pins s σ H Q I q => h.run pins s σ H Q I (i _ _ _ q)⟩
theorem _root_.L2.PA.imp {t t' : TA} (h : PA X es t) (i : ∀ σ H Q, t' σ H Q → t σ H Q) : PA X es t' := ⟨fun ps pins s σ H Q I q => h.run ps pins s σ H Q I (i _ _ _ q)⟩
theorem _root_.L2.PS.imp {st : Stmt} {t t' : TS} (h : PS X st t) (i : ∀ D σ H, t' D σ H → t D σ H) : PS X st t' := ⟨fun pins s σ H D I q => h.run pins s σ H D I (i _ _ _ q)⟩
theorem _root_.L2.PSs.imp {st : List Stmt} {t t' : TS} (h : PSs X st t) (i : ∀ D σ H, t' D σ H → t D σ H) : PSs X st t' := ⟨fun pins s σ H D I q => h.run pins s σ H D I (i _ _ _ q)⟩
@[simp] def fVar (i : Nat) : M D := fun ρ => match ρ[i]? with
  | some (.fz d) => .ok (d, ρ)
  | some (.ow ds) => .ok (.list ds, ρ.set i (.fz (.list ds)))
  | _ => .bad
theorem Rp.freeze {q : Bool} {Hf H : Hp} {σ : St} {ρ : Rho} (r : Rp Hf H σ ρ) {i : Nat} {ds : List D} (h : ρ[i]? = some (.ow ds)) :
    ∃ p Hf', σ[i]? = some (some (.ref p)) ∧ Nxt q σ ρ Hf H σ (ρ.set i (.fz (.list ds))) Hf' H ∧ Rep Hf' (.ref p) (.list ds) := by
  obtain ⟨p, vs, e, h1, h2, h3⟩ := slok_ow (r.sl i _ h)
  have e1 : Same Hf (upd Hf p (.lst vs)) := same_new h1
  have e2 : Same (upd Hf p (.lst vs)) H := fun b x q => by
    by_cases z : b = p
    · subst z
      rw [upd_same] at q
      rw [h2]
      exact q
    · rw [upd_ne z] at q
      exact r.sub _ _ q
  have dp : Rep (upd Hf p (.lst vs)) (.ref p) (.list ds) := .lst upd_same (repA_same e1 h3)
  refine ⟨p, _, e, r.chgO h e (.inl True.intro) e1 e2 r.tb (r.nt.upd NT.lst) (fun a o h _ _ => h) (fun _ h => h) (fun a z => ?_) (slok_fz.mpr dp), dp⟩
  by_cases q : a = p
  · exact .inr (.inr q)
  · exact .inl (by rw [upd_ne q]; exact z)
theorem fe_var (i : Nat) {x : Str} (hN : X.N[i]? = some x := by rfl) (hv : Vis X.env.scope x := by first | exact Or.inl rfl | exact Or.inr (Or.inl rfl) | exact Or.inr (Or.inr rfl)) (hd : (x == ("__debug__" : Str)) = false := by decide)
    (hcd : (x == ("__classdict__" : Str)) = false := by decide) : PE X (.Name x pos) (tE G (fVar i)) := by
  refine (pe_var hN hv hd hcd).imp fun σ H Q ⟨Hf, ρ, rp, af⟩ => ?_
  unfold fVar at af
  cases e : ρ[i]? with
  | none => rw [e] at af; exact af.elim
  | some s =>
    rw [e] at af
    cases s with
    | un => exact af.elim
    | raw v => exact af.elim
    | tr v => exact af.elim
    | lk v => exact af.elim
    | pa _ _ => exact af.elim
    | fz d =>
      obtain ⟨v, hv, q⟩ := slok_fz' (rp.sl i _ e)
      exact ⟨v, hv, af v Hf H (.refl rp) q⟩
    | ow ds =>
      obtain ⟨p, Hf', h1, n, q⟩ := rp.freeze e
      exact ⟨.ref p, h1, af _ _ _ n q⟩
def sc : D → Option V
  | .none => some .non
  | .bool b => some (.bl b)
  | .int i => some (.int i)
  | .str x => some (.str x)
  | _ => none
theorem rep_sc {H : Hp} {d : D} {v : V} (h : sc d = some v) : Rep H v d := by
  cases d <;> simp only [sc, Option.some.injEq, reduceCtorEq] at h <;> subst h <;> constructor
theorem sc_rep {H : Hp} {d : D} {v w : V} (h : sc d = some v) (q : Rep H w d) : w = v := by
  cases d <;> simp only [sc, Option.some.injEq, reduceCtorEq] at h <;> subst h <;> cases q <;> rfl
theorem fe_c {d : D} {v : V} (h : PE X e (tC v)) (hs : sc d = some v) : PE X e (tE G (ret d)) :=
  h.imp fun σ H Q ⟨Hf, ρ, rp, af⟩ => fin rp af (rep_sc hs)
theorem fe_int {i : Int} {j : Nat} : PE X (.Constant (.int i) j pos) (tE G (ret (.int i))) := fe_c pe_int rfl
theorem fe_bool {x : Bool} {j : Nat} : PE X (.Constant (.bool x) j pos) (tE G (ret (.bool x))) := fe_c pe_bl rfl
theorem fe_globI {x : Str} {i : Int} {t : Tok} (hg : Gl X x) (hm : X.mg x = some (.int i t)) (hd : (x == ("__debug__" : Str)) = false := by decide) : PE X (.Name x pos) (tE G (ret (.int i))) := fe_c (pe_glob (v := .int i) hg hm ⟨_, rfl⟩ hd) rfl
@[simp] def lkD : Tr → Option D
  | .ow ds => some (.list ds)
  | .fz d => some d
  | _ => none
abbrev Pth := Nat × List Nat
@[simp] def trAt (p : Pth) (ρ : Rho) : Option Tr := match ρ[p.1]? with
  | some (.tr t) => t.at p.2
  | some (.lk t) => t.at p.2
  | _ => none
@[simp] def look (i : Nat) (ρ : Rho) : Option D := match ρ[i]? with
  | some (.fz d) => some d
  | some (.ow ds) => some (.list ds)
  | some (.lk t) => lkD t
  | some (.pa k qs) => (trAt (k, qs) ρ).bind lkD
  | _ => none
def AtV (H : Hp) (σ : St) (ρ : Rho) (p : Pth) (v : V) (s : Tr) : Prop := ∃ u t, σ[p.1]? = some (some u) ∧ isTr ρ p.1 t ∧ At H u t p.2 v s
theorem trAt_is {p : Pth} {ρ : Rho} {s : Tr} (h : trAt p ρ = some s) : ∃ t, isTr ρ p.1 t ∧ t.at p.2 = some s := by
  unfold trAt at h
  split at h
  · rename_i t e; exact ⟨t, .inl e, h⟩
  · rename_i t e; exact ⟨t, .inr e, h⟩
  · cases h
theorem Rp.tree {Hf H : Hp} {σ : St} {ρ : Rho} (r : Rp Hf H σ ρ) {i : Nat} {t : Tr} (h : isTr ρ i t) : ∃ v F, σ[i]? = some (some v) ∧ TR Hf H v t F := by
  rcases h with e | e
  · obtain ⟨v, F, e1, r1, _⟩ := slok_tr' (r.sl i _ e); exact ⟨v, F, e1, r1⟩
  · obtain ⟨v, F, e1, r1⟩ := slok_lk' (r.sl i _ e); exact ⟨v, F, e1, r1⟩
theorem AtV.trAt {H : Hp} {σ : St} {ρ : Rho} {p : Pth} {v : V} {s : Tr} (h : AtV H σ ρ p v s) : trAt p ρ = some s := by
  obtain ⟨u, t, e1, e2, a⟩ := h
  unfold Fx.trAt
  rcases e2 with e | e <;> (rw [e]; exact a.at)
theorem AtV.tr {Hf H : Hp} {σ : St} {ρ : Rho} (r : Rp Hf H σ ρ) {p : Pth} {v : V} {s : Tr} (h : AtV H σ ρ p v s) : ∃ M, TR Hf H v s M := by
  obtain ⟨u, t, e1, e2, a⟩ := h
  obtain ⟨u', F, e3, r1⟩ := r.tree e2
  rw [e1] at e3; cases e3
  obtain ⟨M, z, _⟩ := r1.atv a
  exact ⟨M, z⟩
theorem AtV.inj {H : Hp} {σ : St} {ρ : Rho} {p : Pth} {v w : V} {s s' : Tr} (h : AtV H σ ρ p v s) (h' : AtV H σ ρ p w s') : v = w ∧ s = s' := by
  have es : s = s' := by
    have a := h.trAt
    rw [h'.trAt] at a
    exact (Option.some.inj a).symm
  subst es
  obtain ⟨u, t, e1, e2, a⟩ := h
  obtain ⟨u', t', e1', e2', a'⟩ := h'
  rw [e1] at e1'; cases e1'
  have et : t = t' := by
    rcases e2 with e | e <;> rcases e2' with e' | e' <;> (rw [e] at e'; cases e'; try rfl)
  subst et
  exact ⟨(a.inj a').1, rfl⟩
theorem AtV.keep {Hf H Hf' H' : Hp} {σ σ' : St} {ρ ρ' : Rho} (r : Rp Hf H σ ρ) (n : Nxt true σ ρ Hf H σ' ρ' Hf' H') {p : Pth} {v : V} {s : Tr} (h : AtV H σ ρ p v s) : AtV H' σ' ρ' p v s := by
  obtain ⟨u, t, e1, e2, a⟩ := h
  obtain ⟨q1, q2⟩ := n.qt rfl
  rcases e2 with e | e
  · obtain ⟨g1, g2, g3⟩ := q1 _ t e
    refine ⟨u, t, g2.trans e1, .inl g1, r.at_mono (.inl e) e1 g3 (fun b z => ?_) a⟩
    obtain ⟨o, ho, to⟩ := r.lka z
    rw [ho]; exact n.keep b o ho to (r.lk b z)
  · obtain ⟨g1, g2⟩ := q2 _ (.inl ⟨t, e⟩)
    refine ⟨u, t, g2.trans e1, .inr (g1.trans e), r.at_mono (.inr e) e1 (fun b z => ?_) (fun b z => ?_) a⟩
    · obtain ⟨s, v, g3, _, o⟩ := z
      rw [e] at g3; cases g3
      exact o.elim
    · obtain ⟨o, ho, to⟩ := r.lka z
      rw [ho]; exact n.keep b o ho to (r.lk b z)
def R1 (Hf H : Hp) (v : V) (d : D) : Prop := Rep Hf v d ∨ ∃ p vs ds, v = .ref p ∧ d = .list ds ∧ H p = some (.lst vs) ∧ RepA Hf vs ds
section
variable {Hf H : Hp} {v : V} {d : D} {ds : List D} {σ : St} {ρ : Rho}
theorem R1.lst (sm : Same Hf H) (h : R1 Hf H v (.list ds)) : ∃ p vs, v = .ref p ∧ H p = some (.lst vs) ∧ RepA Hf vs ds := by
  rcases h with h | ⟨p, vs, es, e1, e2, h1, h2⟩
  · cases h with
    | lst h1 h2 => exact ⟨_, _, rfl, sm _ _ h1, h2⟩
  · cases e2
    exact ⟨p, vs, e1, h1, h2⟩
theorem R1.rep (h : R1 Hf H v d) (hn : ∀ ds, d ≠ .list ds) : Rep Hf v d := h.elim id fun ⟨_, _, ds, _, e, _⟩ => absurd e (hn ds)
theorem R1.tup (sm : Same Hf H) (h : R1 Hf H v (.tuple ds)) : ∃ p vs, v = .ref p ∧ H p = some (.tup vs) ∧ RepA Hf vs ds := by
  have q := h.rep fun _ z => nomatch z
  cases q with
  | tup h1 h2 => exact ⟨_, _, rfl, sm _ _ h1, h2⟩
theorem R1.int {i : Int} (h : R1 Hf H v (.int i)) : v = .int i := by
  have q := h.rep fun _ z => nomatch z
  cases q
  rfl
theorem R1.str {i : Str} (h : R1 Hf H v (.str i)) : v = .str i := by
  have q := h.rep fun _ z => nomatch z
  cases q
  rfl
theorem R1.bool {i : Bool} (h : R1 Hf H v (.bool i)) : v = .bl i := by
  have q := h.rep fun _ z => nomatch z
  cases q
  rfl
theorem R1.non (h : R1 Hf H v .none) : v = .non := by
  have q := h.rep fun _ z => nomatch z
  cases q
  rfl
theorem R1.full (sm : Same Hf H) (h : R1 Hf H v d) : Rep H v d := by
  rcases h with h | ⟨p, vs, ds, rfl, rfl, h1, h2⟩
  · exact rep_same sm h
  · exact .lst h1 (repA_same sm h2)
theorem lkD_R1 {M : List Addr} {s : Tr} (h : TR Hf H v s M) (e : lkD s = some d) : R1 Hf H v d := by
  cases h with
  | fz r => cases e; exact .inl r
  | ow h1 h2 => cases e; exact .inr ⟨_, _, _, rfl, rfl, h1, h2⟩
  | dk _ _ _ => cases e
  | dt _ _ _ => cases e
  | nd _ _ => cases e
theorem look_R1 {i : Nat} (rp : Rp Hf H σ ρ) (h : look i ρ = some d) : ∃ v, σ[i]? = some (some v) ∧ R1 Hf H v d := by
  unfold look at h
  cases e : ρ[i]? with
  | none => rw [e] at h; cases h
  | some s =>
    rw [e] at h
    cases s with
    | un => cases h
    | raw v => cases h
    | tr t => cases h
    | fz d' =>
      cases h
      obtain ⟨v, h1, h2⟩ := slok_fz' (rp.sl i _ e)
      exact ⟨v, h1, .inl h2⟩
    | ow ds =>
      cases h
      obtain ⟨p, vs, h1, h2, h3, h4⟩ := slok_ow (rp.sl i _ e)
      exact ⟨_, h1, .inr ⟨p, vs, ds, rfl, rfl, h3, h4⟩⟩
    | lk t =>
      obtain ⟨v, F, h1, h2⟩ := slok_lk' (rp.sl i _ e)
      exact ⟨v, h1, lkD_R1 h2 h⟩
    | pa k qs =>
      dsimp only at h
      cases e1 : trAt (k, qs) ρ with
      | none => rw [e1] at h; cases h
      | some s =>
        rw [e1] at h
        obtain ⟨t, h1, h2⟩ := trAt_is e1
        obtain ⟨v, w, s', g1, g2, g3⟩ := rp.al i k qs t e h1
        have av : AtV H σ ρ (k, qs) w s' := ⟨v, t, g1, h1, g3⟩
        have es : s' = s := by
          have a := av.trAt
          rw [e1] at a
          exact (Option.some.inj a).symm
        subst es
        obtain ⟨M, z⟩ := av.tr rp
        exact ⟨w, g2, lkD_R1 z h⟩
end
def AfP (G : Gx) (σ : St) (ρ : Rho) (Hf H : Hp) (Q : VK) : Res Pth → Prop
  | .ok (p, ρ') => ∀ v s Hf' H', Nxt G.q σ ρ Hf H σ ρ' Hf' H' → AtV H' σ ρ' p v s → Q v H'
  | .exc c ρ' => ∀ Hf' H', Nxt G.q σ ρ Hf H σ ρ' Hf' H' → G.W (.ref (G.cA c)) none σ H'
  | .bad => False
def tPl (G : Gx) (f : M Pth) : TE := fun σ H Q => ∃ Hf ρ, Rp Hf H σ ρ ∧ AfP G σ ρ Hf H Q (f ρ)
theorem tPl.mono {f : M Pth} {σ : St} {H : Hp} {Q Q' : VK} (h : ∀ x H, Q x H → Q' x H) (t : tPl G f σ H Q) : tPl G f σ H Q' := by
  obtain ⟨Hf, ρ, rp, q⟩ := t
  refine ⟨Hf, ρ, rp, ?_⟩
  cases e : f ρ with
  | ok x => obtain ⟨ds, ρ'⟩ := x; rw [e] at q; exact fun v s Hf' H' n a => h _ _ (q v s Hf' H' n a)
  | exc c ρ' => rw [e] at q; exact q
  | bad => rw [e] at q; exact q
inductive Opd where
  | e (f : M D)
  | v (i : Nat)
  | p (f : M Pth)
@[simp] def lookP (p : Pth) : M D := fun ρ => match (trAt p ρ).bind lkD with
  | some d => .ok (d, ρ)
  | none => .bad
@[simp] def Opd.go : Opd → M D
  | .e f => f
  | .v i => fun ρ => match look i ρ with
    | some d => .ok (d, ρ)
    | none => .bad
  | .p f => fun ρ => bnd f lookP ρ
@[simp] def Opd.at : Opd → D → Rho → Option D
  | .e _, d, _ => some d
  | .v i, _, ρ => look i ρ
  | .p _, d, _ => some d
def Opd.t (G : Gx) : Opd → TE
  | .e f => tE G f
  | .v i => tVar i
  | .p f => tPl G f
def Opd.r : Opd → St → Rho → Hp → Hp → V → D → Prop
  | .e _, _, _, Hf, _, x, d => Rep Hf x d
  | .v i, σ, _, _, _, x, _ => σ[i]? = some (some x)
  | .p _, σ, ρ, _, H, x, d => ∃ p s, AtV H σ ρ p x s ∧ lkD s = some d
def Opd.qok (G : Gx) : Opd → Prop
  | .p _ => G.q = true
  | _ => True
section
variable {α β : Type} {R : Hp → β → α → Prop} {σ : St} {ρ ρ1 ρ2 : Rho} {Hf H Hf1 H1 Hf2 H2 : Hp} {Q : β → Hp → Prop} {A B : Opd}
theorem Opd.keep (hq : A.qok G) (rp : Rp Hf1 H1 σ ρ1) (n : Nxt G.q σ ρ1 Hf1 H1 σ ρ2 Hf2 H2) {v : V} {d : D} (h : A.r σ ρ1 Hf1 H1 v d) : A.r σ ρ2 Hf2 H2 v d := by
  cases A with
  | e f => exact rep_same n.sub h
  | v i => exact h
  | p f =>
    obtain ⟨p, s, a, e⟩ := h
    have hq' : G.q = true := hq
    rw [hq'] at n
    exact ⟨p, s, a.keep rp n, e⟩
theorem Opd.end (rp : Rp Hf H σ ρ) {v : V} {d x : D} (h : A.r σ ρ Hf H v d) (e : A.at d ρ = some x) : R1 Hf H v x := by
  cases A with
  | e f => cases e; exact .inl h
  | v i =>
    obtain ⟨w, h1, h2⟩ := look_R1 rp e
    have h' : σ[i]? = some (some v) := h
    rw [h1] at h'
    cases h'
    exact h2
  | p f =>
    cases e
    obtain ⟨p, s, a, e⟩ := h
    obtain ⟨M, z⟩ := a.tr rp
    exact lkD_R1 z e
theorem stepO {k : D → M α} (rp : Rp Hf H σ ρ) (af : AfG G R σ ρ Hf H Q (bnd A.go k ρ)) :
    A.t G σ H fun y H1 => ∃ b Hf1 ρ1, Nxt G.q σ ρ Hf H σ ρ1 Hf1 H1 ∧ A.r σ ρ1 Hf1 H1 y b ∧ AfG G R σ ρ1 Hf1 H1 Q (k b ρ1) := by
  cases A with
  | e f => exact step rp af
  | v i =>
    unfold bnd Opd.go at af
    dsimp only at af
    cases e : look i ρ with
    | none => rw [e] at af; exact af.elim
    | some d =>
      rw [e] at af
      obtain ⟨v, h1, _⟩ := look_R1 rp e
      exact ⟨v, h1, d, Hf, ρ, .refl rp, h1, af⟩
  | p f =>
    refine ⟨Hf, ρ, rp, ?_⟩
    unfold bnd Opd.go bnd at af
    dsimp only at af
    cases e : f ρ with
    | ok x =>
      obtain ⟨p, ρ1⟩ := x
      rw [e] at af
      dsimp only at af
      intro v s Hf1 H1 n a
      unfold lookP at af
      cases e2 : (trAt p ρ1).bind lkD with
      | none => rw [e2] at af; exact af.elim
      | some d =>
        rw [e2] at af
        rw [a.trAt] at e2
        exact ⟨d, Hf1, ρ1, n, ⟨p, s, a, e2⟩, af.later n⟩
    | exc c ρ1 => rw [e] at af; exact af
    | bad => rw [e] at af; exact af
theorem Opd.run {Q Q' : VK} (t : A.t G σ H Q) (h : ∀ x H, Q x H → Q' x H) : A.t G σ H Q' := by
  cases A with
  | e f => exact tG.mono h t
  | v i => exact ⟨t.choose, t.choose_spec.1, h _ _ t.choose_spec.2⟩
  | p f => exact tPl.mono h t
end
@[simp] def fin2 {α : Type} (A B : Opd) (a b : D) (k : D → D → Option α) : M α := fun ρ => match A.at a ρ with
  | some x => (match B.at b ρ with
    | some y => opt (k x y) ρ
    | none => .bad)
  | none => .bad
@[simp] def fOp (o : D → D → Option D) (A B : Opd) : M D := fun ρ => (bnd A.go fun a => bnd B.go fun b => fin2 A B a b o) ρ
def RdO (r : R2) (o : D → D → Option D) : Prop := ∀ (Hf H : Hp) (x y : V) (a b d : D), Same Hf H → R1 Hf H x a → R1 Hf H y b → o a b = some d → ∃ v, Rep Hf v d ∧ ∀ Q : VK, Q v H → r x y H Q
theorem fin2_some {α β : Type} {R : Hp → β → α → Prop} {σ : St} {ρ : Rho} {Hf H : Hp} {Q : β → Hp → Prop} {A B : Opd} {a b : D} {k : D → D → Option α} (af : AfG G R σ ρ Hf H Q (fin2 A B a b k ρ)) : ∃ x y, A.at a ρ = some x ∧ B.at b ρ = some y ∧ AfG G R σ ρ Hf H Q (opt (k x y) ρ) := by
  unfold fin2 at af
  cases e1 : A.at a ρ with
  | none => rw [e1] at af; exact af.elim
  | some x =>
    rw [e1] at af
    cases e2 : B.at b ρ with
    | none => simp only [e2] at af; exact False.elim af
    | some y =>
      simp only [e2] at af
      exact ⟨x, y, rfl, rfl, af⟩
variable {A B : Opd}
theorem rd_op {r : R2} {o : D → D → Option D} (hqa : A.qok G) (hr : RdO r o) (σ : St) (H : Hp) (Q : VK) (h : tE G (fOp o A B) σ H Q) : tOp r (A.t G) (B.t G) σ H Q := by
  obtain ⟨Hf, ρ, rp, af⟩ := h
  refine Opd.run (stepO rp af) fun x H1 ⟨a, Hf1, ρ1, n1, ra, af1⟩ => Opd.run (stepO n1.rp af1) fun y H2 ⟨b, Hf2, ρ2, n2, rb, af2⟩ => ?_
  obtain ⟨a', b', ea, eb, af3⟩ := fin2_some af2
  obtain ⟨d, e, k⟩ := finO n2.rp af3
  obtain ⟨v, dv, hq⟩ := hr Hf2 H2 x y a' b' d n2.rp.sub (Opd.end n2.rp (Opd.keep hqa n1.rp n2 ra) ea) (Opd.end n2.rp rb eb) e
  exact hq Q (k v dv)
theorem fe_op {r : R2} {o : D → D → Option D} {op : Operator} (ho : OpR X (binaryOp op) r) (hr : RdO r o) (ha : PE X a (A.t G)) (hb : PE X b (B.t G)) (hqa : A.qok G := by first | exact True.intro | rfl) : PE X (.BinOp a op b pos) (tE G (fOp o A B)) :=
  (pe_op ho ha hb).imp (rd_op hqa hr)
theorem fe_cmp {r : R2} {o : D → D → Option D} {op : CmpOp} (ho : OpR X (compareOp op) r) (hr : RdO r o) (ha : PE X a (A.t G)) (hb : PE X b (B.t G)) (hm : behindInMarks op b = false) (hqa : A.qok G := by first | exact True.intro | rfl) : PE X (.Compare a [op] [b] pos) (tE G (fOp o A B)) :=
  (pe_cmpR ho ha hb hm).imp (rd_op hqa hr)
@[simp] def oI (C : Int → Int → Bool) (g : Int → Int → D) : D → D → Option D
  | .int i, .int j => if C i j then some (g i j) else none
  | _, _ => none
@[simp] def oI0 (g : Int → Int → D) : D → D → Option D
  | .int i, .int j => some (g i j)
  | _, _ => none
theorem rd_I0 {g : Int → Int → D} {gv : Int → Int → V} (h : ∀ i j, sc (g i j) = some (gv i j)) : RdO (rI0 gv) (oI0 g) := by
  intro Hf H x y a b d _ ha hb e
  cases a <;> cases b <;> simp only [oI0, reduceCtorEq, Option.some.injEq] at e
  subst e
  exact ⟨_, rep_sc (h _ _), fun Q q => ⟨_, _, ha.int, hb.int, q⟩⟩
theorem rd_I {C : Int → Int → Bool} {C' : Int → Int → Prop} {g : Int → Int → D} {gv : Int → Int → V} (hC : ∀ i j, C i j = true → C' i j) (h : ∀ i j, sc (g i j) = some (gv i j)) : RdO (rI C' gv) (oI C g) := by
  intro Hf H x y a b d _ ha hb e
  cases a <;> cases b <;> simp only [oI, reduceCtorEq] at e
  split at e
  · rename_i hc
    cases e
    exact ⟨_, rep_sc (h _ _), fun Q q => ⟨_, _, ha.int, hb.int, hC _ _ hc, q⟩⟩
  · cases e
abbrev oAdd := oI0 fun i j => .int (i + j)
abbrev oSub := oI0 fun i j => .int (i - j)
def cMul (i j : Int) : Bool := decide (i.natAbs < 2 ^ 64 ∨ j.natAbs < 2 ^ 64)
abbrev oMul := oI cMul fun i j => .int (i * j)
def cDiv (i j : Int) : Bool := decide (0 < j ∧ j.natAbs.log2 < 9000)
abbrev oDiv := oI cDiv fun i j => .int (i / j)
def cMod (i j : Int) : Bool := decide (0 < j)
abbrev oMod := oI cMod fun i j => .int (i % j)
def cPow (i j : Int) : Bool := decide (0 ≤ j ∧ j ≤ 1000000 ∧ i.natAbs < 2 ^ 64)
abbrev oPow := oI cPow fun i j => .int (i ^ j.toNat)
abbrev oLt := oI0 fun i j => .bool (decide (i < j))
abbrev oLe := oI0 fun i j => .bool (decide (i ≤ j))
abbrev oGt := oI0 fun i j => .bool (decide (j < i))
abbrev oGe := oI0 fun i j => .bool (decide (j ≤ i))
theorem rd_add : RdO (rI0 fun i j => .int (i + j)) oAdd := rd_I0 fun _ _ => rfl
theorem rd_sub : RdO (rI0 fun i j => .int (i - j)) oSub := rd_I0 fun _ _ => rfl
theorem rd_lt : RdO (rI0 fun i j => .bl (decide (i < j))) oLt := rd_I0 fun _ _ => rfl
theorem rd_le : RdO (rI0 fun i j => .bl (decide (i ≤ j))) oLe := rd_I0 fun _ _ => rfl
theorem rd_gt : RdO (rI0 fun i j => .bl (decide (j < i))) oGt := rd_I0 fun _ _ => rfl
theorem rd_ge : RdO (rI0 fun i j => .bl (decide (j ≤ i))) oGe := rd_I0 fun _ _ => rfl
theorem fe_add (ha : PE X a (A.t G)) (hb : PE X b (B.t G)) (hqa : A.qok G := by first | exact True.intro | rfl) : PE X (.BinOp a .Add b pos) (tE G (fOp oAdd A B)) := fe_op op_add rd_add ha hb hqa
theorem fe_sub (ha : PE X a (A.t G)) (hb : PE X b (B.t G)) (hqa : A.qok G := by first | exact True.intro | rfl) : PE X (.BinOp a .Sub b pos) (tE G (fOp oSub A B)) := fe_op op_sub rd_sub ha hb hqa
theorem fe_mul (ha : PE X a (A.t G)) (hb : PE X b (B.t G)) (hqa : A.qok G := by first | exact True.intro | rfl) : PE X (.BinOp a .Mult b pos) (tE G (fOp oMul A B)) := fe_op op_mul (rd_I (fun _ _ h => by unfold cMul at h; have q := of_decide_eq_true h; exact q.imp (fun z => ⟨by omega, by omega⟩) (fun z => ⟨by omega, by omega⟩)) fun _ _ => rfl) ha hb hqa
theorem fe_div (ha : PE X a (A.t G)) (hb : PE X b (B.t G)) (hqa : A.qok G := by first | exact True.intro | rfl) : PE X (.BinOp a .FloorDiv b pos) (tE G (fOp oDiv A B)) := fe_op op_fdivW (rd_I (fun _ _ h => by unfold cDiv at h; have q := of_decide_eq_true h; exact q) fun _ _ => rfl) ha hb hqa
theorem fe_mod (ha : PE X a (A.t G)) (hb : PE X b (B.t G)) (hqa : A.qok G := by first | exact True.intro | rfl) : PE X (.BinOp a .Mod b pos) (tE G (fOp oMod A B)) := fe_op op_mod (rd_I (fun _ _ h => of_decide_eq_true h) fun _ _ => rfl) ha hb hqa
theorem fe_pow (ha : PE X a (A.t G)) (hb : PE X b (B.t G)) (hqa : A.qok G := by first | exact True.intro | rfl) : PE X (.BinOp a .Pow b pos) (tE G (fOp oPow A B)) := fe_op op_pow (rd_I (fun _ _ h => by unfold cPow at h; have q := of_decide_eq_true h; exact q) fun _ _ => rfl) ha hb hqa
def oEq : D → D → Option D
  | .int i, .int j => some (.bool (decide (i = j)))
  | .str i, .str j => some (.bool (decide (i = j)))
  | .bool i, .bool j => some (.bool (decide (i = j)))
  | _, _ => none
def oNe : D → D → Option D
  | .int i, .int j => some (.bool (!decide (i = j)))
  | .str i, .str j => some (.bool (!decide (i = j)))
  | .bool i, .bool j => some (.bool (!decide (i = j)))
  | _, _ => none
theorem dec_congr {p q : Prop} [Decidable p] [Decidable q] (h : p ↔ q) : decide p = decide q := by
  by_cases hp : p
  · rw [decide_eq_true hp, decide_eq_true (h.mp hp)]
  · rw [decide_eq_false hp, decide_eq_false fun z => hp (h.mpr z)]
theorem rd_eq : RdO rEq oEq := by
  intro Hf H x y a b d _ ha hb e
  cases a <;> cases b <;> simp only [oEq, reduceCtorEq, Option.some.injEq] at e <;> subst e
  · cases ha.bool; cases hb.bool; exact ⟨_, .bl _, fun Q q => ⟨rfl, by rw [dec_congr ⟨V.bl.inj, congrArg V.bl⟩]; exact q⟩⟩
  · cases ha.int; cases hb.int; exact ⟨_, .bl _, fun Q q => ⟨rfl, by rw [dec_congr ⟨V.int.inj, congrArg V.int⟩]; exact q⟩⟩
  · cases ha.str; cases hb.str; exact ⟨_, .bl _, fun Q q => ⟨rfl, by rw [dec_congr ⟨V.str.inj, congrArg V.str⟩]; exact q⟩⟩
theorem rd_ne : RdO rNe oNe := by
  intro Hf H x y a b d _ ha hb e
  cases a <;> cases b <;> simp only [oNe, reduceCtorEq, Option.some.injEq] at e <;> subst e
  · cases ha.bool; cases hb.bool; exact ⟨_, .bl _, fun Q q => ⟨rfl, by rw [dec_congr ⟨V.bl.inj, congrArg V.bl⟩]; exact q⟩⟩
  · cases ha.int; cases hb.int; exact ⟨_, .bl _, fun Q q => ⟨rfl, by rw [dec_congr ⟨V.int.inj, congrArg V.int⟩]; exact q⟩⟩
  · cases ha.str; cases hb.str; exact ⟨_, .bl _, fun Q q => ⟨rfl, by rw [dec_congr ⟨V.str.inj, congrArg V.str⟩]; exact q⟩⟩
theorem fe_q (h : PE X e (tE (qG G) f)) : PE X e (tE G f) := h.imp fun σ H Q ⟨Hf, ρ, rp, af⟩ => ⟨Hf, ρ, rp, by
  cases e1 : f ρ with
  | ok x => obtain ⟨d, ρ1⟩ := x; rw [e1] at af; exact fun v Hf' H' n r => af v Hf' H' (Nxt.qto n) r
  | exc c ρ1 => rw [e1] at af; exact fun Hf' H' n => af Hf' H' (Nxt.qto n)
  | bad => rw [e1] at af; exact af⟩
end
end Fx
namespace Fx
open PySem L2
variable [Tabz]
section
variable {X : Cx} {G : Gx} {e a b : Expr} {es : List Expr} {f g : M D} {fs : M (List D)} {pos : Pos}
@[simp] def asB : D → Option Bool
  | .bool b => some b
  | _ => none
@[simp] def fB (f : M D) : M Bool := fun ρ => (bnd f fun d => opt (asB d)) ρ
theorem asB_eq {d : D} {c : Bool} (h : asB d = some c) : d = .bool c := by
  cases d <;> simp only [asB, reduceCtorEq, Option.some.injEq] at h
  rw [h]
theorem rep_bool {H : Hp} {v : V} {c : Bool} (h : Rep H v (.bool c)) : v = .bl c := by cases h; rfl
theorem rep_int {H : Hp} {v : V} {c : Int} (h : Rep H v (.int c)) : v = .int c := by cases h; rfl
theorem rd_B (σ : St) (H : Hp) (Q : Bool → Hp → Prop) (h : tT G (fB f) σ H Q) : tE G f σ H fun x H1 => ∃ c, x = .bl c ∧ Q c H1 := by
  obtain ⟨Hf, ρ, rp, af⟩ := h
  refine (step rp af).mono fun x H1 ⟨d, Hf1, ρ1, n1, ra, af1⟩ => ?_
  obtain ⟨c, e, k⟩ := finO n1.rp af1
  rw [asB_eq e] at ra
  exact ⟨c, rep_bool ra, k c rfl⟩
theorem ft_val (h : PE X e (tE G f)) (he : ∀ whole, isTrue e X.env whole = (do let v ← whole; standAt e.pos; holding [v] (truthy v)) := by intro _; rfl) : PT X e (tT G (fB f)) :=
  (pt_val h he).imp fun σ H Q h => rd_B σ H Q h
variable {A B : Opd}
theorem ft_cmp {op : CmpOp} {r : R2} {o : D → D → Option D} (ho : OpR X (compareOp op) r) (hr : RdO r o) (ha : PE X a (A.t G)) (hb : PE X b (B.t G)) (hm : behindInMarks op b = false) (hqa : A.qok G := by first | exact True.intro | rfl) : PT X (.Compare a [op] [b] pos) (tT G (fB (fOp o A B))) :=
  (pt_cmpR ho ha hb hm).imp fun σ H Q h => rd_op hqa (fun _ _ _ _ _ _ _ h1 h2 h3 h4 => hr _ _ _ _ _ _ _ h1 h2 h3 h4) σ H _ (rd_B σ H Q h)
@[simp] def tAndM (f g : M Bool) : M Bool := fun ρ => (bnd f fun c => if c = true then g else ret false) ρ
@[simp] def tOrM (f g : M Bool) : M Bool := fun ρ => (bnd f fun c => if c = true then ret true else g) ρ
@[simp] def tNotM (f : M Bool) : M Bool := fun ρ => (bnd f fun c => ret (!c)) ρ
variable {p q : M Bool} {rest : List Expr}
theorem fw_and1 (ha : PT X a (tT G p)) : PW X (.BoolOp .And [a] pos) (tT G p) := pw_and1 ha
theorem fw_or1 (ha : PT X a (tT G p)) : PW X (.BoolOp .Or [a] pos) (tT G p) := pw_or1 ha
theorem _root_.L2.PW.imp {t t' : TT} (h : PW X e t) (i : ∀ σ H Q, t' σ H Q → t σ H Q) : PW X e t' := ⟨fun w pins s σ H Q I q => h.run w pins s σ H Q I (i _ _ _ q)⟩
theorem fw_and (ha : PT X a (tT G p)) (hb : PW X (.BoolOp .And (b :: rest) pos) (tT G q)) : PW X (.BoolOp .And (a :: b :: rest) pos) (tT G (tAndM p q)) := by
  refine (pw_and ha hb).imp fun σ H Q ⟨Hf, ρ, rp, af⟩ => ?_
  refine (step rp af).mono fun x H1 ⟨d, Hf1, ρ1, n1, ra, af1⟩ => ?_
  subst ra
  cases x with
  | true => exact ⟨Hf1, ρ1, n1.rp, af1⟩
  | false => exact fin n1.rp af1 rfl
theorem fw_or (ha : PT X a (tT G p)) (hb : PW X (.BoolOp .Or (b :: rest) pos) (tT G q)) : PW X (.BoolOp .Or (a :: b :: rest) pos) (tT G (tOrM p q)) := by
  refine (pw_or ha hb).imp fun σ H Q ⟨Hf, ρ, rp, af⟩ => ?_
  refine (step rp af).mono fun x H1 ⟨d, Hf1, ρ1, n1, ra, af1⟩ => ?_
  subst ra
  cases x with
  | false => exact ⟨Hf1, ρ1, n1.rp, af1⟩
  | true => exact fin n1.rp af1 rfl
theorem ft_not (ha : PT X a (tT G p)) : PT X (.UnaryOp .Not a pos) (tT G (tNotM p)) := by
  refine (pt_not ha).imp fun σ H Q ⟨Hf, ρ, rp, af⟩ => ?_
  refine (step rp af).mono fun x H1 ⟨d, Hf1, ρ1, n1, ra, af1⟩ => ?_
  subst ra
  exact fin n1.rp af1 rfl
@[simp] def vAnd (f g : M D) : M D := fun ρ => (bnd f fun d => bnd (opt (asB d)) fun c => if c = true then g else ret (.bool false)) ρ
@[simp] def vOr (f g : M D) : M D := fun ρ => (bnd f fun d => bnd (opt (asB d)) fun c => if c = true then ret (.bool true) else g) ρ
@[simp] def vNot (f : M D) : M D := fun ρ => (bnd f fun d => bnd (opt (asB d)) fun c => ret (.bool (!c))) ρ
theorem optB {K : Bool → M D} {σ : St} {ρ : Rho} {Hf H : Hp} {Q : VK} {d : D} (af : AfG G Rep σ ρ Hf H Q (bnd (opt (asB d)) K ρ)) : ∃ c, d = .bool c ∧ AfG G Rep σ ρ Hf H Q (K c ρ) := by
  cases d <;> first | exact af.elim | exact ⟨_, rfl, af⟩
theorem fe_and (ha : PE X a (tE G f)) (hb : PE X (.BoolOp .And (b :: rest) pos) (tE G g)) : PE X (.BoolOp .And (a :: b :: rest) pos) (tE G (vAnd f g)) := by
  refine (pe_and ha hb).imp fun σ H Q ⟨Hf, ρ, rp, af⟩ => ?_
  refine (step rp af).mono fun x H1 ⟨d, Hf1, ρ1, n1, ra, af1⟩ => ?_
  obtain ⟨c, rfl, af2⟩ := optB af1
  refine ⟨c, rep_bool ra, ?_⟩
  cases c with
  | true => exact ⟨Hf1, ρ1, n1.rp, af2⟩
  | false => exact fin n1.rp af2 (.bl false)
theorem fe_one {op : BoolOp} (h : PE X a (tE G f)) : PE X (.BoolOp op [a] pos) (tE G f) := pe_one h
@[simp] def fIf (p : M Bool) (f g : M D) : M D := fun ρ => (bnd p fun c => if c = true then f else g) ρ
@[simp] def fin1 {α : Type} (A : Opd) (a : D) (k : D → Option α) : M α := fun ρ => match A.at a ρ with
  | some x => opt (k x) ρ
  | none => .bad
theorem fin1_some {α β : Type} {R : Hp → β → α → Prop} {σ : St} {ρ : Rho} {Hf H : Hp} {Q : β → Hp → Prop} {a : D} {k : D → Option α} (af : AfG G R σ ρ Hf H Q (fin1 A a k ρ)) : ∃ x, A.at a ρ = some x ∧ AfG G R σ ρ Hf H Q (opt (k x) ρ) := by
  unfold fin1 at af
  cases e1 : A.at a ρ with
  | none => rw [e1] at af; exact af.elim
  | some x => rw [e1] at af; exact ⟨x, rfl, af⟩
@[simp] def fUn (o : D → Option D) (A : Opd) : M D := fun ρ => (bnd A.go fun a => fin1 A a o) ρ
def RdU (r : V → Hp → VK → Prop) (o : D → Option D) : Prop := ∀ (Hf H : Hp) (x : V) (a d : D), Same Hf H → R1 Hf H x a → o a = some d → ∃ v, Rep Hf v d ∧ ∀ Q : VK, Q v H → r x H Q
theorem rd_un {r : V → Hp → VK → Prop} {o : D → Option D} (hr : RdU r o) (σ : St) (H : Hp) (Q : VK) (h : tE G (fUn o A) σ H Q) : A.t G σ H fun x H1 => r x H1 Q := by
  obtain ⟨Hf, ρ, rp, af⟩ := h
  refine Opd.run (stepO rp af) fun x H1 ⟨a, Hf1, ρ1, n1, ra, af1⟩ => ?_
  obtain ⟨a', ea, af2⟩ := fin1_some af1
  obtain ⟨d, e, k⟩ := finO n1.rp af2
  obtain ⟨v, dv, hq⟩ := hr Hf1 H1 x a' d n1.rp.sub (Opd.end n1.rp ra ea) e
  exact hq Q (k v dv)
@[simp] def isN : D → Bool
  | .none => true
  | _ => false
@[simp] def oIsN (d : D) : Option D := some (.bool (isN d))
@[simp] def oNotN (d : D) : Option D := some (.bool (!isN d))
theorem r1_isN {Hf H : Hp} {x : V} {d : D} (h : R1 Hf H x d) : decide (x = .non) = isN d := by
  rcases h with h | ⟨p, vs, ds, rfl, rfl, _⟩
  · cases h <;> rfl
  · rfl
theorem rd_isN : RdU (fun x H Q => Q (.bl (decide (x = V.non))) H) oIsN := by
  intro Hf H x a d _ ha e
  cases e
  exact ⟨_, .bl _, fun Q q => by dsimp only; rw [r1_isN ha]; exact q⟩
theorem fe_isN {j : Nat} {p1 : Pos} (ha : PE X a (A.t G)) : PE X (.Compare a [.Is] [.Constant .none j p1] pos) (tE G (fUn oIsN A)) :=
  (pe_cmpR op_isN ha pe_non (nomark _)).imp fun σ H Q h => Opd.run (rd_un rd_isN σ H Q h) fun x H1 q => ⟨rfl, q⟩
theorem ft_isN {j : Nat} {p1 : Pos} (ha : PE X a (A.t G)) : PT X (.Compare a [.Is] [.Constant .none j p1] pos) (tT G (fB (fUn oIsN A))) :=
  (pt_cmpR op_isN ha pe_non (nomark _)).imp fun σ H Q h => Opd.run (rd_un rd_isN σ H _ (rd_B σ H Q h)) fun x H1 q => ⟨rfl, q⟩
@[simp] def oNeg : D → Option D
  | .int i => some (.int (-i))
  | _ => none
@[simp] def fNil : M (List D) := fun ρ => (ret []) ρ
@[simp] def fCons (f : M D) (fs : M (List D)) : M (List D) := fun ρ => (bnd f fun d => bnd fs fun ds => ret (d :: ds)) ρ
theorem fa_nil : PA X [] (tA G fNil) := pa_nil.imp fun σ H Q ⟨Hf, ρ, rp, af⟩ => fin rp af .nil
theorem fa_cons (ha : PE X e (tE G f)) (hr : PA X es (tA G fs)) (hs : starEach (e :: es) X.env = (false, eval e X.env) :: starEach es X.env := by rfl) : PA X (e :: es) (tA G (fCons f fs)) := by
  refine (pa_cons ha hr hs).imp fun σ H Q ⟨Hf, ρ, rp, af⟩ => ?_
  refine (step rp af).mono fun x H1 ⟨d, Hf1, ρ1, n1, ra, af1⟩ => (step n1.rp af1).mono fun y H2 ⟨ds, Hf2, ρ2, n2, rb, af2⟩ => ?_
  exact fin n2.rp af2 (.cons (rep_same n2.sub ra) rb)
theorem repA_len {H : Hp} {vs : List V} {ds : List D} (h : RepA H vs ds) : vs.length = ds.length := by
  induction ds generalizing vs with
  | nil => cases h; rfl
  | cons d ds ih => cases h with | cons _ h => simp [ih h]
def small (n : Nat) : Bool := decide (n ≤ 100000)
theorem small_le {n : Nat} (h : small n = true) : n ≤ sizeLine := Nat.le_trans (of_decide_eq_true h) (by decide)
theorem small_lt {n : Nat} (h : small n = true) : n < sizeLine := Nat.lt_of_le_of_lt (of_decide_eq_true h) (by decide)
def mkT (ds : List D) : Option D := if small ds.length then some (.tuple ds) else none
@[simp] def fTup (fs : M (List D)) : M D := fun ρ => (bnd fs fun ds => opt (mkT ds)) ρ
theorem AfG.new {α β : Type} {R : Hp → β → α → Prop} {σ : St} {ρ : Rho} {Hf H : Hp} {Q : β → Hp → Prop} {a : α} (rp : Rp Hf H σ ρ) (af : AfG G R σ ρ Hf H Q (ret a ρ)) {p : Addr} {o : HO} (hp : H p = none) {x : β} (r : R (upd Hf p o) x a) (ho : NT o := by first | exact NT.lst | exact NT.tup) : Q x (upd H p o) := af x _ _ (rp.new hp ho) r
theorem fe_tup {k : Nat} (h : PA X es (tA G fs)) : PE X (.Tuple es k pos) (tE G (fTup fs)) := by
  refine (pe_tup h).imp fun σ H Q ⟨Hf, ρ, rp, af⟩ => ?_
  refine (step rp af).mono fun x H1 ⟨ds, Hf1, ρ1, n1, ra, af1⟩ => ?_
  unfold mkT at af1
  split at af1
  · rename_i hs
    refine ⟨by rw [repA_len ra]; exact small_le hs, fun p hp => ?_⟩
    exact AfG.new (R := Rep) (a := PyData.tuple ds) n1.rp af1 hp (Rep.tup upd_same (repA_same (same_new (n1.rp.sub.free hp)) ra))
  · exact af1.elim
def AfL (G : Gx) (σ : St) (ρ : Rho) (Hf H : Hp) (Q : VK) : Res (List D) → Prop
  | .ok (ds, ρ') => ∀ p vs Hf' H', Nxt G.q σ ρ Hf H σ ρ' Hf' H' → Fre H σ ρ p → Hf' p = none → ¬ OwnA H' σ ρ' p → H' p = some (.lst vs) → RepA Hf' vs ds → Q (.ref p) H'
  | .exc c ρ' => ∀ Hf' H', Nxt G.q σ ρ Hf H σ ρ' Hf' H' → G.W (.ref (G.cA c)) none σ H'
  | .bad => False
def tL (G : Gx) (f : M (List D)) : TE := fun σ H Q => ∃ Hf ρ, Rp Hf H σ ρ ∧ AfL G σ ρ Hf H Q (f ρ)
theorem AfL.later {σ : St} {ρ ρ1 : Rho} {Hf H Hf1 H1 : Hp} {Q : VK} (n : Nxt G.q σ ρ Hf H σ ρ1 Hf1 H1) : ∀ {o : Res (List D)}, AfL G σ ρ Hf H Q o → AfL G σ ρ1 Hf1 H1 Q o
  | .ok (a, ρ'), q => fun p vs Hf' H' n' hp h1 h2 h3 r => q p vs Hf' H' (n.trans n') (hp.back n) h1 h2 h3 r
  | .exc c ρ', q => fun Hf' H' n' => q Hf' H' (n.trans n')
  | .bad, q => q
theorem stepL {α γ : Type} {R1 : Hp → α → γ → Prop} {σ : St} {ρ : Rho} {Hf H : Hp} {Q : VK} {g : M γ} {k : γ → M (List D)} (rp : Rp Hf H σ ρ) (af : AfL G σ ρ Hf H Q (bnd g k ρ)) :
    tG G R1 g σ H fun y H1 => ∃ b Hf1 ρ1, Nxt G.q σ ρ Hf H σ ρ1 Hf1 H1 ∧ R1 Hf1 y b ∧ AfL G σ ρ1 Hf1 H1 Q (k b ρ1) := by
  refine ⟨Hf, ρ, rp, ?_⟩
  unfold bnd at af
  cases e : g ρ with
  | ok p =>
    obtain ⟨b, ρ1⟩ := p
    rw [e] at af
    exact fun x Hf1 H1 n r => ⟨b, Hf1, ρ1, n, r, af.later n⟩
  | exc c ρ1 => rw [e] at af; exact af
  | bad => rw [e] at af; exact af
theorem Rp.notOwn {σ : St} {ρ : Rho} {Hf H : Hp} (rp : Rp Hf H σ ρ) {p : Addr} (hp : H p = none) : ¬ OwnA H σ ρ p := fun z => by
  obtain ⟨_, vs, h, _⟩ := rp.own z
  rw [h] at hp
  cases hp
theorem Rp.notLk {σ : St} {ρ : Rho} {Hf H : Hp} (rp : Rp Hf H σ ρ) {p : Addr} (hp : H p = none) : ¬ LkA H σ ρ p := fun z => by
  obtain ⟨vs, h, _⟩ := rp.lka z
  rw [h] at hp
  cases hp
theorem Rp.notOwnU {σ : St} {ρ : Rho} {Hf H : Hp} (rp : Rp Hf H σ ρ) {p : Addr} {o : HO} (hp : H p = none) : ¬ OwnA (upd H p o) σ ρ p := fun ⟨i, z⟩ => rp.notOwn hp ⟨i, (rp.ownI_iff (fun b y => upd_ne (fun (e : b = p) => rp.notOwn hp (by rw [← e]; exact ⟨i, y⟩))) p).mp z⟩
theorem finL {σ : St} {ρ : Rho} {Hf H : Hp} {Q : VK} {ds : List D} (rp : Rp Hf H σ ρ) (af : AfL G σ ρ Hf H Q (ret ds ρ)) {p : Addr} {vs : List V} (hp : H p = none) (r : RepA Hf vs ds) : Q (.ref p) (upd H p (.lst vs)) :=
  af p vs _ _ (rp.newO hp) (.inl hp) (rp.sub.free hp) (rp.notOwnU hp) upd_same r
@[simp] def fLst (f : M (List D)) : M D := fun ρ => (bnd f fun ds => ret (.list ds)) ρ
theorem Nxt.take {q : Bool} {σ : St} {ρ ρ0 : Rho} {Hf H Hf0 H0 : Hp} (n : Nxt q σ ρ0 Hf0 H0 σ ρ Hf H) {p : Addr} {vs : List V} {ds : List D} (h0 : Fre H0 σ ρ0 p) (hp : Hf p = none) (no : ¬ OwnA H σ ρ p) (h : H p = some (.lst vs)) (r : RepA Hf vs ds) : Nxt q σ ρ0 Hf0 H0 σ ρ (upd Hf p (.lst vs)) H ∧ Rep (upd Hf p (.lst vs)) (.ref p) (.list ds) := by
  have e1 : Same Hf (upd Hf p (.lst vs)) := same_new hp
  have rp := n.rp
  refine ⟨⟨n.sub.trans e1, n.keep, n.os, n.ls, n.dom, fun a z => (n.fr a z).elim (fun q => (by
    by_cases w : a = p
    · exact .inr (w ▸ h0)
    · exact .inl (by rw [upd_ne w]; exact q))) .inr, n.qt, rp.grow e1 (fun b x q => ?_) rp.tb (rp.nt.upd NT.lst) (fun a z => ⟨?_, rfl⟩) fun _ _ => rfl⟩, .lst upd_same (repA_same e1 r)⟩
  · by_cases z : b = p
    · subst z
      rw [upd_same] at q
      rw [h]
      exact q
    · rw [upd_ne z] at q
      exact rp.sub _ _ q
  · have ne : a ≠ p := fun q => no (q ▸ z)
    rw [upd_ne ne]
    exact (rp.own z).1
theorem fe_ofL {f : M (List D)} (h : PE X e (tL G f)) : PE X e (tE G (fLst f)) := by
  refine h.imp fun σ H Q ⟨Hf, ρ, rp, af⟩ => ⟨Hf, ρ, rp, ?_⟩
  unfold fLst bnd at af
  cases e : f ρ with
  | ok x =>
    obtain ⟨ds, ρ1⟩ := x
    rw [e] at af
    intro p vs Hf' H' n hp h1 h2 h3 r
    obtain ⟨n2, r2⟩ := n.take hp h1 h2 h3 r
    exact af _ _ _ n2 r2
  | exc c ρ1 => rw [e] at af; exact af
  | bad => rw [e] at af; exact af
def mkL (ds : List D) : Option (List D) := if small ds.length then some ds else none
@[simp] def fLs (fs : M (List D)) : M (List D) := fun ρ => (bnd fs fun ds => opt (mkL ds)) ρ
theorem fl_lst (h : PA X es (tA G fs)) : PE X (.List es pos) (tL G (fLs fs)) := by
  refine (pe_lst h).imp fun σ H Q ⟨Hf, ρ, rp, af⟩ => ?_
  refine (stepL rp af).mono fun x H1 ⟨ds, Hf1, ρ1, n1, ra, af1⟩ => ?_
  unfold mkL at af1
  split at af1
  · rename_i hs
    exact ⟨by rw [repA_len ra]; exact small_le hs, fun p hp => finL n1.rp af1 hp ra⟩
  · exact af1.elim
end
end Fx
namespace Fx
open PySem L2
variable [Tabz]
section
variable {X : Cx} {G : Gx} {e a b : Expr} {es : List Expr} {f g : M D} {fs : M (List D)} {pos : Pos} {A B : Opd}
theorem repA_get {H : Hp} : ∀ {vs : List V} {ds : List D} {j : Nat} {d : D}, RepA H vs ds → ds[j]? = some d → ∃ v, vs[j]? = some v ∧ Rep H v d
  | _, _, _, _, .nil, e => by simp at e
  | _, _, 0, _, .cons h _, e => by
    have q := Option.some.inj e
    subst q
    exact ⟨_, rfl, h⟩
  | _, _, j + 1, d, .cons _ t, e => by
    obtain ⟨v, h1, h2⟩ := repA_get (j := j) (d := d) t e
    exact ⟨v, h1, h2⟩
theorem repA_at {H : Hp} {vs : List V} {ds : List D} {i : Int} {d : D} (h : RepA H vs ds) (e : atI ds i = some d) : ∃ v, atI vs i = some v ∧ Rep H v d := by
  unfold atI at e ⊢
  rw [repA_len h]
  cases q : ixN ds.length i with
  | none => rw [q] at e; cases e
  | some j =>
    rw [q] at e
    exact repA_get (j := j) (d := d) h e
@[simp] def oIx : D → D → Option D
  | .list ds, .int i => atI ds i
  | .tuple ds, .int i => atI ds i
  | .str z, .int i => if small z.length then (atI z.cps.toList i).map fun c => .str ⟨#[c]⟩ else none
  | _, _ => none
theorem rd_ix {K : PySem.W.Frag} : RdO (rIx K) oIx := by
  intro Hf H x y a b d sm ha hb e
  cases a <;> cases b <;> simp only [oIx, reduceCtorEq] at e <;> cases hb.int
  · cases ha.str
    split at e
    · rename_i z i hs
      cases q : atI z.cps.toList i with
      | none => rw [q] at e; cases e
      | some c =>
        rw [q] at e
        cases e
        exact ⟨_, .str _, fun Q k => .inr (.inr ⟨_, _, _, rfl, rfl, small_le hs, q, k⟩)⟩
    · cases e
  · obtain ⟨p, vs, rfl, h1, h2⟩ := ha.lst sm
    obtain ⟨v, e1, r⟩ := repA_at h2 e
    exact ⟨v, r, fun Q q => .inl ⟨_, _, _, _, rfl, rfl, SqL.of h1, e1, q⟩⟩
  · obtain ⟨p, vs, rfl, h1, h2⟩ := ha.tup sm
    obtain ⟨v, e1, r⟩ := repA_at h2 e
    exact ⟨v, r, fun Q q => .inr (.inl ⟨_, _, _, _, rfl, rfl, SqT.of h1, e1, q⟩)⟩
theorem fe_ix (ha : PE X a (A.t G)) (hb : PE X b (B.t G)) (hs : PlainIx b := by exact fun _ _ => rfl) (hqa : A.qok G := by first | exact True.intro | rfl) : PE X (.Subscript a b pos) (tE G (fOp oIx A B)) := (pe_ix ix_seq ha hb hs).imp (rd_op hqa rd_ix)
@[simp] def Opd.isP : Opd → Bool
  | .e _ => false
  | .v _ => false
  | .p _ => true
@[simp] def goAll : List Opd → M (List D)
  | [] => ret []
  | A :: As => fun ρ => if (A.isP && !As.isEmpty) = true then .bad else (bnd A.go fun a => bnd (goAll As) fun as => ret (a :: as)) ρ
@[simp] def atAll : List Opd → List D → Rho → Option (List D)
  | [], [], _ => some []
  | A :: As, a :: as, ρ => (match A.at a ρ with
    | some x => (atAll As as ρ).map (x :: ·)
    | none => none)
  | _, _, _ => none
def tAll (G : Gx) : List Opd → TA
  | [] => tNil
  | A :: As => tCons (A.t G) (tAll G As)
def rAll1 : List Opd → St → Rho → Hp → Hp → List V → List D → Prop
  | [], _, _, _, _, [], [] => True
  | A :: As, σ, ρ, Hf, H, v :: vs, d :: ds => A.r σ ρ Hf H v d ∧ rAll1 As σ ρ Hf H vs ds
  | _, _, _, _, _, _, _ => False
inductive R1A (Hf H : Hp) : List V → List D → Prop
  | nil : R1A Hf H [] []
  | cons {v : V} {vs : List V} {d : D} {ds : List D} : R1 Hf H v d → R1A Hf H vs ds → R1A Hf H (v :: vs) (d :: ds)
theorem rAll1_end {σ : St} {ρ : Rho} {Hf H : Hp} (rp : Rp Hf H σ ρ) : ∀ {As : List Opd} {vs : List V} {ds xs : List D}, rAll1 As σ ρ Hf H vs ds → atAll As ds ρ = some xs → R1A Hf H vs xs
  | [], [], [], xs, _, e => by cases e; exact .nil
  | A :: As, v :: vs, d :: ds, xs, h, e => by
    unfold atAll at e
    cases e1 : A.at d ρ with
    | none => rw [e1] at e; cases e
    | some x =>
      rw [e1] at e
      dsimp only at e
      cases e2 : atAll As ds ρ with
      | none => rw [e2] at e; cases e
      | some ys =>
        rw [e2] at e
        cases e
        exact .cons (Opd.end rp h.1 e1) (rAll1_end rp h.2 e2)
theorem bnd_assoc {α β γ : Type} {f : M α} {g : α → M β} {k : β → M γ} : bnd (bnd f g) k = bnd f fun a => bnd (g a) k := by
  funext ρ
  show (match (match f ρ with
    | .ok (a, ρ1) => g a ρ1
    | .exc c ρ1 => .exc c ρ1
    | .bad => .bad) with
    | .ok (a, ρ1) => k a ρ1
    | .exc c ρ1 => .exc c ρ1
    | .bad => .bad) = _
  unfold bnd
  cases f ρ <;> rfl
theorem tAll_mono {σ : St} {Q Q' : List V → Hp → Prop} (h : ∀ x H, Q x H → Q' x H) : ∀ {As : List Opd} {H : Hp}, tAll G As σ H Q → tAll G As σ H Q'
  | [], H, t => h _ _ t
  | A :: As, H, t => Opd.run (A := A) (Q := fun x H1 => tAll G As σ H1 fun xs H2 => Q (x :: xs) H2) t fun x H1 q => tAll_mono (Q := fun xs H2 => Q (x :: xs) H2) (Q' := fun xs H2 => Q' (x :: xs) H2) (fun ys H2 w => h _ _ w) q
theorem all_run {α : Type} {σ : St} {P : Rho → Hp → Hp → Res α → Prop} (hbad : ∀ {ρ Hf H}, ¬ P ρ Hf H .bad) (hl : ∀ {ρ ρ1 Hf H Hf1 H1 o}, Nxt G.q σ ρ Hf H σ ρ1 Hf1 H1 → P ρ Hf H o → P ρ1 Hf1 H1 o)
    (he : ∀ {ρ Hf H} {A : Opd} {k : D → M α}, Rp Hf H σ ρ → P ρ Hf H (bnd A.go k ρ) → A.t G σ H fun y H1 => ∃ b Hf1 ρ1, Nxt G.q σ ρ Hf H σ ρ1 Hf1 H1 ∧ A.r σ ρ1 Hf1 H1 y b ∧ P ρ1 Hf1 H1 (k b ρ1)) :
    ∀ {As : List Opd} {ρ : Rho} {Hf H : Hp} {k : List D → M α}, Rp Hf H σ ρ → P ρ Hf H (bnd (goAll As) k ρ) → tAll G As σ H fun ys H1 => ∃ bs Hf1 ρ1, Nxt G.q σ ρ Hf H σ ρ1 Hf1 H1 ∧ rAll1 As σ ρ1 Hf1 H1 ys bs ∧ P ρ1 Hf1 H1 (k bs ρ1)
  | [], ρ, Hf, H, k, rp, af => ⟨[], Hf, ρ, .refl rp, True.intro, af⟩
  | A :: As, ρ, Hf, H, k, rp, af => by
    cases hb : (A.isP && !As.isEmpty) with
    | true =>
      have e : bnd (goAll (A :: As)) k ρ = .bad := by
        simp only [bnd, goAll, hb, if_true]
      rw [e] at af
      exact absurd af hbad
    | false =>
    have e : bnd (goAll (A :: As)) k ρ = bnd A.go (fun a => bnd (goAll As) fun as => k (a :: as)) ρ := by
      have e1 : goAll (A :: As) = bnd A.go fun a => bnd (goAll As) fun as => ret (a :: as) := by
        funext ρ
        simp only [goAll, hb, Bool.false_eq_true, if_false]
      rw [e1]
      show bnd (bnd A.go fun a => bnd (goAll As) fun as => ret (a :: as)) k ρ = _
      rw [bnd_assoc]
      congr 1
      funext a
      rw [bnd_assoc]
      rfl
    rw [e] at af
    refine Opd.run (he rp af) fun x H1 ⟨a, Hf1, ρ1, n1, ra, af1⟩ => ?_
    cases As with
    | nil => exact ⟨[a], Hf1, ρ1, n1, ⟨ra, True.intro⟩, af1⟩
    | cons B Bs =>
      have hA : A.qok G := by
        cases A with
        | e _ => exact True.intro
        | v _ => exact True.intro
        | p _ => cases hb
      refine tAll_mono ?_ (all_run (P := P) hbad hl he n1.rp af1)
      rintro ys H2 ⟨bs, Hf2, ρ2, n2, rb, af2⟩
      exact ⟨a :: bs, Hf2, ρ2, n1.trans n2, ⟨Opd.keep hA n1.rp n2 ra, rb⟩, af2⟩
theorem stepA {α β : Type} {R : Hp → β → α → Prop} {σ : St} {Q : β → Hp → Prop} {As : List Opd} {ρ : Rho} {Hf H : Hp} {k : List D → M α} (rp : Rp Hf H σ ρ) (af : AfG G R σ ρ Hf H Q (bnd (goAll As) k ρ)) :
    tAll G As σ H fun ys H1 => ∃ bs Hf1 ρ1, Nxt G.q σ ρ Hf H σ ρ1 Hf1 H1 ∧ rAll1 As σ ρ1 Hf1 H1 ys bs ∧ AfG G R σ ρ1 Hf1 H1 Q (k bs ρ1) :=
  all_run (P := fun ρ Hf H o => AfG G R σ ρ Hf H Q o) (fun z => z) (fun n q => q.later n) (fun rp q => stepO rp q) rp af
@[simp] def finA {α : Type} (As : List Opd) (as : List D) (k : List D → Option α) : M α := fun ρ => match atAll As as ρ with
  | some xs => opt (k xs) ρ
  | none => .bad
@[simp] def fCB (o : List D → Option D) (As : List Opd) : M D := fun ρ => (bnd (goAll As) fun as => finA As as o) ρ
def RdC (r : List V → Hp → VK → Prop) (o : List D → Option D) : Prop := ∀ (Hf H : Hp) (xs : List V) (as : List D) (d : D), Same Hf H → R1A Hf H xs as → o as = some d → ∃ v, Rep Hf v d ∧ ∀ Q : VK, Q v H → r xs H Q
theorem finA_some {α β : Type} {R : Hp → β → α → Prop} {σ : St} {ρ : Rho} {Hf H : Hp} {Q : β → Hp → Prop} {As : List Opd} {as : List D} {k : List D → Option α} (af : AfG G R σ ρ Hf H Q (finA As as k ρ)) : ∃ xs, atAll As as ρ = some xs ∧ AfG G R σ ρ Hf H Q (opt (k xs) ρ) := by
  unfold finA at af
  cases e1 : atAll As as ρ with
  | none => rw [e1] at af; exact af.elim
  | some x => rw [e1] at af; exact ⟨x, rfl, af⟩
variable {As : List Opd}
theorem rd_CB {r : List V → Hp → VK → Prop} {o : List D → Option D} (hr : RdC r o) (σ : St) (H : Hp) (Q : VK) (h : tE G (fCB o As) σ H Q) : tCB r (tAll G As) σ H Q := by
  obtain ⟨Hf, ρ, rp, af⟩ := h
  refine tAll_mono ?_ (stepA rp af)
  rintro xs H1 ⟨as, Hf1, ρ1, n1, ra, af1⟩
  obtain ⟨as', ea, af2⟩ := finA_some af1
  obtain ⟨d, e, k⟩ := finO n1.rp af2
  obtain ⟨v, dv, hq⟩ := hr Hf1 H1 xs as' d n1.rp.sub (rAll1_end n1.rp ra ea) e
  exact hq Q (k v dv)
theorem fe_callB {r : List V → Hp → VK → Prop} {o : List D → Option D} {x : Str} {p : Pos} {id : String} (hc : CallR X (.builtin id) r) (hr : RdC r o) (hg : Gl X x) (hm : X.mg x = none) (hv : bootBuiltins x = some (.builtin id)) (ha : PA X (e :: es) (tAll G As)) (hn : x ≠ "__name__" := by decide) (hdb : (x == ("__debug__" : Str)) = false := by decide)
    (he : starEach (e :: es) X.env = (false, eval e X.env) :: starEach es X.env := by rfl) (hpl : (backTo pos (starEach es X.env)).any (·.1) = false := by rfl) : PE X (.Call (.Name x p) (e :: es) [] pos) (tE G (fCB o As)) := (pe_callB hc hg hm hv ha hn hdb he hpl).imp (rd_CB hr)
@[simp] def oLen : List D → Option D
  | [.list ds] => some (.int ds.length)
  | [.tuple ds] => some (.int ds.length)
  | [.str z] => if small z.length then some (.int z.length) else none
  | _ => none
theorem rd_len {K : PySem.W.Frag} : RdC (fun xs H Q => ∃ x n, xs = [x] ∧ LenV K x H n ∧ Q (.int n) H) oLen := by
  intro Hf H xs as d sm ra e
  unfold oLen at e
  split at e
  · cases e
    cases ra with
    | cons h t => cases t; obtain ⟨p, vs, rfl, h1, h2⟩ := h.lst sm; exact ⟨_, .int _, fun Q q => ⟨_, _, rfl, .inl ⟨_, SqL.of h1, (repA_len h2).symm⟩, q⟩⟩
  · cases e
    cases ra with
    | cons h t => cases t; obtain ⟨p, vs, rfl, h1, h2⟩ := h.tup sm; exact ⟨_, .int _, fun Q q => ⟨_, _, rfl, .inr ⟨_, SqT.of h1, (repA_len h2).symm⟩, q⟩⟩
  · split at e
    · rename_i hs
      cases e
      cases ra with
      | cons h t => cases t; cases h.str; exact ⟨_, .int _, fun Q q => ⟨_, _, rfl, ⟨small_le hs, rfl⟩, q⟩⟩
    · cases e
  · cases e
theorem fe_len {p : Pos} (hg : Gl X "len") (hm : X.mg "len" = none) (ha : PA X [e] (tAll G As)) (he : starEach [e] X.env = (false, eval e X.env) :: starEach [] X.env := by rfl) (hpl : (backTo pos (starEach [] X.env)).any (·.1) = false := by rfl) : PE X (.Call (.Name "len" p) [e] [] pos) (tE G (fCB oLen As)) :=
  fe_callB call_len rd_len hg hm PySem.boot_len ha (by decide) (by decide) he hpl
@[simp] def oMax2 : List D → Option D
  | [.int i, .int j] => some (.int (if j > i then j else i))
  | _ => none
@[simp] def oMin2 : List D → Option D
  | [.int i, .int j] => some (.int (if j < i then j else i))
  | _ => none
def asInts : List D → Option (List Int)
  | [] => some []
  | .int i :: r => (asInts r).map (i :: ·)
  | _ => none
def asBools : List D → Option (List Bool)
  | [] => some []
  | .bool i :: r => (asBools r).map (i :: ·)
  | _ => none
theorem asInts_rep {H : Hp} : ∀ {vs : List V} {ds : List D} {ns : List Int}, RepA H vs ds → asInts ds = some ns → vs = ns.map V.int
  | _, [], _, .nil, e => by cases e; rfl
  | _, .int i :: r, ns, .cons h t, e => by
    simp only [asInts] at e
    cases q : asInts r with
    | none => rw [q] at e; cases e
    | some ms =>
      rw [q] at e
      cases e
      cases h
      rw [asInts_rep t q]
      rfl
theorem asBools_rep {H : Hp} : ∀ {vs : List V} {ds : List D} {ns : List Bool}, RepA H vs ds → asBools ds = some ns → vs = ns.map V.bl
  | _, [], _, .nil, e => by cases e; rfl
  | _, .bool i :: r, ns, .cons h t, e => by
    simp only [asBools] at e
    cases q : asBools r with
    | none => rw [q] at e; cases e
    | some ms =>
      rw [q] at e
      cases e
      cases h
      rw [asBools_rep t q]
      rfl
@[simp] def oSum : List D → Option D
  | [.list ds] => (asInts ds).map fun ns => .int ns.sum
  | _ => none
@[simp] def oAll : List D → Option D
  | [.list ds] => (asBools ds).map fun ns => .bool (ns.all id)
  | _ => none
@[simp] def oAny : List D → Option D
  | [.list ds] => (asBools ds).map fun ns => .bool (ns.any id)
  | _ => none
theorem rd_all {K : PySem.W.Frag} : RdC (rAll K) oAll := by
  intro Hf H xs as d sm ra e
  match as, ra, e with
  | [.list ds], .cons h1 .nil, e =>
    simp only [oAll] at e
    cases q : asBools ds with
    | none => rw [q] at e; cases e
    | some ns =>
      rw [q] at e; cases e
      obtain ⟨p, vs, rfl, h2, h3⟩ := h1.lst sm
      exact ⟨_, .bl _, fun Q k => ⟨_, ns, rfl, by rw [← asBools_rep h3 q]; exact SqL.of h2, k⟩⟩
theorem rd_any {K : PySem.W.Frag} : RdC (rAny K) oAny := by
  intro Hf H xs as d sm ra e
  match as, ra, e with
  | [.list ds], .cons h1 .nil, e =>
    simp only [oAny] at e
    cases q : asBools ds with
    | none => rw [q] at e; cases e
    | some ns =>
      rw [q] at e; cases e
      obtain ⟨p, vs, rfl, h2, h3⟩ := h1.lst sm
      exact ⟨_, .bl _, fun Q k => ⟨_, ns, rfl, by rw [← asBools_rep h3 q]; exact SqL.of h2, k⟩⟩
theorem fe_all {p : Pos} (hc : X.calm = true) (hg : Gl X "all") (hm : X.mg "all" = none) (ha : PA X (e :: es) (tAll G As)) (he : starEach (e :: es) X.env = (false, eval e X.env) :: starEach es X.env := by rfl) (hpl : (backTo pos (starEach es X.env)).any (·.1) = false := by rfl) : PE X (.Call (.Name "all" p) (e :: es) [] pos) (tE G (fCB oAll As)) := fe_callB (cr_all hc) rd_all hg hm (by decide +kernel) ha (by decide) (by decide) he hpl
theorem fe_any {p : Pos} (hc : X.calm = true) (hg : Gl X "any") (hm : X.mg "any" = none) (ha : PA X (e :: es) (tAll G As)) (he : starEach (e :: es) X.env = (false, eval e X.env) :: starEach es X.env := by rfl) (hpl : (backTo pos (starEach es X.env)).any (·.1) = false := by rfl) : PE X (.Call (.Name "any" p) (e :: es) [] pos) (tE G (fCB oAny As)) := fe_callB (cr_any hc) rd_any hg hm (by decide +kernel) ha (by decide) (by decide) he hpl
end
end Fx
namespace Fx
open PySem L2
variable [Tabz]
section
variable {X : Cx} {G : Gx} {e a b : Expr} {es : List Expr} {f g : M D} {fs : M (List D)} {pos : Pos} {A B : Opd} {As : List Opd}
inductive Ext (Hf H : Hp) : Hp → Hp → Prop
  | same : Ext Hf H Hf H
  | new {p : Addr} {o : HO} (h : H p = none) (ho : NT o := by first | exact NT.lst | exact NT.tup) : Ext Hf H (upd Hf p o) (upd H p o)
theorem Rp.ext {q : Bool} {σ : St} {ρ : Rho} {Hf H Hf' H' : Hp} (rp : Rp Hf H σ ρ) (x : Ext Hf H Hf' H') : Nxt q σ ρ Hf H σ ρ Hf' H' := by
  cases x with
  | same => exact .refl rp
  | new h ho => exact rp.new h ho
def RdX (r : List V → Hp → VK → Prop) (o : List D → Option D) : Prop := ∀ (Hf H : Hp) (xs : List V) (as : List D) (d : D), Same Hf H → R1A Hf H xs as → o as = some d → ∀ Q : VK, (∀ v Hf' H', Ext Hf H Hf' H' → Rep Hf' v d → Q v H') → r xs H Q
theorem rd_CX {r : List V → Hp → VK → Prop} {o : List D → Option D} (hr : RdX r o) (σ : St) (H : Hp) (Q : VK) (h : tE G (fCB o As) σ H Q) : tCB r (tAll G As) σ H Q := by
  obtain ⟨Hf, ρ, rp, af⟩ := h
  refine tAll_mono ?_ (stepA rp af)
  rintro xs H1 ⟨as, Hf1, ρ1, n1, ra, af1⟩
  obtain ⟨as', ea, af2⟩ := finA_some af1
  unfold opt at af2
  cases e : o as' with
  | none => rw [e] at af2; exact af2.elim
  | some d =>
    rw [e] at af2
    exact hr Hf1 H1 xs as' d n1.rp.sub (rAll1_end n1.rp ra ea) e Q fun v Hf' H' z rv => af2 v Hf' H' (n1.rp.ext z) rv
theorem fe_callTyX {r : List V → Hp → VK → Prop} {o : List D → Option D} {x : Str} {p : Pos} {T : String} (hc : CallR X (.type T) r) (hr : RdX r o) (hg : Gl X x) (hm : X.mg x = none) (hv : bootBuiltins x = some (.type T)) (ha : PA X (e :: es) (tAll G As)) (hn : x ≠ "__name__" := by decide) (hdb : (x == ("__debug__" : Str)) = false := by decide)
    (he : starEach (e :: es) X.env = (false, eval e X.env) :: starEach es X.env := by rfl) (hpl : (backTo pos (starEach es X.env)).any (·.1) = false := by rfl) : PE X (.Call (.Name x p) (e :: es) [] pos) (tE G (fCB o As)) := (pe_callTy hc hg hm hv ha hn hdb he hpl).imp (rd_CX hr)
@[simp] def oTuple : List D → Option D
  | [.list ds] => some (.tuple ds)
  | [.tuple ds] => some (.tuple ds)
  | _ => none
theorem rd_tuple {K : PySem.W.Frag} : RdX (fun xs H Q => ∃ p ys, xs = [.ref p] ∧ ((SqL K H p ys ∧ ∀ l, H l = none → Q (.ref l) (upd H l (.tup ys))) ∨ (SqT K H p ys ∧ Q (.ref p) H))) oTuple := by
  intro Hf H xs as d sm ra e Q q
  match as, ra, e with
  | [.list ds], .cons h1 .nil, e =>
    cases e
    obtain ⟨p, vs, rfl, h2, h3⟩ := h1.lst sm
    exact ⟨_, _, rfl, .inl ⟨SqL.of h2, fun l hl => q _ _ _ (.new hl) (.tup upd_same (repA_same (same_new (sm.free hl)) h3))⟩⟩
  | [.tuple ds], .cons h1 .nil, e =>
    cases e
    have h4 := h1.rep fun _ z => nomatch z
    obtain ⟨p, vs, rfl, h2, h3⟩ := h1.tup sm
    exact ⟨_, _, rfl, .inr ⟨SqT.of h2, q _ _ _ .same h4⟩⟩
theorem fe_tuple {p : Pos} (hg : Gl X "tuple") (hm : X.mg "tuple" = none) (ha : PA X (e :: es) (tAll G As)) (he : starEach (e :: es) X.env = (false, eval e X.env) :: starEach es X.env := by rfl) (hpl : (backTo pos (starEach es X.env)).any (·.1) = false := by rfl) : PE X (.Call (.Name "tuple" p) (e :: es) [] pos) (tE G (fCB oTuple As)) := fe_callTyX call_tuple_of rd_tuple hg hm (by decide +kernel) ha (by decide) (by decide) he hpl
theorem stepOL {σ : St} {ρ : Rho} {Hf H : Hp} {Q : VK} {k : D → M (List D)} (rp : Rp Hf H σ ρ) (af : AfL G σ ρ Hf H Q (bnd A.go k ρ)) :
    A.t G σ H fun y H1 => ∃ b Hf1 ρ1, Nxt G.q σ ρ Hf H σ ρ1 Hf1 H1 ∧ A.r σ ρ1 Hf1 H1 y b ∧ AfL G σ ρ1 Hf1 H1 Q (k b ρ1) := by
  cases A with
  | e f => exact stepL rp af
  | v i =>
    unfold bnd Opd.go at af
    dsimp only at af
    cases e : look i ρ with
    | none => rw [e] at af; exact af.elim
    | some d =>
      rw [e] at af
      obtain ⟨v, h1, _⟩ := look_R1 rp e
      exact ⟨v, h1, d, Hf, ρ, .refl rp, h1, af⟩
  | p f =>
    refine ⟨Hf, ρ, rp, ?_⟩
    unfold bnd Opd.go bnd at af
    dsimp only at af
    cases e : f ρ with
    | ok x =>
      obtain ⟨p, ρ1⟩ := x
      rw [e] at af
      dsimp only at af
      intro v s Hf1 H1 n a
      unfold lookP at af
      cases e2 : (trAt p ρ1).bind lkD with
      | none => rw [e2] at af; exact af.elim
      | some d =>
        rw [e2] at af
        rw [a.trAt] at e2
        exact ⟨d, Hf1, ρ1, n, ⟨p, s, a, e2⟩, af.later n⟩
    | exc c ρ1 => rw [e] at af; exact af
    | bad => rw [e] at af; exact af
theorem stepAL {σ : St} {Q : VK} {As : List Opd} {ρ : Rho} {Hf H : Hp} {k : List D → M (List D)} (rp : Rp Hf H σ ρ) (af : AfL G σ ρ Hf H Q (bnd (goAll As) k ρ)) :
    tAll G As σ H fun ys H1 => ∃ bs Hf1 ρ1, Nxt G.q σ ρ Hf H σ ρ1 Hf1 H1 ∧ rAll1 As σ ρ1 Hf1 H1 ys bs ∧ AfL G σ ρ1 Hf1 H1 Q (k bs ρ1) :=
  all_run (P := fun ρ Hf H o => AfL G σ ρ Hf H Q o) (fun z => z) (fun n q => q.later n) (fun rp q => stepOL rp q) rp af
theorem finOL {σ : St} {ρ : Rho} {Hf H : Hp} {Q : VK} {o : Option (List D)} (rp : Rp Hf H σ ρ) (af : AfL G σ ρ Hf H Q (opt o ρ)) : ∃ ds, o = some ds ∧ ∀ p vs, H p = none → RepA Hf vs ds → Q (.ref p) (upd H p (.lst vs)) := by
  cases o with
  | none => exact af.elim
  | some ds => exact ⟨ds, rfl, fun p vs hp r => finL rp af hp r⟩
theorem finA_someL {σ : St} {ρ : Rho} {Hf H : Hp} {Q : VK} {as : List D} {k : List D → Option (List D)} (af : AfL G σ ρ Hf H Q (finA As as k ρ)) : ∃ xs, atAll As as ρ = some xs ∧ AfL G σ ρ Hf H Q (opt (k xs) ρ) := by
  unfold finA at af
  cases e1 : atAll As as ρ with
  | none => rw [e1] at af; exact af.elim
  | some x => rw [e1] at af; exact ⟨x, rfl, af⟩
theorem fin2_someL {σ : St} {ρ : Rho} {Hf H : Hp} {Q : VK} {a b : D} {k : D → D → Option (List D)} (af : AfL G σ ρ Hf H Q (fin2 A B a b k ρ)) : ∃ x y, A.at a ρ = some x ∧ B.at b ρ = some y ∧ AfL G σ ρ Hf H Q (opt (k x y) ρ) := by
  unfold fin2 at af
  cases e1 : A.at a ρ with
  | none => rw [e1] at af; exact af.elim
  | some x =>
    rw [e1] at af
    cases e2 : B.at b ρ with
    | none => simp only [e2] at af; exact False.elim af
    | some y =>
      simp only [e2] at af
      exact ⟨x, y, rfl, rfl, af⟩
def RdL (r : List V → Hp → VK → Prop) (o : List D → Option (List D)) : Prop := ∀ (Hf H : Hp) (xs : List V) (as : List D) (ds : List D), Same Hf H → R1A Hf H xs as → o as = some ds → ∀ Q : VK, (∀ p vs, H p = none → RepA Hf vs ds → Q (.ref p) (upd H p (.lst vs))) → r xs H Q
@[simp] def fLB (o : List D → Option (List D)) (As : List Opd) : M (List D) := fun ρ => (bnd (goAll As) fun as => finA As as o) ρ
theorem rd_LB {r : List V → Hp → VK → Prop} {o : List D → Option (List D)} (hr : RdL r o) (σ : St) (H : Hp) (Q : VK) (h : tL G (fLB o As) σ H Q) : tCB r (tAll G As) σ H Q := by
  obtain ⟨Hf, ρ, rp, af⟩ := h
  refine tAll_mono ?_ (stepAL rp af)
  rintro xs H1 ⟨as, Hf1, ρ1, n1, ra, af1⟩
  obtain ⟨as', ea, af2⟩ := finA_someL af1
  obtain ⟨ds, e, k⟩ := finOL n1.rp af2
  exact hr Hf1 H1 xs as' ds n1.rp.sub (rAll1_end n1.rp ra ea) e Q k
theorem fl_callTy {r : List V → Hp → VK → Prop} {o : List D → Option (List D)} {x : Str} {p : Pos} {T : String} (hc : CallR X (.type T) r) (hr : RdL r o) (hg : Gl X x) (hm : X.mg x = none) (hv : bootBuiltins x = some (.type T)) (ha : PA X (e :: es) (tAll G As)) (hn : x ≠ "__name__" := by decide) (hdb : (x == ("__debug__" : Str)) = false := by decide)
    (he : starEach (e :: es) X.env = (false, eval e X.env) :: starEach es X.env := by rfl) (hpl : (backTo pos (starEach es X.env)).any (·.1) = false := by rfl) : PE X (.Call (.Name x p) (e :: es) [] pos) (tL G (fLB o As)) := (pe_callTy hc hg hm hv ha hn hdb he hpl).imp (rd_LB hr)
@[simp] def oList : List D → Option (List D)
  | [.list ds] => some ds
  | [.tuple ds] => some ds
  | _ => none
theorem rd_list {K : PySem.W.Frag} : RdL (fun xs H Q => ∃ p ys, xs = [.ref p] ∧ (SqL K H p ys ∨ SqT K H p ys) ∧ ∀ l, H l = none → Q (.ref l) (upd H l (.lst ys))) oList := by
  intro Hf H xs as ds sm ra e Q q
  match as, ra, e with
  | [.list ds], .cons h1 .nil, e =>
    cases e
    obtain ⟨p, vs, rfl, h2, h3⟩ := h1.lst sm
    exact ⟨_, _, rfl, .inl (SqL.of h2), fun l hl => q _ _ hl h3⟩
  | [.tuple ds], .cons h1 .nil, e =>
    cases e
    obtain ⟨p, vs, rfl, h2, h3⟩ := h1.tup sm
    exact ⟨_, _, rfl, .inr (SqT.of h2), fun l hl => q _ _ hl h3⟩
theorem fl_list {p : Pos} (hg : Gl X "list") (hm : X.mg "list" = none) (ha : PA X (e :: es) (tAll G As)) (he : starEach (e :: es) X.env = (false, eval e X.env) :: starEach es X.env := by rfl) (hpl : (backTo pos (starEach es X.env)).any (·.1) = false := by rfl) : PE X (.Call (.Name "list" p) (e :: es) [] pos) (tL G (fLB oList As)) := fl_callTy call_list_of rd_list hg hm (by decide +kernel) ha (by decide) (by decide) he hpl
def RdOL (r : R2) (o : D → D → Option (List D)) : Prop := ∀ (Hf H : Hp) (x y : V) (a b : D) (ds : List D), Same Hf H → R1 Hf H x a → R1 Hf H y b → o a b = some ds → ∀ Q : VK, (∀ p vs, H p = none → RepA Hf vs ds → Q (.ref p) (upd H p (.lst vs))) → r x y H Q
@[simp] def fOpL (o : D → D → Option (List D)) (A B : Opd) : M (List D) := fun ρ => (bnd A.go fun a => bnd B.go fun b => fin2 A B a b o) ρ
theorem fl_op {r : R2} {o : D → D → Option (List D)} {op : Operator} (ho : OpR X (binaryOp op) r) (hr : RdOL r o) (ha : PE X a (A.t G)) (hb : PE X b (B.t G)) (hqa : A.qok G := by first | exact True.intro | rfl) : PE X (.BinOp a op b pos) (tL G (fOpL o A B)) := by
  refine (pe_op ho ha hb).imp fun σ H Q ⟨Hf, ρ, rp, af⟩ => ?_
  refine Opd.run (stepOL rp af) fun x H1 ⟨d1, Hf1, ρ1, n1, ra, af1⟩ => Opd.run (stepOL n1.rp af1) fun y H2 ⟨d2, Hf2, ρ2, n2, rb, af2⟩ => ?_
  obtain ⟨a', b', ea, eb, af3⟩ := fin2_someL af2
  obtain ⟨ds, e, k⟩ := finOL n2.rp af3
  exact hr Hf2 H2 x y a' b' ds n2.rp.sub (Opd.end n2.rp (Opd.keep hqa n1.rp n2 ra) ea) (Opd.end n2.rp rb eb) e Q k
theorem repA_append {H : Hp} : ∀ {vs ws : List V} {ds es : List D}, RepA H vs ds → RepA H ws es → RepA H (vs ++ ws) (ds ++ es)
  | _, _, _, _, .nil, h => h
  | _, _, _, _, .cons h t, h' => .cons h (repA_append t h')
theorem repA_set {H : Hp} {v : V} {d : D} (r : Rep H v d) : ∀ {vs : List V} {ds : List D} (j : Nat), RepA H vs ds → RepA H (vs.set j v) (ds.set j d)
  | _, _, _, .nil => .nil
  | _, _, 0, .cons _ t => .cons r t
  | _, _, j + 1, .cons h t => .cons h (repA_set r j t)
@[simp] def oCat : D → D → Option (List D)
  | .list xs, .list ys => if small (xs.length + ys.length) then some (xs ++ ys) else none
  | _, _ => none
theorem rd_cat : RdOL rCat oCat := by
  intro Hf H x y a b ds sm ha hb e Q q
  cases a <;> cases b <;> simp only [oCat, reduceCtorEq] at e
  split at e
  · rename_i hs
    cases e
    obtain ⟨p1, vs1, rfl, h1, h2⟩ := ha.lst sm
    obtain ⟨p2, vs2, rfl, h3, h4⟩ := hb.lst sm
    exact ⟨_, _, _, _, rfl, rfl, h1, h3, by rw [repA_len h2, repA_len h4]; exact small_le hs, fun p hp => q p _ hp (repA_append h2 h4)⟩
  · cases e
theorem fl_cat (ha : PE X a (A.t G)) (hb : PE X b (B.t G)) (hqa : A.qok G := by first | exact True.intro | rfl) : PE X (.BinOp a .Add b pos) (tL G (fOpL oCat A B)) := fl_op op_cat rd_cat ha hb hqa
def cut {α : Type} (xs : List α) (lo hi : Option Int) : List α := (xs.drop (HT.sIx xs.length 0 lo)).take (HT.sIx xs.length xs.length hi - HT.sIx xs.length 0 lo)
@[simp] def fNoP : M (Option Int) := fun ρ => (ret none) ρ
@[simp] def asI : D → Option Int
  | .int i => some i
  | _ => none
@[simp] def fP (f : M D) : M (Option Int) := fun ρ => (bnd f fun d => bnd (opt (asI d)) fun i => ret (some i)) ρ
theorem _root_.L2.PO.imp {o : Option Expr} {t t' : TO} (h : PO X o t) (i : ∀ σ H Q, t' σ H Q → t σ H Q) : PO X o t' := ⟨fun pins s σ H Q I q => h.run pins s σ H Q I (i _ _ _ q)⟩
@[simp] def oSl (lo hi : Option Int) (d : D) : Option (List D) := match d with
  | .list ds => some (cut ds lo hi)
  | _ => none
@[simp] def fSl (A : Opd) (l h : M (Option Int)) : M (List D) := fun ρ => (bnd A.go fun a => bnd l fun lo => bnd h fun hi => fin1 A a (oSl lo hi)) ρ
variable {l h : M (Option Int)} {lo hi : Option Expr} {p2 : Pos}
def oSlT (lo hi : Option Int) (d : D) : Option D := match d with
  | .tuple ds => if HT.sIx ds.length 0 lo = 0 ∧ HT.sIx ds.length ds.length hi = ds.length then none else some (.tuple (cut ds lo hi))
  | _ => none
@[simp] def fSlT (f : M D) (l h : M (Option Int)) : M D := fun ρ => (bnd f fun d => bnd l fun lo => bnd h fun hi => opt (oSlT lo hi d)) ρ
def oSlS (lo hi : Option Int) (d : D) : Option D := match d with
  | .str z => if small z.length then some (.str (cutS z lo hi)) else none
  | _ => none
@[simp] def fSlS (f : M D) (l h : M (Option Int)) : M D := fun ρ => (bnd f fun d => bnd l fun lo => bnd h fun hi => opt (oSlS lo hi d)) ρ
end
end Fx
namespace Fx
open PySem L2
variable [Tabz]
section
variable {X : Cx} {G : Gx} {e a b : Expr} {es : List Expr} {f g : M D} {fs : M (List D)} {pos : Pos} {tg : Expr}
def IterOk (σ0 : St) (ρ0 : Rho) (Hf0 H0 : Hp) (J : It) (ds : List D) : Prop := ∀ (i : Nat) (Hf H : Hp) (σ : St) (ρ : Rho), Nxt false σ0 ρ0 Hf0 H0 σ ρ Hf H →
  (∀ d, ds[i]? = some d → J.go i H ∧ ∀ x H', J.yld i H x H' → ∃ Hf', Nxt true σ ρ Hf H σ ρ Hf' H' ∧ Rep Hf' x d) ∧ (ds.length ≤ i → J.stop i H)
def AfI (G : Gx) (σ : St) (ρ : Rho) (Hf H : Hp) (R : It → Hp → Prop) : Res (List D) → Prop
  | .ok (ds, ρ') => ∀ J Hf' H', Nxt G.q σ ρ Hf H σ ρ' Hf' H' → IterOk σ ρ' Hf' H' J ds → R J H'
  | .exc c ρ' => ∀ Hf' H', Nxt G.q σ ρ Hf H σ ρ' Hf' H' → G.W (.ref (G.cA c)) none σ H'
  | .bad => False
def tI (G : Gx) (f : M (List D)) : TI := fun σ H R => ∃ Hf ρ, Rp Hf H σ ρ ∧ AfI G σ ρ Hf H R (f ρ)
theorem AfI.later {σ : St} {ρ ρ1 : Rho} {Hf H Hf1 H1 : Hp} {R : It → Hp → Prop} (n : Nxt G.q σ ρ Hf H σ ρ1 Hf1 H1) : ∀ {o : Res (List D)}, AfI G σ ρ Hf H R o → AfI G σ ρ1 Hf1 H1 R o
  | .ok (a, ρ'), q => fun J Hf' H' n' r => q J Hf' H' (n.trans n') r
  | .exc c ρ', q => fun Hf' H' n' => q Hf' H' (n.trans n')
  | .bad, q => q
theorem stepI {α γ : Type} {R1 : Hp → α → γ → Prop} {σ : St} {ρ : Rho} {Hf H : Hp} {Q : It → Hp → Prop} {g : M γ} {k : γ → M (List D)} (rp : Rp Hf H σ ρ) (af : AfI G σ ρ Hf H Q (bnd g k ρ)) :
    tG G R1 g σ H fun y H1 => ∃ b Hf1 ρ1, Nxt G.q σ ρ Hf H σ ρ1 Hf1 H1 ∧ R1 Hf1 y b ∧ AfI G σ ρ1 Hf1 H1 Q (k b ρ1) := by
  refine ⟨Hf, ρ, rp, ?_⟩
  unfold bnd at af
  cases e : g ρ with
  | ok p =>
    obtain ⟨b, ρ1⟩ := p
    rw [e] at af
    exact fun x Hf1 H1 n r => ⟨b, Hf1, ρ1, n, r, af.later n⟩
  | exc c ρ1 => rw [e] at af; exact af
  | bad => rw [e] at af; exact af
theorem finI {σ : St} {ρ : Rho} {Hf H : Hp} {R : It → Hp → Prop} {ds : List D} {J : It} (rp : Rp Hf H σ ρ) (af : AfI G σ ρ Hf H R (ret ds ρ)) (h : IterOk σ ρ Hf H J ds) : R J H := af J Hf H (.refl rp) h
theorem tI.mono {f : M (List D)} {σ : St} {H : Hp} {R R' : It → Hp → Prop} (h : ∀ x H, R x H → R' x H) (t : tI G f σ H R) : tI G f σ H R' := by
  obtain ⟨Hf, ρ, rp, q⟩ := t
  refine ⟨Hf, ρ, rp, ?_⟩
  cases e : f ρ with
  | ok x => obtain ⟨ds, ρ'⟩ := x; rw [e] at q; exact fun J Hf' H' n r => h _ _ (q J Hf' H' n r)
  | exc c ρ' => rw [e] at q; exact q
  | bad => rw [e] at q; exact q
theorem _root_.L2.PI.imp {iter : Expr} {t t' : TI} (h : PI X tg iter t) (i : ∀ σ H R, t' σ H R → t σ H R) : PI X tg iter t' := ⟨fun pins s σ H R I q => h.run pins s σ H R I (i _ _ _ q)⟩
@[simp] def itemsL : D → Option (List D)
  | .list ds => some ds
  | _ => none
@[simp] def itemsT : D → Option (List D)
  | .tuple ds => some ds
  | _ => none
@[simp] def fItL (f : M D) : M (List D) := fun ρ => (bnd f fun d => opt (itemsL d)) ρ
@[simp] def fItT (f : M D) : M (List D) := fun ρ => (bnd f fun d => opt (itemsT d)) ρ
theorem iter_list {K : PySem.W.Frag} {σ0 : St} {ρ0 : Rho} {Hf H0 : Hp} {p : Addr} {vs : List V} {ds : List D} (h : Hf p = some (.lst vs)) (r : RepA Hf vs ds) : IterOk σ0 ρ0 Hf H0 (Itl K p) ds := by
  intro i Hf1 H σ ρ nn
  have s1 := nn.sub
  have rp := nn.rp
  have hq : SqL K H p vs := SqL.of (rp.sub _ _ (s1 _ _ h))
  refine ⟨fun d e => ?_, fun hl => ⟨vs, hq, by rw [repA_len r]; exact hl⟩⟩
  obtain ⟨v, e1, r1⟩ := repA_get r e
  refine ⟨⟨vs, v, hq, e1⟩, fun x H' ⟨eh, hx⟩ => ?_⟩
  subst eh
  have q := hx vs hq
  rw [e1] at q
  cases q
  exact ⟨Hf1, .refl rp, rep_same s1 r1⟩
theorem iter_tup {K : PySem.W.Frag} {σ0 : St} {ρ0 : Rho} {Hf H0 : Hp} {p : Addr} {vs : List V} {ds : List D} (h : Hf p = some (.tup vs)) (r : RepA Hf vs ds) : IterOk σ0 ρ0 Hf H0 (Itt K p) ds := by
  intro i Hf1 H σ ρ nn
  have s1 := nn.sub
  have rp := nn.rp
  have hq : SqT K H p vs := SqT.of (rp.sub _ _ (s1 _ _ h))
  refine ⟨fun d e => ?_, fun hl => ⟨vs, hq, by rw [repA_len r]; exact hl⟩⟩
  obtain ⟨v, e1, r1⟩ := repA_get r e
  refine ⟨⟨vs, v, hq, e1⟩, fun x H' ⟨eh, hx⟩ => ?_⟩
  subst eh
  have q := hx vs hq
  rw [e1] at q
  cases q
  exact ⟨Hf1, .refl rp, rep_same s1 r1⟩
theorem fi_list (h : PE X e (tE G f)) : PI X tg e (tI G (fItL f)) := by
  refine (pi_list h).imp fun σ H R ⟨Hf, ρ, rp, af⟩ => ?_
  refine (stepI rp af).mono fun x H1 ⟨d, Hf1, ρ1, n1, ra, af1⟩ => ?_
  cases ra with
  | lst h1 h2 => exact ⟨_, rfl, ⟨_, SqL.of (n1.rp.sub _ _ h1)⟩, finI n1.rp af1 (iter_list h1 h2)⟩
  | tup _ _ => exact af1.elim
  | non => exact af1.elim
  | ins _ _ _ => exact af1.elim
  | dct _ _ _ => exact af1.elim
  | bl _ => exact af1.elim
  | int _ => exact af1.elim
  | str _ => exact af1.elim
theorem fi_tup (h : PE X e (tE G f)) : PI X tg e (tI G (fItT f)) := by
  refine (pi_tup h).imp fun σ H R ⟨Hf, ρ, rp, af⟩ => ?_
  refine (stepI rp af).mono fun x H1 ⟨d, Hf1, ρ1, n1, ra, af1⟩ => ?_
  cases ra with
  | tup h1 h2 => exact ⟨_, rfl, ⟨_, SqT.of (n1.rp.sub _ _ h1)⟩, finI n1.rp af1 (iter_tup h1 h2)⟩
  | lst _ _ => exact af1.elim
  | non => exact af1.elim
  | ins _ _ _ => exact af1.elim
  | dct _ _ _ => exact af1.elim
  | bl _ => exact af1.elim
  | int _ => exact af1.elim
  | str _ => exact af1.elim
@[simp] def fAB (o : List D → Option (List D)) (fs : M (List D)) : M (List D) := fun ρ => (bnd fs fun as => opt (o as)) ρ
def rng (lo : Int) (n : Nat) : List D := (List.range n).map fun (i : Nat) => PyData.int (lo + i)
theorem iter_rng {σ0 : St} {ρ0 : Rho} {Hf H0 : Hp} {lo : Int} {n : Nat} : IterOk σ0 ρ0 Hf H0 (Itr lo n) (rng lo n) := by
  intro i Hf1 H σ ρ nn
  have s1 := nn.sub
  have rp := nn.rp
  refine ⟨fun d e => ?_, fun hl => (by simpa [rng] using hl : n ≤ i)⟩
  unfold rng at e
  rw [List.getElem?_map] at e
  cases q : (List.range n)[i]? with
  | none => rw [q] at e; cases e
  | some j =>
    rw [q] at e
    cases e
    obtain ⟨h1, h2⟩ := List.getElem?_eq_some_iff.mp q
    rw [List.length_range] at h1
    rw [List.getElem_range] at h2
    subst h2
    refine ⟨h1, fun x H' ⟨e1, e2⟩ => ?_⟩
    subst e1 e2
    exact ⟨Hf1, .refl rp, .int _⟩
def oRng1 : List D → Option (List D)
  | [.int j] => if small j.natAbs then some (rng 0 j.toNat) else none
  | _ => none
theorem fi_rng1 {p : Pos} (hg : Gl X "range") (hm : X.mg "range" = none) (ha : PA X [e] (tA G fs)) (he : starEach [e] X.env = [(false, eval e X.env)] := by rfl) : PI X tg (.Call (.Name "range" p) [e] [] pos) (tI G (fAB oRng1 fs)) := by
  refine (pi_range1 hg hm ha he).imp fun σ H R ⟨Hf, ρ, rp, af⟩ => ?_
  refine (stepI rp af).mono fun x H1 ⟨as, Hf1, ρ1, n1, ra, af1⟩ => ?_
  match as, ra, af1 with
  | [.int j], .cons h1 .nil, af1 =>
    cases h1
    cases hd : small j.natAbs with
    | true =>
      simp only [oRng1, hd] at af1
      have hs : _ ≤ 100000 := of_decide_eq_true hd
      exact ⟨j, rfl, by omega, by omega, finI n1.rp af1 iter_rng⟩
    | false =>
      simp only [oRng1, hd] at af1
      exact False.elim af1
  | [], _, af1 => exact False.elim af1
  | [.none], _, af1 => exact False.elim af1
  | [.bool _], _, af1 => exact False.elim af1
  | [.str _], _, af1 => exact False.elim af1
  | [.list _], _, af1 => exact False.elim af1
  | [.tuple _], _, af1 => exact False.elim af1
  | [.dict _], _, af1 => exact False.elim af1
  | _ :: _ :: _, _, af1 => exact False.elim (by revert af1; unfold oRng1 opt; split <;> simp_all [AfI])
def enumD (ds : List D) : List D := ds.zipIdx.map fun (p : D × Nat) => PyData.tuple [.int (p.2 : Nat), p.1]
def zipD (xs ys : List D) : List D := (xs.zip ys).map fun (p : D × D) => PyData.tuple [p.1, p.2]
def oZip : List D → Option (List D)
  | [.list xs, .list ys] => some (zipD xs ys)
  | [.tuple xs, .tuple ys] => some (zipD xs ys)
  | _ => none
theorem zip_get {xs ys : List D} {i : Nat} {d : D} (e : (zipD xs ys)[i]? = some d) : ∃ x y, xs[i]? = some x ∧ ys[i]? = some y ∧ d = .tuple [x, y] := by
  unfold zipD at e
  rw [List.getElem?_map] at e
  cases q : (xs.zip ys)[i]? with
  | none => rw [q] at e; cases e
  | some p =>
    rw [q] at e
    cases e
    obtain ⟨h1, h2⟩ := List.getElem?_zip_eq_some.mp q
    exact ⟨p.1, p.2, h1, h2, rfl⟩
theorem iter_zip {K : PySem.W.Frag} {σ0 : St} {ρ0 : Rho} {Hf H0 : Hp} {p q : Addr} {vs ws : List V} {xs ys : List D} (h : Hf p = some (.lst vs)) (r : RepA Hf vs xs) (h' : Hf q = some (.lst ws)) (r' : RepA Hf ws ys) : IterOk σ0 ρ0 Hf H0 (Itz K p q) (zipD xs ys) := by
  intro i Hf1 H σ ρ nn
  have s1 := nn.sub
  have rp := nn.rp
  have hq : SqL K H p vs := SqL.of (rp.sub _ _ (s1 _ _ h))
  have hq' : SqL K H q ws := SqL.of (rp.sub _ _ (s1 _ _ h'))
  refine ⟨fun d e => ?_, fun hl => ⟨vs, ws, hq, hq', by rw [repA_len r, repA_len r']; simp only [zipD, List.length_map, List.length_zip] at hl; omega⟩⟩
  obtain ⟨x, y, e1, e2, rfl⟩ := zip_get e
  obtain ⟨v, f1, r1⟩ := repA_get r e1
  obtain ⟨w, f2, r2⟩ := repA_get r' e2
  refine ⟨⟨vs, ws, v, w, hq, hq', f1, f2⟩, fun z H' ⟨T, a, b, ex, hT, eh, hy, hz⟩ => ?_⟩
  subst ex eh
  have z1 := hy vs hq
  have z2 := hz ws hq'
  rw [f1] at z1
  rw [f2] at z2
  cases z1
  cases z2
  have sn := same_new (o := .tup [v, w]) (rp.sub.free hT)
  exact ⟨_, rp.new hT, .tup upd_same (.cons (rep_same sn (rep_same s1 r1)) (.cons (rep_same sn (rep_same s1 r2)) .nil))⟩
theorem iter_zipT {K : PySem.W.Frag} {σ0 : St} {ρ0 : Rho} {Hf H0 : Hp} {p q : Addr} {vs ws : List V} {xs ys : List D} (h : Hf p = some (.tup vs)) (r : RepA Hf vs xs) (h' : Hf q = some (.tup ws)) (r' : RepA Hf ws ys) : IterOk σ0 ρ0 Hf H0 (RZ.ItzT K p q) (zipD xs ys) := by
  intro i Hf1 H σ ρ nn
  have s1 := nn.sub
  have rp := nn.rp
  have hq : SqT K H p vs := SqT.of (rp.sub _ _ (s1 _ _ h))
  have hq' : SqT K H q ws := SqT.of (rp.sub _ _ (s1 _ _ h'))
  refine ⟨fun d e => ?_, fun hl => ⟨vs, ws, hq, hq', by rw [repA_len r, repA_len r']; simp only [zipD, List.length_map, List.length_zip] at hl; omega⟩⟩
  obtain ⟨x, y, e1, e2, rfl⟩ := zip_get e
  obtain ⟨v, f1, r1⟩ := repA_get r e1
  obtain ⟨w, f2, r2⟩ := repA_get r' e2
  refine ⟨⟨vs, ws, v, w, hq, hq', f1, f2⟩, fun z H' ⟨T, a, b, ex, hT, eh, hy, hz⟩ => ?_⟩
  subst ex eh
  have z1 := hy vs hq
  have z2 := hz ws hq'
  rw [f1] at z1
  rw [f2] at z2
  cases z1
  cases z2
  have sn := same_new (o := .tup [v, w]) (rp.sub.free hT)
  exact ⟨_, rp.new hT, .tup upd_same (.cons (rep_same sn (rep_same s1 r1)) (.cons (rep_same sn (rep_same s1 r2)) .nil))⟩
theorem fi_zip {e2 : Expr} {p tpos : Pos} {elts : List Expr} {kk : Nat} (hg : Gl X "zip") (hm : X.mg "zip" = none) (ha : PA X [e, e2] (tA G fs)) (hs : starEach [e, e2] X.env = (false, eval e X.env) :: starEach [e2] X.env := by rfl) (hpl : (backTo pos (starEach [e2] X.env)).any (·.1) = false := by rfl) :
    PI X (.Tuple elts kk tpos) (.Call (.Name "zip" p) [e, e2] [] pos) (tI G (fAB oZip fs)) := by
  refine (RZ.pi_zipA hg hm ha hs hpl).imp fun σ H R ⟨Hf, ρ, rp, af⟩ => ?_
  refine (stepI rp af).mono fun x H1 ⟨as, Hf1, ρ1, n1, ra, af1⟩ => ?_
  unfold oZip at af1
  split at af1
  · cases ra with
    | cons h1 h2 => cases h2 with
      | cons h3 h4 => cases h4; cases h1 with
        | lst h5 h6 => cases h3 with
          | lst h7 h8 => exact ⟨_, _, _, _, rfl, .inl ⟨SqL.of (n1.rp.sub _ _ h5), SqL.of (n1.rp.sub _ _ h7), finI n1.rp af1 (iter_zip h5 h6 h7 h8)⟩⟩
  · cases ra with
    | cons h1 h2 => cases h2 with
      | cons h3 h4 => cases h4; cases h1 with
        | tup h5 h6 => cases h3 with
          | tup h7 h8 => exact ⟨_, _, _, _, rfl, .inr ⟨SqT.of (n1.rp.sub _ _ h5), SqT.of (n1.rp.sub _ _ h7), finI n1.rp af1 (iter_zipT h5 h6 h7 h8)⟩⟩
  · exact False.elim af1
end
end Fx
namespace Fx
open PySem L2
variable [Tabz]
theorem Rp.put {Hf H : Hp} {σ : St} {ρ : Rho} (rp : Rp Hf H σ ρ) {i : Nat} {v : V} {d : D} (r : Rep Hf v d) : Nxt false σ ρ Hf H (σ.set i (some v)) (ρ.set i (.fz d)) Hf H := by
  refine rp.weak (by rw [List.length_set, List.length_set]; exact rp.len) fun j s h => ?_
  rw [List.getElem?_set] at h
  by_cases q : i = j
  · subst q
    rw [if_pos rfl] at h
    split at h
    · rename_i hl
      cases h
      refine .inr ⟨True.intro, ?_⟩
      rw [List.getElem?_set, if_pos rfl, if_pos (Nat.lt_of_lt_of_le hl rp.len)]
      exact slok_fz.mpr r
    · cases h
  · rw [if_neg q] at h
    exact .inl ⟨h, by rw [List.getElem?_set, if_neg q]⟩
theorem Rp.store {Hf H : Hp} {σ : St} {ρ : Rho} (rp : Rp Hf H σ ρ) {i : Nat} {v : V} {s' : Sl} (ok : SlOk Hf H (some (some v)) s') (nl : (∀ t, s' ≠ .lk t) ∧ ∀ k qs, s' ≠ .pa k qs) (fresh : ∀ a, OwnS H v s' a → ¬ OwnA H σ ρ a ∧ ¬ LkA H σ ρ a) (noal : (∃ t, s' = .tr t) → ∀ (j : Nat) (qs : List Nat), ρ[j]? ≠ some (.pa i qs)) :
    Rp Hf H (σ.set i (some v)) (ρ.set i s') ∧ (∀ a, OwnA H (σ.set i (some v)) (ρ.set i s') a → OwnA H σ ρ a ∨ OwnS H v s' a) ∧ ∀ a, LkA H (σ.set i (some v)) (ρ.set i s') a → LkA H σ ρ a := by
  have gi : ∀ s, (ρ.set i s')[i]? = some s → s = s' ∧ i < ρ.length := fun s h => by
    rw [List.getElem?_set, if_pos rfl] at h
    split at h
    · rename_i hl; exact ⟨(Option.some.inj h).symm, hl⟩
    · cases h
  have gv : i < ρ.length → (σ.set i (some v))[i]? = some (some v) := fun h => by rw [List.getElem?_set, if_pos rfl, if_pos (Nat.lt_of_lt_of_le h rp.len)]
  have gj : ∀ j, j ≠ i → (ρ.set i s')[j]? = ρ[j]? := fun j n => by rw [List.getElem?_set, if_neg fun z => n z.symm]
  have gw : ∀ j, j ≠ i → (σ.set i (some v))[j]? = σ[j]? := fun j n => by rw [List.getElem?_set, if_neg fun z => n z.symm]
  have oj : ∀ j a, j ≠ i → OwnI H (σ.set i (some v)) (ρ.set i s') j a → OwnI H σ ρ j a := fun j a n ⟨s, w, e1, e2, o⟩ => ⟨s, w, gj j n ▸ e1, gw j n ▸ e2, o⟩
  have oi : ∀ a, OwnI H (σ.set i (some v)) (ρ.set i s') i a → OwnS H v s' a := fun a ⟨s, w, e1, e2, o⟩ => by
    obtain ⟨rfl, hl⟩ := gi s e1
    rw [gv hl] at e2; cases e2
    exact o
  have oa : ∀ a, OwnA H (σ.set i (some v)) (ρ.set i s') a → OwnA H σ ρ a ∨ OwnS H v s' a := fun a ⟨j, z⟩ => by
    by_cases n : j = i
    · subst n; exact .inr (oi a z)
    · exact .inl ⟨j, oj j a n z⟩
  have lkk : ∀ a, LkA H (σ.set i (some v)) (ρ.set i s') a → LkA H σ ρ a := fun a ⟨j, t, w, Hf0, F, e1, e2, z, m⟩ => by
    have n : j ≠ i := fun y => by
      subst y
      obtain ⟨e, _⟩ := gi _ e1
      exact nl.1 t e.symm
    exact ⟨j, t, w, Hf0, F, gj j n ▸ e1, gw j n ▸ e2, z, m⟩
  refine ⟨⟨rp.sub, rp.tb, rp.nt, by rw [List.length_set, List.length_set]; exact rp.len, fun j s h => ?_, fun j k a h1 h2 => ?_, fun a ha h2 => ?_, fun j k qs t h1 h2 => ?_⟩, oa, lkk⟩
  · by_cases n : j = i
    · subst n
      obtain ⟨rfl, hl⟩ := gi s h
      rw [gv hl]; exact ok
    · rw [gj j n] at h; rw [gw j n]; exact rp.sl j s h
  · by_cases n : j = i
    · subst n
      by_cases n' : k = j
      · exact n'.symm
      · exact absurd ⟨k, oj k a n' h2⟩ (fresh a (oi a h1)).1
    · by_cases n' : k = i
      · subst n'
        exact absurd ⟨j, oj j a n h1⟩ (fresh a (oi a h2)).1
      · exact rp.nd j k a (oj j a n h1) (oj k a n' h2)
  · have la := lkk a ha
    rcases oa a h2 with y | y
    · exact rp.lk a la y
    · exact (fresh a y).2 la
  · have n : j ≠ i := fun y => by
      subst y
      obtain ⟨e, _⟩ := gi _ h1
      exact nl.2 k qs e.symm
    rw [gj j n] at h1
    by_cases n' : k = i
    · subst n'
      have : ∃ t, s' = .tr t := by
        rcases h2 with e | e
        · obtain ⟨e, _⟩ := gi _ e; exact ⟨t, e.symm⟩
        · obtain ⟨e, _⟩ := gi _ e; exact absurd e.symm (nl.1 t)
      exact absurd h1 (noal this j qs)
    · have h2' : isTr ρ k t := h2.imp (fun e => gj k n' ▸ e) (fun e => gj k n' ▸ e)
      obtain ⟨x, y, s, g1, g2, g3⟩ := rp.al j k qs t h1 h2'
      exact ⟨x, y, s, (gw k n').trans g1, (gw j n).trans g2, g3⟩
theorem Nxt.putO {q : Bool} {Hf0 H0 Hf H : Hp} {σ0 σ : St} {ρ0 ρ : Rho} (n : Nxt q σ0 ρ0 Hf0 H0 σ ρ Hf H) {i : Nat} {p : Addr} {vs : List V} {ds : List D} (h0 : Fre H0 σ0 ρ0 p) (hp : Hf p = none) (no : ¬ OwnA H σ ρ p) (nk : ¬ LkA H0 σ0 ρ0 p) (h : H p = some (.lst vs)) (r : RepA Hf vs ds) :
    Nxt false σ0 ρ0 Hf0 H0 (σ.set i (some (.ref p))) (ρ.set i (.ow ds)) Hf H := by
  obtain ⟨r2, oa, lk2⟩ := n.rp.store (i := i) (v := .ref p) (s' := .ow ds) ⟨hp, vs, h, r⟩ ⟨(fun _ z => nomatch z), (fun _ _ z => nomatch z)⟩ (fun a z => by cases (show V.ref p = .ref a from z); exact ⟨no, fun y => nk (n.ls _ y)⟩) (fun ⟨_, z⟩ => nomatch z)
  refine ⟨n.sub, n.keep, fun a z => (oa a z).elim (n.os a) fun y => ?_, fun a z => n.ls a (lk2 a z), n.dom, n.fr, (fun z => nomatch z), r2⟩
  cases (show V.ref p = .ref a from y)
  exact h0.symm
theorem Rp.mut {q : Bool} {Hf H : Hp} {σ : St} {ρ : Rho} (rp : Rp Hf H σ ρ) {i : Nat} {p : Addr} {ds es : List D} {ws : List V} (hi : ρ[i]? = some (.ow ds)) (hp : σ[i]? = some (some (.ref p))) (r : RepA Hf ws es) :
    Nxt q σ ρ Hf H σ (ρ.set i (.ow es)) Hf (upd H p (.lst ws)) := by
  obtain ⟨p', vs0, e0, hf, hv0, _⟩ := slok_ow (rp.sl i _ hi)
  rw [hp] at e0; cases e0
  refine rp.chgO hi hp (.inr ⟨es, rfl⟩) (Same.refl _) (fun a o h => ?_) (rp.tb.set hv0) rp.nt (fun a o h _ n => by rw [upd_ne n]; exact h) (fun a h => ?_) (fun _ h => .inl h) ⟨hf, ws, upd_same, r⟩
  · rw [upd_ne (ne_of_none h hf)]
    exact rp.sub _ _ h
  · by_cases q : a = p
    · subst q
      rw [upd_same] at h
      cases h
    · rw [upd_ne q] at h
      exact h
section
variable {X : Cx} {G : Gx} {e a b : Expr} {es : List Expr} {f g : M D} {fs : M (List D)} {pos : Pos} {tg : Expr}
def Only (is : List Nat) (σ σ' : St) : Prop := σ'.length = σ.length ∧ ∀ j, j ∉ is → σ'[j]? = σ[j]?
theorem Only.refl (is : List Nat) (σ : St) : Only is σ σ := ⟨rfl, fun _ _ => rfl⟩
theorem Only.trans {is js : List Nat} {σ σ1 σ2 : St} (h : Only is σ σ1) (h' : Only js σ1 σ2) : Only (is ++ js) σ σ2 :=
  ⟨h'.1.trans h.1, fun j n => (h'.2 j fun z => n (List.mem_append_right _ z)).trans (h.2 j fun z => n (List.mem_append_left _ z))⟩
def tGt (is : List Nat) (g : D → Rho → Option Rho) : TG := fun v σ H Q => ∃ Hf ρ d ρ', Rp Hf H σ ρ ∧ Rep Hf v d ∧ g d ρ = some ρ' ∧ ∀ σ', Nxt false σ ρ Hf H σ' ρ' Hf H → Only is σ σ' → Q σ' H
def tGts (is : List Nat) (g : List D → Rho → Option Rho) : TGs := fun vs σ H Q => ∃ Hf ρ ds ρ', Rp Hf H σ ρ ∧ RepA Hf vs ds ∧ g ds ρ = some ρ' ∧ ∀ σ', Nxt false σ ρ Hf H σ' ρ' Hf H → Only is σ σ' → Q σ' H
theorem _root_.L2.PG.imp {t t' : TG} (h : PG X tg t) (i : ∀ v σ H Q, t' v σ H Q → t v σ H Q) : PG X tg t' := ⟨fun pins s σ H v u Q I r q => h.run pins s σ H v u Q I r (i _ _ _ _ q)⟩
theorem _root_.L2.PGs.imp {ts : List Expr} {t t' : TGs} (h : PGs X ts t) (i : ∀ v σ H Q, t' v σ H Q → t v σ H Q) : PGs X ts t' := ⟨fun pins s σ H v u Q I r q => h.run pins s σ H v u Q I r (i _ _ _ _ q)⟩
@[simp] def gSet (i : Nat) : D → Rho → Option Rho := fun d ρ => some (ρ.set i (.fz d))
theorem fg_name (i : Nat) {x : Str} (hN : X.N.Nodup) (hi : X.N[i]? = some x := by rfl) (hx : Loc X.env.scope x := by first | exact Or.inl rfl | exact Or.inr rfl) (hf : X.fn x = true ∨ X.env.scope.names.lookup x = some .local := by first | exact .inl rfl | exact .inr rfl) : PG X (.Name x pos) (tGt [i] (gSet i)) := by
  refine (pg_name hN hi hx hf).imp fun v σ H Q ⟨Hf, ρ, d, ρ', rp, r, eg, k⟩ => ?_
  cases eg
  refine k _ (rp.put r) ⟨List.length_set, fun j n => ?_⟩
  rw [List.getElem?_set, if_neg fun z => n (by rw [z]; exact List.mem_singleton.mpr rfl)]
@[simp] def gsNil : List D → Rho → Option Rho
  | [], ρ => some ρ
  | _, _ => none
@[simp] def gsCons (g : D → Rho → Option Rho) (gs : List D → Rho → Option Rho) : List D → Rho → Option Rho
  | d :: ds, ρ => (g d ρ).bind (gs ds)
  | [], _ => none
theorem fgs_nil : PGs X [] (tGts [] gsNil) := by
  refine pgs_nil.imp fun vs σ H Q ⟨Hf, ρ, ds, ρ', rp, r, eg, k⟩ => ?_
  cases r with
  | nil => cases eg; exact ⟨rfl, k _ (.refl rp) (.refl _ _)⟩
  | cons _ _ => cases eg
theorem fgs_cons {is js : List Nat} {g1 : D → Rho → Option Rho} {gs : List D → Rho → Option Rho} (h1 : PG X e (tGt is g1)) (h2 : PGs X es (tGts js gs)) (hs : (assignEach (e :: es) X.env).map (·.2) = assign e X.env :: (assignEach es X.env).map (·.2) := by rfl) : PGs X (e :: es) (tGts (is ++ js) (gsCons g1 gs)) := by
  refine (pgs_cons h1 h2 hs).imp fun vs σ H Q ⟨Hf, ρ, ds, ρ', rp, r, eg, k⟩ => ?_
  cases r with
  | nil => cases eg
  | @cons v vs d ds hv hr =>
    cases e1 : g1 d ρ with
    | none => simp only [gsCons, e1, Option.bind_none, reduceCtorEq] at eg
    | some ρ1 =>
      simp only [gsCons, e1, Option.bind_some] at eg
      exact ⟨_, _, rfl, Hf, ρ, _, ρ1, rp, hv, e1, fun σ1 n1 o1 => ⟨Hf, ρ1, ds, ρ', n1.rp, hr, eg, fun σ2 n2 o2 => k σ2 (n1.trans n2) (o1.trans o2)⟩⟩
@[simp] def gTp (gs : List D → Rho → Option Rho) : D → Rho → Option Rho
  | .tuple ds, ρ => gs ds ρ
  | _, _ => none
theorem gs_len {n : Nat} {gs : List D → Rho → Option Rho} (hn : ∀ ds ρ ρ', gs ds ρ = some ρ' → ds.length = n) {g1 : D → Rho → Option Rho} : ∀ ds ρ ρ', gsCons g1 gs ds ρ = some ρ' → ds.length = n + 1 := by
  intro ds ρ ρ' e
  cases ds with
  | nil => cases e
  | cons d ds =>
    cases e1 : g1 d ρ with
    | none => simp only [gsCons, e1, Option.bind_none, reduceCtorEq] at e
    | some ρ1 =>
      simp only [gsCons, e1, Option.bind_some] at e
      rw [List.length_cons, hn ds ρ1 ρ' e]
theorem gs_len0 : ∀ ds ρ ρ', gsNil ds ρ = some ρ' → ds.length = 0 := by
  intro ds ρ ρ' e
  cases ds with
  | nil => rfl
  | cons _ _ => cases e
theorem fg_tup {k : Nat} {is : List Nat} {gs : List D → Rho → Option Rho} {n : Nat} (hc : X.calm = true) (h : PGs X es (tGts is gs)) (hl : ∀ ds ρ ρ', gs ds ρ = some ρ' → ds.length = n) (hn : (assignEach es X.env).length = n := by rfl) (hst : (assignEach es X.env).findIdx? (·.1) = none := by rfl) : PG X (.Tuple es k pos) (tGt is (gTp gs)) := by
  refine (pg_tup hc h hn hst).imp fun v σ H Q ⟨Hf, ρ, d, ρ', rp, r, eg, k⟩ => ?_
  cases r with
  | @tup a vs ds h1 h2 => exact ⟨_, _, rfl, SqT.of (rp.sub _ _ h1), by rw [repA_len h2]; exact hl _ _ _ eg, Hf, ρ, _, ρ', rp, h2, eg, k⟩
  | lst _ _ => cases eg
  | non => cases eg
  | ins _ _ _ => cases eg
  | dct _ _ _ => cases eg
  | bl _ => cases eg
  | int _ => cases eg
  | str _ => cases eg
def wipeR (ρ : Rho) : List Nat → Rho
  | [] => ρ
  | v :: vs => (wipeR ρ vs).set v .un
theorem wipe_get (σ : St) (j : Nat) : ∀ vs : List Nat, (wipe σ vs)[j]? = if j ∈ vs then (if j < σ.length then some none else none) else σ[j]?
  | [] => by simp [wipe]
  | v :: vs => by
    unfold wipe
    rw [List.getElem?_set, wipe_length, wipe_get σ j vs]
    by_cases h : v = j
    · subst h
      simp
    · have : ¬ j = v := fun z => h z.symm
      simp [h, this]
theorem wipeR_len (ρ : Rho) : ∀ vs : List Nat, (wipeR ρ vs).length = ρ.length
  | [] => rfl
  | v :: vs => by unfold wipeR; rw [List.length_set, wipeR_len]
theorem wipeR_get (ρ : Rho) (j : Nat) : ∀ vs : List Nat, (wipeR ρ vs)[j]? = if j ∈ vs then (if j < ρ.length then some .un else none) else ρ[j]?
  | [] => by simp [wipeR]
  | v :: vs => by
    unfold wipeR
    rw [List.getElem?_set, wipeR_len, wipeR_get ρ j vs]
    by_cases h : v = j
    · subst h
      simp
    · have : ¬ j = v := fun z => h z.symm
      simp [h, this]
theorem Rp.wipe {Hf H : Hp} {σ : St} {ρ : Rho} (rp : Rp Hf H σ ρ) (vs : List Nat) : Nxt false σ ρ Hf H (wipe σ vs) (wipeR ρ vs) Hf H := by
  refine rp.weak (by rw [wipeR_len, wipe_length]; exact rp.len) fun j s h => ?_
  rw [wipeR_get] at h
  rw [wipe_get]
  by_cases q : j ∈ vs
  · rw [if_pos q] at h ⊢
    split at h
    · cases h; exact .inr ⟨True.intro, slok_un⟩
    · cases h
  · rw [if_neg q] at h ⊢
    exact .inl ⟨h, rfl⟩
theorem Only.wipe {is vs : List Nat} {σ σ' : St} (h : Only is σ σ') (hs : ∀ i ∈ is, i ∈ vs) : L2.wipe σ' vs = L2.wipe σ vs := by
  apply List.ext_getElem?
  intro j
  rw [wipe_get, wipe_get, h.1]
  by_cases q : j ∈ vs
  · rw [if_pos q, if_pos q]
  · rw [if_neg q, if_neg q]
    exact h.2 j fun z => q (hs j z)
theorem wipe_wipe (σ : St) (vs : List Nat) : L2.wipe (L2.wipe σ vs) vs = L2.wipe σ vs := by
  apply List.ext_getElem?
  intro j
  rw [wipe_get, wipe_get, wipe_length]
  by_cases q : j ∈ vs
  · rw [if_pos q, if_pos q]
  · rw [if_neg q, if_neg q]
def keepFz : Option Sl → Sl
  | some (.fz d) => .fz d
  | _ => .un
def rest (ρ2 ρ1 : Rho) : List Nat → Rho
  | [] => ρ2
  | v :: vs => (rest ρ2 ρ1 vs).set v (keepFz ρ1[v]?)
theorem rest_len (ρ2 ρ1 : Rho) : ∀ vs : List Nat, (rest ρ2 ρ1 vs).length = ρ2.length
  | [] => rfl
  | v :: vs => by unfold rest; rw [List.length_set, rest_len]
theorem rest_get (ρ2 ρ1 : Rho) (j : Nat) : ∀ vs : List Nat, (rest ρ2 ρ1 vs)[j]? = if j ∈ vs then (if j < ρ2.length then some (keepFz ρ1[j]?) else none) else ρ2[j]?
  | [] => by simp [rest]
  | v :: vs => by
    unfold rest
    rw [List.getElem?_set, rest_len, rest_get ρ2 ρ1 j vs]
    by_cases h : v = j
    · subst h
      simp
    · have : ¬ j = v := fun z => h z.symm
      simp [h, this]
theorem rest_weak {Hf1 H1 Hf H : Hp} {σ : St} {ρ1 ρ2 : Rho} {vs : List Nat} (rp : Rp Hf1 H1 σ ρ1) (sm : Same Hf1 Hf) (r : Rp Hf H (L2.wipe σ vs) (wipeR ρ2 vs)) : Nxt false (L2.wipe σ vs) (wipeR ρ2 vs) Hf H σ (rest ρ2 ρ1 vs) Hf H := by
  refine r.weak ?_ fun j s h => ?_
  · have := r.len
    rw [wipeR_len, wipe_length] at this
    rw [rest_len]
    exact this
  · rw [rest_get] at h
    by_cases q : j ∈ vs
    · rw [if_pos q] at h
      split at h
      · cases h
        refine .inr ?_
        cases e : ρ1[j]? with
        | none => exact ⟨True.intro, slok_un⟩
        | some s =>
          cases s with
          | un => exact ⟨True.intro, slok_un⟩
          | raw _ => exact ⟨True.intro, slok_un⟩
          | ow _ => exact ⟨True.intro, slok_un⟩
          | tr _ => exact ⟨True.intro, slok_un⟩
          | lk _ => exact ⟨True.intro, slok_un⟩
          | pa _ _ => exact ⟨True.intro, slok_un⟩
          | fz d =>
            obtain ⟨v, h1, h2⟩ := slok_fz' (rp.sl j _ e)
            rw [h1]
            exact ⟨True.intro, slok_fz.mpr (rep_same sm h2)⟩
      · cases h
    · rw [if_neg q] at h
      exact .inl ⟨by rw [wipeR_get, if_neg q]; exact h, by rw [wipe_get, if_neg q]⟩
theorem Nxt.rest {Hf1 H1 Hf H : Hp} {σ : St} {ρ1 ρ2 : Rho} {vs : List Nat} (rp : Rp Hf1 H1 σ ρ1) (n : Nxt false (L2.wipe σ vs) (wipeR ρ1 vs) Hf1 H1 (L2.wipe σ vs) (wipeR ρ2 vs) Hf H) : Nxt false σ ρ1 Hf1 H1 σ (rest ρ2 ρ1 vs) Hf H :=
  (rp.wipe vs).trans (n.trans (rest_weak rp n.sub n.rp))
end
end Fx
namespace Fx
open PySem L2
variable [Tabz]
section
variable {X : Cx} {G : Gx} {e a b : Expr} {es : List Expr} {f g : M D} {fs : M (List D)} {pos : Pos} {tg : Expr}
def lcE (g : D → Rho → Option Rho) (tt : M Bool) (fe : M D) (vs : List Nat) : List D → Rho → Res (List D)
  | [], ρ => .ok ([], ρ)
  | d :: ds, ρ => match g d (wipeR ρ vs) with
    | none => .bad
    | some ρ1 => match tt ρ1 with
      | .ok (true, ρ2) => (match fe ρ2 with
        | .ok (x, ρ3) => (match lcE g tt fe vs ds ρ3 with
          | .ok (xs, ρ4) => .ok (x :: xs, ρ4)
          | _ => .bad)
        | _ => .bad)
      | .ok (false, ρ2) => lcE g tt fe vs ds ρ2
      | _ => .bad
def fLc (fi : M (List D)) (g : D → Rho → Option Rho) (tt : M Bool) (fe : M D) (vs : List Nat) : M (List D) := bnd fi fun ds ρ1 => if small ds.length then (match lcE g tt fe vs ds ρ1 with
    | .ok (xs, ρ2) => .ok (xs, rest ρ2 ρ1 vs)
    | _ => .bad) else .bad
abbrev G0 (G : Gx) : Gx := ⟨fun _ _ _ _ => False, G.cA, false⟩
theorem Nxt.notLk {q : Bool} {Hf0 H0 Hf H : Hp} {σ0 σ : St} {ρ0 ρ : Rho} (n : Nxt q σ0 ρ0 Hf0 H0 σ ρ Hf H) {p : Addr} (h0 : H0 p = none) : ¬ LkA H σ ρ p := fun z => by
  obtain ⟨_, _, _, _, _, _, _, r, m⟩ := n.ls p z
  obtain ⟨o, ho, _⟩ := r.obj p m
  rw [h0] at ho; cases ho
theorem Nxt.updNew {Hf0 H0 Hf H : Hp} {σ0 σ : St} {ρ0 ρ : Rho} (n : Nxt false σ0 ρ0 Hf0 H0 σ ρ Hf H) {p : Addr} {vs ws : List V} (hv : H p = some (.lst vs)) (h0 : H0 p = none) (hp : Hf p = none) (no : ¬ OwnA H σ ρ p) : Nxt false σ0 ρ0 Hf0 H0 σ ρ Hf (upd H p (.lst ws)) ∧ ¬ OwnA (upd H p (.lst ws)) σ ρ p := by
  have ko : ∀ a, OwnA H σ ρ a → upd H p (.lst ws) a = H a := fun a z => upd_ne fun (q : a = p) => no (by rw [← q]; exact z)
  have kl : ∀ a, LkA H σ ρ a → upd H p (.lst ws) a = H a := fun a z => upd_ne fun (q : a = p) => n.notLk h0 (by rw [← q]; exact z)
  have oa : ∀ a, OwnA (upd H p (.lst ws)) σ ρ a → OwnA H σ ρ a := fun a ⟨i, z⟩ => ⟨i, (n.rp.ownI_iff (fun b y => ko b ⟨i, y⟩) a).mp z⟩
  refine ⟨⟨n.sub, fun a x h t nn => ?_, fun a z => n.os a (oa a z), fun a z => n.ls a (n.rp.lka_of kl z), fun a h => ?_, n.fr, (fun z => nomatch z), n.rp.grow (Same.refl _) (fun a x h => ?_) (n.rp.tb.set hv) n.rp.nt (fun a z => ⟨(n.rp.own z).1, ko a z⟩) kl⟩, fun z => no (oa p z)⟩
  · rw [upd_ne (ne_of_none h h0)]
    exact n.keep a x h t nn
  · by_cases q : a = p
    · exact q ▸ h0
    · rw [upd_ne q] at h
      exact n.dom a h
  · rw [upd_ne (ne_of_none h hp)]
    exact n.rp.sub _ _ h
theorem stepLI {σ : St} {ρ : Rho} {Hf H : Hp} {Q : VK} {g k : M (List D)} {kk : List D → M (List D)} (rp : Rp Hf H σ ρ) (af : AfL G σ ρ Hf H Q (bnd g kk ρ)) :
    tI G g σ H fun y H1 => ∃ b Hf1 ρ1, Nxt G.q σ ρ Hf H σ ρ1 Hf1 H1 ∧ IterOk σ ρ1 Hf1 H1 y b ∧ AfL G σ ρ1 Hf1 H1 Q (kk b ρ1) := by
  refine ⟨Hf, ρ, rp, ?_⟩
  unfold bnd at af
  cases e : g ρ with
  | ok p =>
    obtain ⟨b, ρ1⟩ := p
    rw [e] at af
    exact fun x Hf1 H1 n r => ⟨b, Hf1, ρ1, n, r, af.later n⟩
  | exc c ρ1 => rw [e] at af; exact af
  | bad => rw [e] at af; exact af
theorem lc_run {fi : M (List D)} {is vs : List Nat} {g : D → Rho → Option Rho} {tt : M Bool} {fe : M D} (hgq : G.q = false) (hs : ∀ i ∈ is, i ∈ vs) (σ : St) (H : Hp) (Q : VK) (h : tL G (fLc fi g tt fe vs) σ H Q) :
    tLc (tI G fi) (tGt is g) (tT (G0 G) tt) (tE (G0 G) fe) vs σ H Q := by
  obtain ⟨Hf, ρ, rp, af⟩ := h
  refine (stepLI (k := fi) rp af).mono fun J H1 ⟨ds, Hf1, ρ1, n1, hJ, af1⟩ => ?_
  intro D0 hD
  cases hsm : small ds.length with
  | false => simp only [hsm] at af1; exact False.elim af1
  | true =>
    simp only [hsm, if_true] at af1
    cases er : lcE g tt fe vs ds ρ1 with
    | exc c _ => rw [er] at af1; exact False.elim af1
    | bad => rw [er] at af1; exact False.elim af1
    | ok x =>
      obtain ⟨xs, ρ2⟩ := x
      rw [er] at af1
      have rp1 := n1.rp
      have hDf : Hf1 D0 = none := rp1.sub.free hD
      have w1 := rp1.wipe vs
      have noD : ¬ OwnA (upd H1 D0 (.lst [])) (L2.wipe σ vs) (wipeR ρ1 vs) D0 := w1.rp.notOwnU hD
      refine ⟨fun i m Hc => m = ds.length - i ∧ i ≤ ds.length ∧ ∃ Hfc ρc acc accv ys, Nxt false (L2.wipe σ vs) (wipeR ρ1 vs) Hf1 H1 (L2.wipe σ vs) (wipeR ρc vs) Hfc Hc ∧ Hc D0 = some (.lst accv) ∧ Hfc D0 = none ∧ ¬ OwnA Hc (L2.wipe σ vs) (wipeR ρc vs) D0 ∧
          RepA Hfc accv acc ∧ acc.length ≤ i ∧ lcE g tt fe vs (ds.drop i) ρc = .ok (ys, ρ2) ∧ acc ++ ys = xs,
        ⟨ds.length, by simp, Nat.zero_le _, Hf1, ρ1, [], [], xs, w1.rp.newO hD, upd_same, hDf, noD, .nil, Nat.le_refl _, er, rfl⟩, ?_⟩
      rintro i m Hc ⟨rfl, hi, Hfc, ρc, acc, accv, ys, n, eD, fD, oD, ra, hl, el, ex⟩
      have it := hJ i Hfc Hc (L2.wipe σ vs) (wipeR ρc vs) (w1.trans n)
      by_cases hlt : i < ds.length
      · have ed : ds[i]? = some ds[i] := List.getElem?_eq_getElem hlt
        have edr : ds.drop i = ds[i] :: ds.drop (i + 1) := List.drop_eq_getElem_cons hlt
        obtain ⟨hgo, hy⟩ := it.1 _ ed
        rw [edr] at el
        unfold lcE at el
        refine .inr ⟨hgo, fun H' => ∃ Hfc ρc acc accv ys, Nxt false (L2.wipe σ vs) (wipeR ρ1 vs) Hf1 H1 (L2.wipe σ vs) (wipeR ρc vs) Hfc H' ∧ H' D0 = some (.lst accv) ∧ Hfc D0 = none ∧ ¬ OwnA H' (L2.wipe σ vs) (wipeR ρc vs) D0 ∧
          RepA Hfc accv acc ∧ acc.length ≤ i + 1 ∧ lcE g tt fe vs (ds.drop (i + 1)) ρc = .ok (ys, ρ2) ∧ acc ++ ys = xs, fun H' q => ⟨ds.length - (i + 1), by omega, rfl, hlt, q⟩, fun x H' yx => ?_⟩
        obtain ⟨Hfy, ny, ry⟩ := hy x H' yx
        -- facts on D0 through a step
        have carry : ∀ {σ2 : St} {ρ2' : Rho} {Hf2 H2 : Hp}, Nxt false (L2.wipe σ vs) (wipeR ρc vs) Hfc Hc σ2 ρ2' Hf2 H2 → H2 D0 = some (.lst accv) ∧ Hf2 D0 = none ∧ ¬ OwnA H2 σ2 ρ2' D0 := fun nn => by
          refine ⟨nn.keep _ _ eD NT.lst oD, (nn.fr D0 fD).elim id fun q => q.elim (fun z => ?_) fun z => absurd z oD, fun z => (nn.os D0 z).elim oD fun w => ?_⟩
          · rw [eD] at z; cases z
          · rw [eD] at w; cases w
        cases eg : g ds[i] (wipeR ρc vs) with
        | none => simp only [eg, reduceCtorEq] at el
        | some ρg =>
          simp only [eg] at el
          refine ⟨Hfy, wipeR ρc vs, _, ρg, ny.rp, ry, eg, fun σ2 n2 o2 => ⟨?_, ?_⟩⟩
          · rw [o2.wipe hs, wipe_wipe]
          · have n3 := (Nxt.any ny).trans n2
            have ew : L2.wipe σ2 vs = L2.wipe σ vs := by rw [o2.wipe hs, wipe_wipe]
            refine ⟨Hfy, ρg, n3.rp, ?_⟩
            cases et : tt ρg with
            | exc c _ => simp only [et, reduceCtorEq] at el
            | bad => simp only [et, reduceCtorEq] at el
            | ok z =>
              obtain ⟨bt, ρt⟩ := z
              simp only [et] at el
              intro bb Hf4 H4 n4 eb
              subst eb
              have n5 := n3.trans n4
              cases bb with
              | false =>
                dsimp only at el
                have n6 := n5.trans (n5.rp.wipe vs)
                rw [ew] at n6
                obtain ⟨c1, c2, c3⟩ := carry n6
                exact ⟨Hf4, ρt, acc, accv, ys, n.trans n6, c1, c2, c3, repA_same n6.sub ra, by omega, el, ex⟩
              | true =>
                dsimp only at el
                refine ⟨Hf4, ρt, n5.rp, ?_⟩
                cases ee : fe ρt with
                | exc c _ => simp only [ee, reduceCtorEq] at el
                | bad => simp only [ee, reduceCtorEq] at el
                | ok z2 =>
                  obtain ⟨y, ρe⟩ := z2
                  simp only [ee] at el
                  intro v Hf7 H7 n7 rv
                  have n8 := n5.trans n7
                  obtain ⟨c1, c2, c3⟩ := carry n8
                  have n9 := n8.trans (n8.rp.wipe vs)
                  rw [ew] at n9
                  obtain ⟨d1, d2, d3⟩ := carry n9
                  refine ⟨accv, c1, ?_, ?_⟩
                  · rw [repA_len ra]
                    exact Nat.lt_of_le_of_lt hl (Nat.lt_trans hlt (small_lt hsm))
                  · cases e5 : lcE g tt fe vs (ds.drop (i + 1)) ρe with
                    | exc c _ => simp only [e5, reduceCtorEq] at el
                    | bad => simp only [e5, reduceCtorEq] at el
                    | ok z3 =>
                      obtain ⟨ys2, ρ5⟩ := z3
                      simp only [e5, Res.ok.injEq, Prod.mk.injEq] at el
                      obtain ⟨e6, e7⟩ := el
                      subst e6 e7
                      refine ⟨Hf7, ρe, acc ++ [y], accv ++ [v], ys2, ((n.trans n9).updNew d1 hD d2 d3).1, upd_same, d2, ((n.trans n9).updNew d1 hD d2 d3).2, repA_append (repA_same n9.sub ra) (.cons rv .nil), ?_, e5, ?_⟩
                      · rw [List.length_append, List.length_singleton]; omega
                      · rw [List.append_assoc]; exact ex
      · have ei : i = ds.length := by omega
        subst ei
        rw [List.drop_length] at el
        unfold lcE at el
        cases el
        rw [List.append_nil] at ex
        subst ex
        refine .inl ⟨it.2 (Nat.le_refl _), ?_⟩
        have nr := Nxt.rest rp1 n
        rw [← hgq] at nr
        refine af1 D0 accv Hfc Hc nr (.inl hD) fD (fun z => ?_) eD ra
        exact ((rest_weak rp1 n.sub n.rp).os D0 z).elim oD fun y => by rw [eD] at y; cases y
theorem fts_nil : PTs X [] (tT G (ret true)) := ⟨fun pins s σ H Q I ⟨Hf, ρ, rp, af⟩ => pts_nil.run pins s σ H Q I (fin rp af rfl)⟩
theorem fl_lc {elt iter : Expr} {ifs : List Expr} {scope : Scope} {own : List (Str × Nat)} {fi : M (List D)} {is : List Nat} {g : D → Rho → Option Rho} {tt : M Bool} {fe : M D} (hc : X.calm = true) (hN : X.N.Nodup) (ok : BlkOk X.N X.env.scope scope own) (his : ∀ i ∈ is, i ∈ own.map (·.2)) (hi : PI X tg iter (tI G fi))
    (hg : ∀ (s : Shared) (H : Hp) (C : Addr) (cl : List (Str × Addr)) (fp : List Addr), PG (X.blk s H scope (compEnvC scope cl C X.env) fp) tg (tGt is g)) (ht : ∀ (s : Shared) (H : Hp) (C : Addr) (cl : List (Str × Addr)) (fp : List Addr), PTs (X.blk s H scope (compEnvC scope cl C X.env) fp) ifs (tT (G0 G) tt))
    (he : ∀ (s : Shared) (H : Hp) (C : Addr) (cl : List (Str × Addr)) (fp : List Addr), PE (X.blk s H scope (compEnvC scope cl C X.env) fp) elt (tE (G0 G) fe)) (hs : ∀ x, foldedSetIterable iter X.env x = pure x := by intro _; rfl) (hgq : G.q = false := by rfl) :
    PE X (.ListComp elt [⟨tg, iter, ifs, 0⟩] scope pos) (tL G (fLc fi g tt fe (own.map (·.2)))) := (pe_lc hc hN hi ok hg ht he hs).imp (lc_run hgq his)
end
end Fx
namespace Fx
open PySem L2
variable [Tabz]
inductive Rt where
  | fz (d : D)
  | ow (ds : List D)
  | tr (t : Tr)
inductive Fl where
  | nx (ρ : Rho)
  | ret (r : Rt) (ρ : Rho)
  | brk (ρ : Rho)
  | ct (ρ : Rho)
  | exc (c : Str) (ρ : Rho)
  | bad
def RtOk (pn : List Nat) (σ : St) (ρ : Rho) (H : Hp) (σ' : St) (ρ' : Rho) (Hf' H' : Hp) (v : V) : Rt → Prop
  | .fz d => Rep Hf' v d
  | .ow ds => ∃ p vs, v = .ref p ∧ Fre H σ ρ p ∧ Hf' p = none ∧ ¬ OwnA H' σ' ρ' p ∧ H' p = some (.lst vs) ∧ RepA Hf' vs ds
  | .tr t => ∃ F, TR Hf' H' v t F ∧ F.Nodup ∧ ∀ a ∈ F, Fre H σ ρ a ∧ Hf' a = none ∧ ¬ OwnA H' σ' ρ' a
def Pin (pn : List Nat) (σ σ' : St) : Prop := ∀ j ∈ pn, σ'[j]? = σ[j]?
theorem Pin.refl (pn : List Nat) (σ : St) : Pin pn σ σ := fun _ _ => rfl
theorem Pin.trans {pn : List Nat} {σ σ1 σ2 : St} (h : Pin pn σ σ1) (h' : Pin pn σ1 σ2) : Pin pn σ σ2 := fun j z => (h' j z).trans (h j z)
def AfS (G : Gx) (pn : List Nat) (σ : St) (ρ : Rho) (Hf H : Hp) (D : Ends) : Fl → Prop
  | .nx ρ' => ∀ σ' Hf' H', Nxt false σ ρ Hf H σ' ρ' Hf' H' → Pin pn σ σ' → D.nx σ' H'
  | .brk ρ' => ∀ σ' Hf' H', Nxt false σ ρ Hf H σ' ρ' Hf' H' → Pin pn σ σ' → D.bk σ' H'
  | .ct ρ' => ∀ σ' Hf' H', Nxt false σ ρ Hf H σ' ρ' Hf' H' → Pin pn σ σ' → D.ct σ' H'
  | .ret r ρ' => ∀ v σ' Hf' H', Nxt false σ ρ Hf H σ' ρ' Hf' H' → Pin pn σ σ' → RtOk pn σ ρ H σ' ρ' Hf' H' v r → D.rt v H'
  | .exc c ρ' => ∀ σ' Hf' H', Nxt false σ ρ Hf H σ' ρ' Hf' H' → Pin pn σ σ' → G.W (.ref (G.cA c)) none σ' H'
  | .bad => False
def tS (G : Gx) (pn : List Nat) (g : Rho → Fl) : TS := fun D σ H => ∃ Hf ρ, Rp Hf H σ ρ ∧ AfS G pn σ ρ Hf H D (g ρ)
section
variable {G : Gx} {pn : List Nat} {σ σ1 : St} {ρ ρ1 : Rho} {Hf H Hf1 H1 : Hp} {D : Ends}
theorem Keep.later {q : Bool} (n : Nxt q σ ρ Hf H σ1 ρ1 Hf1 H1) {H' : Hp} (k : Keep σ1 ρ1 H1 H') : Keep σ ρ H H' := fun x o h t nn => k x o (n.keep x o h t nn) t fun z => (n.os x z).elim nn fun w => by rw [h] at w; cases w
theorem AfS.later (n : Nxt false σ ρ Hf H σ1 ρ1 Hf1 H1) (pi : Pin pn σ σ1) : ∀ {o : Fl}, AfS G pn σ ρ Hf H D o → AfS G pn σ1 ρ1 Hf1 H1 D o
  | .nx _, q => fun σ' Hf' H' n' p' => q σ' Hf' H' (n.trans n') (pi.trans p')
  | .brk _, q => fun σ' Hf' H' n' p' => q σ' Hf' H' (n.trans n') (pi.trans p')
  | .ct _, q => fun σ' Hf' H' n' p' => q σ' Hf' H' (n.trans n') (pi.trans p')
  | .ret (.fz d) _, q => fun v σ' Hf' H' n' p' r => q v σ' Hf' H' (n.trans n') (pi.trans p') r
  | .ret (.ow ds) _, q => fun v σ' Hf' H' n' p' r => q v σ' Hf' H' (n.trans n') (pi.trans p') (by
      obtain ⟨p, vs, e, h1, h3⟩ := r
      exact ⟨p, vs, e, h1.back n, h3⟩)
  | .ret (.tr t) _, q => fun v σ' Hf' H' n' p' r => q v σ' Hf' H' (n.trans n') (pi.trans p') (by
      obtain ⟨F, r1, r2, r3⟩ := r
      exact ⟨F, r1, r2, fun a m => ⟨(r3 a m).1.back n, (r3 a m).2⟩⟩)
  | .exc _ _, q => fun σ' Hf' H' n' p' => q σ' Hf' H' (n.trans n') (pi.trans p')
  | .bad, q => q
end
section
variable {X : Cx} {G : Gx} {e a b : Expr} {es : List Expr} {f g : M PyData} {fs : M (List PyData)} {pos : Pos} {tg : Expr} {pn : List Nat} {st : Stmt} {sts : List Stmt} {s t : Rho → Fl}
@[simp] def sSeq (s t : Rho → Fl) : Rho → Fl := fun ρ => match s ρ with
  | .nx ρ1 => t ρ1
  | x => x
@[simp] def sNil : Rho → Fl := fun ρ => .nx ρ
theorem fss_nil : PSs X [] (tS G pn sNil) := pss_nil.imp fun D σ H ⟨Hf, ρ, rp, af⟩ => af σ Hf H (.refl rp) (.refl _ _)
theorem fss_one (h : PS X st (tS G pn s)) : PSs X [st] (tS G pn s) := pss_one h
theorem fss_cons (h1 : PS X st (tS G pn s)) (h2 : PSs X sts (tS G pn t)) : PSs X (st :: sts) (tS G pn (sSeq s t)) := by
  refine (pss_cons h1 h2).imp fun D σ H ⟨Hf, ρ, rp, af⟩ => ⟨Hf, ρ, rp, ?_⟩
  unfold sSeq at af
  cases e : s ρ with
  | nx ρ1 => rw [e] at af; exact fun σ1 Hf1 H1 n p => ⟨Hf1, ρ1, n.rp, af.later n p⟩
  | brk ρ1 => rw [e] at af; exact af
  | ct ρ1 => rw [e] at af; exact af
  | ret r ρ1 => rw [e] at af; exact af
  | exc c ρ1 => rw [e] at af; exact af
  | bad => rw [e] at af; exact af
@[simp] def sBnd {α : Type} (f : M α) (k : α → Rho → Fl) : Rho → Fl := fun ρ => match f ρ with
  | .ok (x, ρ1) => k x ρ1
  | .exc c ρ1 => .exc c ρ1
  | .bad => .bad
theorem stepS {α β : Type} {R1 : Hp → β → α → Prop} {σ : St} {ρ : Rho} {Hf H : Hp} {D : Ends} {g : M α} {k : α → Rho → Fl} (rp : Rp Hf H σ ρ) (af : AfS G pn σ ρ Hf H D (sBnd g k ρ)) :
    tG G R1 g σ H fun y H1 => ∃ b Hf1 ρ1, Nxt false σ ρ Hf H σ ρ1 Hf1 H1 ∧ R1 Hf1 y b ∧ AfS G pn σ ρ1 Hf1 H1 D (k b ρ1) := by
  refine ⟨Hf, ρ, rp, ?_⟩
  unfold sBnd at af
  cases e : g ρ with
  | ok p =>
    obtain ⟨b, ρ1⟩ := p
    rw [e] at af
    exact fun x Hf1 H1 n r => ⟨b, Hf1, ρ1, n.any, r, af.later n.any (.refl _ _)⟩
  | exc c ρ1 => rw [e] at af; exact fun Hf' H' n => af σ Hf' H' n.any (.refl _ _)
  | bad => rw [e] at af; exact af
theorem stepSL {σ : St} {ρ : Rho} {Hf H : Hp} {D : Ends} {g : M (List PyData)} {k : List PyData → Rho → Fl} (rp : Rp Hf H σ ρ) (af : AfS G pn σ ρ Hf H D (sBnd g k ρ)) :
    tL G g σ H fun y H1 => ∃ p vs ds Hf1 ρ1, y = .ref p ∧ Nxt false σ ρ Hf H σ ρ1 Hf1 H1 ∧ (Fre H σ ρ p ∧ ¬ LkA H σ ρ p) ∧ Hf1 p = none ∧ ¬ OwnA H1 σ ρ1 p ∧ H1 p = some (.lst vs) ∧ RepA Hf1 vs ds ∧ AfS G pn σ ρ Hf H D (k ds ρ1) := by
  refine ⟨Hf, ρ, rp, ?_⟩
  unfold sBnd at af
  cases e : g ρ with
  | ok p =>
    obtain ⟨b, ρ1⟩ := p
    rw [e] at af
    exact fun p vs Hf1 H1 n h1 h2 h3 h4 r => ⟨p, vs, b, Hf1, ρ1, rfl, n.any, ⟨h1, h1.notLk rp⟩, h2, h3, h4, r, af⟩
  | exc c ρ1 => rw [e] at af; exact fun Hf' H' n => af σ Hf' H' n.any (.refl _ _)
  | bad => rw [e] at af; exact af
theorem _root_.Fx.tL.mono {f : M (List PyData)} {σ : St} {H : Hp} {Q Q' : VK} (h : ∀ x H, Q x H → Q' x H) (t : tL G f σ H Q) : tL G f σ H Q' := by
  obtain ⟨Hf, ρ, rp, q⟩ := t
  refine ⟨Hf, ρ, rp, ?_⟩
  cases e : f ρ with
  | ok x => obtain ⟨ds, ρ'⟩ := x; rw [e] at q; exact fun p vs Hf' H' n h1 h2 h3 h4 r => h _ _ (q p vs Hf' H' n h1 h2 h3 h4 r)
  | exc c ρ1 => rw [e] at q; exact q
  | bad => rw [e] at q; exact q
@[simp] def sDrop (f : M PyData) : Rho → Fl := fun ρ => (sBnd f fun _ ρ => .nx ρ) ρ
theorem fs_expr (he : PE X e (tE G f)) (hs : swapsWith e none pos.line X.env = pure false := by rfl) : PS X (.Expr e pos) (tS G pn (sDrop f)) := by
  refine (ps_expr he hs).imp fun D σ H ⟨Hf, ρ, rp, af⟩ => ?_
  exact (stepS rp af).mono fun x H1 ⟨d, Hf1, ρ1, n1, ra, af1⟩ => af1 σ Hf1 H1 (.refl n1.rp) (.refl _ _)
theorem pin_set {i : Nat} {σ : St} {o : Option V} (h : i ∉ pn) : Pin pn σ (σ.set i o) := fun j z => by
  rw [List.getElem?_set, if_neg (fun (q : i = j) => h (q ▸ z))]
@[simp] def sSet (i : Nat) (f : M PyData) : Rho → Fl := fun ρ => (sBnd f fun d ρ => .nx (ρ.set i (.fz d))) ρ
theorem fs_set (i : Nat) {x : Str} {pos' : Pos} (hN : X.N.Nodup) (hpn : i ∉ pn) (he : PE X e (tE G f)) (hi : X.N[i]? = some x := by rfl) (hx : Loc X.env.scope x := by first | exact Or.inl rfl | exact Or.inr rfl) (hs : swapsWith e (some (.Name x pos')) pos.line X.env = pure false := by rfl) (hf : X.fn x = true ∨ X.env.scope.names.lookup x = some .local := by first | exact .inl rfl | exact .inr rfl) :
    PS X (.Assign [.Name x pos'] e pos) (tS G pn (sSet i f)) := by
  refine (ps_set hN hi hx he hs hf).imp fun D σ H ⟨Hf, ρ, rp, af⟩ => ?_
  exact (stepS rp af).mono fun v H1 ⟨d, Hf1, ρ1, n1, ra, af1⟩ => af1 _ Hf1 H1 (n1.rp.put ra) (pin_set hpn)
@[simp] def sSetL (i : Nat) (f : M (List PyData)) : Rho → Fl := fun ρ => (sBnd f fun ds ρ => .nx (ρ.set i (.ow ds))) ρ
theorem rd_setL {i : Nat} {f : M (List PyData)} (hpn : i ∉ pn) (D : Ends) (σ : St) (H : Hp) (h : tS G pn (sSetL i f) D σ H) : tAsg (tL G f) (gName i) D σ H := by
  obtain ⟨Hf, ρ, rp, af⟩ := h
  refine (stepSL rp af).mono fun v H1 ⟨p, vs, ds, Hf1, ρ1, ev, n1, h1, h2, h3, h4, r, af1⟩ => ?_
  subst ev
  exact af1 _ Hf1 H1 (n1.putO h1.1 h2 h3 h1.2 h4 r) (pin_set hpn)
theorem fs_setL (i : Nat) {x : Str} {pos' : Pos} {f : M (List PyData)} (hN : X.N.Nodup) (hpn : i ∉ pn) (he : PE X e (tL G f)) (hi : X.N[i]? = some x := by rfl) (hx : Loc X.env.scope x := by first | exact Or.inl rfl | exact Or.inr rfl) (hs : swapsWith e (some (.Name x pos')) pos.line X.env = pure false := by rfl) (hf : X.fn x = true ∨ X.env.scope.names.lookup x = some .local := by first | exact .inl rfl | exact .inr rfl) :
    PS X (.Assign [.Name x pos'] e pos) (tS G pn (sSetL i f)) := (ps_set hN hi hx he hs hf).imp (rd_setL hpn)
theorem fs_setLc (i : Nat) {y : Str} {py spos : Pos} {elt iter : Expr} {ifs : List Expr} {scope : Scope} {own : List (Str × Nat)} {fi : M (List PyData)} {is : List Nat} {g : PyData → Rho → Option Rho} {tt : M Bool} {fe : M PyData} (hc : X.calm = true) (hN : X.N.Nodup) (hpn : i ∉ pn) (hy : X.N[i]? = some y) (hyl : X.env.scope.names.lookup y = some .local)
    (hsw : swapsWith (.ListComp elt [⟨tg, iter, ifs, 0⟩] scope pos) (some (.Name y py)) spos.line X.env = pure true) (ok : BlkOk X.N X.env.scope scope own) (his : ∀ i ∈ is, i ∈ own.map (·.2)) (hi : PI X tg iter (tI G fi))
    (hg : ∀ (s : Shared) (H : Hp) (C : Addr) (cl : List (Str × Addr)) (fp : List Addr), PG (X.blk s H scope (compEnvC scope cl C X.env) fp) tg (tGt is g)) (ht : ∀ (s : Shared) (H : Hp) (C : Addr) (cl : List (Str × Addr)) (fp : List Addr), PTs (X.blk s H scope (compEnvC scope cl C X.env) fp) ifs (tT (G0 G) tt))
    (he : ∀ (s : Shared) (H : Hp) (C : Addr) (cl : List (Str × Addr)) (fp : List Addr), PE (X.blk s H scope (compEnvC scope cl C X.env) fp) elt (tE (G0 G) fe)) (hs : ∀ x, foldedSetIterable iter X.env x = pure x := by intro _; rfl) (hgq : G.q = false := by rfl) :
    PS X (.Assign [.Name y py] (.ListComp elt [⟨tg, iter, ifs, 0⟩] scope pos) spos) (tS G pn (sSetL i (fLc fi g tt fe (own.map (·.2))))) := by
  refine (ps_setLc hc hN hy hyl hsw hi ok hg ht he hs).imp fun D σ H h => ?_
  exact lc_run hgq his σ H _ (rd_setL hpn D σ H h)
@[simp] def sAsg (g : PyData → Rho → Option Rho) (f : M PyData) : Rho → Fl := fun ρ => (sBnd f fun d ρ => match g d ρ with
  | some ρ' => .nx ρ'
  | none => .bad) ρ
theorem pin_only {is : List Nat} {σ σ' : St} (o : Only is σ σ') (h : ∀ i ∈ is, i ∉ pn) : Pin pn σ σ' := fun j z => o.2 j fun q => h j q z
@[simp] def sRet (f : M PyData) : Rho → Fl := fun ρ => (sBnd f fun d ρ => .ret (.fz d) ρ) ρ
theorem fs_ret (he : PE X e (tE G f)) : PS X (.Return (some e) pos) (tS G pn (sRet f)) := by
  refine (ps_ret he).imp fun D σ H ⟨Hf, ρ, rp, af⟩ => ?_
  exact (stepS rp af).mono fun x H1 ⟨d, Hf1, ρ1, n1, ra, af1⟩ => af1 x σ Hf1 H1 (.refl n1.rp) (.refl _ _) ra
@[simp] def sRetL (f : M (List PyData)) : Rho → Fl := fun ρ => (sBnd f fun ds ρ => .ret (.ow ds) ρ) ρ
@[simp] def io0 (ρ : Rho) : Bool := match (ρ[(0 : Nat)]? : Option Sl) with
  | some (.ow _) => true
  | _ => false
theorem io0_own {ρ : Rho} (h : io0 ρ = true) : ∃ ds, ρ[0]? = some (.ow ds) := by
  unfold io0 at h
  split at h
  · rename_i ds e; exact ⟨ds, e⟩
  · cases h
@[simp] def sRetL0 (f : M (List PyData)) : Rho → Fl := fun ρ => if io0 ρ then sRetL f ρ else .bad
@[simp] def sRetN : Rho → Fl := fun ρ => .ret (.fz .none) ρ
@[simp] def sRetV (i : Nat) : Rho → Fl := fun ρ => match ρ[i]? with
  | some (.fz d) => .ret (.fz d) ρ
  | some (.ow ds) => .ret (.ow ds) (ρ.set i .un)
  | _ => .bad
theorem Rp.drop {Hf H : Hp} {σ : St} {ρ : Rho} (rp : Rp Hf H σ ρ) (i : Nat) : Nxt false σ ρ Hf H σ (ρ.set i .un) Hf H := by
  refine rp.weak (by rw [List.length_set]; exact rp.len) fun j s h => ?_
  rw [List.getElem?_set] at h
  split at h
  · split at h
    · cases h; exact .inr ⟨True.intro, slok_un⟩
    · cases h
  · exact .inl ⟨h, rfl⟩
theorem Rp.drop_own {Hf H : Hp} {σ : St} {ρ : Rho} (rp : Rp Hf H σ ρ) {i : Nat} {a : Addr} (h : OwnI H σ ρ i a) : ¬ OwnA H σ (ρ.set i .un) a := fun ⟨j, s, v, e1, e2, o⟩ => by
  rw [List.getElem?_set] at e1
  split at e1
  · split at e1
    · cases e1; exact o.elim
    · cases e1
  · rename_i n
    exact n (rp.nd i j a h ⟨s, v, e1, e2, o⟩)
@[simp] def sRetV0 (i : Nat) : Rho → Fl := fun ρ => if io0 ρ then sRetV i ρ else .bad
theorem fs_retV0 (i : Nat) {x : Str} {p1 : Pos} (hpi : pn = [0]) (hi0 : i ≠ 0) (hN : X.N[i]? = some x := by rfl) (hv : Vis X.env.scope x := by first | exact Or.inl rfl | exact Or.inr (Or.inl rfl) | exact Or.inr (Or.inr rfl)) (hd : (x == ("__debug__" : Str)) = false := by decide)
    (hcd : (x == ("__classdict__" : Str)) = false := by decide) : PS X (.Return (some (.Name x p1)) pos) (tS G pn (sRetV0 i)) := by
  refine (ps_ret (pe_var hN hv hd hcd)).imp fun D σ H ⟨Hf, ρ, rp, af⟩ => ?_
  unfold sRetV0 at af
  cases e0 : io0 ρ with
  | false => rw [e0] at af; exact False.elim af
  | true =>
    rw [e0, if_pos rfl] at af
    obtain ⟨ds0, h0⟩ := io0_own e0
    unfold sRetV at af
    cases e : ρ[i]? with
    | none => rw [e] at af; exact af.elim
    | some s =>
      rw [e] at af
      cases s with
      | un => exact af.elim
      | raw _ => exact af.elim
      | tr _ => exact af.elim
      | lk _ => exact af.elim
      | pa _ _ => exact af.elim
      | fz d =>
        obtain ⟨v, hv, q⟩ := slok_fz' (rp.sl i _ e)
        exact ⟨v, hv, af v σ Hf H (.refl rp) (.refl _ _) q⟩
      | ow ds =>
        obtain ⟨p, vs, e1, h1, h2, h3⟩ := slok_ow (rp.sl i _ e)
        have oi : OwnI H σ ρ i p := (ownI_ow e e1).mpr rfl
        exact ⟨_, e1, af _ σ Hf H (rp.drop i) (.refl _ _) ⟨p, vs, rfl, .inr ⟨i, oi⟩, h1, rp.drop_own oi, h2, h3⟩⟩
@[simp] def sIf (p : M Bool) (s t : Rho → Fl) : Rho → Fl := fun ρ => (sBnd p fun c => if c = true then s else t) ρ
theorem fs_if {c : Expr} {as bs : List Stmt} {p : M Bool} (hc : PT X c (tT G p)) (ha : PSs X as (tS G pn s)) (hb : PSs X bs (tS G pn t)) : PS X (.If c as bs pos) (tS G pn (sIf p s t)) := by
  refine (ps_if hc ha hb).imp fun D σ H ⟨Hf, ρ, rp, af⟩ => ?_
  refine (stepS rp af).mono fun x H1 ⟨d, Hf1, ρ1, n1, ra, af1⟩ => ?_
  subst ra
  cases x with
  | true => exact ⟨Hf1, ρ1, n1.rp, af1⟩
  | false => exact ⟨Hf1, ρ1, n1.rp, af1⟩
@[simp] def sBrk : Rho → Fl := fun ρ => .brk ρ
@[simp] def sCt : Rho → Fl := fun ρ => .ct ρ
def forE (g : PyData → Rho → Option Rho) (s : Rho → Fl) : List PyData → Rho → Fl
  | [], ρ => .nx ρ
  | d :: ds, ρ => match g d ρ with
    | none => .bad
    | some ρ1 => match s ρ1 with
      | .nx ρ2 => forE g s ds ρ2
      | .ct ρ2 => forE g s ds ρ2
      | .brk ρ2 => .nx ρ2
      | x => x
def sFor (fi : M (List PyData)) (g : PyData → Rho → Option Rho) (s : Rho → Fl) : Rho → Fl := sBnd fi fun ds ρ => forE g s ds ρ
theorem stepSI {σ : St} {ρ : Rho} {Hf H : Hp} {D : Ends} {g : M (List PyData)} {k : List PyData → Rho → Fl} (rp : Rp Hf H σ ρ) (af : AfS G pn σ ρ Hf H D (sBnd g k ρ)) :
    tI G g σ H fun y H1 => ∃ b Hf1 ρ1, Nxt false σ ρ Hf H σ ρ1 Hf1 H1 ∧ IterOk σ ρ1 Hf1 H1 y b ∧ AfS G pn σ ρ1 Hf1 H1 D (k b ρ1) := by
  refine ⟨Hf, ρ, rp, ?_⟩
  unfold sBnd at af
  cases e : g ρ with
  | ok p =>
    obtain ⟨b, ρ1⟩ := p
    rw [e] at af
    exact fun x Hf1 H1 n r => ⟨b, Hf1, ρ1, n.any, r, af.later n.any (.refl _ _)⟩
  | exc c ρ1 => rw [e] at af; exact fun Hf' H' n => af σ Hf' H' n.any (.refl _ _)
  | bad => rw [e] at af; exact af
theorem fs_for {iter : Expr} {fi : M (List PyData)} {is : List Nat} {g : PyData → Rho → Option Rho} (hp : PassesOwn (model X.prog X.w) X.A X.env X.xe) (hc : X.calm = true) (hpn : ∀ i ∈ is, i ∉ pn) (hi : PI X tg iter (tI G fi)) (hg : PG X tg (tGt is g)) (hb : PSs X sts (tS G pn s))
    (hs : ∀ x, foldedSetIterable iter X.env x = pure x := by intro _; rfl) : PS X (.For tg iter sts [] pos) (tS G pn (sFor fi g s)) := by
  refine (ps_for hp hc hi hg hb hs).imp fun D σ H ⟨Hf, ρ, rp, af⟩ => ?_
  refine (stepSI rp af).mono fun J H1 ⟨ds, Hf1, ρ1, n1, hJ, af1⟩ => ?_
  refine ⟨fun i m σc Hc => m = ds.length - i ∧ i ≤ ds.length ∧ ∃ Hfc ρc, Nxt false σ ρ1 Hf1 H1 σc ρc Hfc Hc ∧ AfS G pn σc ρc Hfc Hc D (forE g s (ds.drop i) ρc), ⟨ds.length, by simp, Nat.zero_le _, Hf1, ρ1, .refl n1.rp, af1⟩, ?_⟩
  rintro i m σc Hc ⟨rfl, hi, Hfc, ρc, sm, afc⟩
  have rpc := sm.rp
  have it := hJ i Hfc Hc σc ρc sm
  by_cases hlt : i < ds.length
  · have ed : ds[i]? = some ds[i] := List.getElem?_eq_getElem hlt
    have edr : ds.drop i = ds[i] :: ds.drop (i + 1) := List.drop_eq_getElem_cons hlt
    obtain ⟨hgo, hy⟩ := it.1 _ ed
    rw [edr] at afc
    unfold forE at afc
    refine .inr ⟨hgo, fun σ' H' => ∃ Hfc ρc, Nxt false σ ρ1 Hf1 H1 σ' ρc Hfc H' ∧ AfS G pn σ' ρc Hfc H' D (forE g s (ds.drop (i + 1)) ρc), fun σ' H' q => ⟨ds.length - (i + 1), by omega, rfl, hlt, q⟩, fun x H' yx => ?_⟩
    obtain ⟨Hfy, ny, ry⟩ := hy x H' yx
    cases eg : g ds[i] ρc with
    | none => simp only [eg] at afc; exact False.elim afc
    | some ρg =>
      simp only [eg] at afc
      refine ⟨Hfy, ρc, _, ρg, ny.rp, ry, eg, fun σ2 n2 o2 => ⟨Hfy, ρg, n2.rp, ?_⟩⟩
      have n3 := (Nxt.any ny).trans n2
      have p3 : Pin pn σc σ2 := pin_only o2 hpn
      cases es : s ρg with
      | nx ρ2 =>
        simp only [es] at afc
        exact fun σ' Hf' H' n4 p4 => ⟨Hf', ρ2, sm.trans (n3.trans n4), afc.later (n3.trans n4) (p3.trans p4)⟩
      | ct ρ2 =>
        simp only [es] at afc
        exact fun σ' Hf' H' n4 p4 => ⟨Hf', ρ2, sm.trans (n3.trans n4), afc.later (n3.trans n4) (p3.trans p4)⟩
      | brk ρ2 =>
        simp only [es] at afc
        exact fun σ' Hf' H' n4 p4 => afc σ' Hf' H' (n3.trans n4) (p3.trans p4)
      | ret r ρ2 =>
        simp only [es] at afc
        have q := AfS.later (D := D) n3 p3 afc
        exact q
      | exc c ρ2 =>
        simp only [es] at afc
        exact fun σ' Hf' H' n4 p4 => afc σ' Hf' H' (n3.trans n4) (p3.trans p4)
      | bad => simp only [es] at afc; exact False.elim afc
  · have ei : i = ds.length := by omega
    subst ei
    rw [List.drop_length] at afc
    unfold forE at afc
    exact .inl ⟨it.2 (Nat.le_refl _), afc σc Hfc Hc (.refl rpc) (.refl _ _)⟩
end
end Fx
namespace Fx
open PySem L2
variable [Tabz]
section
variable {X : Cx} {G : Gx} {e a b : Expr} {es : List Expr} {f g : M PyData} {fs : M (List PyData)} {pos : Pos} {tg : Expr} {pn : List Nat} {st : Stmt} {sts : List Stmt} {s t : Rho → Fl}
@[simp] def isOw (i : Nat) (ρ : Rho) : Bool := match (ρ[i]? : Option Sl) with
  | some (.ow _) => true
  | _ => false
theorem isOw_ow {i : Nat} {ρ : Rho} (h : isOw i ρ = true) : ∃ ds, ρ[i]? = some (.ow ds) := by
  unfold isOw at h
  split at h
  · rename_i ds e; exact ⟨ds, e⟩
  · cases h
@[simp] def mutO (i : Nat) (k : List PyData → Option (List PyData)) : Rho → Option Rho := fun ρ => match (ρ[i]? : Option Sl) with
  | some (.ow ds) => (k ds).map fun es => ρ.set i (.ow es)
  | _ => none
@[simp] def sMut {α : Type} (i : Nat) (f : M α) (k : α → List PyData → Option (List PyData)) : Rho → Fl := fun ρ => if isOw i ρ then sBnd f (fun x ρ1 => match mutO i (k x) ρ1 with
    | some ρ2 => .nx ρ2
    | none => .bad) ρ else .bad
theorem mutO_some {i : Nat} {k : List PyData → Option (List PyData)} {ρ ρ2 : Rho} (h : mutO i k ρ = some ρ2) : ∃ ds es, ρ[i]? = some (.ow ds) ∧ k ds = some es ∧ ρ2 = ρ.set i (.ow es) := by
  unfold mutO at h
  split at h
  · rename_i ds e
    cases q : k ds with
    | none => rw [q] at h; cases h
    | some es => rw [q] at h; cases h; exact ⟨ds, es, e, q, rfl⟩
  · cases h
def kAppend (d : PyData) (ds : List PyData) : Option (List PyData) := if small ds.length then some (ds ++ [d]) else none
theorem fs_append (i : Nat) {x : Str} {p1 ap cp : Pos} (he : PE X e (tE G f)) (hN : X.N[i]? = some x := by rfl) (hv : Vis X.env.scope x := by first | exact Or.inl rfl | exact Or.inr (Or.inl rfl) | exact Or.inr (Or.inr rfl)) (hd : (x == ("__debug__" : Str)) = false := by decide)
    (hcd : (x == ("__classdict__" : Str)) = false := by decide) (hbase : attributeBase (.Name x p1) "append" X.env (eval (.Name x p1) X.env) = eval (.Name x p1) X.env := by rfl)
    (hfew : ((backTo cp (starEach [e] X.env)).all (fun x => !x.1) && (backToKw cp (keywordEach [] X.env)).all (fun x => x.1.isSome) && decide (([e] : List Expr).length + ([] : List Keyword).length + (if ([] : List Keyword).isEmpty then 0 else 1) < 30)) = true := by rfl)
    (hline : (ap.endLine == cp.line) = true := by rfl) (hs : starEach [e] X.env = (false, eval e X.env) :: starEach [] X.env := by rfl) (hplain : (backTo cp (starEach [] X.env)).any (·.1) = false := by rfl)
    (hsw : swapsWith (.Call (.Attribute (.Name x p1) "append" ap) [e] [] cp) none pos.line X.env = pure false := by rfl) : PS X (.Expr (.Call (.Attribute (.Name x p1) "append" ap) [e] [] cp) pos) (tS G pn (sMut i f kAppend)) := by
  refine (ps_expr (pe_bm PySem.F.plainAttrs_list PySem.F.slot_list_append PySem.F.type_list_append mt_append (pe_var hN hv hd hcd) (pa_cons he pa_nil hs) hbase hfew hline hs hplain) hsw).imp fun D σ H ⟨Hf, ρ, rp, af⟩ => ?_
  unfold sMut at af
  cases e0 : isOw i ρ with
  | false => rw [e0] at af; exact False.elim af
  | true =>
    rw [e0, if_pos rfl] at af
    obtain ⟨ds0, h0⟩ := isOw_ow e0
    obtain ⟨p, vs0, s0, _, g0, _⟩ := slok_ow (rp.sl i _ h0)
    refine ⟨_, s0, .inl ⟨rfl, _, SqL.of g0⟩, (stepS rp af).mono fun v H1 ⟨d, Hf1, ρ1, n1, ra, af1⟩ => ?_⟩
    cases em : mutO i (kAppend d) ρ1 with
    | none => simp only [em] at af1; exact False.elim af1
    | some ρ2 =>
      simp only [em] at af1
      obtain ⟨ds, es, h1, h2, rfl⟩ := mutO_some em
      obtain ⟨q, vs, s1, f1, g1, r1⟩ := slok_ow (n1.rp.sl i _ h1)
      rw [s0] at s1
      cases s1
      unfold kAppend at h2
      split at h2
      · rename_i hs
        cases h2
        refine ⟨p, vs, v, rfl, rfl, g1, by rw [repA_len r1]; exact small_lt hs, ?_⟩
        exact af1 σ Hf1 _ (n1.rp.mut h1 s0 (repA_append r1 (.cons ra .nil))) (.refl _ _)
      · cases h2
def kSet (d j : PyData) (ds : List PyData) : Option (List PyData) := match j with
  | .int k => (ixN ds.length k).map fun n => ds.set n d
  | _ => none
@[simp] def sSetIx (i : Nat) (f g : M PyData) : Rho → Fl := fun ρ => (sBnd f fun d => sMut i g (kSet d)) ρ
theorem fs_setIx (i : Nat) {x : Str} {p1 tp : Pos} (he : PE X e (tE G f)) (hb : PE X b (tE G g)) (hN : X.N[i]? = some x := by rfl) (hv : Vis X.env.scope x := by first | exact Or.inl rfl | exact Or.inr (Or.inl rfl) | exact Or.inr (Or.inr rfl)) (hd : (x == ("__debug__" : Str)) = false := by decide)
    (hcd : (x == ("__classdict__" : Str)) = false := by decide)
    (ha : ∀ v, assign (.Subscript (.Name x p1) b tp) X.env v = (do
      let ov ← holding [v] (eval (.Name x p1) X.env)
      let iv ← holding [v, ov] (eval b X.env)
      standAt tp
      holding [v, ov, iv] (setItem ov iv v)
      release [v, ov, iv] []) := by intro _; rfl) (hs : swapsWithSole [.Subscript (.Name x p1) b tp] e pos.line X.env = pure false := by rfl) (hw : swappedStores [.Subscript (.Name x p1) b tp] e X.env = pure none := by rfl)
    (h1 : (assignEach [.Subscript (.Name x p1) b tp] X.env).map (·.2) = [assign (.Subscript (.Name x p1) b tp) X.env] := by rfl) : PS X (.Assign [.Subscript (.Name x p1) b tp] e pos) (tS G pn (sSetIx i f g)) := by
  refine (ps_asg he (pg_sub (pe_var hN hv hd hcd) hb set_list ha) hs hw h1).imp fun D σ H ⟨Hf, ρ, rp, af⟩ => ?_
  refine (stepS rp af).mono fun v H1 ⟨d, Hf1, ρ1, n1, ra, af1⟩ => ?_
  unfold sMut at af1
  cases e0 : isOw i ρ1 with
  | false => rw [e0] at af1; exact False.elim af1
  | true =>
    rw [e0, if_pos rfl] at af1
    obtain ⟨ds0, h0⟩ := isOw_ow e0
    obtain ⟨p, vs0, s0, _, g0, _⟩ := slok_ow (n1.rp.sl i _ h0)
    refine ⟨_, s0, (stepS n1.rp af1).mono fun y H2 ⟨j, Hf2, ρ2, n2, rj, af2⟩ => ?_⟩
    cases em : mutO i (kSet d j) ρ2 with
    | none => simp only [em] at af2; exact False.elim af2
    | some ρ3 =>
      simp only [em] at af2
      obtain ⟨ds, es, h1, h2, rfl⟩ := mutO_some em
      obtain ⟨q, vs, s1, f1, g1, r1⟩ := slok_ow (n2.rp.sl i _ h1)
      rw [s0] at s1
      cases s1
      cases j <;> simp only [kSet, reduceCtorEq] at h2
      rename_i k
      cases hk : ixN ds.length k with
      | none => rw [hk] at h2; cases h2
      | some n =>
        rw [hk] at h2
        cases h2
        rw [rep_int rj]
        refine ⟨p, vs, k, n, rfl, rfl, g1, by rw [repA_len r1]; exact hk, ?_⟩
        exact af2 σ Hf2 _ (n2.rp.mut h1 s0 (repA_set (rep_same n2.sub ra) n r1)) (.refl _ _)
@[simp] def sAug (i : Nat) (o : PyData → PyData → Option PyData) (f : M PyData) : Rho → Fl := fun ρ => match (ρ[i]? : Option Sl) with
  | some (.fz x) => sBnd f (fun y ρ1 => match o x y with
    | some z => .nx (ρ1.set i (.fz z))
    | none => .bad) ρ
  | _ => .bad
@[simp] def sRaise (c : Str) : Rho → Fl := fun ρ => .exc c ρ
theorem fs_raise {c m : Str} {j : Nat} {p p2 cp : Pos} {B newId initId : String} {bmB : List Value} (hc : X.calm = true) (tk : Takes X G.W) (F : ExcBaseFacts B newId initId bmB) (q : PySem.W.excIn X.K (G.cA c) bmB newId = true) (gC : X.mg c = some (.ref (G.cA c))) (kC : PySem.W.keepIn X.K (.ref (G.cA c)) = true) (r : Raises X (.ref (G.cA c))) (hg : Gl X c)
    (hdb : (c == ("__debug__" : Str)) = false := by decide) : PS X (.Raise (some (.Call (.Name c p) [.Constant (.str m) j p2] [] cp)) none pos) (tS G pn (sRaise c)) :=
  (ps_raise hc tk (pmk_own F q gC kC r hg hdb)).imp fun D σ H ⟨Hf, ρ, rp, af⟩ => af σ Hf H (.refl rp) (.refl _ _)
def RtP (H Hf' H' : Hp) (v : V) : Rt → Prop
  | .fz d => Rep Hf' v d
  | .ow ds => ∃ p vs, v = .ref p ∧ H p = none ∧ Hf' p = none ∧ H' p = some (.lst vs) ∧ RepA Hf' vs ds
  | .tr t => ∃ F, TR Hf' H' v t F ∧ F.Nodup ∧ ∀ a ∈ F, H a = none ∧ Hf' a = none
structure Sb (Hf H : Hp) : Prop where
  sm : Same Hf H
  tb : Tb H
  nt : NtH Hf
structure SmN (H H' : Hp) : Prop where
  keep : ∀ a o, H a = some o → NT o → H' a = some o
  dom : ∀ a, H' a = none → H a = none
  tb : Tb H'
theorem _root_.Fx.Rp.sb {Hf H : Hp} {σ : St} {ρ : Rho} (r : Rp Hf H σ ρ) : Sb Hf H := ⟨r.sub, r.tb, r.nt⟩
theorem Sb.later {Hf H H' : Hp} (r : Sb Hf H) (s : SmN H H') : Sb Hf H' := ⟨fun a o e => s.keep a o (r.sm a o e) fun ps z => r.nt a ps (by rw [e, z]), s.tb, r.nt⟩
def spP (cA : Str → Addr) (n : Nat) (F : List PyData → Out Rt) : Sp := fun vs H Q E => vs.length = n ∧ ∃ Hf ds, Sb Hf H ∧ RepA Hf vs ds ∧ (match F ds with
  | .ok r => ∀ v Hf' H', Same Hf Hf' → Sb Hf' H' → SmN H H' → (∀ a, Hf a = none → Hf' a = none ∨ H a = none) → RtP H Hf' H' v r → Q v H'
  | .exc c => ∀ H', SmN H H' → E (.ref (cA c)) none H'
  | .bad => False)
def spI (cA : Str → Addr) (n : Nat) (F : List PyData → List PyData → Out (Rt × List PyData)) : Sp := fun vs H Q E => vs.length = n ∧ ∃ Hf p ws us io ds, vs = .ref p :: us ∧ Sb Hf H ∧ Hf p = none ∧ H p = some (.lst ws) ∧ RepA Hf ws io ∧ RepA Hf us ds ∧ (match F io ds with
  | .ok (r, io') => ∀ v Hf' H' zs, Same Hf Hf' → Sb Hf' H' → (∀ a o, H a = some o → NT o → a ≠ p → H' a = some o) → (∀ a, H' a = none → H a = none) → (∀ a, Hf a = none → Hf' a = none ∨ H a = none) → Hf' p = none → H' p = some (.lst zs) → RepA Hf' zs io' → RtP H Hf' H' v r → Q v H'
  | .exc c => ∀ H', (∀ a o, H a = some o → NT o → a ≠ p → H' a = some o) → (∀ a, H' a = none → H a = none) → Tb H' → E (.ref (cA c)) none H'
  | .bad => False)
@[simp] def toOut : Fl → Out Rt
  | .nx _ => .ok (.fz .none)
  | .ret r _ => .ok r
  | .exc c _ => .exc c
  | _ => .bad
@[simp] def toOutI : Fl → Out (Rt × List PyData)
  | .nx ρ => (match (ρ[(0 : Nat)]? : Option Sl) with
    | some (.ow io) => .ok (.fz .none, io)
    | _ => .bad)
  | .ret r ρ => (match (ρ[(0 : Nat)]? : Option Sl) with
    | some (.ow io) => .ok (r, io)
    | _ => .bad)
  | .exc c _ => .exc c
  | _ => .bad
def st0 (N : List Str) (ds : List PyData) : Rho := ds.map Sl.fz ++ List.replicate (N.length - ds.length) Sl.un
def stI (N : List Str) (io ds : List PyData) : Rho := Sl.ow io :: (ds.map Sl.fz ++ List.replicate (N.length - (ds.length + 1)) Sl.un)
theorem st0_get {N : List Str} {ds : List PyData} {i : Nat} {sl : Sl} (h : (st0 N ds)[i]? = some sl) : (∃ d, ds[i]? = some d ∧ sl = .fz d) ∨ sl = .un := by
  unfold st0 at h
  by_cases q : i < ds.length
  · rw [List.getElem?_append_left (by simpa using q), List.getElem?_map, List.getElem?_eq_getElem q] at h
    cases h
    exact .inl ⟨_, List.getElem?_eq_getElem q, rfl⟩
  · rw [List.getElem?_append_right (by simpa using q), List.getElem?_replicate] at h
    split at h
    · cases h; exact .inr rfl
    · cases h
theorem start_get {N : List Str} {vs : List V} {i : Nat} {v : V} (h : vs[i]? = some v) : (L2.start N vs)[i]? = some (some v) := by
  unfold L2.start
  have hl : i < vs.length := (List.getElem?_eq_some_iff.mp h).1
  rw [List.getElem?_append_left (by simpa using hl), List.getElem?_map, h]
  rfl
theorem rp_less {Hf H : Hp} {σ : St} {ρ : Rho} (sm : Sb Hf H) (hl : ρ.length ≤ σ.length) (h : ∀ (i : Nat) (s : Sl), ρ[i]? = some s → Hless s ∧ SlOk Hf H σ[i]? s) : Rp Hf H σ ρ ∧ (∀ a, ¬ OwnA H σ ρ a) := by
  have no : ∀ i a, ¬ OwnI H σ ρ i a := fun i a ⟨s, v, e1, e2, o⟩ => by
    have := (h i s e1).1
    cases s <;> first | exact o.elim | exact this.elim
  refine ⟨⟨sm.sm, sm.tb, sm.nt, hl, fun i s e => (h i s e).2, fun i j a z => absurd z (no i a), fun a ⟨i, t, v, Hf0, F, e1, _⟩ => ((h i _ e1).1 : False).elim, fun j i qs t e1 _ => ((h j _ e1).1 : False).elim⟩, fun a ⟨i, z⟩ => no i a z⟩
theorem start_less {N : List Str} {vs : List V} {ds : List PyData} {Hf H : Hp} (r : RepA Hf vs ds) : (st0 N ds).length ≤ (L2.start N vs).length ∧ ∀ (i : Nat) (s : Sl), (st0 N ds)[i]? = some s → Hless s ∧ SlOk Hf H (L2.start N vs)[i]? s := by
  have hl := repA_len r
  refine ⟨by unfold st0 L2.start; simp [hl], fun i sl h => ?_⟩
  rcases st0_get h with ⟨d, e, rfl⟩ | rfl
  · obtain ⟨v, e1, r1⟩ := repA_get r e
    rw [start_get e1]
    exact ⟨True.intro, slok_fz.mpr r1⟩
  · exact ⟨True.intro, slok_un⟩
theorem rp_start {N : List Str} {vs : List V} {ds : List PyData} {Hf H : Hp} (sm : Sb Hf H) (r : RepA Hf vs ds) : Rp Hf H (L2.start N vs) (st0 N ds) := (rp_less sm (start_less (H := H) r).1 (start_less r).2).1
theorem noown_start {N : List Str} {vs : List V} {ds : List PyData} {H : Hp} {a : Addr} : ¬ OwnA H (L2.start N vs) (st0 N ds) a := fun ⟨i, s, v, h, _, o⟩ => by
  rcases st0_get h with ⟨d, _, z⟩ | z <;> (subst z; exact o.elim)
def CdIs (K : PySem.W.Frag) (f : Addr) (cdv : Value) : Prop := ∃ (oc : Value) (od : Option Addr) (fd : FuncData) (osl : Array (Option Value)), K.lookup f = some ⟨oc, od, .func fd, osl⟩ ∧ fd.code = cdv ∧ ∃ c, cdv = .ref c
theorem okC {P : Program} {w : World} {K : PySem.W.Frag} {mg : Str → Option Value} {base : Heap} {x qual : Str} {st : Stmt} {f : Addr} {fd : FuncData} {N ps : List Str} {k : Nat} {sp : Sp} (Fn : Fun K x qual st f fd) (S : FnScope N ps (defScope st)) (len : ∀ vs H Q E, sp vs H Q E → vs.length = ps.length)
    (hb : ∀ (cdv : Value), CdIs K f cdv → ∀ (A : Around) (outer : List Env) (s : Shared) (H : Hp) (vs : List V) (Q : VK) (E : XK), Room k (A.deeper (PyProof.Rows.envOfC qual (defScope st) s.heap.objs.size f cdv)) → sp vs H Q E →
      ∃ t, PSs (cxOf (L2.CX P w) P w K mg base N qual (defScope st) f cdv A outer s H E) (defBody st) t ∧ t { nx := fun _ H' => Q .non H', rt := Q } (L2.start N vs) H) : FnOk P w K mg base (L2.CX P w) (k + 1) f fd ps sp := by
  obtain ⟨oc, od, v1, v2, v3, an, cdv, v4, osl, e, lk, hcd⟩ := Fn.ex
  have ci : CdIs K f cdv := ⟨oc, od, fd, osl, lk, by rw [e], He.codeIn_ref hcd⟩
  subst e
  exact fn_of lk hcd S len fun A outer s H vs Q E hr h => hb cdv ci A outer s H vs Q E hr h
theorem fn_pureC {P : Program} {w : World} {K : PySem.W.Frag} {mg : Str → Option Value} {base : Heap} {cA : Str → Addr} {x qual : Str} {sd : Stmt} {f : Addr} {fd : FuncData} {N ps : List Str} {k : Nat} {g : Rho → Fl} (Fn : Fun K x qual sd f fd) (S : FnScope N ps (defScope sd))
    (hb : ∀ (cdv : Value), CdIs K f cdv → ∀ (A : Around) (outer : List Env) (s : Shared) (H : Hp) (E : XK), Room k (A.deeper (PyProof.Rows.envOfC qual (defScope sd) s.heap.objs.size f cdv)) → PSs (cxOf (L2.CX P w) P w K mg base N qual (defScope sd) f cdv A outer s H E) (defBody sd) (tS ⟨fun cls d _ H => E cls d H, cA, false⟩ [] g)) :
    FnOk P w K mg base (L2.CX P w) (k + 1) f fd ps (spP cA ps.length fun ds => toOut (g (st0 N ds))) := by
  refine okC Fn S (fun vs H Q E h => h.1) fun cdv ci A outer s H vs Q E hr h => ⟨_, hb cdv ci A outer s H E hr, ?_⟩
  obtain ⟨hl, Hf, ds, sm, r, h⟩ := h
  dsimp only at h
  refine ⟨Hf, st0 N ds, rp_start sm r, ?_⟩
  have keep : ∀ {σ' : St} {ρ' : Rho} {Hf' H' : Hp}, Nxt false (L2.start N vs) (st0 N ds) Hf H σ' ρ' Hf' H' → SmN H H' := fun n => ⟨fun b o e t => n.keep b o e t noown_start, n.dom, n.rp.tb⟩
  have fr : ∀ {σ' : St} {ρ' : Rho} {Hf' H' : Hp}, Nxt false (L2.start N vs) (st0 N ds) Hf H σ' ρ' Hf' H' → ∀ a, Hf a = none → Hf' a = none ∨ H a = none := fun n a z => (n.fr a z).imp id fun q => q.elim id fun w => absurd w noown_start
  cases e : g (st0 N ds) with
  | nx ρ' =>
    rw [e] at h
    exact fun σ' Hf' H' n _ => h .non Hf' H' n.sub n.rp.sb (keep n) (fr n) .non
  | ret rt ρ' =>
    rw [e] at h
    cases rt with
    | fz d => exact fun v σ' Hf' H' n _ q => h v Hf' H' n.sub n.rp.sb (keep n) (fr n) q
    | ow es => exact fun v σ' Hf' H' n _ ⟨p, us, ev, h1, h3, h4, h5, h6⟩ => h v Hf' H' n.sub n.rp.sb (keep n) (fr n) ⟨p, us, ev, h1.elim id fun z => absurd z noown_start, h3, h5, h6⟩
    | tr t => exact fun v σ' Hf' H' n _ ⟨F, h1, h2, h3⟩ => h v Hf' H' n.sub n.rp.sb (keep n) (fr n) ⟨F, h1, h2, fun a m => ⟨(h3 a m).1.elim id fun z => absurd z noown_start, (h3 a m).2.1⟩⟩
  | exc c ρ' =>
    rw [e] at h
    exact fun σ' Hf' H' n _ => h H' (keep n)
  | brk _ => rw [e] at h; exact h.elim
  | ct _ => rw [e] at h; exact h.elim
  | bad => rw [e] at h; exact h.elim
theorem fn_pure {P : Program} {w : World} {K : PySem.W.Frag} {mg : Str → Option Value} {base : Heap} {cA : Str → Addr} {x qual : Str} {sd : Stmt} {f : Addr} {fd : FuncData} {N ps : List Str} {k : Nat} {g : Rho → Fl} (Fn : Fun K x qual sd f fd) (S : FnScope N ps (defScope sd))
    (hb : ∀ (cdv : Value) (A : Around) (outer : List Env) (s : Shared) (H : Hp) (E : XK), Room k (A.deeper (PyProof.Rows.envOfC qual (defScope sd) s.heap.objs.size f cdv)) → PSs (cxOf (L2.CX P w) P w K mg base N qual (defScope sd) f cdv A outer s H E) (defBody sd) (tS ⟨fun cls d _ H => E cls d H, cA, false⟩ [] g)) :
    FnOk P w K mg base (L2.CX P w) (k + 1) f fd ps (spP cA ps.length fun ds => toOut (g (st0 N ds))) := fn_pureC Fn S fun cdv _ => hb cdv
theorem stI_get {N : List Str} {io ds : List PyData} {i : Nat} {sl : Sl} (h : (stI N io ds)[i]? = some sl) : (i = 0 ∧ sl = .ow io) ∨ (∃ j d, i = j + 1 ∧ ds[j]? = some d ∧ sl = .fz d) ∨ sl = .un := by
  unfold stI at h
  cases i with
  | zero => cases h; exact .inl ⟨rfl, rfl⟩
  | succ j =>
    rw [List.getElem?_cons_succ] at h
    by_cases q : j < ds.length
    · rw [List.getElem?_append_left (by simpa using q), List.getElem?_map, List.getElem?_eq_getElem q] at h
      cases h
      exact .inr (.inl ⟨j, _, rfl, List.getElem?_eq_getElem q, rfl⟩)
    · rw [List.getElem?_append_right (by simpa using q), List.getElem?_replicate] at h
      split at h
      · cases h; exact .inr (.inr rfl)
      · cases h
theorem own_startI {N : List Str} {us : List V} {p a : Addr} {io ds : List PyData} {H : Hp} (h : OwnA H (L2.start N (.ref p :: us)) (stI N io ds) a) : a = p := by
  obtain ⟨i, s, v, h1, h2, o⟩ := h
  rcases stI_get h1 with ⟨rfl, rfl⟩ | ⟨j, d, _, _, rfl⟩ | rfl
  · rw [start_get (v := .ref p) rfl] at h2
    cases h2
    cases (show V.ref p = .ref a from o)
    rfl
  · exact o.elim
  · exact o.elim
theorem rp_startI {N : List Str} {us : List V} {p : Addr} {ws : List V} {io ds : List PyData} {Hf H : Hp} (sm : Sb Hf H) (hp : Hf p = none) (hw : H p = some (.lst ws)) (rw' : RepA Hf ws io) (r : RepA Hf us ds) (hN : ds.length + 1 ≤ N.length) : Rp Hf H (L2.start N (.ref p :: us)) (stI N io ds) := by
  have hl := repA_len r
  have now : ∀ (i : Nat) (a : Addr), OwnI H (L2.start N (.ref p :: us)) (stI N io ds) i a → i = 0 := fun i a ⟨s, v, h, _, o⟩ => by
    rcases stI_get h with ⟨z, _⟩ | ⟨j, d, _, _, rfl⟩ | rfl
    · exact z
    · exact o.elim
    · exact o.elim
  refine ⟨sm.sm, sm.tb, sm.nt, by unfold stI L2.start; simp [hl], fun i sl h => ?_, fun i j a h1 h2 => by rw [now i a h1, now j a h2], fun a ⟨i, t, v, Hf0, F, h, _⟩ => ?_, fun j i qs t h _ => ?_⟩
  · rcases stI_get h with ⟨rfl, rfl⟩ | ⟨j, d, rfl, e, rfl⟩ | rfl
    · rw [start_get (v := .ref p) rfl]
      exact ⟨hp, ws, hw, rw'⟩
    · obtain ⟨v, e1, r1⟩ := repA_get r e
      rw [start_get (v := v) (by rw [List.getElem?_cons_succ]; exact e1)]
      exact slok_fz.mpr r1
    · exact slok_un
  · rcases stI_get h with ⟨_, z⟩ | ⟨_, d, _, _, z⟩ | z <;> cases z
  · rcases stI_get h with ⟨_, z⟩ | ⟨_, d, _, _, z⟩ | z <;> cases z
theorem fn_io {P : Program} {w : World} {K : PySem.W.Frag} {mg : Str → Option Value} {base : Heap} {cA : Str → Addr} {x qual : Str} {sd : Stmt} {f : Addr} {fd : FuncData} {N ps : List Str} {k : Nat} {g : Rho → Fl} (Fn : Fun K x qual sd f fd) (S : FnScope N ps (defScope sd))
    (hb : ∀ (cdv : Value) (A : Around) (outer : List Env) (s : Shared) (H : Hp) (E : XK), Room k (A.deeper (PyProof.Rows.envOfC qual (defScope sd) s.heap.objs.size f cdv)) → PSs (cxOf (L2.CX P w) P w K mg base N qual (defScope sd) f cdv A outer s H E) (defBody sd) (tS ⟨fun cls d _ H => E cls d H, cA, false⟩ [0] g)) :
    FnOk P w K mg base (L2.CX P w) (k + 1) f fd ps (spI cA ps.length fun io ds => toOutI (g (stI N io ds))) := by
  refine Fn.okX S (fun vs H Q E h => h.1) fun cdv A outer s H vs Q E hr h => ⟨_, hb cdv A outer s H E hr, ?_⟩
  obtain ⟨hl, Hf, p, ws, us, io, ds, rfl, sm, hp, hw, rw', r, h⟩ := h
  have hN : ds.length + 1 ≤ N.length := by
    rw [← repA_len r]
    have := congrArg List.length S.pre
    rw [List.length_take] at this
    rw [List.length_cons] at hl
    omega
  have rp := rp_startI (N := N) sm hp hw rw' r hN
  refine ⟨Hf, stI N io ds, rp, ?_⟩
  dsimp only at h
  have s0 : (L2.start N (.ref p :: us))[0]? = some (some (.ref p)) := start_get (v := .ref p) rfl
  have keep : ∀ {H' : Hp}, Keep (L2.start N (.ref p :: us)) (stI N io ds) H H' → ∀ a o, H a = some o → NT o → a ≠ p → H' a = some o := fun k b o e t ne => k b o e t fun z => ne (own_startI z)
  have fr : ∀ {σ' : St} {ρ' : Rho} {Hf' H' : Hp} {io' : List PyData}, Nxt false (L2.start N (.ref p :: us)) (stI N io ds) Hf H σ' ρ' Hf' H' → Pin [0] (L2.start N (.ref p :: us)) σ' → ρ'[0]? = some (.ow io') → (∀ a, Hf a = none → Hf' a = none ∨ H a = none) ∧ Hf' p = none ∧ ∃ zs, H' p = some (.lst zs) ∧ RepA Hf' zs io' := fun {σ' ρ' Hf' H' io'} n pi e => by
    obtain ⟨q, zs, e1, e2, e3, e4⟩ := slok_ow (n.rp.sl 0 _ e)
    rw [pi 0 (List.mem_singleton.mpr rfl), s0] at e1
    cases e1
    refine ⟨fun a z => (n.fr a z).elim .inl fun q => q.elim .inr fun w => .inl (by rw [own_startI w]; exact e2), e2, zs, e3, e4⟩
  cases e : g (stI N io ds) with
  | nx ρ' =>
    rw [e] at h
    unfold toOutI at h
    intro σ' Hf' H' n pi
    cases q : (ρ'[(0 : Nat)]? : Option Sl) with
    | none => simp only [q] at h
    | some sl =>
      cases sl with
      | un => simp only [q] at h
      | raw _ => simp only [q] at h
      | tr _ => simp only [q] at h
      | lk _ => simp only [q] at h
      | pa _ _ => simp only [q] at h
      | fz _ => simp only [q] at h
      | ow io' =>
        simp only [q] at h
        obtain ⟨f1, f2, zs, f3, f4⟩ := fr n pi q
        exact h .non Hf' H' zs n.sub n.rp.sb (keep n.keep) n.dom f1 f2 f3 f4 .non
  | ret rt ρ' =>
    rw [e] at h
    unfold toOutI at h
    intro v σ' Hf' H' n pi hq
    cases q : (ρ'[(0 : Nat)]? : Option Sl) with
    | none => simp only [q] at h
    | some sl =>
      cases sl with
      | un => simp only [q] at h
      | raw _ => simp only [q] at h
      | tr _ => simp only [q] at h
      | lk _ => simp only [q] at h
      | pa _ _ => simp only [q] at h
      | fz _ => simp only [q] at h
      | ow io' =>
        simp only [q] at h
        obtain ⟨f1, f2, zs, f3, f4⟩ := fr n pi q
        refine h v Hf' H' zs n.sub n.rp.sb (keep n.keep) n.dom f1 f2 f3 f4 ?_
        cases rt with
        | fz d => exact hq
        | ow es =>
          obtain ⟨p2, us2, ev, h1, h3, h4, h5, h6⟩ := hq
          refine ⟨p2, us2, ev, h1.elim id fun z => ?_, h3, h5, h6⟩
          have e0 := own_startI z
          subst e0
          exact absurd ⟨0, (ownI_ow q ((pi 0 (List.mem_singleton.mpr rfl)).trans s0)).mpr rfl⟩ h4
        | tr t =>
          obtain ⟨F, h1, h2, h3⟩ := hq
          refine ⟨F, h1, h2, fun a m => ⟨(h3 a m).1.elim id fun z => ?_, (h3 a m).2.1⟩⟩
          have e0 := own_startI z
          subst e0
          exact absurd ⟨0, (ownI_ow q ((pi 0 (List.mem_singleton.mpr rfl)).trans s0)).mpr rfl⟩ (h3 _ m).2.2
  | exc c ρ' =>
    rw [e] at h
    exact fun σ' Hf' H' n _ => h H' (keep n.keep) n.dom n.rp.tb
  | brk _ => rw [e] at h; exact h.elim
  | ct _ => rw [e] at h; exact h.elim
  | bad => rw [e] at h; exact h.elim
theorem spP_imp {cA : Str → Addr} {n : Nat} {F F' : List PyData → Out Rt} (h : ∀ ds, ds.length = n → F' ds ≠ .bad → F ds = F' ds) (vs : List V) (H : Hp) (Q : VK) (E : XK) (q : spP cA n F' vs H Q E) : spP cA n F vs H Q E := by
  obtain ⟨hl, Hf, ds, sm, r, q⟩ := q
  refine ⟨hl, Hf, ds, sm, r, ?_⟩
  have e : F ds = F' ds := h ds (by rw [← repA_len r]; exact hl) fun z => by rw [z] at q; exact q
  rw [e]
  exact q
theorem spI_imp {cA : Str → Addr} {n : Nat} {F F' : List PyData → List PyData → Out (Rt × List PyData)} (h : ∀ io ds, ds.length + 1 = n → F' io ds ≠ .bad → F io ds = F' io ds) (vs : List V) (H : Hp) (Q : VK) (E : XK) (q : spI cA n F' vs H Q E) : spI cA n F vs H Q E := by
  obtain ⟨hl, Hf, p, ws, us, io, ds, e1, sm, e2, e3, r1, r, q⟩ := q
  refine ⟨hl, Hf, p, ws, us, io, ds, e1, sm, e2, e3, r1, r, ?_⟩
  have e : F io ds = F' io ds := h io ds (by subst e1; rw [← repA_len r]; exact hl) fun z => by rw [z] at q; exact q
  rw [e]
  exact q
@[simp] def rtD : Rt → Option PyData
  | .fz d => some d
  | .ow ds => some (.list ds)
  | .tr _ => none
@[simp] def callM (F : List PyData → Out Rt) (ds : List PyData) : M PyData := fun ρ => match F ds with
  | .ok r => opt (rtD r) ρ
  | .exc c => .exc c ρ
  | .bad => .bad
@[simp] def fCall (F : List PyData → Out Rt) (fs : M (List PyData)) : M PyData := fun ρ => (bnd fs (callM F)) ρ
theorem nxt_call {q : Bool} {σ : St} {ρ : Rho} {Hf H Hf' H' : Hp} (rp : Rp Hf H σ ρ) (h1 : Same Hf Hf') (h2 : Sb Hf' H') (h3 : SmN H H') (h4 : ∀ a, Hf a = none → Hf' a = none ∨ H a = none) : Nxt q σ ρ Hf H σ ρ Hf' H' := by
  have kk : ∀ a, OwnA H σ ρ a ∨ LkA H σ ρ a → H' a = H a := fun a z => by
    obtain ⟨u, hu, tu⟩ := rp.liv z
    rw [hu]; exact h3.keep a u hu tu
  refine ⟨h1, fun a o h t _ => h3.keep a o h t, fun a ⟨i, z⟩ => .inl ⟨i, (rp.ownI_iff (fun b y => kk b (.inl ⟨i, y⟩)) a).mp z⟩, fun a z => rp.lka_of (fun b y => kk b (.inr y)) z, fun a z => h3.dom a z, fun a z => (h4 a z).imp id .inl, fun _ => ⟨fun i t e => ⟨e, rfl, fun a z => kk a (.inl ⟨i, z⟩)⟩, .refl⟩, rp.grow h1 h2.sm h2.tb h2.nt (fun a z => ⟨?_, kk a (.inl z)⟩) fun a z => kk a (.inr z)⟩
  obtain ⟨o1, vs, o2, _⟩ := rp.own z
  refine (h4 a o1).elim id fun q => ?_
  rw [o2] at q; cases q
theorem notOwn_call {σ : St} {ρ : Rho} {Hf H H' : Hp} (rp : Rp Hf H σ ρ) (h3 : SmN H H') {p : Addr} (hp : H p = none) : ¬ OwnA H' σ ρ p := fun ⟨i, z⟩ => by
  refine rp.notOwn hp ⟨i, (rp.ownI_iff (fun b y => ?_) p).mp z⟩
  obtain ⟨u, hu, tu⟩ := (rp.ownI y).2
  rw [hu]; exact h3.keep b u hu tu
theorem call_run {cA : Str → Addr} {n : Nat} {F : List PyData → Out Rt} (hcA : G.cA = cA) (hn : ∀ ds r, F ds = r → r ≠ .bad → ds.length = n) (σ : St) (H : Hp) (Q : VK) (h : tE G (fCall F fs) σ H Q) : tCallS (spP cA n F) (WE G.W) (tA G fs) σ H Q := by
  obtain ⟨Hf, ρ, rp, af⟩ := h
  refine (step rp af).mono fun vs H1 ⟨ds, Hf1, ρ1, n1, ra, af1⟩ => ?_
  have hl : vs.length = n := by
    rw [repA_len ra]
    refine hn ds _ rfl fun z => ?_
    unfold callM at af1
    rw [z] at af1
    exact af1
  refine ⟨hl, Hf1, ds, n1.rp.sb, ra, ?_⟩
  unfold callM at af1
  cases e : F ds with
  | bad => rw [e] at af1; exact af1.elim
  | exc c =>
    rw [e] at af1
    subst hcA
    exact fun H' s => af1 Hf1 H' (nxt_call n1.rp (Same.refl _) (n1.rp.sb.later s) s fun a z => .inl z)
  | ok r =>
    rw [e] at af1
    intro v Hf' H' h1 h2 h3 h4 h5
    have nn := nxt_call (q := G.q) n1.rp h1 h2 h3 h4
    cases r with
    | fz d => exact af1 v Hf' H' nn h5
    | ow es =>
      obtain ⟨p, us, rfl, g1, g2, g3, g4⟩ := h5
      obtain ⟨n2, r2⟩ := nn.take (.inl g1) g2 (notOwn_call n1.rp h3 g1) g3 g4
      exact af1 _ _ _ n2 r2
    | tr t => exact False.elim af1
variable {CX : CXT} {k : Nat} {fa : Addr} {fd : FuncData} {ps : List Str} {cA : Str → Addr} {x : Str} {p : Pos}
theorem fe_call {F : List PyData → Out Rt} {n : Nat} (hn : ∀ ds r, F ds = r → r ≠ .bad → ds.length = n) (Fo : FnOk X.prog X.w X.K X.mg X.base (L2.CX X.prog X.w) k fa fd ps (spP G.cA n F)) (hr : Room k X.A) (hg : Gl X x) (hm : X.mg x = some (.ref fa)) (hk : PySem.W.keepIn X.K (.ref fa) = true) (hb : Binds X.K fd ps []) (tk : Takes X G.W)
    (ha : PA X (e :: es) (tA G fs)) (hdb : (x == ("__debug__" : Str)) = false := by decide) (he : starEach (e :: es) X.env = (false, eval e X.env) :: starEach es X.env := by rfl) (hpl : (backTo pos (starEach es X.env)).any (·.1) = false := by rfl) :
    PE X (.Call (.Name x p) (e :: es) [] pos) (tE G (fCall F fs)) := (pe_callS Fo hr hg hm hk hb (fun σ => passAt tk σ) ha hdb he hpl).imp (call_run rfl hn)
@[simp] def callLM (F : List PyData → Out Rt) (ds : List PyData) : M (List PyData) := fun ρ => match F ds with
  | .ok (.ow es) => .ok (es, ρ)
  | .ok _ => .bad
  | .exc c => .exc c ρ
  | .bad => .bad
@[simp] def fCallL (F : List PyData → Out Rt) (fs : M (List PyData)) : M (List PyData) := fun ρ => (bnd fs (callLM F)) ρ
@[simp] def callIM (i : Nat) (F : List PyData → List PyData → Out (Rt × List PyData)) (ds : List PyData) : M Rt := fun ρ => match (ρ[i]? : Option Sl) with
  | some (.ow io) => (match F io ds with
    | .ok (r, io') => .ok (r, ρ.set i (.ow io'))
    | .exc c => .exc c (ρ.set i .un)
    | .bad => .bad)
  | _ => .bad
@[simp] def fCallI (i : Nat) (F : List PyData → List PyData → Out (Rt × List PyData)) (fs : M (List PyData)) : M PyData := fun ρ => if isOw i ρ then bnd fs (fun ds => bnd (callIM i F ds) fun r => opt (rtD r)) ρ else .bad
theorem nxt_callI {q : Bool} {σ : St} {ρ : Rho} {Hf H Hf' H' : Hp} {i : Nat} {p : Addr} {io io' : List PyData} {zs : List V} (rp : Rp Hf H σ ρ) (hi : ρ[i]? = some (.ow io)) (hs : σ[i]? = some (some (.ref p))) (h1 : Same Hf Hf') (h2 : Sb Hf' H') (h3 : ∀ a o, H a = some o → NT o → a ≠ p → H' a = some o) (dm : ∀ a, H' a = none → H a = none) (h4 : ∀ a, Hf a = none → Hf' a = none ∨ H a = none) (h5 : Hf' p = none) (h6 : H' p = some (.lst zs)) (h7 : RepA Hf' zs io') : Nxt q σ ρ Hf H σ (ρ.set i (.ow io')) Hf' H' :=
  rp.chgO hi hs (.inr ⟨_, rfl⟩) h1 h2.sm h2.tb h2.nt h3 dm (fun a z => (h4 a z).imp id .inl) ⟨h5, zs, h6, h7⟩
theorem nxt_dropI {q : Bool} {σ : St} {ρ : Rho} {Hf H H' : Hp} {i : Nat} {p : Addr} {io : List PyData} (rp : Rp Hf H σ ρ) (hi : ρ[i]? = some (.ow io)) (hs : σ[i]? = some (some (.ref p))) (h3 : ∀ a o, H a = some o → NT o → a ≠ p → H' a = some o) (dm : ∀ a, H' a = none → H a = none) (tb : Tb H') : Nxt q σ ρ Hf H σ (ρ.set i .un) Hf H' := by
  have hp := (rp.ownI ((ownI_ow hi hs).mpr rfl)).1
  exact rp.chgO hi hs (.inl True.intro) (Same.refl _) (fun a o h => h3 a o (rp.sub _ _ h) (fun ps z => rp.nt a ps (by rw [h, z])) (ne_of_none h hp)) tb rp.nt h3 dm (fun a z => .inl z) slok_un
theorem callI_run {cA : Str → Addr} {n i : Nat} {F : List PyData → List PyData → Out (Rt × List PyData)} (hcA : G.cA = cA) (hn : ∀ io ds r, F io ds = r → r ≠ .bad → ds.length + 1 = n) (σ : St) (H : Hp) (Q : VK) (h : tE G (fCallI i F fs) σ H Q) : tCallS (spI cA n F) (WE G.W) (tCons (tVar i) (tA G fs)) σ H Q := by
  obtain ⟨Hf, ρ, rp, af⟩ := h
  unfold fCallI at af
  cases e0 : isOw i ρ with
  | false => rw [e0] at af; exact False.elim af
  | true =>
    rw [e0, if_pos rfl] at af
    obtain ⟨ds0, h0⟩ := isOw_ow e0
    obtain ⟨p, vs0, s0, _, g0, _⟩ := slok_ow (rp.sl i _ h0)
    refine ⟨_, s0, (step rp af).mono fun us H1 ⟨ds, Hf1, ρ1, n1, ra, af1⟩ => ?_⟩
    show spI cA n F (V.ref p :: us) H1 Q (WE G.W σ)
    unfold bnd callIM at af1
    cases q : (ρ1[i]? : Option Sl) with
    | none => simp only [q] at af1; exact False.elim af1
    | some sl =>
      cases sl with
      | un => simp only [q] at af1; exact False.elim af1
      | raw _ => simp only [q] at af1; exact False.elim af1
      | tr _ => simp only [q] at af1; exact False.elim af1
      | lk _ => simp only [q] at af1; exact False.elim af1
      | pa _ _ => simp only [q] at af1; exact False.elim af1
      | fz _ => simp only [q] at af1; exact False.elim af1
      | ow io =>
        simp only [q] at af1
        obtain ⟨p', ws, s1, f1, g1, r1⟩ := slok_ow (n1.rp.sl i _ q)
        rw [s0] at s1
        cases s1
        have hl : (V.ref p :: us).length = n := by
          rw [List.length_cons, repA_len ra]
          refine hn io ds _ rfl fun z => ?_
          rw [z] at af1
          exact af1
        refine ⟨hl, Hf1, p, ws, us, io, ds, rfl, n1.rp.sb, f1, g1, r1, ra, ?_⟩
        cases e : F io ds with
        | bad => rw [e] at af1; exact False.elim af1
        | exc c =>
          rw [e] at af1
          subst hcA
          exact fun H' s dm t => af1 Hf1 H' (nxt_dropI n1.rp q s0 s dm t)
        | ok rr =>
          obtain ⟨r, io'⟩ := rr
          rw [e] at af1
          intro v Hf' H' zs h1 h2 h3 dm h4 h5 h6 h7 h8
          have nn := nxt_callI (q := G.q) n1.rp q s0 h1 h2 h3 dm h4 h5 h6 h7
          cases r with
          | fz d => exact af1 v Hf' H' nn h8
          | ow es =>
            obtain ⟨p2, us2, rfl, k1, k2, k3, k4⟩ := h8
            have no : ¬ OwnA H' σ (ρ1.set i (.ow io')) p2 := fun ⟨j, z⟩ => by
              by_cases w : j = i
              · subst w
                have hlt : j < ρ1.length := (List.getElem?_eq_some_iff.mp q).1
                have e0 := (ownI_ow (ds := io') (by rw [List.getElem?_set, if_pos rfl, if_pos hlt]) s0).mp z
                subst e0
                rw [g1] at k1
                cases k1
              · obtain ⟨s, v, e1, e2, o⟩ := z
                rw [List.getElem?_set, if_neg fun y => w y.symm] at e1
                refine n1.rp.notOwn k1 ⟨j, (n1.rp.ownI_iff (fun b y => ?_) p2).mp ⟨s, v, e1, e2, o⟩⟩
                obtain ⟨u, hu, tu⟩ := (n1.rp.ownI y).2
                rw [hu]
                exact h3 b u hu tu fun e0 => w (n1.rp.nd j i b y ((ownI_ow q s0).mpr e0))
            obtain ⟨n2, r2⟩ := nn.take (.inl k1) k2 no k3 k4
            exact af1 _ _ _ n2 r2
          | tr t => exact False.elim af1
theorem fe_callI (i : Nat) {y : Str} {p1 : Pos} {F : List PyData → List PyData → Out (Rt × List PyData)} {n : Nat} (hn : ∀ io ds r, F io ds = r → r ≠ .bad → ds.length + 1 = n) (Fo : FnOk X.prog X.w X.K X.mg X.base (L2.CX X.prog X.w) k fa fd ps (spI G.cA n F)) (hr : Room k X.A) (hg : Gl X x) (hm : X.mg x = some (.ref fa)) (hk : PySem.W.keepIn X.K (.ref fa) = true) (hb : Binds X.K fd ps []) (tk : Takes X G.W)
    (ha : PA X es (tA G fs)) (hN : X.N[i]? = some y := by rfl) (hv : Vis X.env.scope y := by first | exact Or.inl rfl | exact Or.inr (Or.inl rfl) | exact Or.inr (Or.inr rfl)) (hd : (y == ("__debug__" : Str)) = false := by decide)
    (hcd : (y == ("__classdict__" : Str)) = false := by decide) (hdb : (x == ("__debug__" : Str)) = false := by decide) (he : starEach (.Name y p1 :: es) X.env = (false, eval (.Name y p1) X.env) :: starEach es X.env := by rfl) (hpl : (backTo pos (starEach es X.env)).any (·.1) = false := by rfl) :
    PE X (.Call (.Name x p) (.Name y p1 :: es) [] pos) (tE G (fCallI i F fs)) := (pe_callS Fo hr hg hm hk hb (fun σ => passAt tk σ) (pa_cons (pe_var hN hv hd hcd) ha he) hdb he hpl).imp (callI_run rfl hn)
end
end Fx
namespace Fx
open PySem L2
variable [Tabz]
section
variable {X : Cx} {G : Gx} {e a b : Expr} {es : List Expr} {f g : M PyData} {fs : M (List PyData)} {pos : Pos} {tg : Expr} {pn : List Nat} {st : Stmt} {sts : List Stmt} {s t : Rho → Fl} {A B : Opd} {As : List Opd}
mutual
theorem rep_dp {K : PySem.W.Frag} {H : Hp} : ∀ {v : V} {d : PyData}, d.canLay0 = true → Rep H v d → Dp K H v d
  | _, _, _, .non => .non
  | _, _, _, .bl b => .bl b
  | _, _, _, .int i => .int i
  | _, _, _, .str x => .str x
  | _, _, z, .lst h r => .lst (SqL.of h) (repA_dp z r)
  | _, _, z, .tup h r => .tup (SqT.of h) (repA_dp z r)
  | _, _, z, .ins _ _ _ => Bool.noConfusion z
  | _, _, z, .dct _ _ _ => Bool.noConfusion z
theorem repA_dp {K : PySem.W.Frag} {H : Hp} : ∀ {v : List V} {d : List PyData}, PyData.canLayAll0 d = true → RepA H v d → DpAll K H v d
  | _, _, _, .nil => .nil
  | _, _, z, .cons h r => .cons (rep_dp (Bool.and_eq_true_iff.mp z).1 h) (repA_dp (Bool.and_eq_true_iff.mp z).2 r)
end
theorem rep_dps {K : PySem.W.Frag} {H : Hp} {v : V} {d : PyData} (h : SeqAt.shaped d = true) (r : Rep H v d) : Dp K H v d := rep_dp (SeqAt.canLay_of_shaped h) r
def oEQ : PyData → PyData → Option PyData
  | .int i, .int j => some (.bool (decide (i = j)))
  | .str i, .str j => some (.bool (decide (i = j)))
  | .bool i, .bool j => some (.bool (decide (i = j)))
  | a, b => if SeqAt.shaped a && SeqAt.shaped b then some (.bool (PyData.eqv a b)) else none
def oNE : PyData → PyData → Option PyData
  | .int i, .int j => some (.bool (!decide (i = j)))
  | .str i, .str j => some (.bool (!decide (i = j)))
  | .bool i, .bool j => some (.bool (!decide (i = j)))
  | a, b => if SeqAt.shaped a && SeqAt.shaped b then some (.bool (!PyData.eqv a b)) else none
theorem op_or {F : Value → Value → Sem Value} {r r' : R2} (h : OpR X F r) (h' : OpR X F r') : OpR X F (fun x y H Q => r x y H Q ∨ r' x y H Q) := fun pins s σ H x y v u Q I rx ry q => q.elim (h pins s σ H x y v u Q I rx ry) (h' pins s σ H x y v u Q I rx ry)
theorem rd_EQ {K : PySem.W.Frag} : RdO (fun x y H Q => rEq x y H Q ∨ rEqD K x y H Q) oEQ := by
  intro Hf H x y a b d sm ha hb e
  unfold oEQ at e
  split at e
  · obtain ⟨v, h1, h2⟩ := rd_eq Hf H x y _ _ d sm ha hb e
    exact ⟨v, h1, fun Q q => .inl (h2 Q q)⟩
  · obtain ⟨v, h1, h2⟩ := rd_eq Hf H x y _ _ d sm ha hb e
    exact ⟨v, h1, fun Q q => .inl (h2 Q q)⟩
  · obtain ⟨v, h1, h2⟩ := rd_eq Hf H x y _ _ d sm ha hb e
    exact ⟨v, h1, fun Q q => .inl (h2 Q q)⟩
  · split at e
    · rename_i hs
      cases e
      exact ⟨_, .bl _, fun Q q => .inr ⟨_, _, rep_dps (Bool.and_eq_true_iff.mp hs).1 (ha.full sm), rep_dps (Bool.and_eq_true_iff.mp hs).2 (hb.full sm), (Bool.and_eq_true_iff.mp hs).1, (Bool.and_eq_true_iff.mp hs).2, q⟩⟩
    · cases e
theorem rd_NE {K : PySem.W.Frag} : RdO (fun x y H Q => rNe x y H Q ∨ rNeD K x y H Q) oNE := by
  intro Hf H x y a b d sm ha hb e
  unfold oNE at e
  split at e
  · obtain ⟨v, h1, h2⟩ := rd_ne Hf H x y _ _ d sm ha hb e
    exact ⟨v, h1, fun Q q => .inl (h2 Q q)⟩
  · obtain ⟨v, h1, h2⟩ := rd_ne Hf H x y _ _ d sm ha hb e
    exact ⟨v, h1, fun Q q => .inl (h2 Q q)⟩
  · obtain ⟨v, h1, h2⟩ := rd_ne Hf H x y _ _ d sm ha hb e
    exact ⟨v, h1, fun Q q => .inl (h2 Q q)⟩
  · split at e
    · rename_i hs
      cases e
      exact ⟨_, .bl _, fun Q q => .inr ⟨_, _, rep_dps (Bool.and_eq_true_iff.mp hs).1 (ha.full sm), rep_dps (Bool.and_eq_true_iff.mp hs).2 (hb.full sm), (Bool.and_eq_true_iff.mp hs).1, (Bool.and_eq_true_iff.mp hs).2, q⟩⟩
    · cases e
theorem op_EQ (hu : X.A.units + 64 < cLine) : OpR X (compareOp .Eq) (fun x y H Q => rEq x y H Q ∨ rEqD X.K x y H Q) := op_or op_eq (op_eqD hu)
theorem op_NE (hu : X.A.units + 64 < cLine) : OpR X (compareOp .NotEq) (fun x y H Q => rNe x y H Q ∨ rNeD X.K x y H Q) := op_or op_ne (op_neD hu)
@[simp] def finM {α : Type} (A : Opd) (a : PyData) (As : List Opd) (as : List PyData) (k : PyData → List PyData → Option α) : M α := fun ρ => match A.at a ρ with
  | some x => (match atAll As as ρ with
    | some xs => opt (k x xs) ρ
    | none => .bad)
  | none => .bad
@[simp] def isL : Option PyData → Bool
  | some (.list _) => true
  | _ => false
@[simp] def fBM (o : PyData → List PyData → Option PyData) (A : Opd) (As : List Opd) : M PyData := fun ρ => (bnd A.go fun a ρ => if isL (A.at a ρ) then bnd (goAll As) (fun as => finM A a As as o) ρ else .bad) ρ
def tyName : PyData → String
  | .none => "NoneType"
  | .bool _ => "bool"
  | .int _ => "int"
  | .str _ => "str"
  | .list _ => "list"
  | .tuple _ => "tuple"
  | .dict _ => "dict"
def isTyN (n T : String) : Bool := n == T || (n == "bool" && T == "int")
def isTy (d : PyData) (T : String) : Bool := isTyN (tyName d) T
def isDc : PyData → Bool
  | .dict _ => true
  | _ => false
@[simp] theorem isDc_n : isDc .none = false := rfl
@[simp] theorem isDc_b {x : Bool} : isDc (.bool x) = false := rfl
@[simp] theorem isDc_i {x : Int} : isDc (.int x) = false := rfl
@[simp] theorem isDc_s {x : Str} : isDc (.str x) = false := rfl
@[simp] theorem isDc_l {x : List PyData} : isDc (.list x) = false := rfl
@[simp] theorem isDc_t {x : List PyData} : isDc (.tuple x) = false := rfl
theorem rep_ty {K : PySem.W.Frag} {H : Hp} {v : V} {d : PyData} (nd : isDc d = false) (h : Rep H v d) : TyX K H v (.type (tyName d)) := by
  cases h with
  | non => exact .base .non
  | bl b => exact .base (.bl b)
  | int i => exact .base (.int i)
  | str x => exact .base (.str x)
  | lst h _ => exact .base (.lst h)
  | tup h _ => exact .base (.tup h)
  | ins _ _ _ => cases nd
  | dct _ _ _ => cases nd
def tyOk (T : String) : Bool := T == "bool" || T == "int" || T == "str" || T == "list" || T == "tuple"
theorem kit_at {K : PySem.W.Frag} {d : PyData} {T : String} (hT : tyOk T = true) (hd : ∀ kvs, d ≠ .dict kvs) : PySem.W.kitOne K (.type (tyName d)) (.type T) = some (isTy d T) := by
  have h5 : T = "bool" ∨ T = "int" ∨ T = "str" ∨ T = "list" ∨ T = "tuple" := by
    unfold tyOk at hT
    simp only [Bool.or_eq_true, beq_iff_eq] at hT
    rcases hT with (((h | h) | h) | h) | h
    · exact .inl h
    · exact .inr (.inl h)
    · exact .inr (.inr (.inl h))
    · exact .inr (.inr (.inr (.inl h)))
    · exact .inr (.inr (.inr (.inr h)))
  have h6 : ∀ n : String, (n = "NoneType" ∨ n = "bool" ∨ n = "int" ∨ n = "str" ∨ n = "list" ∨ n = "tuple") → PySem.W.kitOne K (.type n) (.type T) = some (isTyN n T) := by
    intro n hn
    rcases hn with rfl | rfl | rfl | rfl | rfl | rfl <;> rcases h5 with rfl | rfl | rfl | rfl | rfl <;> exact kit_ty (by decide +kernel)
  refine h6 _ ?_
  cases d with
  | dict kvs => exact absurd rfl (hd kvs)
  | none => exact .inl rfl
  | bool b => exact .inr (.inl rfl)
  | int b => exact .inr (.inr (.inl rfl))
  | str b => exact .inr (.inr (.inr (.inl rfl)))
  | list b => exact .inr (.inr (.inr (.inr (.inl rfl))))
  | tuple b => exact .inr (.inr (.inr (.inr (.inr rfl))))
theorem isDc_nd {d : PyData} (h : isDc d = false) : ∀ kvs, d ≠ .dict kvs := fun kvs z => by
  subst z; cases h
@[simp] def oIs (T : String) (d : PyData) : Option PyData := if isDc d = true then none else some (.bool (isTy d T))
theorem fe_isi {T : String} {x : Str} {p q : Pos} (hT : tyOk T = true) (hg : Gl X "isinstance") (hm : X.mg "isinstance" = none) (hgx : Gl X x) (hmx : X.mg x = none) (hx : bootBuiltins x = some (.type T)) (ha : PE X a (A.t G)) (hnx : x ≠ "__name__" := by decide) (hdx : (x == ("__debug__" : Str)) = false := by decide)
    (he : starEach [a, .Name x q] X.env = (false, eval a X.env) :: starEach [.Name x q] X.env := by rfl) (he2 : starEach [.Name x q] X.env = (false, eval (.Name x q) X.env) :: starEach [] X.env := by rfl) (hpl : (backTo pos (starEach [.Name x q] X.env)).any (·.1) = false := by rfl) :
    PE X (.Call (.Name "isinstance" p) [a, .Name x q] [] pos) (tE G (fUn (oIs T) A)) := by
  refine (pe_callB call_isi hg hm (by decide +kernel) (pa_cons ha (pa_cons (pe_bltn (v := .ty T) hgx hmx hx rfl hnx hdx) pa_nil he2) he) (by decide) (by decide) he hpl).imp fun σ H Q ⟨Hf, ρ, rp, af⟩ => ?_
  refine Opd.run (stepO rp af) fun y H1 ⟨d, Hf1, ρ1, n1, ra, af1⟩ => ?_
  obtain ⟨a', ea, af2⟩ := fin1_some af1
  cases nd : isDc a' with
  | true => simp [nd] at af2; exact False.elim af2
  | false =>
  simp only [oIs, nd, Bool.false_eq_true, if_false] at af2
  have r1 := Opd.end n1.rp ra ea
  exact ⟨y, .ty T, .type (tyName a'), .type T, isTy a' T, rfl, .ty T, rep_ty nd (r1.full n1.rp.sub), kit_at hT (isDc_nd nd), fin (R := Rep) n1.rp af2 (.bl _)⟩
@[simp] def oIs2 (T U : String) (d : PyData) : Option PyData := if isDc d = true then none else some (.bool (isTy d T || isTy d U))
theorem fe_isi2 {T U : String} {x y : Str} {p q q2 q3 : Pos} {k : Nat} (hT : tyOk T = true) (hU : tyOk U = true) (hg : Gl X "isinstance") (hm : X.mg "isinstance" = none) (hgx : Gl X x) (hmx : X.mg x = none) (hx : bootBuiltins x = some (.type T)) (hgy : Gl X y) (hmy : X.mg y = none) (hy : bootBuiltins y = some (.type U)) (ha : PE X a (A.t G)) (hnx : x ≠ "__name__" := by decide) (hdx : (x == ("__debug__" : Str)) = false := by decide) (hny : y ≠ "__name__" := by decide) (hdy : (y == ("__debug__" : Str)) = false := by decide)
    (he : starEach [a, .Tuple [.Name x q, .Name y q2] k q3] X.env = (false, eval a X.env) :: starEach [.Tuple [.Name x q, .Name y q2] k q3] X.env := by rfl) (he2 : starEach [.Tuple [.Name x q, .Name y q2] k q3] X.env = (false, eval (.Tuple [.Name x q, .Name y q2] k q3) X.env) :: starEach [] X.env := by rfl)
    (he3 : starEach [.Name x q, .Name y q2] X.env = (false, eval (.Name x q) X.env) :: starEach [.Name y q2] X.env := by rfl) (he4 : starEach [.Name y q2] X.env = (false, eval (.Name y q2) X.env) :: starEach [] X.env := by rfl) (hpl : (backTo pos (starEach [.Tuple [.Name x q, .Name y q2] k q3] X.env)).any (·.1) = false := by rfl) :
    PE X (.Call (.Name "isinstance" p) [a, .Tuple [.Name x q, .Name y q2] k q3] [] pos) (tE G (fUn (oIs2 T U) A)) := by
  refine (pe_callB call_isiT hg hm (by decide +kernel) (pa_cons ha (pa_cons (pe_tup (pa_cons (pe_bltn (v := .ty T) hgx hmx hx rfl hnx hdx) (pa_cons (pe_bltn (v := .ty U) hgy hmy hy rfl hny hdy) pa_nil he4) he3)) pa_nil he2) he) (by decide) (by decide) he hpl).imp fun σ H Q ⟨Hf, ρ, rp, af⟩ => ?_
  refine Opd.run (stepO rp af) fun y H1 ⟨d, Hf1, ρ1, n1, ra, af1⟩ => ?_
  obtain ⟨a', ea, af2⟩ := fin1_some af1
  cases nd : isDc a' with
  | true => simp [nd] at af2; exact False.elim af2
  | false =>
  simp only [oIs2, nd, Bool.false_eq_true, if_false] at af2
  have r1 := Opd.end n1.rp ra ea
  refine ⟨by show 2 ≤ sizeLine; decide, fun tp htp => ?_⟩
  have sm : Same Hf1 (upd H1 tp (.tup [.ty T, .ty U])) := n1.rp.sub.trans (same_new htp)
  have ty : TyX X.K (upd H1 tp (.tup [.ty T, .ty U])) y (.type (tyName a')) := rep_ty nd (rep_same (same_new htp) (r1.full n1.rp.sub))
  refine ⟨y, tp, [.ty T, .ty U], .type (tyName a'), [.type T, .type U], isTy a' T || isTy a' U, rfl, upd_same, .cons (.ty T) (.cons (.ty U) .nil), ty, ?_, ?_⟩
  · refine kitAny_cons (kit_at hT (isDc_nd nd)) (fun h => ?_) fun h => by rw [h]; rfl
    rw [h, Bool.false_or]
    refine kitAny_cons (kit_at hU (isDc_nd nd)) (fun h => ?_) fun h => h
    rw [h]
    exact kitAny_nil
  · exact AfG.new (R := Rep) n1.rp af2 htp (.bl _)
end
end Fx
namespace Fx
open PySem L2
variable [Tabz]
section
variable {X : Cx} {G : Gx} {e a b : Expr} {es : List Expr} {f g : M PyData} {fs : M (List PyData)} {pos : Pos} {tg : Expr} {pn : List Nat} {st : Stmt} {sts : List Stmt} {s t : Rho → Fl} {A B : Opd} {As : List Opd}
@[simp] def leave (i : Nat) : Fl → Fl
  | .nx ρ => .nx (ρ.set i .un)
  | .brk ρ => .brk (ρ.set i .un)
  | .ct ρ => .ct (ρ.set i .un)
  | .ret r ρ => .ret r (ρ.set i .un)
  | _ => .bad
theorem AfS.same {G G' : Gx} {σ : St} {ρ : Rho} {Hf H : Hp} {D : Ends} : ∀ {o : Fl}, (∀ c ρ, o ≠ .exc c ρ) → AfS G pn σ ρ Hf H D o → AfS G' pn σ ρ Hf H D o
  | .nx _, _, h => h
  | .brk _, _, h => h
  | .ct _, _, h => h
  | .ret _ _, _, h => h
  | .exc c ρ, n, _ => absurd rfl (n c ρ)
  | .bad, _, h => h
theorem RtOk.later {q : Bool} {σ σ1 σ2 : St} {ρ ρ1 ρ2 : Rho} {Hf H Hf1 H1 Hf2 H2 : Hp} (n : Nxt q σ ρ Hf H σ1 ρ1 Hf1 H1) {v : V} : ∀ {r : Rt}, RtOk pn σ1 ρ1 H1 σ2 ρ2 Hf2 H2 v r → RtOk pn σ ρ H σ2 ρ2 Hf2 H2 v r
  | .fz d, h => h
  | .ow ds, h => by
    obtain ⟨p, vs, e, h1, h3⟩ := h
    exact ⟨p, vs, e, h1.back n, h3⟩
  | .tr t, h => by
    obtain ⟨F, r1, r2, r3⟩ := h
    exact ⟨F, r1, r2, fun a m => ⟨(r3 a m).1.back n, (r3 a m).2⟩⟩
theorem RtOk.drop {σ σ2 : St} {ρ ρ2 : Rho} {H Hf2 H2 : Hp} {i : Nat} (rp : Rp Hf2 H2 σ2 ρ2) {v : V} : ∀ {r : Rt}, RtOk pn σ ρ H σ2 ρ2 Hf2 H2 v r → RtOk pn σ ρ H σ2 (ρ2.set i .un) Hf2 H2 v r
  | .fz d, h => h
  | .ow ds, h => by
    obtain ⟨p, vs, e, h1, h2, h3, h4, h5⟩ := h
    refine ⟨p, vs, e, h1, h2, fun z => ((rp.drop i).os _ z).elim h3 fun y => ?_, h4, h5⟩
    rw [h4] at y; cases y
  | .tr t, h => by
    obtain ⟨F, r1, r2, r3⟩ := h
    refine ⟨F, r1, r2, fun a m => ⟨(r3 a m).1, (r3 a m).2.1, fun z => ((rp.drop i).os _ z).elim (r3 a m).2.2 fun y => ?_⟩⟩
    obtain ⟨o, ho, _⟩ := r1.obj a m
    rw [ho] at y; cases y
@[simp] def fIsE (i : Nat) (x : Addr) (r : Bool) : M PyData := fun ρ => match (ρ[i]? : Option Sl) with
  | some (.raw v) => if v = .ref x then .ok (.bool r, ρ) else .bad
  | _ => .bad
@[simp] def fIfL (p : M Bool) (f g : M (List PyData)) : M (List PyData) := fun ρ => (bnd p fun c => if c = true then f else g) ρ
@[simp] def sPar (i j : Nat) (f g : M PyData) : Rho → Fl := fun ρ => (sBnd (fCons f (fCons g fNil)) fun ds ρ => match ds with
  | [d1, d2] => .nx ((ρ.set i (.fz d1)).set j (.fz d2))
  | _ => .bad) ρ
end
end Fx
namespace Fx
open PySem L2
inductive Fq where
  | f (x : He.Fa)
  | xc (x : Str)
  | kx (x y : Str) (b : Bool)
  | kv (x : Str) (T : String) (b : Bool)
def Fq.ok (K : PySem.W.Frag) : Fq → Bool
  | .f x => x.ok K
  | .xc x => He.eqO (PySem.W.findIn K (.ref (He.ga K x)) "__getattribute__") (some (some (.builtin "BaseException.__getattribute__"))) && (He.eqO (PySem.W.findIn K (.ref (He.ga K x)) "__getattr__") (some none) && (decide (PySem.W.subIn K (.ref (He.ga K x)) (.type "BaseException") = some true)
      && (PySem.W.hasDictIn K (He.ga K x) && (He.eqO (PySem.W.findIn K (.ref (He.ga K x)) "__class__") (some (some (.builtin "object.__class__"))) && (He.eqO (PySem.W.specialIn K (.builtin "object.__class__") "__get__") (some (some (.builtin "getset_descriptor.__get__")))
      && (decide (PySem.W.takesIn K (.builtin "object.__class__") = some true) && decide (PySem.W.mroIn K (He.ga K x) (.type "object") = some true)))))))
  | .kx x y b => decide (PySem.W.kitOne K (.ref (He.ga K x)) (.ref (He.ga K y)) = some b)
  | .kv x T b => decide (PySem.W.kitOne K (.ref (He.ga K x)) (.type T) = some b)
def mkD (x : Str) (st : Stmt) : He.FnD := ⟨(x, none), x, x, defArgs st, defBody st, defScope st⟩
def obsQ (fa : List Fq) (fn : List He.FnD) (K : PySem.W.Frag) : He.Al := ((fa.all fun f => f.ok K) && fn.all fun d => (He.Fa.code d.at_ d.qual).ok K && PySem.W.keepIn K (.ref (He.fAd K d.at_)), fn.map fun d => He.fnObs K d.at_)
def SaysQ (fa : List Fq) (fn : List He.FnD) (K : PySem.W.Frag) : Prop := obsQ fa fn K = He.valE fn
structure TabQ (tf : List Str) (h : Heap) (K : PySem.W.Frag) : Prop where
  hd : ∀ x ∈ tf, PySem.W.codeHdIn K (He.cT K (x, none)).1 (He.cT K (x, none)).2 = true
  out : ∀ x ∈ tf, K.lookup (He.cT K (x, none)).2 = none
  empty : ∀ x ∈ tf, h.get? (He.cT K (x, none)).2 = some { cls := .none, data := .fields #[] }
  nd : (tf.map fun x => (He.cT K (x, none)).2).Nodup
def tabQB (g : Addr → Option Obj) (tf : List Str) (K : PySem.W.Frag) : Bool := He.tabsB g (tf.map fun x => (x, none)) K && decide (tf.map fun x => (He.cT K (x, none)).2).Nodup
def obsQG (n : Nat) (fa : List Fq) (fn : List He.FnD) (tf : List Str) (g : Addr → Option Obj) : He.Al × Bool := (obsQ fa fn (He.frT g (He.asG g n)), tabQB g tf (He.frT g (He.asG g n)))
theorem tabQ_of {n : Nat} {tf : List Str} {h : Heap} (e : tabQB h.get? tf (He.frT h.get? (He.asG h.get? n)) = true) : TabQ tf h (He.frT h.get? (He.asG h.get? n)) := by
  obtain ⟨h2, hn⟩ := He.ba e
  have key : ∀ x ∈ tf, PySem.W.codeHdIn (He.frT h.get? (He.asG h.get? n)) (He.cT (He.frT h.get? (He.asG h.get? n)) (x, none)).1 (He.cT (He.frT h.get? (He.asG h.get? n)) (x, none)).2 = true ∧ ∃ o, h.get? (He.cT (He.frT h.get? (He.asG h.get? n)) (x, none)).2 = some o ∧ He.emptyTab o = true := fun x hx => by
    obtain ⟨h3, h4⟩ := He.ba (List.all_eq_true.mp h2 (x, none) (List.mem_map.mpr ⟨x, hx, rfl⟩))
    refine ⟨h3, ?_⟩
    cases q : h.get? (He.cT (He.frT h.get? (He.asG h.get? n)) (x, none)).2 with
    | none => rw [q] at h4; cases h4
    | some o => rw [q] at h4; exact ⟨o, rfl, h4⟩
  exact ⟨fun x hx => (key x hx).1, fun x hx => by
    obtain ⟨_, o, q, z⟩ := key x hx
    exact He.frT_none q z, fun x hx => by
    obtain ⟨_, o, q, z⟩ := key x hx
    rw [q, He.emptyTab_eq z], of_decide_eq_true hn⟩
def hookQ (n : Nat) (fa : List Fq) (fn : List He.FnD) (tf : List Str) : PySem.W.Hook where
  α := He.Al × Bool
  obs := fun s => obsQG n fa fn tf s.heap.get?
  val := fun _ => (He.valE fn, true)
  says := fun _ h => ∃ K : PySem.W.Frag, K.In h ∧ SaysQ fa fn K ∧ TabQ tf h K
  of := fun _ _ e => ⟨_, He.frT_in, congrArg (fun z : He.Al × Bool => z.1) e, tabQ_of (congrArg (fun z : He.Al × Bool => z.2) e)⟩
  keeps := fun _ _ _ ⟨K, hK, c, t⟩ k => ⟨K, PySem.W.Frag.In.keeps hK k, c, ⟨t.hd, t.out, fun x hx => k _ _ (t.empty x hx), t.nd⟩⟩
theorem obsQG_eq {n : Nat} {fa : List Fq} {fn : List He.FnD} {tf : List Str} {g : Addr → Option Obj} {s : Shared} (h : ∀ a, g a = s.heap.get? a) : obsQG n fa fn tf g = (hookQ n fa fn tf).obs s := by
  have e : g = s.heap.get? := funext h
  rw [e] <;> rfl
structure Top (fa : List Fq) (fn : List He.FnD) (K : PySem.W.Frag) (mg : Str → Option Value) : Prop where
  says : SaysQ fa fn K
  ns : ∃ h : Heap, K.In h ∧ h.Ns mainGlobals mg
def fdOf (K : PySem.W.Frag) (x : Str) : FuncData := match K.lookup (He.ga K x) with
  | some ⟨_, _, .func fd, _⟩ => fd
  | _ => PySem.W.fnOf x x (defArgs (.Pass ⟨0, 0, 0, 0⟩)) [] (defScope (.Pass ⟨0, 0, 0, 0⟩)) .none .none .none .none none .none .none
section
variable {fa : List Fq} {fn : List He.FnD} {K : PySem.W.Frag} {mg : Str → Option Value} (T : Top fa fn K mg)
include T
theorem Top.fact (i : Nat) {f : Fq} (h : fa[i]? = some f) : f.ok K = true := by
  have c1 := (He.ba (show ((fa.all fun f => f.ok K) && _) = true from congrArg (fun z : He.Al => z.1) T.says)).1
  exact List.all_eq_true.mp c1 f (List.mem_of_getElem? h)
theorem Top.free (i : Nat) {x : Str} (h : fa[i]? = some (.f (.free x)) := by rfl) : mg x = none := by
  obtain ⟨hp, X, G⟩ := T.ns
  exact He.free_ok X G (T.fact i h)
theorem Top.glo (i : Nat) {x : Str} (h : fa[i]? = some (.f (.glo x)) := by rfl) : mg x = some (.ref (He.ga K x)) := by
  obtain ⟨hp, X, G⟩ := T.ns
  exact He.glo_ok X G (T.fact i h)
theorem Top.int (i : Nat) {x : Str} {n : Int} (h : fa[i]? = some (.f (.int x n)) := by rfl) : ∃ t, mg x = some (.int n t) := by
  obtain ⟨hp, X, G⟩ := T.ns
  exact He.int_ok X G (T.fact i h)
theorem Top.str (i : Nat) {x n : Str} (h : fa[i]? = some (.f (.str x n)) := by rfl) : ∃ t, mg x = some (.str n t) := by
  obtain ⟨hp, X, G⟩ := T.ns
  exact He.str_ok X G (T.fact i h)
theorem Top.exc (i : Nat) {x : Str} (h : fa[i]? = some (.f (.exc x)) := by rfl) : PySem.W.excIn K (He.ga K x) He.veBase "ValueError.__new__" = true ∧ PySem.W.keepIn K (.ref (He.ga K x)) = true ∧ PySem.W.subIn K (.ref (He.ga K x)) (.type "BaseException") = some true ∧ PySem.W.typeIn K (.ref (He.ga K x)) = some (.type "type") := He.exc_ok (T.fact i h)
theorem Top.xc (i : Nat) {x : Str} (h : fa[i]? = some (.xc x) := by rfl) : ExcC K (He.ga K x) := by
  obtain ⟨c1, c⟩ := He.ba (T.fact i h)
  obtain ⟨c2, c⟩ := He.ba c
  obtain ⟨c3, c⟩ := He.ba c
  obtain ⟨c4, c⟩ := He.ba c
  obtain ⟨c5, c⟩ := He.ba c
  obtain ⟨c6, c⟩ := He.ba c
  obtain ⟨c7, c8⟩ := He.ba c
  exact ⟨He.eqO_ok c1, He.eqO_ok c2, of_decide_eq_true c3, c4, He.eqO_ok c5, He.eqO_ok c6, of_decide_eq_true c7, of_decide_eq_true c8⟩
theorem Top.kx (i : Nat) {x y : Str} {b : Bool} (h : fa[i]? = some (.kx x y b) := by rfl) : PySem.W.kitOne K (.ref (He.ga K x)) (.ref (He.ga K y)) = some b := of_decide_eq_true (T.fact i h)
theorem Top.kv (i : Nat) {x : Str} {U : String} {b : Bool} (h : fa[i]? = some (.kv x U b) := by rfl) : PySem.W.kitOne K (.ref (He.ga K x)) (.type U) = some b := of_decide_eq_true (T.fact i h)
theorem Top.def_ (i : Nat) {x : Str} {st : Stmt} (h : fn[i]? = some (mkD x st) := by rfl) : Fun K x x st (He.ga K x) (fdOf K x) := by
  have c2 := (He.ba (show ((fa.all fun f => f.ok K) && fn.all fun d => (He.Fa.code d.at_ d.qual).ok K && PySem.W.keepIn K (.ref (He.fAd K d.at_))) = true from congrArg (fun z : He.Al => z.1) T.says)).2
  have c3 := He.ba (List.all_eq_true.mp c2 (mkD x st) (List.mem_of_getElem? h))
  have e : fn.map (fun d => He.fnObs K d.at_) = fn.map He.FnD.val := congrArg (fun z : He.Al => z.2) T.says
  have e2 : (fn.map fun d => He.fnObs K d.at_)[i]? = (fn.map He.FnD.val)[i]? := by rw [e]
  rw [List.getElem?_map, List.getElem?_map, h] at e2
  obtain ⟨oc, od, osl, kV, doc, pm, an, cdv, ct, lk, cd⟩ := He.fn_ok (Option.some.inj e2) c3.1
  have lk2 : K.lookup (He.ga K x) = some ⟨oc, od, .func (PySem.W.fnOf x x (defArgs st) (defBody st) (defScope st) .none kV doc pm an cdv ct), osl⟩ := lk
  have efd : fdOf K x = PySem.W.fnOf x x (defArgs st) (defBody st) (defScope st) .none kV doc pm an cdv ct := by
    unfold fdOf
    rw [lk2]
  rw [efd]
  exact fun_mk lk2 cd c3.2
end
def lamQ (x : Str) : Str := x ++ ".<locals>." ++ "<lambda>"
def tzL (tf : List Str) (K : PySem.W.Frag) : List (Addr × Str) := tf.map fun x => ((He.cT K (x, none)).2, lamQ x)
@[reducible] def tzOf (tf : List Str) (K : PySem.W.Frag) : Tabz := ⟨tzL tf K, He.ga K⟩
variable [Tabz]
structure Tp (fa : List Fq) (fn : List He.FnD) (tf : List Str) (K : PySem.W.Frag) (mg : Str → Option Value) (base : Heap) : Prop extends Top fa fn K mg where
  tz : Tabz.T = tzL tf K
  ca : Tabz.cA = He.ga K
  tbs : ∀ x ∈ tf, LamX.TabB base mg (He.cT K (x, none)).1 (He.cT K (x, none)).2
  tnd : (tf.map fun x => (He.cT K (x, none)).2).Nodup
def Cal (P : Program) (w : World) (K : PySem.W.Frag) (mg : Str → Option Value) (base : Heap) (x : Str) (k : Nat) (ps : List Str) (sp : Sp) : Prop :=
  ∃ (f : Addr) (fd : FuncData), FnOk P w K mg base (L2.CX P w) k f fd ps sp ∧ mg x = some (.ref f) ∧ PySem.W.keepIn K (.ref f) = true ∧ Binds K fd ps []
def stN (n : Nat) (ds : List PyData) : Rho := ds.map Sl.fz ++ List.replicate (n - ds.length) Sl.un
def stNI (n : Nat) (io ds : List PyData) : Rho := Sl.ow io :: (ds.map Sl.fz ++ List.replicate (n - (ds.length + 1)) Sl.un)
def runP (n : Nat) (g : Rho → Fl) (m : Nat) (ds : List PyData) : Out Rt := if ds.length = m then toOut (g (stN n ds)) else .bad
def runI (n : Nat) (g : Rho → Fl) (m : Nat) (io ds : List PyData) : Out (Rt × List PyData) := if ds.length + 1 = m then toOutI (g (stNI n io ds)) else .bad
section
variable {P : Program} {w : World} {K : PySem.W.Frag} {mg : Str → Option Value} {base : Heap} {fa : List Fq} {fn : List He.FnD}
theorem cal_pure {x : Str} {sd : Stmt} {N ps : List Str} {k : Nat} {g : Rho → Fl} (T : Top fa fn K mg) (i j : Nat) (hi : fa[i]? = some (.f (.glo x))) (hj : fn[j]? = some (mkD x sd)) (S : FnScope N ps (defScope sd))
    (hbind : ∀ (kV doc pm : Value) (an : Option Addr) (cdv ct : Value) (us : List Value), us.length = ps.length → bindArgs (PySem.W.fnOf x x (defArgs sd) (defBody sd) (defScope sd) .none kV doc pm an cdv ct) ⟨us, []⟩ = pure (ps.zip us))
    (hb : ∀ (cdv : Value) (A : Around) (outer : List Env) (s : Shared) (H : Hp) (E : XK), Room k (A.deeper (PyProof.Rows.envOfC x (defScope sd) s.heap.objs.size (He.ga K x) cdv)) → PSs (cxOf (L2.CX P w) P w K mg base N x (defScope sd) (He.ga K x) cdv A outer s H E) (defBody sd) (tS ⟨fun cls d _ H => E cls d H, He.ga K, false⟩ [] g)) :
    Cal P w K mg base x (k + 1) ps (spP (He.ga K) ps.length (runP N.length g ps.length)) := by
  have F := T.def_ j hj
  refine ⟨_, _, ?_, T.glo i hi, F.kp, F.binds hbind⟩
  refine { fn_pure (k := k) F S hb with run := ?_, len := ?_ }
  · intro vs H Q E h
    exact h.1
  · intro A outer s H args us vs Q E hr I b r h
    refine (fn_pure (k := k) F S hb).run A outer s H args us vs Q E hr I b r (spP_imp (fun ds hd _ => ?_) vs H Q E h)
    unfold runP
    rw [if_pos hd]
    rfl
theorem cal_io {x : Str} {sd : Stmt} {N ps : List Str} {k : Nat} {g : Rho → Fl} (T : Top fa fn K mg) (i j : Nat) (hi : fa[i]? = some (.f (.glo x))) (hj : fn[j]? = some (mkD x sd)) (S : FnScope N ps (defScope sd))
    (hbind : ∀ (kV doc pm : Value) (an : Option Addr) (cdv ct : Value) (us : List Value), us.length = ps.length → bindArgs (PySem.W.fnOf x x (defArgs sd) (defBody sd) (defScope sd) .none kV doc pm an cdv ct) ⟨us, []⟩ = pure (ps.zip us))
    (hb : ∀ (cdv : Value) (A : Around) (outer : List Env) (s : Shared) (H : Hp) (E : XK), Room k (A.deeper (PyProof.Rows.envOfC x (defScope sd) s.heap.objs.size (He.ga K x) cdv)) → PSs (cxOf (L2.CX P w) P w K mg base N x (defScope sd) (He.ga K x) cdv A outer s H E) (defBody sd) (tS ⟨fun cls d _ H => E cls d H, He.ga K, false⟩ [0] g)) :
    Cal P w K mg base x (k + 1) ps (spI (He.ga K) ps.length (runI N.length g ps.length)) := by
  have F := T.def_ j hj
  refine ⟨_, _, ?_, T.glo i hi, F.kp, F.binds hbind⟩
  refine { fn_io (k := k) F S hb with run := ?_, len := ?_ }
  · intro vs H Q E h
    exact h.1
  · intro A outer s H args us vs Q E hr I b r h
    refine (fn_io (k := k) F S hb).run A outer s H args us vs Q E hr I b r (spI_imp (fun io ds hd _ => ?_) vs H Q E h)
    unfold runI
    rw [if_pos hd]
    rfl
end
section
variable {X : Cx} {G : Gx} {e a b : Expr} {es : List Expr} {fs : M (List PyData)} {pos : Pos} {k n : Nat} {ps : List Str} {x : Str} {p : Pos}
theorem runP_len {n m : Nat} {g : Rho → Fl} : ∀ ds r, runP n g m ds = r → r ≠ .bad → ds.length = m := fun ds r e h => by
  unfold runP at e
  split at e
  · assumption
  · exact absurd e.symm h
theorem runI_len {n m : Nat} {g : Rho → Fl} : ∀ io ds r, runI n g m io ds = r → r ≠ .bad → ds.length + 1 = m := fun io ds r e h => by
  unfold runI at e
  split at e
  · assumption
  · exact absurd e.symm h
theorem fe_calI (i : Nat) {y : Str} {p1 : Pos} {g : Rho → Fl} {m : Nat} (C : Cal X.prog X.w X.K X.mg X.base x k ps (spI G.cA m (runI n g m))) (hr : Room k X.A) (hg : Gl X x) (tk : Takes X G.W) (ha : PA X es (tA G fs)) (hN : X.N[i]? = some y := by rfl) (hv : Vis X.env.scope y := by first | exact Or.inl rfl | exact Or.inr (Or.inl rfl) | exact Or.inr (Or.inr rfl)) (hd : (y == ("__debug__" : Str)) = false := by decide)
    (hcd : (y == ("__classdict__" : Str)) = false := by decide) (hdb : (x == ("__debug__" : Str)) = false := by decide) (he : starEach (.Name y p1 :: es) X.env = (false, eval (.Name y p1) X.env) :: starEach es X.env := by rfl) (hpl : (backTo pos (starEach es X.env)).any (·.1) = false := by rfl) : PE X (.Call (.Name x p) (.Name y p1 :: es) [] pos) (tE G (fCallI i (runI n g m) fs)) := by
  obtain ⟨f, fd, F, hm, hk, hb⟩ := C
  exact fe_callI i runI_len F hr hg hm hk hb tk ha hN hv hd hcd hdb he hpl
end
def spBegin (K : PySem.W.Frag) : Sp := fun vs H Q _ => ∃ (a : Addr) (ns : List Int), vs = [.ref a] ∧ SqL K H a (ns.map V.int) ∧ ns.length ≤ 63 ∧
  ∀ (p q : Addr) (H' : Hp), Same H H' → p ≠ q → H p = none → H q = none → H' q = some (.lst (ns.map V.int)) → H' p = some (.lst [.ref q, .int 0, .int 0, .int 1, .int 0]) → Q (.ref p) H'
def cells (ns : List Int) : List PyData := [.list (ns.map PyData.int), .int 0, .int 0, .int 1, .int 0]
def stLaw (n : Nat) (ns : List Int) : Rho := Sl.un :: Sl.ow (cells ns) :: List.replicate (n - 2) Sl.un
def spLaw (K : PySem.W.Frag) (n : Nat) (g : Rho → Fl) : Sp := fun vs H Q _ => ∃ (a : Addr) (ns : List Int), vs = [.ref a] ∧ SqL K H a (ns.map V.int) ∧ ns.length ≤ 63 ∧ Tb H ∧ (∃ ρ', g (stLaw n ns) = .ret (.fz (.bool true)) ρ') ∧ ∀ H', Q (.bl true) H'
theorem repA_ints {H : Hp} : ∀ ns : List Int, RepA H (ns.map V.int) (ns.map PyData.int)
  | [] => .nil
  | n :: ns => .cons (.int n) (repA_ints ns)
theorem law_start {H' : Hp} {a p q : Addr} {ns : List Int} {n : Nat} (tb : Tb H') (hn : 2 ≤ n) (hpq : p ≠ q) (hq : H' q = some (.lst (ns.map V.int))) (hp : H' p = some (.lst [.ref q, .int 0, .int 0, .int 1, .int 0])) :
    ∃ Hf, Rp Hf H' (some (.ref a) :: some (.ref p) :: List.replicate (n - 2) none) (stLaw n ns) := by
  have gt : ∀ (i : Nat) (s : Sl), (stLaw n ns)[i]? = some s → s = .un ∨ (i = 1 ∧ s = .ow (cells ns)) := fun i s h => by
    unfold stLaw at h
    match i, h with
    | 0, h => cases h; exact .inl rfl
    | 1, h => cases h; exact .inr ⟨rfl, rfl⟩
    | i + 2, h =>
      have h2 : (List.replicate (n - 2) Sl.un)[i]? = some s := h
      rw [List.getElem?_replicate] at h2
      split at h2
      · cases h2; exact .inl rfl
      · cases h2
  have own : ∀ (i : Nat) (a' : Addr), OwnI H' (some (V.ref a) :: some (V.ref p) :: List.replicate (n - 2) none) (stLaw n ns) i a' → i = 1 := fun i a' ⟨s, v, h, _, o⟩ => by
    rcases gt i s h with rfl | ⟨z, _⟩
    · exact o.elim
    · exact z
  refine ⟨upd (fun _ => none) q (.lst (ns.map V.int)), fun b o e => ?_, tb, NtH.upd (fun a ps z => by cases z) NT.lst, ?_, fun i s h => ?_, fun i j x h1 h2 => by rw [own i x h1, own j x h2], fun x ⟨i, t, v, Hf0, F, h, _⟩ => ?_, fun j i qs t h _ => ?_⟩
  · by_cases z : b = q
    · subst z; rw [upd_same] at e; cases e; exact hq
    · rw [upd_ne z] at e; cases e
  · unfold stLaw; simp
  · rcases gt i s h with rfl | ⟨rfl, rfl⟩
    · exact slok_un
    · refine ⟨by rw [upd_ne hpq], _, hp, ?_⟩
      exact .cons (.lst upd_same (repA_ints ns)) (.cons (.int _) (.cons (.int _) (.cons (.int _) (.cons (.int _) .nil))))
  · rcases gt i _ h with z | ⟨_, z⟩ <;> cases z
  · rcases gt j _ h with z | ⟨_, z⟩ <;> cases z
section
variable {P : Program} {w : World} {K : PySem.W.Frag} {mg : Str → Option Value} {base : Heap} {fa : List Fq} {fn : List He.FnD}
theorem ok_law {x y : Str} {sd st : Stmt} {rest : List Stmt} {N : List Str} {k : Nat} {g : Rho → Fl} (F : Fun K x x sd (He.ga K x) (fdOf K x)) (S : FnScope N [y] (defScope sd)) (hN : 2 ≤ N.length) (hbody : defBody sd = st :: rest)
    (h1 : ∀ (cdv : Value) (A : Around) (outer : List Env) (s : Shared) (H : Hp) (E : XK), Room k (A.deeper (PyProof.Rows.envOfC x (defScope sd) s.heap.objs.size (He.ga K x) cdv)) → PS (cxOf CX0 P w K mg base N x (defScope sd) (He.ga K x) cdv A outer s H E).nox st (tAsg (tCallS (spBegin K) (fun _ => E0) (tCons (tVar 0) tNil)) (gName 1)))
    (hb : ∀ (cdv : Value) (A : Around) (outer : List Env) (s : Shared) (H : Hp) (E : XK), Room k (A.deeper (PyProof.Rows.envOfC x (defScope sd) s.heap.objs.size (He.ga K x) cdv)) → PSs (cxOf CX0 P w K mg base N x (defScope sd) (He.ga K x) cdv A outer s H E).nox rest (tS ⟨fun _ _ _ _ => False, He.ga K, false⟩ [] g)) :
    FnOk P w K mg base CX0 (k + 1) (He.ga K x) (fdOf K x) [y] (spLaw K N.length g) := by
  refine F.ok S (fun vs H Q E h => ?_) (fun cdv A outer s H vs Q E hr h => ?_)
  · obtain ⟨a, ns, rfl, _⟩ := h
    rfl
  · obtain ⟨a, ns, rfl, hS, hlen, tb, ⟨ρ', hg⟩, hQ⟩ := h
    rw [hbody]
    refine ⟨_, pss_cons (h1 cdv A outer s H E hr) (hb cdv A outer s H E hr), ?_⟩
    refine ⟨_, rfl, a, ns, rfl, hS, hlen, fun p q H' sm hpq h1 h2 h3 h4 => ?_⟩
    have est : (L2.start N [.ref a]).set 1 (some (V.ref p)) = some (.ref a) :: some (.ref p) :: List.replicate (N.length - 2) none := by
      unfold L2.start
      obtain ⟨m, hm⟩ : ∃ m, N.length = m + 2 := ⟨N.length - 2, by omega⟩
      simp [hm, List.replicate_succ]
    obtain ⟨Hf, rp⟩ := law_start (a := a) (LamX.Tabs.ext tb sm) hN hpq h3 h4
    show tS _ _ _ _ ((L2.start N [.ref a]).set 1 (some (V.ref p))) H'
    rw [est]
    refine ⟨Hf, _, rp, ?_⟩
    rw [hg]
    intro v σ' Hf' H2 n _ hr
    have hr : Rep Hf' v (.bool true) := hr
    cases hr
    exact hQ H2
omit [Tabz] in
theorem law_at {l : PySem.W.OpenLaw} {w : World} {fa : List Fq} {fn : List He.FnD} {tf : List Str} {K : PySem.W.Frag} {mg : Str → Option Value} {h : Heap} {k N : Nat} {x : Str} {g : Rho → Fl} {sd : Stmt} (c : SaysQ fa fn K) (t : TabQ tf h K) (KX : K.In h) (G : h.Ns mainGlobals mg) (F : Fun K "law" "law" sd (He.ga K "law") (fdOf K "law"))
    (hbind : ∀ (kV doc pm : Value) (an : Option Addr) (cdv ct : Value) (s : Shared) (u : Value), BindsTo s (PySem.W.fnOf "law" "law" (defArgs sd) (defBody sd) (defScope sd) .none kV doc pm an cdv ct) ⟨[u], []⟩ [(x, u)])
    (hF : ∀ base : Heap, @Tp (tzOf tf K) fa fn tf K mg base → FnOk l.prog w K mg base CX0 k (He.ga K "law") (fdOf K "law") [x] (@spLaw (tzOf tf K) K N g))
    (hm : ∀ ns : List Int, ns.length ≤ 63 → ∃ ρ', g (stLaw N ns) = .ret (.fz (.bool true)) ρ') : LamX.LawAtS l w K CX0 k 63 x mg (He.ga K "law") h := by
  refine ⟨fdOf K "law", tf.map fun x => He.cT K (x, none), @spLaw (tzOf tf K) K N g, fun p hp => ?_, fun p hp => ?_, fun p hp => ?_, fun s v => ?_, fun H a ns hl _ hT hS => ⟨a, ns, rfl, hS, hl, ?_, hm ns hl, fun _ => rfl⟩, fun base KB GB hB => hF base (@Tp.mk (tzOf tf K) _ _ _ _ _ _ ⟨c, h, KX, G⟩ rfl rfl (fun x hx => hB _ (List.mem_map.mpr ⟨x, hx, rfl⟩)) t.nd)⟩
  · obtain ⟨x, hx, rfl⟩ := List.mem_map.mp hp
    exact t.empty x hx
  · obtain ⟨x, hx, rfl⟩ := List.mem_map.mp hp
    exact t.out x hx
  · obtain ⟨x, hx, rfl⟩ := List.mem_map.mp hp
    exact PySem.W.codeHd_of_K KX (t.hd x hx)
  · obtain ⟨oc, od, kV, doc, pm, an, cdv, ct, osl, efd, lk, cd⟩ := F.ex
    rw [efd]
    exact hbind kV doc pm an cdv ct s v
  · intro p hp
    obtain ⟨x, hx, rfl⟩ := List.mem_map.mp hp
    exact LamX.TabS.nil (hT _ (List.mem_map.mpr ⟨x, hx, rfl⟩))
end
end Fx
namespace Fx
open PySem L2
variable [Tabz]
section
variable {X : Cx} {G : Gx} {e a b c : Expr} {es : List Expr} {f g : M PyData} {pos : Pos} {A B : Opd} {As : List Opd} {pn : List Nat}
theorem vO (i : Nat) {x : Str} (hN : X.N[i]? = some x := by rfl) (hv : Vis X.env.scope x := by first | exact Or.inl rfl | exact Or.inr (Or.inl rfl) | exact Or.inr (Or.inr rfl)) (hd : (x == ("__debug__" : Str)) = false := by decide)
    (hcd : (x == ("__classdict__" : Str)) = false := by decide) : PE X (.Name x pos) ((Opd.v i).t G) := pe_var hN hv hd hcd
theorem eO (h : PE X a (tE G f)) : PE X a ((Opd.e f).t G) := h
theorem oa_nil : PA X [] (tAll G []) := pa_nil
theorem oa_cons (h : PE X e (A.t G)) (hr : PA X es (tAll G As)) (hs : starEach (e :: es) X.env = (false, eval e X.env) :: starEach es X.env := by rfl) : PA X (e :: es) (tAll G (A :: As)) := pa_cons h hr hs
theorem ft_pw {p : M Bool} (h : PW X e (tT G p)) : PT X e (tT G p) := h.pt
theorem u64 {k : Nat} {Z : Around} (hr : Room k Z) : Z.units + 64 < cLine := by have := hr.un; omega
theorem u64s {k : Nat} {Z U : Around} (hr : Room k Z) (h : U.units = Z.units := by rfl) : U.units + 64 < cLine := by rw [h]; exact u64 hr
@[simp] def fCh (o o' : PyData → PyData → Option PyData) (A B C : Opd) : M PyData := fun ρ => (bnd A.go fun x => bnd B.go fun y => bnd (fin2 A B x y o) fun z => bnd (opt (asB z)) fun k => if k = true then bnd C.go fun w => fin2 B C y w o' else ret (.bool false)) ρ
end
section
variable {P : Program} {w : World} {K : PySem.W.Frag} {mg : Str → Option Value} {base : Heap} {fa : List Fq} {fn : List He.FnD}
theorem cut63 {ns : List Int} (h : ns.length ≤ 63) : cutV (ns.map V.int) none (some 63) = ns.map V.int := by
  unfold cutV
  have e : HT.sIx (ns.map V.int).length 0 none = 0 := rfl
  have e2 : HT.sIx (ns.map V.int).length (ns.map V.int).length (some 63) = (ns.map V.int).length := by
    rw [List.length_map]
    unfold HT.sIx
    simp only
    split <;> omega
  rw [e, e2, List.drop_zero, Nat.sub_zero, List.take_length]
theorem ok_begin {x y : Str} {sd : Stmt} {k : Nat} {p1 p2 p3 p4 p5 p6 p7 p8 p9 p10 p11 p12 : Pos} {j1 j2 j3 j4 j5 : Nat} (F : Fun K x x sd (He.ga K x) (fdOf K x)) (S : FnScope [y] [y] (defScope sd)) (hl : mg "list" = none) (hv : Vis (defScope sd) y) (hg : ∀ (cdv : Value) (A : Around) (outer : List Env) (s : Shared) (H : Hp) (E : XK), Gl (cxOf (L2.CX P w) P w K mg base [y] x (defScope sd) (He.ga K x) cdv A outer s H E) "list")
    (hbody : defBody sd = [.Return (some (.List [.Call (.Name "list" p1) [.Subscript (.Name y p2) (.Slice none (some (.Constant (.int 63) j1 p3)) none p4) p5] [] p6, .Constant (.int 0) j2 p7, .Constant (.int 0) j3 p8, .Constant (.int 1) j4 p9, .Constant (.int 0) j5 p10] p11)) p12]) (hd : (y == ("__debug__" : Str)) = false := by decide)
    (hcd : (y == ("__classdict__" : Str)) = false := by decide) :
    FnOk P w K mg base (L2.CX P w) (k + 1) (He.ga K x) (fdOf K x) [y] (spBegin K) := by
  refine F.okX S (fun vs H Q E h => ?_) (fun cdv A outer s H vs Q E hr h => ?_)
  · obtain ⟨a, ns, rfl, _⟩ := h
    rfl
  · obtain ⟨a, ns, rfl, hS, hlen, hQ⟩ := h
    rw [hbody]
    refine ⟨_, pss_one (ps_ret (pe_lst (pa_cons (pe_callTy call_list_of (hg _ _ _ _ _ _) hl (by decide +kernel) (pa_cons (pe_slice sl_list (pe_var (i := 0) rfl hv hd hcd) po_none (po_some pe_int)) pa_nil)) (pa_cons pe_int (pa_cons pe_int (pa_cons pe_int (pa_cons pe_int pa_nil))))))), ?_⟩
    refine ⟨_, rfl, 63, rfl, a, _, rfl, hS, fun t ht => ?_⟩
    rw [cut63 hlen]
    refine ⟨t, _, rfl, .inl (SqL.of upd_same), fun q hq => ⟨by show 5 ≤ sizeLine; decide, fun p hp => ?_⟩⟩
    have hqt : q ≠ t := fun z => by
      rw [z, upd_same] at hq
      cases hq
    have hq0 : H q = none := by
      rw [upd_ne hqt] at hq
      exact hq
    have hpq : p ≠ q := fun z => by
      rw [z, upd_same] at hp
      cases hp
    have hpt : p ≠ t := fun z => by
      rw [z, upd_ne hqt.symm, upd_same] at hp
      cases hp
    have hp0 : H p = none := by
      rw [upd_ne hpq, upd_ne hpt] at hp
      exact hp
    refine hQ p q _ (fun b o e => ?_) hpq hp0 hq0 ?_ upd_same
    · rw [upd_ne (ne_of_none e hp0), upd_ne (ne_of_none e hq0), upd_ne (ne_of_none e ht)]
      exact e
    · rw [upd_ne hpq.symm, upd_same]
end
section
variable {P : Program} {w : World} {K : PySem.W.Frag} {mg : Str → Option Value} {base : Heap} {fa : List Fq} {fn : List He.FnD}
theorem cal_bad {x : Str} {sd : Stmt} {ps : List Str} (T : Top fa fn K mg) (i j : Nat) (hi : fa[i]? = some (.f (.glo x))) (hj : fn[j]? = some (mkD x sd))
    (hbind : ∀ (kV doc pm : Value) (an : Option Addr) (cdv ct : Value) (us : List Value), us.length = ps.length → bindArgs (PySem.W.fnOf x x (defArgs sd) (defBody sd) (defScope sd) .none kV doc pm an cdv ct) ⟨us, []⟩ = pure (ps.zip us)) (k : Nat) :
    Cal P w K mg base x k ps (spP (He.ga K) ps.length fun _ => .bad) := by
  have F := T.def_ j hj
  refine ⟨_, _, ⟨fun vs H Q E h => h.1, fun A outer s H args us vs Q E hr I b r h => ?_⟩, T.glo i hi, F.kp, F.binds hbind⟩
  obtain ⟨_, _, _, _, _, h⟩ := h
  exact h.elim
end
section
variable {X : Cx} {G : Gx} {e a b : Expr} {es : List Expr} {fs : M (List PyData)} {pos : Pos} {k : Nat} {ps : List Str} {x : Str} {p : Pos} {pn : List Nat} {sts : List Stmt} {s : Rho → Fl}
theorem fe_calF {F : List PyData → Out Rt} {m : Nat} (hn : ∀ ds r, F ds = r → r ≠ .bad → ds.length = m) (C : Cal X.prog X.w X.K X.mg X.base x k ps (spP G.cA m F)) (hr : Room k X.A) (hg : Gl X x) (tk : Takes X G.W) (ha : PA X (e :: es) (tA G fs)) (hdb : (x == ("__debug__" : Str)) = false := by decide)
    (he : starEach (e :: es) X.env = (false, eval e X.env) :: starEach es X.env := by rfl) (hpl : (backTo pos (starEach es X.env)).any (·.1) = false := by rfl) : PE X (.Call (.Name x p) (e :: es) [] pos) (tE G (fCall F fs)) := by
  obtain ⟨f, fd, F, hm, hk, hb⟩ := C
  exact fe_call hn F hr hg hm hk hb tk ha hdb he hpl
end
end Fx
namespace Fx
open PySem L2
variable [Tabz]
@[simp] theorem stN_eq (n : Nat) (ds : List PyData) : stN n ds = ds.map Sl.fz ++ List.replicate (n - ds.length) Sl.un := rfl
@[simp] theorem stNI_eq (n : Nat) (io ds : List PyData) : stNI n io ds = Sl.ow io :: (ds.map Sl.fz ++ List.replicate (n - (ds.length + 1)) Sl.un) := rfl
theorem small_of {n : Nat} (h : n ≤ 100000) : small n = true := decide_eq_true h
theorem seq_nx {s t : Rho → Fl} {ρ ρ1 : Rho} (h : s ρ = .nx ρ1) : sSeq s t ρ = t ρ1 := by
  unfold sSeq
  rw [h]
theorem sFor_eq {fi : M (List PyData)} {g : PyData → Rho → Option Rho} {s : Rho → Fl} {ρ ρ1 : Rho} {ds : List PyData} (h : fi ρ = .ok (ds, ρ1)) : sFor fi g s ρ = forE g s ds ρ1 := by
  unfold sFor sBnd
  rw [h]
theorem forE_inv {g : PyData → Rho → Option Rho} {s : Rho → Fl} (I : Nat → Rho → Prop) : ∀ (ds : List PyData) (k : Nat) (ρ : Rho), I k ρ →
    (∀ j d ρ, ds[j]? = some d → I (k + j) ρ → ∃ ρ1 ρ2, g d ρ = some ρ1 ∧ (s ρ1 = .nx ρ2 ∨ s ρ1 = .ct ρ2) ∧ I (k + j + 1) ρ2) → ∃ ρ', forE g s ds ρ = .nx ρ' ∧ I (k + ds.length) ρ'
  | [], k, ρ, h, _ => ⟨ρ, rfl, h⟩
  | d :: ds, k, ρ, h, hs => by
    obtain ⟨ρ1, ρ2, e1, e2, h2⟩ := hs 0 d ρ rfl h
    obtain ⟨ρ', e3, h3⟩ := forE_inv I ds (k + 1) ρ2 h2 fun j x r hj hi => by
      have q := hs (j + 1) x r hj (by rw [show k + (j + 1) = k + 1 + j from by omega]; exact hi)
      rw [show k + (j + 1) + 1 = k + 1 + j + 1 from by omega] at q
      exact q
    refine ⟨ρ', ?_, by rw [show k + (d :: ds).length = k + 1 + ds.length from by simp; omega]; exact h3⟩
    unfold forE
    rw [e1]
    rcases e2 with e2 | e2 <;> simp only [e2] <;> exact e3
theorem rest_of {ρ2 ρ : Rho} {vs : List Nat} (h : wipeR ρ2 vs = wipeR ρ vs) : rest ρ2 ρ vs = rest ρ ρ vs := by
  have hl : ρ2.length = ρ.length := by
    have := congrArg List.length h
    rwa [wipeR_len, wipeR_len] at this
  apply List.ext_getElem?
  intro j
  rw [rest_get, rest_get, hl]
  by_cases q : j ∈ vs
  · rw [if_pos q, if_pos q]
  · rw [if_neg q, if_neg q]
    have e := congrArg (fun l : Rho => l[j]?) h
    rwa [wipeR_get, wipeR_get, if_neg q, if_neg q] at e
theorem lcE_pure {g : PyData → Rho → Option Rho} {tt : M Bool} {fe : M PyData} {vs : List Nat} {ρ : Rho} (c : PyData → Bool) (h : PyData → PyData) : ∀ (ds : List PyData) (ρ0 : Rho), wipeR ρ0 vs = wipeR ρ vs →
    (∀ d ∈ ds, ∃ ρ1, g d (wipeR ρ vs) = some ρ1 ∧ ∃ ρ2, tt ρ1 = .ok (c d, ρ2) ∧ (c d = true → ∃ ρ3, fe ρ2 = .ok (h d, ρ3) ∧ wipeR ρ3 vs = wipeR ρ vs) ∧ (c d = false → wipeR ρ2 vs = wipeR ρ vs)) →
    ∃ ρ', lcE g tt fe vs ds ρ0 = .ok ((ds.filter c).map h, ρ') ∧ wipeR ρ' vs = wipeR ρ vs
  | [], ρ0, h0, _ => ⟨ρ0, rfl, h0⟩
  | d :: ds, ρ0, h0, hs => by
    obtain ⟨ρ1, e1, ρ2, e2, k1, k2⟩ := hs d List.mem_cons_self
    unfold lcE
    rw [h0, e1]
    simp only [e2]
    cases hc : c d with
    | true =>
      obtain ⟨ρ3, e3, w3⟩ := k1 hc
      obtain ⟨ρ', e4, w4⟩ := lcE_pure c h ds ρ3 w3 fun x hx => hs x (List.mem_cons_of_mem _ hx)
      refine ⟨ρ', ?_, w4⟩
      simp only [e3, e4]
      rw [List.filter_cons_of_pos hc]
      rfl
    | false =>
      obtain ⟨ρ', e4, w4⟩ := lcE_pure c h ds ρ2 (k2 hc) fun x hx => hs x (List.mem_cons_of_mem _ hx)
      refine ⟨ρ', ?_, w4⟩
      simp only [e4]
      rw [List.filter_cons_of_neg (by simp [hc])]
theorem lc_pure {g : PyData → Rho → Option Rho} {tt : M Bool} {fe : M PyData} {fi : M (List PyData)} {vs : List Nat} {ρ0 ρ : Rho} {ds : List PyData} (c : PyData → Bool) (h : PyData → PyData) (hfi : fi ρ0 = .ok (ds, ρ)) (hs : ds.length ≤ 100000)
    (he : ∀ d ∈ ds, ∃ ρ1, g d (wipeR ρ vs) = some ρ1 ∧ ∃ ρ2, tt ρ1 = .ok (c d, ρ2) ∧ (c d = true → ∃ ρ3, fe ρ2 = .ok (h d, ρ3) ∧ wipeR ρ3 vs = wipeR ρ vs) ∧ (c d = false → wipeR ρ2 vs = wipeR ρ vs)) :
    fLc fi g tt fe vs ρ0 = .ok ((ds.filter c).map h, rest ρ ρ vs) := by
  obtain ⟨ρ', e, w⟩ := lcE_pure (ρ := ρ) c h ds ρ rfl he
  unfold fLc bnd
  rw [hfi]
  simp only [small_of hs, if_true, e, rest_of w]
theorem lc_map {g : PyData → Rho → Option Rho} {fe : M PyData} {fi : M (List PyData)} {vs : List Nat} {ρ0 ρ : Rho} {ds : List PyData} (h : PyData → PyData) (hfi : fi ρ0 = .ok (ds, ρ)) (hs : ds.length ≤ 100000)
    (he : ∀ d ∈ ds, ∃ ρ1, g d (wipeR ρ vs) = some ρ1 ∧ ∃ ρ3, fe ρ1 = .ok (h d, ρ3) ∧ wipeR ρ3 vs = wipeR ρ vs) :
    fLc fi g (ret true) fe vs ρ0 = .ok (ds.map h, rest ρ ρ vs) := by
  have q := lc_pure (tt := ret true) (fun _ => true) h hfi hs fun d hd => by
    obtain ⟨ρ1, e1, ρ3, e2, e3⟩ := he d hd
    exact ⟨ρ1, e1, ρ1, rfl, fun _ => ⟨ρ3, e2, e3⟩, fun z => by cases z⟩
  rw [q, List.filter_eq_self.mpr fun _ _ => rfl]
theorem lcE_enc {α : Type} {g : PyData → Rho → Option Rho} {tt : M Bool} {fe : M PyData} {vs : List Nat} {ρ : Rho} (enc : α → PyData) (c : α → Bool) (h : α → PyData) : ∀ (xs : List α) (ρ0 : Rho), wipeR ρ0 vs = wipeR ρ vs →
    (∀ x ∈ xs, ∃ ρ1, g (enc x) (wipeR ρ vs) = some ρ1 ∧ ∃ ρ2, tt ρ1 = .ok (c x, ρ2) ∧ (c x = true → ∃ ρ3, fe ρ2 = .ok (h x, ρ3) ∧ wipeR ρ3 vs = wipeR ρ vs) ∧ (c x = false → wipeR ρ2 vs = wipeR ρ vs)) →
    ∃ ρ', lcE g tt fe vs (xs.map enc) ρ0 = .ok ((xs.filter c).map h, ρ') ∧ wipeR ρ' vs = wipeR ρ vs
  | [], ρ0, h0, _ => ⟨ρ0, rfl, h0⟩
  | d :: ds, ρ0, h0, hs => by
    obtain ⟨ρ1, e1, ρ2, e2, k1, k2⟩ := hs d List.mem_cons_self
    rw [List.map_cons]
    unfold lcE
    rw [h0, e1]
    simp only [e2]
    cases hc : c d with
    | true =>
      obtain ⟨ρ3, e3, w3⟩ := k1 hc
      obtain ⟨ρ', e4, w4⟩ := lcE_enc enc c h ds ρ3 w3 fun x hx => hs x (List.mem_cons_of_mem _ hx)
      refine ⟨ρ', ?_, w4⟩
      simp only [e3, e4]
      rw [List.filter_cons_of_pos hc]
      rfl
    | false =>
      obtain ⟨ρ', e4, w4⟩ := lcE_enc enc c h ds ρ2 (k2 hc) fun x hx => hs x (List.mem_cons_of_mem _ hx)
      refine ⟨ρ', ?_, w4⟩
      simp only [e4]
      rw [List.filter_cons_of_neg (by simp [hc])]
theorem lc_if {α : Type} {g : PyData → Rho → Option Rho} {tt : M Bool} {fe : M PyData} {fi : M (List PyData)} {vs : List Nat} {ρ0 ρ : Rho} (xs : List α) (enc : α → PyData) (c : α → Bool) (h : α → PyData) (hfi : fi ρ0 = .ok (xs.map enc, ρ)) (hs : xs.length ≤ 100000)
    (he : ∀ x ∈ xs, ∃ ρ1, g (enc x) (wipeR ρ vs) = some ρ1 ∧ ∃ ρ2, tt ρ1 = .ok (c x, ρ2) ∧ (c x = true → ∃ ρ3, fe ρ2 = .ok (h x, ρ3) ∧ wipeR ρ3 vs = wipeR ρ vs) ∧ (c x = false → wipeR ρ2 vs = wipeR ρ vs)) :
    fLc fi g tt fe vs ρ0 = .ok ((xs.filter c).map h, rest ρ ρ vs) := by
  obtain ⟨ρ', e, w⟩ := lcE_enc (ρ := ρ) enc c h xs ρ rfl he
  unfold fLc bnd
  rw [hfi]
  simp only [List.length_map, small_of hs, if_true, e, rest_of w]
theorem lc_all {α : Type} {g : PyData → Rho → Option Rho} {fe : M PyData} {fi : M (List PyData)} {vs : List Nat} {ρ0 ρ : Rho} (xs : List α) (enc : α → PyData) (h : α → PyData) (hfi : fi ρ0 = .ok (xs.map enc, ρ)) (hs : xs.length ≤ 100000)
    (he : ∀ x ∈ xs, ∃ ρ1, g (enc x) (wipeR ρ vs) = some ρ1 ∧ ∃ ρ3, fe ρ1 = .ok (h x, ρ3) ∧ wipeR ρ3 vs = wipeR ρ vs) :
    fLc fi g (ret true) fe vs ρ0 = .ok (xs.map h, rest ρ ρ vs) := by
  have q := lc_if (tt := ret true) xs enc (fun _ => true) h hfi hs fun d hd => by
    obtain ⟨ρ1, e1, ρ3, e2, e3⟩ := he d hd
    exact ⟨ρ1, e1, ρ1, rfl, fun _ => ⟨ρ3, e2, e3⟩, fun z => by cases z⟩
  rw [q, List.filter_eq_self.mpr fun _ _ => rfl]
theorem asBools_map (bs : List Bool) : asBools (bs.map PyData.bool) = some bs := by
  induction bs with
  | nil => rfl
  | cons b bs ih => simp only [List.map_cons, asBools, ih, Option.map_some]
theorem asInts_map (bs : List Int) : asInts (bs.map PyData.int) = some bs := by
  induction bs with
  | nil => rfl
  | cons b bs ih => simp only [List.map_cons, asInts, ih, Option.map_some]
@[simp] theorem wipeR_nil (ρ : Rho) : wipeR ρ [] = ρ := rfl
@[simp] theorem wipeR_cons (ρ : Rho) (v : Nat) (vs : List Nat) : wipeR ρ (v :: vs) = (wipeR ρ vs).set v .un := rfl
@[simp] theorem rest_nil (ρ ρ1 : Rho) : rest ρ ρ1 [] = ρ := rfl
@[simp] theorem rest_cons (ρ ρ1 : Rho) (v : Nat) (vs : List Nat) : rest ρ ρ1 (v :: vs) = (rest ρ ρ1 vs).set v (keepFz ρ1[v]?) := rfl
@[simp] theorem keepFz_un : keepFz (some .un) = .un := rfl
@[simp] theorem keepFz_fz (d : PyData) : keepFz (some (.fz d)) = .fz d := rfl
theorem atI_at {α : Type} {xs : List α} {i : Int} {v : α} (h0 : 0 ≤ i) (h : xs[i.toNat]? = some v) : atI xs i = some v := by
  have q := atI_nat h
  rwa [Int.toNat_of_nonneg h0] at q
theorem ixN_in {n : Nat} {i : Int} (h0 : 0 ≤ i) (h : i < n) : ixN n i = some i.toNat := by
  unfold ixN
  rw [if_pos h0, if_pos h]
theorem kSet_in {d : PyData} {i : Int} {ds : List PyData} (h0 : 0 ≤ i) (h : i < ds.length) : kSet d (.int i) ds = some (ds.set i.toNat d) := by
  show (ixN ds.length i).map _ = _
  rw [ixN_in h0 h]
  rfl
def gd : Nat → PyData → Bool
  | 0, _ => false
  | _ + 1, .none => true
  | _ + 1, .bool _ => true
  | _ + 1, .int _ => true
  | _ + 1, .str _ => true
  | n + 1, .list ds => small ds.length && ds.all (gd n)
  | n + 1, .tuple ds => small ds.length && ds.all (gd n)
  | _ + 1, .dict _ => false
end Fx
namespace Fx
open PySem L2
variable [Tabz]
section
variable {X : Cx} {G : Gx} {e a b c : Expr} {es : List Expr} {f g : M PyData} {pos : Pos} {A B : Opd} {As : List Opd} {pn : List Nat} {l h : M (Option Int)} {lo hi : Option Expr} {p2 : Pos}
@[simp] def oCatT : PyData → PyData → Option PyData
  | .tuple xs, .tuple ys => if small (xs.length + ys.length) then some (.tuple (xs ++ ys)) else none
  | _, _ => none
@[simp] def oSlA (lo hi : Option Int) (d : PyData) : Option PyData := match d with
  | .tuple ds => some (.tuple (cut ds lo hi))
  | _ => none
@[simp] def fSlA (f : M PyData) (l h : M (Option Int)) : M PyData := fun ρ => (bnd f fun d => bnd l fun lo => bnd h fun hi => opt (oSlA lo hi d)) ρ
@[simp] def oInt1 : List PyData → Option PyData
  | [.int i] => some (.int i)
  | [.bool b] => some (.int (if b then 1 else 0))
  | _ => none
@[simp] def augGet (i : Nat) (j : PyData) (ρ : Rho) : Option Int := match (ρ[i]? : Option Sl) with
  | some (.ow ds) => (match j with
    | .int k => (match atI ds k with
      | some (.int x) => some x
      | _ => none)
    | _ => none)
  | _ => none
@[simp] def augPut (i : Nat) (op : Int → Int → Int) (x : Int) (j : PyData) (d : PyData) (ρ : Rho) : Fl := match d with
  | .int y => (match mutO i (kSet (.int (op x y)) j) ρ with
    | some ρ3 => .nx ρ3
    | none => .bad)
  | _ => .bad
@[simp] def sAugIx (i : Nat) (op : Int → Int → Int) (g f : M PyData) : Rho → Fl := fun ρ => if isOw i ρ then (sBnd g fun j ρ1 => match augGet i j ρ1 with
    | some x => sBnd f (augPut i op x j) ρ1
    | none => .bad) ρ else .bad
@[simp] def kIns (j d : PyData) (ds : List PyData) : Option (List PyData) := match j with
  | .int k => if small ds.length && (decide (0 ≤ k) && small k.natAbs) then some (ds.take k.toNat ++ [d] ++ ds.drop k.toNat) else none
  | _ => none
@[simp] def sInsert (i : Nat) (g f : M PyData) : Rho → Fl := fun ρ => sMut i (fCons g (fCons f fNil)) (fun xs ds => match xs with
  | [j, d] => kIns j d ds
  | _ => none) ρ
@[simp] def sClear (i : Nat) : Rho → Fl := fun ρ => match mutO i (fun _ => some []) ρ with
  | some ρ2 => .nx ρ2
  | none => .bad
end
end Fx
namespace Fx
open PySem L2
variable [Tabz]
section
variable {X : Cx} {G : Gx} {e a b c tg : Expr} {es : List Expr} {f : M PyData} {fs : M (List PyData)} {pos p : Pos} {A B : Opd} {As : List Opd} {pn : List Nat} {k : Nat} {ps : List Str} {x : Str}
@[simp] def callPM (F : List PyData → Out Rt) (xs : List PyData) : M PyData := fun ρ => match F xs with
  | .ok (.fz d) => if (sc d).isSome then .ok (d, ρ) else .bad
  | .ok _ => .bad
  | .exc c => .exc c ρ
  | .bad => .bad
@[simp] def fCallP (F : List PyData → Out Rt) (As : List Opd) : M PyData := fun ρ => (bnd (goAll As) fun as ρ => match atAll As as ρ with
  | some xs => callPM F xs ρ
  | none => .bad) ρ
theorem r1a_full {Hf H : Hp} (sm : Same Hf H) : ∀ {vs : List V} {ds : List PyData}, R1A Hf H vs ds → RepA H vs ds
  | _, _, .nil => .nil
  | _, _, .cons h t => .cons (h.full sm) (r1a_full sm t)
def ntOf (H : Hp) : Hp := fun a => match H a with
  | some (.tbl _) => none
  | o => o
theorem ntOf_at {H : Hp} {a : Addr} {o : HO} (h : H a = some o) (n : NT o) : ntOf H a = some o := by
  unfold ntOf
  rw [h]
  split
  · rename_i ps e
    exact absurd (Option.some.inj e) (n ps)
  · rfl
theorem ntOf_same {H : Hp} : Same (ntOf H) H := fun a o e => by
  unfold ntOf at e
  split at e
  · cases e
  · exact e
theorem ntOf_nt {H : Hp} : NtH (ntOf H) := fun a ps e => by
  unfold ntOf at e
  split at e
  · cases e
  · rename_i z
    exact z ps e
mutual
theorem rep_nt {H : Hp} : ∀ {v : V} {d : PyData}, Rep H v d → Rep (ntOf H) v d
  | _, _, .non => .non
  | _, _, .bl b => .bl b
  | _, _, .int i => .int i
  | _, _, .str x => .str x
  | _, _, .lst h a => .lst (ntOf_at h NT.lst) (repA_nt a)
  | _, _, .tup h a => .tup (ntOf_at h NT.tup) (repA_nt a)
  | _, _, .ins h l a => .ins (ntOf_at h fun _ z => nomatch z) l (repA_nt a)
  | _, _, .dct h l a => .dct (ntOf_at h fun _ z => nomatch z) l (repA_nt a)
theorem repA_nt {H : Hp} : ∀ {v : List V} {d : List PyData}, RepA H v d → RepA (ntOf H) v d
  | _, _, .nil => .nil
  | _, _, .cons h a => .cons (rep_nt h) (repA_nt a)
end
theorem callP_run {n : Nat} {F : List PyData → Out Rt} (hn : ∀ ds r, F ds = r → r ≠ .bad → ds.length = n) (σ : St) (H : Hp) (Q : VK) (h : tE G (fCallP F As) σ H Q) : tCallS (spP G.cA n F) (WE G.W) (tAll G As) σ H Q := by
  obtain ⟨Hf, ρ, rp, af⟩ := h
  refine tAll_mono ?_ (stepA rp af)
  rintro vs H1 ⟨as, Hf1, ρ1, n1, ra, af1⟩
  cases ea : atAll As as ρ1 with
  | none => simp only [ea] at af1; exact False.elim af1
  | some xs =>
    simp only [ea] at af1
    have rx := r1a_full n1.rp.sub (rAll1_end n1.rp ra ea)
    have hl : vs.length = n := by
      rw [repA_len rx]
      refine hn xs _ rfl fun z => ?_
      unfold callPM at af1
      rw [z] at af1
      exact af1
    refine ⟨hl, ntOf H1, xs, ⟨ntOf_same, n1.rp.tb, ntOf_nt⟩, repA_nt rx, ?_⟩
    unfold callPM at af1
    cases e : F xs with
    | bad => rw [e] at af1; exact af1.elim
    | exc c =>
      rw [e] at af1
      exact fun H' s => af1 Hf1 H' (nxt_call n1.rp (Same.refl _) (n1.rp.sb.later s) s fun a z => .inl z)
    | ok r =>
      rw [e] at af1
      cases r with
      | ow es => exact False.elim af1
      | tr t => exact False.elim af1
      | fz d =>
        dsimp only at af1
        cases es : sc d with
        | none => rw [es] at af1; exact False.elim af1
        | some u =>
          rw [es] at af1
          intro v Hf' H' h1 h2 h3 h4 h5
          have ev := sc_rep es h5
          subst ev
          exact af1 _ Hf1 H' (nxt_call n1.rp (Same.refl _) (n1.rp.sb.later h3) h3 fun a z => .inl z) (rep_sc es)
theorem fe_calP {F : List PyData → Out Rt} {m : Nat} (hn : ∀ ds r, F ds = r → r ≠ .bad → ds.length = m) (C : Cal X.prog X.w X.K X.mg X.base x k ps (spP G.cA m F)) (hr : Room k X.A) (hg : Gl X x) (tk : Takes X G.W) (ha : PA X (e :: es) (tAll G As)) (hdb : (x == ("__debug__" : Str)) = false := by decide)
    (he : starEach (e :: es) X.env = (false, eval e X.env) :: starEach es X.env := by rfl) (hpl : (backTo pos (starEach es X.env)).any (·.1) = false := by rfl) : PE X (.Call (.Name x p) (e :: es) [] pos) (tE G (fCallP F As)) := by
  obtain ⟨f, fd, F, hm, hk, hb⟩ := C
  exact (pe_callS F hr hg hm hk hb (fun σ => passAt tk σ) ha hdb he hpl).imp (callP_run hn)
@[simp] def sSetC (i : Nat) (F : List PyData → Out Rt) (fs : M (List PyData)) : Rho → Fl := fun ρ => (sBnd fs fun ds ρ1 => match F ds with
  | .ok (.fz d) => .nx (ρ1.set i (.fz d))
  | .ok (.ow es) => .nx (ρ1.set i (.ow es))
  | .ok (.tr _) => .bad
  | .exc c => .exc c ρ1
  | .bad => .bad) ρ
end
end Fx
namespace Fx
open PySem L2
def Kp (h h' : Heap) : Prop := ∀ b o, h.get? b = some o → h'.get? b = some o
theorem Kp.refl (h : Heap) : Kp h h := fun _ _ e => e
theorem Kp.trans {h h1 h2 : Heap} (a : Kp h h1) (b : Kp h1 h2) : Kp h h2 := fun c o e => b c o (a c o e)
def KI (prog : Program) (w : World) (A : Around) (env : Env) (h0 : Heap) (e : Expr) (P : Value → Prop) : Prop :=
  ∀ (s : Shared) (E Q : Value → Shared → Prop), Kp h0 s.heap → (∀ v h' tk, Kp s.heap h' → P v → Q v { s with heap := h', toks := tk }) → wpAny (model prog w) A (eval e env) Q E s
section
variable {prog : Program} {w : World} {A : Around} {env : Env} {h0 : Heap} {a b e : Expr} {pos : Pos} {x : Str} {v : Value} {i j : Int}
theorem KI.imp {P P' : Value → Prop} (h : KI prog w A env h0 e P) (g : ∀ v, P v → P' v) : KI prog w A env h0 e P' := fun s E Q k q => h s E Q k fun v h' tk k' p => q v h' tk k' (g v p)
end
inductive Kx where
  | col (j : Nat)
  | neg (j : Nat)
  | zsub (j : Nat)
  | pl
@[simp] def colI (ds : List PyData) (j : Nat) : Option Int := match ds[j]? with
  | some (.int x) => some x
  | _ => none
@[simp] def Kx.val (ds : List PyData) (k : Int) : Kx → Option Int
  | .col j => colI ds j
  | .neg j => (colI ds j).map fun x => -x
  | .zsub j => (colI ds j).map fun x => 0 - x
  | .pl => some k
def Kx.is (r a : Str) : Kx → Expr → Prop
  | .col j, e => j < 100 ∧ ∃ n p1 p2 p3 p4 p5, e = .Subscript (.Subscript (.Name r p1) (.Name a p2) p3) (.Constant (.int j) n p4) p5
  | .neg j, e => j < 100 ∧ ∃ n p1 p2 p3 p4 p5 p6, e = .UnaryOp .USub (.Subscript (.Subscript (.Name r p1) (.Name a p2) p3) (.Constant (.int j) n p4) p5) p6
  | .zsub j, e => j < 100 ∧ ∃ n p1 p2 p3 p4 p5 p6 n2 p7, e = .BinOp (.Constant (.int 0) n2 p7) .Sub (.Subscript (.Subscript (.Name r p1) (.Name a p2) p3) (.Constant (.int j) n p4) p5) p6
  | .pl, e => ∃ p, e = .Name a p
@[simp] def valsK (ds : List PyData) (k : Int) : List Kx → Option (List Int)
  | [] => some []
  | x :: xs => (match x.val ds k, valsK ds k xs with
    | some i, some is => some (i :: is)
    | _, _ => none)
end Fx
namespace Fx
open PySem L2
variable [Tabz]
structure Ch (H H1 : Hp) : Prop where
  keep : ∀ b o, H b = some o → NT o → H1 b = some o
  dom : ∀ b, H1 b = none → H b = none
theorem Ch.nxt {q : Bool} {σ : St} {ρ : Rho} {Hf H H1 : Hp} (c : Ch H H1) (rp : Rp Hf H σ ρ) (t : Tb H1) : Nxt q σ ρ Hf H σ ρ Hf H1 := by
  have kk : ∀ a, OwnA H σ ρ a ∨ LkA H σ ρ a → H1 a = H a := fun a z => by
    obtain ⟨u, hu, tu⟩ := rp.liv z
    rw [hu]; exact c.keep a u hu tu
  refine ⟨Same.refl _, fun a o h n _ => c.keep a o h n, fun a ⟨i, z⟩ => .inl ⟨i, (rp.ownI_iff (fun b y => kk b (.inl ⟨i, y⟩)) a).mp z⟩, fun a z => rp.lka_of (fun b y => kk b (.inr y)) z, c.dom, fun _ z => .inl z, fun _ => ⟨fun i t e => ⟨e, rfl, fun a z => kk a (.inl ⟨i, z⟩)⟩, .refl⟩, rp.grow (Same.refl _) (fun b o e => c.keep b o (rp.sub b o e) fun ps z => rp.nt b ps (z ▸ e)) t rp.nt (fun a z => ⟨(rp.own z).1, kk a (.inl z)⟩) fun a z => kk a (.inr z)⟩
@[simp] def lexLe : List Int → List Int → Bool
  | [], _ => true
  | _ :: _, [] => false
  | a :: as, b :: bs => decide (a < b) || (decide (a = b) && lexLe as bs)
@[simp] def keyOf (kx : List Kx) (rows : List PyData) (k : Int) : Option (List Int) := if 0 ≤ k then (match rows[k.toNat]? with
  | some (.tuple ds) => valsK ds k kx
  | _ => none) else none
@[simp] def keyI (kx : List Kx) (rows : List PyData) (k : Int) : List Int := (keyOf kx rows k).getD []
noncomputable def sortKy (kx : List Kx) (rows : List PyData) (ns : List Int) : List Int := ns.mergeSort fun a b => lexLe (keyI kx rows a) (keyI kx rows b)
@[simp] noncomputable def oSortK (kx : List Kx) (r d : PyData) : Option (List PyData) := match r, d with
  | .list rs, .list ds => (match asInts ds with
    | some ns => if ns.all fun k => (keyOf kx rs k).isSome then some ((sortKy kx rs ns).map PyData.int) else none
    | none => none)
  | _, _ => none
@[simp] noncomputable def fSortK (i : Nat) (kx : List Kx) (f : M PyData) : M (List PyData) := fun ρ => (bnd f fun d ρ1 => match (ρ1[i]? : Option Sl) with
  | some (.fz r) => opt (oSortK kx r d) ρ1
  | _ => .bad) ρ
end Fx
namespace Fx
open PySem L2
variable [Tabz]
section
variable {X : Cx} {G : Gx} {e a b : Expr} {es : List Expr} {f g : M PyData} {pos : Pos} {A B : Opd} {As : List Opd}
@[simp] def oLr1 (d : PyData) : Option (List PyData) := match d with
  | .int n => if small n.natAbs then some ((List.range n.toNat).map fun i => PyData.int (i : Nat)) else none
  | _ => none
@[simp] def fLr1 (f : M PyData) : M (List PyData) := fun ρ => (bnd f fun d => opt (oLr1 d)) ρ
noncomputable def sortI (ns : List Int) : List Int := ns.mergeSort fun a b => decide (a ≤ b)
theorem sortI_pw (ns : List Int) : (sortI ns).Pairwise (· ≤ ·) := by
  have h := List.pairwise_mergeSort (le := fun a b : Int => decide (a ≤ b)) (fun a b c h1 h2 => by simp at *; omega) (fun a b => by simp; omega) ns
  exact h.imp fun h => of_decide_eq_true h
theorem sortI_perm (ns : List Int) : (sortI ns).Perm ns := List.mergeSort_perm _ _
theorem perm_sorted_eq : ∀ {xs ys : List Int}, xs.Perm ys → xs.Pairwise (· ≤ ·) → ys.Pairwise (· ≤ ·) → xs = ys
  | [], ys, p, _, _ => (List.Perm.nil_eq p)
  | x :: xs, [], p, _, _ => absurd p.length_eq (by simp)
  | x :: xs, y :: ys, p, h1, h2 => by
    rw [List.pairwise_cons] at h1 h2
    have hxy : x = y := by
      have a1 : x ∈ y :: ys := p.mem_iff.mp List.mem_cons_self
      have a2 : y ∈ x :: xs := p.mem_iff.mpr List.mem_cons_self
      rcases List.mem_cons.mp a1 with e | e
      · exact e
      · rcases List.mem_cons.mp a2 with e2 | e2
        · exact e2.symm
        · have := h1.1 y e2
          have := h2.1 x e
          omega
    subst hxy
    rw [perm_sorted_eq (List.Perm.cons_inv p) h1.2 h2.2]
@[simp] noncomputable def oSortI : List PyData → Option (List PyData)
  | [.list ds] => (asInts ds).map fun ns => (sortI ns).map PyData.int
  | _ => none
@[simp] def oRev (d : PyData) : Option (List PyData) := match d with
  | .list ds => some ds.reverse
  | _ => none
@[simp] def fRev (f : M PyData) : M (List PyData) := fun ρ => (bnd f fun d => opt (oRev d)) ρ
def maxI : List Int → Option Int
  | [] => none
  | x :: xs => some (xs.foldl (fun a b => if b > a then b else a) x)
def minI : List Int → Option Int
  | [] => none
  | x :: xs => some (xs.foldl (fun a b => if b < a then b else a) x)
theorem foldMax : ∀ (xs : List Int) (x : Int), (xs.foldl (fun a b => if b > a then b else a) x ∈ x :: xs) ∧ ∀ y ∈ x :: xs, y ≤ xs.foldl (fun a b => if b > a then b else a) x
  | [], x => ⟨by simp, by simp⟩
  | z :: zs, x => by
    obtain ⟨h1, h2⟩ := foldMax zs (if z > x then z else x)
    simp only [List.foldl_cons]
    refine ⟨?_, fun y hy => ?_⟩
    · rcases List.mem_cons.mp h1 with e | e
      · rw [e]; split <;> simp
      · simp [e]
    · have h3 := h2 _ List.mem_cons_self
      have h4 : x ≤ (if z > x then z else x) := by split <;> omega
      have h5 : z ≤ (if z > x then z else x) := by split <;> omega
      rcases List.mem_cons.mp hy with e | e
      · rw [e]; omega
      · rcases List.mem_cons.mp e with e | e
        · rw [e]; omega
        · exact h2 y (List.mem_cons_of_mem _ e)
@[simp] def oMaxL : List PyData → Option PyData
  | [.list ds] => (match asInts ds with
    | some ns => (maxI ns).map PyData.int
    | none => none)
  | _ => none
@[simp] def oMinL : List PyData → Option PyData
  | [.list ds] => (match asInts ds with
    | some ns => (minI ns).map PyData.int
    | none => none)
  | _ => none
theorem rd_maxL {K : PySem.W.Frag} : RdC (rMax K) oMaxL := by
  intro Hf H xs as d sm ra e
  match as, ra, e with
  | [.list ds], .cons h1 .nil, e =>
    simp only [oMaxL] at e
    cases hn : asInts ds with
    | none => rw [hn] at e; cases e
    | some ns =>
      rw [hn] at e
      cases ns with
      | nil => simp [maxI] at e
      | cons x xs =>
        simp only [maxI, Option.map_some, Option.some.injEq] at e
        subst e
        obtain ⟨p, vs, rfl, h2, h3⟩ := h1.lst sm
        obtain ⟨f1, f2⟩ := foldMax xs x
        refine ⟨_, .int _, fun Q q => ⟨p, x :: xs, rfl, by rw [← asInts_rep h3 hn]; exact SqL.of h2, by simp, fun m hm hle => ?_⟩⟩
        have h5 := hle _ f1
        have h6 := f2 m hm
        rw [show m = xs.foldl (fun a b => if b > a then b else a) x from by omega]
        exact q
theorem fe_maxL {p : Pos} (hc : X.calm = true) (hg : Gl X "max") (hm : X.mg "max" = none) (ha : PA X (e :: es) (tAll G As)) (he : starEach (e :: es) X.env = (false, eval e X.env) :: starEach es X.env := by rfl) (hpl : (backTo pos (starEach es X.env)).any (·.1) = false := by rfl) : PE X (.Call (.Name "max" p) (e :: es) [] pos) (tE G (fCB oMaxL As)) := fe_callB (cr_max hc) rd_maxL hg hm (by decide +kernel) ha (by decide) (by decide) he hpl
end
end Fx
namespace Fx
open PySem PyProof.Rows L2
variable [Tabz]
section
variable {X : Cx} {G : Gx} {a e : Expr} {f : M PyData} {ta : TE} {p p2 q pos : Pos}
def insU (x : Int) : List Int → List Int
  | [] => [x]
  | y :: ys => if x < y then x :: y :: ys else if x = y then y :: ys else y :: insU x ys
def sortU (ns : List Int) : List Int := ns.foldr insU []
@[simp] def oSortU (d : PyData) : Option (List PyData) := match d with
  | .list ds => (match asInts ds with
    | some ns => if decide (ns.length < 64) then some ((sortU ns).map PyData.int) else none
    | none => none)
  | _ => none
@[simp] def fSortU (f : M PyData) : M (List PyData) := fun ρ => (bnd f fun d => opt (oSortU d)) ρ
end
end Fx
namespace Fx
open PySem L2
variable [Tabz]
end Fx
namespace Fx
open PySem L2
variable [Tabz]
section
variable {X : Cx}
@[simp] def oIsB : PyData → PyData → Option PyData
  | .bool a, .bool b => some (.bool (decide (a = b)))
  | _, _ => none
@[simp] def oNotB : PyData → PyData → Option PyData
  | .bool a, .bool b => some (.bool (!decide (a = b)))
  | _, _ => none
end
end Fx
namespace Fx
open PySem PySem.Spec PyProof.Rows L2
variable [Tabz]
end Fx
namespace Fx
open PySem L2
variable [Tabz]
def asPairs : List PyData → Option (List (Int × Int))
  | [] => some []
  | .tuple [.int a, .int b] :: r => (asPairs r).map ((a, b) :: ·)
  | _ => none
def encPr (p : Int × Int) : PyData := .tuple [.int p.1, .int p.2]
def leP (a b : Int × Int) : Bool := decide (a.1 < b.1 ∨ a.1 = b.1 ∧ a.2 ≤ b.2)
noncomputable def sortP (ps : List (Int × Int)) : List (Int × Int) := ps.mergeSort leP
@[simp] noncomputable def oSortP : List PyData → Option (List PyData)
  | [.list ds] => (asPairs ds).map fun ps => (sortP ps).map encPr
  | _ => none
end Fx
namespace Mm
open PySem L2 Fx
variable [Tabz]
noncomputable def g_l_pick : Rho → Fl := (sSeq (sIf (tAndM (fB (fOp oLt (.e (fOp oIx (.v 0) (.e (ret (.int 2))))) (.v 1))) (fB (fOp oLt (.e (fOp oIx (.v 0) (.e (ret (.int 1))))) (.e (fCB oLen [(.e (fOp oIx (.v 0) (.e (ret (.int 0)))))]))))) (sSeq (sSet 2 (fOp oIx (.e (fOp oIx (.v 0) (.e (ret (.int 0))))) (.e (fOp oIx (.v 0) (.e (ret (.int 1)))))))
    (sSeq (sSetIx 0 (fOp oAdd (.e (fOp oIx (.v 0) (.e (ret (.int 1))))) (.e (ret (.int 1)))) (ret (.int 1)))
    (sSeq (sSetIx 0 (ret (.int 0)) (ret (.int 2)))
    (sIf (fB (fOp oGe (.v 2) (.e (fOp oPow (.e (ret (.int 10))) (.e (ret (.int 18))))))) (sSetIx 0 (fVar 2) (ret (.int 2))) (sSetIx 0 (fOp oMod (.e (fOp oAdd (.e (fOp oIx (.v 0) (.e (ret (.int 3))))) (.v 2))) (.e (ret (.int 1000000007)))) (ret (.int 3))))))) sNil)
    (sSeq (sIf (fB (fOp oGe (.e (fOp oIx (.v 0) (.e (ret (.int 2))))) (.v 1))) (sSeq (sSet 3 (fOp oMod (.e (fOp oIx (.v 0) (.e (ret (.int 2))))) (.v 1)))
    (sSeq (sSetIx 0 (fOp oDiv (.e (fOp oIx (.v 0) (.e (ret (.int 2))))) (.v 1)) (ret (.int 2)))
    (sRetV0 3))) sNil)
    (sSeq (sSetIx 0 (fOp oAdd (.e (fOp oIx (.v 0) (.e (ret (.int 4))))) (.e (ret (.int 1)))) (ret (.int 4)))
    (sSeq (sSetIx 0 (fOp oMod (.e (fOp oAdd (.e (fOp oAdd (.e (fOp oPow (.e (fOp oIx (.v 0) (.e (ret (.int 3))))) (.e (ret (.int 3))))) (.e (fOp oMul (.e (ret (.int 40503))) (.e (fOp oIx (.v 0) (.e (ret (.int 4))))))))) (.e (ret (.int 17))))) (.e (ret (.int 1000000007)))) (ret (.int 3)))
    (sRet (fOp oMod (.e (fOp oDiv (.e (fOp oIx (.v 0) (.e (ret (.int 3))))) (.e (ret (.int 5))))) (.v 1)))))))
noncomputable abbrev F_l_pick := runI 4 g_l_pick 2
noncomputable def g_l_same (Fr : List PyData → Out Rt) : Rho → Fl := (sSeq (sIf (fB (fUn oIsN (.v 1))) (sRet (fUn oIsN (.v 0))) sNil)
    (sSeq (sIf (tOrM (fB (fUn (oIs "bool") (.v 1))) (fB (fUn (oIs "bool") (.v 0)))) (sRet (vAnd (fUn (oIs "bool") (.v 1)) (vAnd (fUn (oIs "bool") (.v 0)) (fOp oEQ (.v 0) (.v 1))))) sNil)
    (sSeq (sIf (fB (fUn (oIs2 "int" "str") (.v 1))) (sRet (vAnd (fOp oEQ (.e (fUn (oIs "int") (.v 0))) (.e (fUn (oIs "int") (.v 1)))) (vAnd (fUn (oIs2 "int" "str") (.v 0)) (fOp oEQ (.v 0) (.v 1))))) sNil)
    (sSeq (sIf (tOrM (fB (fOp oNE (.e (fUn (oIs "list") (.v 0))) (.e (fUn (oIs "list") (.v 1))))) (fB (fOp oNE (.e (fUn (oIs "tuple") (.v 0))) (.e (fUn (oIs "tuple") (.v 1)))))) (sRet (ret (.bool false))) sNil)
    (sSeq (sIf (fB (fOp oNE (.e (fCB oLen [(.v 0)])) (.e (fCB oLen [(.v 1)])))) (sRet (ret (.bool false))) sNil)
    (sRet (fCB oAll [(.e (fLst (fLc (fAB oZip (fCons (fVar 0) (fCons (fVar 1) fNil))) (gTp (gsCons (gSet 2) (gsCons (gSet 3) gsNil))) (ret true) (fCall Fr (fCons (fVar 2) (fCons (fVar 3) fNil))) [2, 3])))])))))))
noncomputable def F_l_same_at : Nat → List PyData → Out Rt
  | 0 => fun _ => .bad
  | n + 1 => runP 4 (g_l_same (F_l_same_at n)) 2
theorem F_l_same_len : ∀ n ds r, F_l_same_at n ds = r → r ≠ .bad → ds.length = 2
  | 0, _, _, e, h => absurd e.symm h
  | n + 1, ds, r, e, h => runP_len ds r e h
noncomputable def F_l_same := F_l_same_at 8
end Mm
namespace Fx
open PySem L2
variable [Tabz]
def AfN (G : Gx) (σ : St) (ρ : Rho) (Hf H : Hp) (Q : VK) : Res Tr → Prop
  | .ok (t, ρ') => ∀ v F Hf' H', Nxt G.q σ ρ Hf H σ ρ' Hf' H' → TR Hf' H' v t F → F.Nodup → (∀ a ∈ F, Fre H σ ρ a ∧ Hf' a = none ∧ ¬ OwnA H' σ ρ' a) → Q v H'
  | .exc c ρ' => ∀ Hf' H', Nxt G.q σ ρ Hf H σ ρ' Hf' H' → G.W (.ref (G.cA c)) none σ H'
  | .bad => False
def tN (G : Gx) (f : M Tr) : TE := fun σ H Q => ∃ Hf ρ, Rp Hf H σ ρ ∧ AfN G σ ρ Hf H Q (f ρ)
section
variable {X : Cx} {G : Gx} {e a b : Expr} {es : List Expr} {f g : M D} {fs : M (List D)} {pos : Pos} {A B : Opd} {As : List Opd} {pn : List Nat} {σ : St} {ρ ρ1 : Rho} {Hf H Hf1 H1 : Hp}
theorem AfN.later {Q : VK} (n : Nxt G.q σ ρ Hf H σ ρ1 Hf1 H1) : ∀ {o : Res Tr}, AfN G σ ρ Hf H Q o → AfN G σ ρ1 Hf1 H1 Q o
  | .ok (a, ρ'), q => fun v F Hf' H' n' r nd h => q v F Hf' H' (n.trans n') r nd fun a m => ⟨(h a m).1.back n, (h a m).2⟩
  | .exc c ρ', q => fun Hf' H' n' => q Hf' H' (n.trans n')
  | .bad, q => q
theorem stepN {α γ : Type} {R1 : Hp → α → γ → Prop} {Q : VK} {g : M γ} {k : γ → M Tr} (rp : Rp Hf H σ ρ) (af : AfN G σ ρ Hf H Q (bnd g k ρ)) :
    tG G R1 g σ H fun y H1 => ∃ b Hf1 ρ1, Nxt G.q σ ρ Hf H σ ρ1 Hf1 H1 ∧ R1 Hf1 y b ∧ AfN G σ ρ1 Hf1 H1 Q (k b ρ1) := by
  refine ⟨Hf, ρ, rp, ?_⟩
  unfold bnd at af
  cases e : g ρ with
  | ok p =>
    obtain ⟨b, ρ1⟩ := p
    rw [e] at af
    exact fun x Hf1 H1 n r => ⟨b, Hf1, ρ1, n, r, af.later n⟩
  | exc c ρ1 => rw [e] at af; exact af
  | bad => rw [e] at af; exact af
theorem tN.mono {f : M Tr} {Q Q' : VK} (h : ∀ x H, Q x H → Q' x H) (t : tN G f σ H Q) : tN G f σ H Q' := by
  obtain ⟨Hf, ρ, rp, q⟩ := t
  refine ⟨Hf, ρ, rp, ?_⟩
  cases e : f ρ with
  | ok x => obtain ⟨t, ρ'⟩ := x; rw [e] at q; exact fun v F Hf' H' n r nd z => h _ _ (q v F Hf' H' n r nd z)
  | exc c ρ' => rw [e] at q; exact q
  | bad => rw [e] at q; exact q
@[simp] def nE (f : M D) : M Tr := fun ρ => (bnd f fun d => ret (.fz d)) ρ
@[simp] def nL (f : M (List D)) : M Tr := fun ρ => (bnd f fun d => ret (.ow d)) ρ
theorem fn_L {f : M (List D)} (h : PE X e (tL G f)) : PE X e (tN G (nL f)) := by
  refine h.imp fun σ H Q ⟨Hf, ρ, rp, af⟩ => ⟨Hf, ρ, rp, ?_⟩
  unfold nL bnd at af
  cases e : f ρ with
  | ok x =>
    obtain ⟨ds, ρ1⟩ := x
    rw [e] at af
    exact fun p vs Hf' H' n h1 h2 h3 h4 r => af _ [p] Hf' H' n (.ow h4 r) (List.nodup_cons.mpr ⟨List.not_mem_nil, List.nodup_nil⟩) fun a m => by
      rw [List.mem_singleton] at m; subst m; exact ⟨h1, h2, h3⟩
  | exc c ρ1 => rw [e] at af; exact af
  | bad => rw [e] at af; exact af
mutual
def frzT : Tr → Option D
  | .fz d => some d
  | .ow ds => some (.list ds)
  | .dk ks ds => some (.dict ((ks.map kD).zip ds))
  | .dt _ _ => none
  | .nd .lst ts => (frzTs ts).map PyData.list
  | .nd .tup ts => (frzTs ts).map PyData.tuple
  | .nd (.ins c) ts => (frzTs ts).map (instD c)
  | .nd (.dct ks) ts => (frzTs ts).map fun ds => PyData.dict ((ks.map kD).zip ds)
def frzTs : List Tr → Option (List D)
  | [] => some []
  | t :: ts => match frzT t with
    | some d => (frzTs ts).map (d :: ·)
    | none => none
end
@[simp] def fFrz (f : M Tr) : M D := fun ρ => (bnd f fun t => opt (frzT t)) ρ
@[simp] def plN (i : Nat) : M Pth := fun ρ => match ρ[i]? with
  | some (.tr _) => .ok ((i, []), ρ)
  | some (.lk _) => .ok ((i, []), ρ)
  | some (.pa k qs) => if (trAt (k, qs) ρ).isSome = true then .ok ((k, qs), ρ) else .bad
  | _ => .bad
theorem pl_name (i : Nat) {x : Str} (hN : X.N[i]? = some x := by rfl) (hv : Vis X.env.scope x := by first | exact Or.inl rfl | exact Or.inr (Or.inl rfl) | exact Or.inr (Or.inr rfl)) (hd : (x == ("__debug__" : Str)) = false := by decide)
    (hcd : (x == ("__classdict__" : Str)) = false := by decide) : PE X (.Name x pos) (tPl G (plN i)) := by
  refine (pe_var hN hv hd hcd).imp fun σ H Q ⟨Hf, ρ, rp, af⟩ => ?_
  unfold plN at af
  cases e : ρ[i]? with
  | none => rw [e] at af; exact af.elim
  | some s =>
    rw [e] at af
    cases s with
    | un => exact af.elim
    | raw v => exact af.elim
    | fz d => exact af.elim
    | ow ds => exact af.elim
    | tr t =>
      obtain ⟨v, F, h1, _⟩ := rp.tree (.inl e)
      exact ⟨v, h1, af v t Hf H (.refl rp) ⟨v, t, h1, .inl e, .nil⟩⟩
    | lk t =>
      obtain ⟨v, F, h1, _⟩ := rp.tree (.inr e)
      exact ⟨v, h1, af v t Hf H (.refl rp) ⟨v, t, h1, .inr e, .nil⟩⟩
    | pa k qs =>
      dsimp only at af
      cases e1 : trAt (k, qs) ρ with
      | none => rw [e1] at af; exact False.elim af
      | some s =>
        rw [e1] at af
        obtain ⟨t, h1, h2⟩ := trAt_is e1
        obtain ⟨v, w, s', g1, g2, g3⟩ := rp.al i k qs t e h1
        exact ⟨w, g2, af w s' Hf H (.refl rp) ⟨v, t, g1, h1, g3⟩⟩
theorem At.snoc {v w u : V} {t s s' : Tr} {qs : List Nat} {p : Addr} {k : Nk} {vs : List V} {ts : List Tr} {n : Nat} (h : At H v t qs w s) (es : s = .nd k ts) (ew : w = .ref p) (hn : NodeOk H p k vs) (h1 : vs[n]? = some u) (h2 : ts[n]? = some s') : At H v t (qs ++ [n]) u s' := by
  induction h with
  | nil => subst es ew; exact .cons hn h1 h2 .nil
  | cons a b c d ih => exact .cons a b c (ih es ew)
theorem stepP {α : Type} {Q : VK} {g : M α} {k : α → M Pth} {β : Type} {R1 : Hp → β → α → Prop} (rp : Rp Hf H σ ρ) (af : AfP G σ ρ Hf H Q (bnd g k ρ)) :
    tG G R1 g σ H fun y H1 => ∃ b Hf1 ρ1, Nxt G.q σ ρ Hf H σ ρ1 Hf1 H1 ∧ R1 Hf1 y b ∧ AfP G σ ρ1 Hf1 H1 Q (k b ρ1) := by
  refine ⟨Hf, ρ, rp, ?_⟩
  unfold bnd at af
  cases e : g ρ with
  | ok p =>
    obtain ⟨b, ρ1⟩ := p
    rw [e] at af
    refine fun x Hf1 H1 n r => ⟨b, Hf1, ρ1, n, r, ?_⟩
    revert af
    dsimp only
    cases k b ρ1 with
    | ok x => obtain ⟨p, ρ2⟩ := x; exact fun af v s Hf' H' n' a => af v s Hf' H' (n.trans n') a
    | exc c ρ2 => exact fun af Hf' H' n' => af Hf' H' (n.trans n')
    | bad => exact fun af => af
  | exc c ρ1 => rw [e] at af; exact af
  | bad => rw [e] at af; exact af
theorem stepPP {α : Type} {P : Rho → Hp → Hp → Res α → Prop} {g : M Pth} {k : Pth → M α} (hl : ∀ {ρ ρ1 Hf H Hf1 H1 o}, Nxt G.q σ ρ Hf H σ ρ1 Hf1 H1 → P ρ Hf H o → P ρ1 Hf1 H1 o) (hx : ∀ {ρ Hf H c ρ1}, P ρ Hf H (.exc c ρ1) → ∀ Hf' H', Nxt G.q σ ρ Hf H σ ρ1 Hf' H' → G.W (.ref (G.cA c)) none σ H') (hb : ∀ {ρ Hf H}, ¬ P ρ Hf H .bad) (rp : Rp Hf H σ ρ) (af : P ρ Hf H (bnd g k ρ)) :
    tPl G g σ H fun y H1 => ∃ p s Hf1 ρ1, Nxt G.q σ ρ Hf H σ ρ1 Hf1 H1 ∧ AtV H1 σ ρ1 p y s ∧ P ρ1 Hf1 H1 (k p ρ1) := by
  refine ⟨Hf, ρ, rp, ?_⟩
  unfold bnd at af
  cases e : g ρ with
  | ok p =>
    obtain ⟨b, ρ1⟩ := p
    rw [e] at af
    exact fun v s Hf1 H1 n a => ⟨b, s, Hf1, ρ1, n, a, hl n af⟩
  | exc c ρ1 => rw [e] at af; exact hx af
  | bad => rw [e] at af; exact absurd af hb
theorem AfP.later {Q : VK} (n : Nxt G.q σ ρ Hf H σ ρ1 Hf1 H1) : ∀ {o : Res Pth}, AfP G σ ρ Hf H Q o → AfP G σ ρ1 Hf1 H1 Q o
  | .ok (a, ρ'), q => fun v s Hf' H' n' r => q v s Hf' H' (n.trans n') r
  | .exc c ρ', q => fun Hf' H' n' => q Hf' H' (n.trans n')
  | .bad, q => q
@[simp] def plF (f : M Pth) (c : Str) (n : Nat) : M Pth := fun ρ => (bnd f fun p ρ => match trAt p ρ with
  | some (.nd (.ins c') ts) => if c' = c ∧ n < ts.length then .ok ((p.1, p.2 ++ [n]), ρ) else .bad
  | _ => .bad) ρ
theorem zip_lookup {x : Str} {v : V} : ∀ {fs : List Str} {vs : List V} {n : Nat}, fs.Nodup → fs[n]? = some x → vs[n]? = some v → (fs.zip vs).lookup x = some v
  | y :: fs, w :: vs, 0, _, e1, e2 => by
    simp only [List.getElem?_cons_zero, Option.some.injEq] at e1 e2
    subst e1 e2
    simp [List.lookup]
  | y :: fs, w :: vs, n + 1, hn, e1, e2 => by
    simp only [List.getElem?_cons_succ] at e1 e2
    have ne : x ≠ y := fun z => by
      subst z
      exact (List.nodup_cons.mp hn).1 (List.mem_of_getElem? e1)
    have nb : (x == y) = false := by simpa using ne
    simp only [List.zip_cons_cons, List.lookup, nb]
    exact zip_lookup (List.nodup_cons.mp hn).2 e1 e2
  | [], _, _, _, e1, _ => by simp at e1
  | _ :: _, [], _, _, _, e2 => by simp at e2
theorem pl_fld {f : M Pth} {c x : Str} (n : Nat) (h : PE X e (tPl G f)) (hcl : Cls X.K (Tabz.cA c)) (hna : NoAttr X.K (Tabz.cA c) x) (hnd : (flds c).Nodup) (hx : (flds c)[n]? = some x) (hb : attributeBase e x X.env (eval e X.env) = eval e X.env := by rfl) : PE X (.Attribute e x pos) (tPl G (plF f c n)) := by
  refine (pe_fld h hb).imp fun σ H Q ⟨Hf, ρ, rp, af⟩ => ?_
  refine tPl.mono ?_ (stepPP (P := fun ρ Hf H o => AfP G σ ρ Hf H Q o) (fun n q => q.later n) (fun q => q) (fun q => q) rp af)
  rintro y H1 ⟨p, s, Hf1, ρ1, n1, av, af1⟩
  rw [av.trAt] at af1
  cases s with
  | nd k ts =>
    cases k with
    | ins c' =>
      dsimp only at af1
      split at af1
      · rename_i hc
        obtain ⟨rfl, hn⟩ := hc
        obtain ⟨M, z⟩ := av.tr n1.rp
        cases z with
        | @nd _ _ vs _ _ hk hs =>
          obtain ⟨hl, dx, hp⟩ := hk
          have hlen := hs.len
          obtain ⟨v, hv⟩ : ∃ v, vs[n]? = some v := ⟨vs[n]'(by omega), List.getElem?_eq_getElem (by omega)⟩
          refine ⟨_, _, dx, _, v, rfl, hp, hcl, hna, zip_lookup hnd hx hv, af1 v (ts[n]'hn) Hf1 H1 (.refl n1.rp) ?_⟩
          · obtain ⟨u, t, e1, e2, a⟩ := av
            exact ⟨u, t, e1, e2, a.snoc rfl rfl ⟨hl, dx, hp⟩ hv (List.getElem?_eq_getElem hn)⟩
      · exact False.elim af1
    | lst => exact af1.elim
    | tup => exact af1.elim
    | dct _ => exact af1.elim
  | fz _ => exact af1.elim
  | ow _ => exact af1.elim
  | dk _ _ => exact af1.elim
  | dt _ _ => exact af1.elim
@[simp] def fRd (f : M Pth) : M D := fun ρ => (bnd f fun p ρ => match trAt p ρ with
  | some (.fz d) => .ok (d, ρ)
  | _ => .bad) ρ
end
end Fx
namespace Fx
open PySem L2
variable [Tabz]
def killS (kf : List Nat → Bool) (i : Nat) : Sl → Sl
  | .pa k q => if k = i ∧ kf q = false then .un else .pa k q
  | s => s
section
variable {kf : List Nat → Bool} {i : Nat}
@[simp] theorem killS_un : killS kf i .un = .un := rfl
@[simp] theorem killS_fz {d : D} : killS kf i (.fz d) = .fz d := rfl
@[simp] theorem killS_ow {d : List D} : killS kf i (.ow d) = .ow d := rfl
@[simp] theorem killS_raw {d : V} : killS kf i (.raw d) = .raw d := rfl
@[simp] theorem killS_tr {d : Tr} : killS kf i (.tr d) = .tr d := rfl
@[simp] theorem killS_lk {d : Tr} : killS kf i (.lk d) = .lk d := rfl
@[simp] theorem killS_pa {k : Nat} {q : List Nat} : killS kf i (.pa k q) = if k = i ∧ kf q = false then .un else .pa k q := rfl
@[simp] def killB (kf : List Nat → Bool) (i : Nat) (ρ : Rho) : Rho := ρ.map (killS kf i)
@[simp] def kNo : List Nat → Bool := fun _ => false
theorem killB_get {ρ : Rho} {j : Nat} {s : Sl} (h : (killB kf i ρ)[j]? = some s) : (ρ[j]? = some s ∧ ∀ k q, s = .pa k q → k = i → kf q = true) ∨ (s = .un ∧ ∃ q, ρ[j]? = some (.pa i q)) := by
  unfold killB at h
  rw [List.getElem?_map] at h
  cases e : ρ[j]? with
  | none => rw [e] at h; cases h
  | some s0 =>
    rw [e] at h
    cases s0 with
    | pa k q =>
      simp only [Option.map_some, Option.some.injEq, killS_pa] at h
      by_cases z : k = i ∧ kf q = false
      · rw [if_pos z] at h
        exact .inr ⟨h.symm, q, by rw [z.1]⟩
      · rw [if_neg z] at h
        subst h
        refine .inl ⟨rfl, fun k' q' y ek => ?_⟩
        cases y
        cases hq : kf q with
        | true => rfl
        | false => exact absurd ⟨ek, hq⟩ z
    | un => cases h; exact .inl ⟨rfl, fun _ _ y => nomatch y⟩
    | fz _ => cases h; exact .inl ⟨rfl, fun _ _ y => nomatch y⟩
    | ow _ => cases h; exact .inl ⟨rfl, fun _ _ y => nomatch y⟩
    | raw _ => cases h; exact .inl ⟨rfl, fun _ _ y => nomatch y⟩
    | tr _ => cases h; exact .inl ⟨rfl, fun _ _ y => nomatch y⟩
    | lk _ => cases h; exact .inl ⟨rfl, fun _ _ y => nomatch y⟩
theorem killB_len {ρ : Rho} : (killB kf i ρ).length = ρ.length := List.length_map _
theorem killB_at {ρ : Rho} {j : Nat} {s : Sl} (h : ρ[j]? = some s) (hn : ∀ k q, s ≠ .pa k q) : (killB kf i ρ)[j]? = some s := by
  unfold killB
  rw [List.getElem?_map, h]
  cases s <;> first | rfl | exact absurd rfl (hn _ _)
end
section
variable {q : Bool} {Hf Hf' H H' : Hp} {σ σ' : St} {ρ ρ' : Rho}
theorem ownI_tr {i : Nat} {t : Tr} {v : V} {F : List Addr} (hi : ρ[i]? = some (.tr t)) (hv : σ[i]? = some (some v)) (r : TR Hf H v t F) {a : Addr} : OwnI H σ ρ i a ↔ a ∈ F := by
  constructor
  · rintro ⟨s, w, e1, e2, o⟩
    rw [hi] at e1; cases e1
    rw [hv] at e2; cases e2
    obtain ⟨Hf0, F0, r0, m⟩ := o
    have e := r.inj r0
    subst e
    exact m
  · intro m
    exact ⟨_, _, hi, hv, Hf, F, r, m⟩
theorem Rp.chgT (r : Rp Hf H σ ρ) {i : Nat} {t t' : Tr} {v : V} {F F' : List Addr} (kf : List Nat → Bool) (hi : ρ[i]? = some (.tr t)) (hv : σ[i]? = some (some v)) (r0 : TR Hf H v t F) (sub : Same Hf Hf') (sub' : Same Hf' H') (tb : Tb H') (nt : NtH Hf')
    (keep : ∀ a o, H a = some o → NT o → a ∉ F → H' a = some o) (dom : ∀ a, H' a = none → H a = none) (fr : ∀ a, Hf a = none → Hf' a = none ∨ H a = none ∨ a ∈ F) (r1 : TR Hf' H' v t' F') (nd1 : F'.Nodup) (hf1 : ∀ a ∈ F', Hf' a = none) (own : ∀ a ∈ F', a ∈ F ∨ H a = none)
    (al : ∀ qs w s, kf qs = true → At H v t qs w s → ∃ s', At H' v t' qs w s') : Nxt false σ ρ Hf H σ (killB kf i (ρ.set i (.tr t'))) Hf' H' := by
  have hlt : i < ρ.length := (List.getElem?_eq_some_iff.mp hi).1
  have gi : (killB kf i (ρ.set i (.tr t')))[i]? = some (.tr t') := killB_at (by rw [List.getElem?_set, if_pos rfl, if_pos hlt]) fun _ _ z => nomatch z
  have ow' : ∀ a, OwnI H' σ (killB kf i (ρ.set i (.tr t'))) i a ↔ a ∈ F' := fun a => ownI_tr gi hv r1
  refine r.chgs (· = i) (by rw [killB_len, List.length_set]; exact r.len) sub sub' tb nt (fun a o h t n => keep a o h t fun z => n i rfl ((ownI_tr hi hv r0).mpr z)) dom (fun a z => (fr a z).imp id fun w => w.imp id fun y => ⟨i, rfl, (ownI_tr hi hv r0).mpr y⟩) (fun j s n e => ?_) ?_ ?_ ?_ ?_ ?_ (fun z => nomatch z)
  · rcases killB_get e with ⟨h, _⟩ | ⟨h, _⟩
    · rw [List.getElem?_set, if_neg fun z => n z.symm] at h
      exact .inl h
    · exact .inr h
  · rintro _ s rfl e
    rw [gi] at e; cases e
    exact ⟨(fun _ z => nomatch z), (fun _ _ z => nomatch z)⟩
  · rintro j i' qs t2 h1 h2 ei
    have ei : i' = i := ei
    subst ei
    have et : t2 = t' := by
      rcases h2 with e | e
      · rw [gi] at e; cases e; rfl
      · rw [gi] at e; cases e
    subst et
    rcases killB_get h1 with ⟨h, hk⟩ | ⟨h, _⟩
    · have hj : j ≠ i' := fun z => by
        subst z
        rw [gi] at h1; cases h1
      rw [List.getElem?_set, if_neg fun z => hj z.symm] at h
      obtain ⟨v', w, s, g1, g2, g3⟩ := r.al j _ qs t h (.inl hi)
      rw [hv] at g1; cases g1
      obtain ⟨s', a'⟩ := al qs w s (hk _ _ rfl rfl) g3
      exact ⟨v, w, s', hv, g2, a'⟩
    · cases h
  · rintro _ s rfl e
    rw [gi] at e; cases e
    rw [hv]
    exact slok_tr.mpr ⟨F', r1, nd1, hf1⟩
  · rintro _ a rfl z
    exact (own a ((ow' a).mp z)).imp (fun m => ⟨_, rfl, (ownI_tr hi hv r0).mpr m⟩) id
  · rintro _ _ a rfl rfl _ _; rfl
@[simp] def toSl : Tr → Sl
  | .fz d => .fz d
  | .ow ds => .ow ds
  | t => .tr t
theorem toSl_ok {v : V} {t : Tr} {F : List Addr} (r : TR Hf H v t F) (nd : F.Nodup) (hf : ∀ a ∈ F, Hf a = none) : SlOk Hf H (some (some v)) (toSl t) := by
  cases r with
  | fz r => exact slok_fz.mpr r
  | ow h r => exact ⟨hf _ (List.mem_singleton.mpr rfl), _, h, r⟩
  | dk h l r => exact slok_tr.mpr ⟨_, .dk h l r, nd, hf⟩
  | dt h l r => exact slok_tr.mpr ⟨_, .dt h l r, nd, hf⟩
  | nd h k => exact slok_tr.mpr ⟨_, .nd h k, nd, hf⟩
theorem toSl_own {v : V} {t : Tr} {F : List Addr} (r : TR Hf H v t F) (a : Addr) : OwnS H v (toSl t) a ↔ a ∈ F := by
  have key : ∀ {t : Tr} {F : List Addr}, TR Hf H v t F → ((∃ Hf0 F0, TR Hf0 H v t F0 ∧ a ∈ F0) ↔ a ∈ F) := fun {t F} r => ⟨fun ⟨Hf0, F0, r0, m⟩ => (r.inj r0).symm ▸ m, fun m => ⟨Hf, F, r, m⟩⟩
  cases r with
  | fz r => exact ⟨fun z => z.elim, fun z => nomatch z⟩
  | ow h r =>
    rw [List.mem_singleton]
    exact ⟨fun z => by cases (show V.ref _ = .ref a from z); rfl, fun z => by rw [z]; exact rfl⟩
  | dk h l r => exact key (.dk h l r)
  | dt h l r => exact key (.dt h l r)
  | nd h k => exact key (.nd h k)
theorem toSl_nl (t : Tr) : (∀ u, toSl t ≠ .lk u) ∧ ∀ k qs, toSl t ≠ .pa k qs := by
  cases t <;> exact ⟨(fun _ z => nomatch z), (fun _ _ z => nomatch z)⟩
theorem Rp.killN (r : Rp Hf H σ ρ) (kf : List Nat → Bool) (i : Nat) : Nxt false σ ρ Hf H σ (killB kf i ρ) Hf H := by
  refine r.weak (by rw [killB_len]; exact r.len) fun j s h => ?_
  rcases killB_get h with ⟨h, _⟩ | ⟨h, _⟩
  · exact .inl ⟨h, rfl⟩
  · subst h; exact .inr ⟨True.intro, slok_un⟩
theorem Nxt.putT {Hf0 H0 Hf H : Hp} {σ0 σ : St} {ρ0 ρ : Rho} (n : Nxt q σ0 ρ0 Hf0 H0 σ ρ Hf H) (rp0 : Rp Hf0 H0 σ0 ρ0) {i : Nat} {v : V} {t : Tr} {F : List Addr} (r : TR Hf H v t F) (nd : F.Nodup) (hF : ∀ a ∈ F, Fre H0 σ0 ρ0 a ∧ Hf a = none ∧ ¬ OwnA H σ ρ a) :
    Nxt false σ0 ρ0 Hf0 H0 (σ.set i (some v)) ((killB kNo i ρ).set i (toSl t)) Hf H := by
  have n1 := n.any.trans (n.rp.killN kNo i)
  have hF1 : ∀ a ∈ F, ¬ OwnA H σ (killB kNo i ρ) a := fun a m z => ((n.rp.killN kNo i).os a z).elim (hF a m).2.2 fun y => by
    obtain ⟨o, ho, _⟩ := r.obj a m
    rw [ho] at y; cases y
  obtain ⟨r2, oa, lk2⟩ := n1.rp.store (i := i) (v := v) (s' := toSl t) (toSl_ok r nd fun a m => (hF a m).2.1) (toSl_nl t) (fun a z => ⟨hF1 a ((toSl_own r a).mp z), fun y => (hF a ((toSl_own r a).mp z)).1.notLk rp0 (n1.ls a y)⟩) (fun _ j qs h => by
    rcases killB_get h with ⟨_, hk⟩ | ⟨h, _⟩
    · exact absurd (hk i qs rfl rfl) (by simp)
    · cases h)
  exact ⟨n.sub, n.keep, fun a z => (oa a z).elim (n1.os a) fun y => (hF a ((toSl_own r a).mp y)).1.symm, fun a z => n1.ls a (lk2 a z), n.dom, n.fr, (fun z => nomatch z), r2⟩
end
section
variable {X : Cx} {G : Gx} {e a b : Expr} {es : List Expr} {f g : M D} {fs : M (List D)} {pos : Pos} {A B : Opd} {As : List Opd} {pn : List Nat} {σ : St} {ρ ρ1 : Rho} {Hf H Hf1 H1 : Hp}
theorem stepSN {D : Ends} {g : M Tr} {k : Tr → Rho → Fl} (rp : Rp Hf H σ ρ) (af : AfS G pn σ ρ Hf H D (sBnd g k ρ)) :
    tN G g σ H fun y H1 => ∃ t F Hf1 ρ1, Nxt false σ ρ Hf H σ ρ1 Hf1 H1 ∧ TR Hf1 H1 y t F ∧ F.Nodup ∧ (∀ a ∈ F, Fre H σ ρ a ∧ Hf1 a = none ∧ ¬ OwnA H1 σ ρ1 a) ∧ AfS G pn σ ρ Hf H D (k t ρ1) := by
  refine ⟨Hf, ρ, rp, ?_⟩
  unfold sBnd at af
  cases e : g ρ with
  | ok p =>
    obtain ⟨b, ρ1⟩ := p
    rw [e] at af
    exact fun v F Hf1 H1 n r nd hF => ⟨b, F, Hf1, ρ1, n.any, r, nd, hF, af⟩
  | exc c ρ1 => rw [e] at af; exact fun Hf' H' n => af σ Hf' H' n.any (.refl _ _)
  | bad => rw [e] at af; exact af
@[simp] def sSetT (i : Nat) (f : M Tr) : Rho → Fl := fun ρ => (sBnd f fun t ρ => .nx ((killB kNo i ρ).set i (toSl t))) ρ
theorem fs_setT (i : Nat) {x : Str} {pos' : Pos} {f : M Tr} (hN : X.N.Nodup) (hpn : i ∉ pn) (he : PE X e (tN G f)) (hi : X.N[i]? = some x := by rfl) (hx : Loc X.env.scope x := by first | exact Or.inl rfl | exact Or.inr rfl) (hs : swapsWith e (some (.Name x pos')) pos.line X.env = pure false := by rfl) (hf : X.fn x = true ∨ X.env.scope.names.lookup x = some .local := by first | exact .inl rfl | exact .inr rfl) :
    PS X (.Assign [.Name x pos'] e pos) (tS G pn (sSetT i f)) := by
  refine (ps_set hN hi hx he hs hf).imp fun D σ H ⟨Hf, ρ, rp, af⟩ => ?_
  exact (stepSN rp af).mono fun v H1 ⟨t, F, Hf1, ρ1, n1, r, nd, hF, af1⟩ => af1 _ Hf1 H1 (n1.putT rp r nd hF) (pin_set hpn)
@[simp] def toRt : Tr → Rt
  | .fz d => .fz d
  | .ow ds => .ow ds
  | t => .tr t
theorem toRt_ok {σ' : St} {ρ' : Rho} {Hf' H' : Hp} {v : V} {t : Tr} {F : List Addr} (r : TR Hf' H' v t F) (nd : F.Nodup) (hF : ∀ a ∈ F, Fre H σ ρ a ∧ Hf' a = none ∧ ¬ OwnA H' σ' ρ' a) : RtOk pn σ ρ H σ' ρ' Hf' H' v (toRt t) := by
  cases r with
  | fz r => exact r
  | ow h r =>
    obtain ⟨h1, h2, h3⟩ := hF _ (List.mem_singleton.mpr rfl)
    exact ⟨_, _, rfl, h1, h2, h3, h, r⟩
  | dk h l r => exact ⟨_, .dk h l r, nd, hF⟩
  | dt h l r => exact ⟨_, .dt h l r, nd, hF⟩
  | nd h k => exact ⟨_, .nd h k, nd, hF⟩
@[simp] def sRetT (f : M Tr) : Rho → Fl := fun ρ => (sBnd f fun t ρ => .ret (toRt t) ρ) ρ
theorem fs_retT {f : M Tr} (he : PE X e (tN G f)) : PS X (.Return (some e) pos) (tS G pn (sRetT f)) := by
  refine (ps_ret he).imp fun D σ H ⟨Hf, ρ, rp, af⟩ => ?_
  exact (stepSN rp af).mono fun v H1 ⟨t, F, Hf1, ρ1, n1, r, nd, hF, af1⟩ => af1 _ σ Hf1 H1 n1 (.refl _ _) (toRt_ok r nd hF)
@[simp] def sRetVT (i : Nat) : Rho → Fl := fun ρ => match ρ[i]? with
  | some (.tr t) => .ret (.tr t) (ρ.set i .un)
  | _ => .bad
end
end Fx
namespace Fx
open PySem L2
variable [Tabz]
inductive Ar where
  | d (x : PyData)
  | l (t : Tr)
  | o (t : Tr)
inductive OT where
  | ok (r : Rt) (os : List Ar)
  | exc (c : Str) (os : List Ar)
  | bad
def ArOk (Hf H : Hp) (v : V) : Ar → List Addr → Prop
  | .d x, F => F = [] ∧ Rep Hf v x
  | .l t, F => TR Hf H v t F
  | .o t, F => TR Hf H v t F ∧ F.Nodup ∧ ∀ a ∈ F, Hf a = none
structure ArsOk (Hf H : Hp) (vs : List V) (as : List Ar) (Fs : Nat → List Addr) : Prop where
  len : vs.length = as.length
  ok : ∀ (i : Nat) (v : V) (a : Ar), vs[i]? = some v → as[i]? = some a → ArOk Hf H v a (Fs i)
  nd : ∀ (i j : Nat) (a : Addr) (t t' : Tr), as[i]? = some (.o t) → as[j]? = some (.o t') → a ∈ Fs i → a ∈ Fs j → i = j
  lk : ∀ (i j : Nat) (a : Addr) (t t' : Tr), as[i]? = some (.l t) → as[j]? = some (.o t') → a ∈ Fs i → a ∉ Fs j
def IoA (as : List Ar) (Fs : Nat → List Addr) (a : Addr) : Prop := ∃ (i : Nat) (t : Tr), as[i]? = some (.o t) ∧ a ∈ Fs i
structure EndT (Hf H : Hp) (vs : List V) (as : List Ar) (Fs : Nat → List Addr) (Hf' H' : Hp) (os : List Ar) (Gs : Nat → List Addr) : Prop where
  sub : Same Hf Hf'
  sb : Sb Hf' H'
  keep : ∀ a o, H a = some o → NT o → ¬ IoA as Fs a → H' a = some o
  dom : ∀ a, H' a = none → H a = none
  fr : ∀ a, Hf a = none → Hf' a = none ∨ H a = none ∨ IoA as Fs a
  out : ∀ (i : Nat) (v : V) (t : Tr), vs[i]? = some v → os[i]? = some (.o t) → TR Hf' H' v t (Gs i) ∧ (Gs i).Nodup ∧ ∀ a ∈ Gs i, Hf' a = none ∧ (IoA as Fs a ∨ H a = none)
  nd : ∀ (i j : Nat) (a : Addr) (t t' : Tr), os[i]? = some (.o t) → os[j]? = some (.o t') → a ∈ Gs i → a ∈ Gs j → i = j
  shp : ∀ i : Nat, (∃ t0, as[i]? = some (.o t0)) → ∃ t, os[i]? = some (.o t)
def RtT (H : Hp) (as : List Ar) (Fs : Nat → List Addr) (Hf' H' : Hp) (os : List Ar) (Gs : Nat → List Addr) (v : V) : Rt → Prop
  | .fz d => Rep Hf' v d
  | .ow ds => ∃ p vs, v = .ref p ∧ (H p = none ∨ IoA as Fs p) ∧ Hf' p = none ∧ ¬ IoA os Gs p ∧ H' p = some (.lst vs) ∧ RepA Hf' vs ds
  | .tr t => ∃ F, TR Hf' H' v t F ∧ F.Nodup ∧ ∀ a ∈ F, (H a = none ∨ IoA as Fs a) ∧ Hf' a = none ∧ ¬ IoA os Gs a
def spT (cA : Str → Addr) (n : Nat) (F : List Ar → OT) : Sp := fun vs H Q E => vs.length = n ∧ ∃ Hf as Fs, Sb Hf H ∧ ArsOk Hf H vs as Fs ∧ (match F as with
  | .ok r os => ∀ v Hf' H' Gs, EndT Hf H vs as Fs Hf' H' os Gs → RtT H as Fs Hf' H' os Gs v r → Q v H'
  | .exc c os => ∀ Hf' H' Gs, EndT Hf H vs as Fs Hf' H' os Gs → E (.ref (cA c)) none H'
  | .bad => False)
@[simp] def arSl : Ar → Sl
  | .d x => .fz x
  | .l t => .lk t
  | .o t => toSl t
@[simp] def slTr : Sl → Option Tr
  | .tr t => some t
  | .ow ds => some (.ow ds)
  | _ => none
@[simp] def outs : List Ar → Rho → Option (List Ar)
  | [], _ => some []
  | .o _ :: as, s :: ρ => (match slTr s with
    | some t => (outs as ρ).map (Ar.o t :: ·)
    | none => none)
  | .d x :: as, _ :: ρ => (outs as ρ).map (Ar.d x :: ·)
  | .l t :: as, _ :: ρ => (outs as ρ).map (Ar.l t :: ·)
  | _ :: _, [] => none
@[simp] def toOutT (as : List Ar) : Fl → OT
  | .nx ρ => (match outs as ρ with
    | some os => .ok (.fz .none) os
    | none => .bad)
  | .ret r ρ => (match outs as ρ with
    | some os => .ok r os
    | none => .bad)
  | .exc c ρ => (match outs as ρ with
    | some os => .exc c os
    | none => .bad)
  | _ => .bad
@[simp] def arM : Ar → Nat
  | .d _ => 0
  | .l _ => 1
  | .o _ => 2
def stT (n : Nat) (as : List Ar) : Rho := as.map arSl ++ List.replicate (n - as.length) Sl.un
@[simp] def runT (n : Nat) (g : Rho → Fl) (md : List Nat) (as : List Ar) : OT := if as.map arM = md then toOutT as (g (stT n as)) else .bad
theorem outs_at : ∀ {as : List Ar} {ρ : Rho} {os : List Ar}, outs as ρ = some os → ∀ (i : Nat) (t : Tr), (os[i]? = some (.o t) → (∃ t0, as[i]? = some (.o t0)) ∧ ∃ s, ρ[i]? = some s ∧ slTr s = some t) ∧ ((∃ t0, as[i]? = some (.o t0)) → ∃ t, os[i]? = some (.o t))
  | [], ρ, os, h => by
    cases h
    intro i t
    exact ⟨fun z => by simp at z, fun ⟨_, z⟩ => by simp at z⟩
  | .o t0 :: as, s :: ρ, os, h => by
    unfold outs at h
    cases e : slTr s with
    | none => rw [e] at h; cases h
    | some t1 =>
      rw [e] at h
      dsimp only at h
      cases e2 : outs as ρ with
      | none => rw [e2] at h; cases h
      | some os2 =>
        rw [e2] at h
        cases h
        intro i t
        cases i with
        | zero =>
          refine ⟨fun z => ⟨⟨t0, rfl⟩, s, rfl, ?_⟩, fun _ => ⟨t1, rfl⟩⟩
          simp only [List.getElem?_cons_zero, Option.some.injEq, Ar.o.injEq] at z
          rw [e, z]
        | succ i => simpa using outs_at e2 i t
  | .d x :: as, s :: ρ, os, h => by
    unfold outs at h
    cases e2 : outs as ρ with
    | none => rw [e2] at h; cases h
    | some os2 =>
      rw [e2] at h
      cases h
      intro i t
      cases i with
      | zero => simp
      | succ i => simpa using outs_at e2 i t
  | .l x :: as, s :: ρ, os, h => by
    unfold outs at h
    cases e2 : outs as ρ with
    | none => rw [e2] at h; cases h
    | some os2 =>
      rw [e2] at h
      cases h
      intro i t
      cases i with
      | zero => simp
      | succ i => simpa using outs_at e2 i t
  | .o _ :: _, [], os, h => by cases h
  | .d _ :: _, [], os, h => by cases h
  | .l _ :: _, [], os, h => by cases h
theorem stT_get {n : Nat} {as : List Ar} {i : Nat} {s : Sl} (h : (stT n as)[i]? = some s) : (∃ a, as[i]? = some a ∧ s = arSl a) ∨ s = .un := by
  unfold stT at h
  by_cases q : i < as.length
  · rw [List.getElem?_append_left (by simpa using q), List.getElem?_map, List.getElem?_eq_getElem q] at h
    cases h
    exact .inl ⟨_, List.getElem?_eq_getElem q, rfl⟩
  · rw [List.getElem?_append_right (by simpa using q), List.getElem?_replicate] at h
    split at h
    · cases h; exact .inr rfl
    · cases h
theorem toSl_lk {t u : Tr} : toSl t ≠ .lk u := (toSl_nl t).1 u
theorem toSl_pa {t : Tr} {k : Nat} {qs : List Nat} : toSl t ≠ .pa k qs := (toSl_nl t).2 k qs
section
variable {Hf H : Hp} {vs : List V} {as : List Ar} {Fs : Nat → List Addr} {N : List Str}
theorem startT_own (h : ArsOk Hf H vs as Fs) {i : Nat} {a : Addr} : OwnI H (L2.start N vs) (stT N.length as) i a → ∃ t, as[i]? = some (.o t) ∧ a ∈ Fs i := by
  rintro ⟨s, v, e1, e2, o⟩
  rcases stT_get e1 with ⟨x, ex, rfl⟩ | rfl
  · have hv : vs[i]? = some v := by
      have hl : i < vs.length := by rw [h.len]; exact (List.getElem?_eq_some_iff.mp ex).1
      rw [start_get (v := vs[i]) (List.getElem?_eq_getElem hl)] at e2
      cases e2
      exact List.getElem?_eq_getElem hl
    cases x with
    | d _ => exact o.elim
    | l _ => exact o.elim
    | o t =>
      obtain ⟨r, _, _⟩ := h.ok i v _ hv ex
      exact ⟨t, ex, (toSl_own r a).mp o⟩
  · exact o.elim
theorem startT_rp (sm : Sb Hf H) (h : ArsOk Hf H vs as Fs) (hN : as.length ≤ N.length) : Rp Hf H (L2.start N vs) (stT N.length as) := by
  have gv : ∀ {i : Nat} {x : Ar}, as[i]? = some x → ∃ v, vs[i]? = some v ∧ (L2.start N vs)[i]? = some (some v) := fun {i x} ex => by
    have hl : i < vs.length := by rw [h.len]; exact (List.getElem?_eq_some_iff.mp ex).1
    exact ⟨vs[i], List.getElem?_eq_getElem hl, start_get (List.getElem?_eq_getElem hl)⟩
  refine ⟨sm.sm, sm.tb, sm.nt, by unfold stT L2.start; simp [h.len], fun i s e => ?_, fun i j a h1 h2 => ?_, fun a ⟨i, t, v, Hf0, F, e1, e2, r, m⟩ ⟨j, z⟩ => ?_, fun j i qs t e _ => ?_⟩
  · rcases stT_get e with ⟨x, ex, rfl⟩ | rfl
    · obtain ⟨v, hv, es⟩ := gv ex
      rw [es]
      have q := h.ok i v x hv ex
      cases x with
      | d _ => exact slok_fz.mpr q.2
      | l t => exact slok_lk.mpr ⟨_, q⟩
      | o t => exact toSl_ok q.1 q.2.1 q.2.2
    · exact slok_un
  · obtain ⟨t, e1, m1⟩ := startT_own h h1
    obtain ⟨t', e2, m2⟩ := startT_own h h2
    exact h.nd i j a t t' e1 e2 m1 m2
  · obtain ⟨t', e3, m3⟩ := startT_own h z
    rcases stT_get e1 with ⟨x, ex, es⟩ | es
    · obtain ⟨v', hv, es'⟩ := gv ex
      rw [es'] at e2; cases e2
      cases x with
      | d _ => cases es
      | o t2 => exact absurd es.symm toSl_lk
      | l t2 =>
        cases es
        have q : TR Hf H v t (Fs i) := h.ok i v _ hv ex
        have e := q.inj r
        subst e
        exact h.lk i j a t t' ex e3 m m3
    · cases es
  · rcases stT_get e with ⟨x, ex, es⟩ | es
    · cases x with
      | d _ => cases es
      | l _ => cases es
      | o t2 => exact absurd es.symm toSl_pa
    · cases es
end
theorem slTr_is {s : Sl} {t : Tr} (h : slTr s = some t) : (s = .tr t) ∨ (∃ ds, s = .ow ds ∧ t = .ow ds) := by
  cases s <;> simp only [slTr, Option.some.injEq, reduceCtorEq] at h
  · exact .inr ⟨_, rfl, h.symm⟩
  · exact .inl (by rw [h])
theorem slTr_ok {Hf H : Hp} {s : Sl} {t : Tr} {v : V} (h : slTr s = some t) (ok : SlOk Hf H (some (some v)) s) : ∃ F, TR Hf H v t F ∧ F.Nodup ∧ (∀ a ∈ F, Hf a = none) ∧ ∀ a, OwnS H v s a ↔ a ∈ F := by
  rcases slTr_is h with rfl | ⟨ds, rfl, rfl⟩
  · obtain ⟨F, r, nd, hf⟩ := slok_tr.mp ok
    exact ⟨F, r, nd, hf, fun a => ⟨fun ⟨Hf0, F0, r0, m⟩ => (r.inj r0).symm ▸ m, fun m => ⟨Hf, F, r, m⟩⟩⟩
  · obtain ⟨p, vs, e, h1, h2, h3⟩ := slok_ow ok
    cases e
    refine ⟨[p], .ow h2 h3, List.nodup_cons.mpr ⟨List.not_mem_nil, List.nodup_nil⟩, fun a m => by rw [List.mem_singleton] at m; rw [m]; exact h1, fun a => ?_⟩
    rw [List.mem_singleton]
    exact ⟨fun z => by cases (show V.ref p = .ref a from z); rfl, fun z => by rw [z]; exact rfl⟩
section
variable {Hf H Hf' H' : Hp} {vs : List V} {as os : List Ar} {Fs : Nat → List Addr} {N : List Str} {σ' : St} {ρ' : Rho} {pn : List Nat}
theorem end_T (h : ArsOk Hf H vs as Fs) (hpn : ∀ (i : Nat) (t : Tr), as[i]? = some (.o t) → i ∈ pn) (n : Nxt false (L2.start N vs) (stT N.length as) Hf H σ' ρ' Hf' H') (pi : Pin pn (L2.start N vs) σ') (eo : outs as ρ' = some os) :
    ∃ Gs, EndT Hf H vs as Fs Hf' H' os Gs ∧ (∀ a, IoA os Gs a → OwnA H' σ' ρ' a) ∧ ∀ a, OwnA H (L2.start N vs) (stT N.length as) a → IoA as Fs a := by
  have own0 : ∀ a, OwnA H (L2.start N vs) (stT N.length as) a → IoA as Fs a := fun a ⟨i, z⟩ => by
    obtain ⟨t, e, m⟩ := startT_own h z
    exact ⟨i, t, e, m⟩
  have key : ∀ i : Nat, ∃ G : List Addr, ∀ t, os[i]? = some (.o t) → ∃ v s, vs[i]? = some v ∧ σ'[i]? = some (some v) ∧ ρ'[i]? = some s ∧ TR Hf' H' v t G ∧ G.Nodup ∧ (∀ a ∈ G, Hf' a = none) ∧ ∀ a, OwnS H' v s a ↔ a ∈ G := fun i => by
    by_cases hq : ∃ t, os[i]? = some (.o t)
    · obtain ⟨t, ht⟩ := hq
      obtain ⟨⟨t0, h0⟩, s, es, et⟩ := (outs_at eo i t).1 ht
      have hl : i < vs.length := by rw [h.len]; exact (List.getElem?_eq_some_iff.mp h0).1
      have hv : vs[i]? = some vs[i] := List.getElem?_eq_getElem hl
      have sv : σ'[i]? = some (some vs[i]) := (pi i (hpn i t0 h0)).trans (start_get hv)
      have ok := n.rp.sl i s es
      rw [sv] at ok
      obtain ⟨G, r, nd, hf, ho⟩ := slTr_ok et ok
      exact ⟨G, fun t' ht' => by
        rw [ht] at ht'; cases ht'
        exact ⟨_, s, hv, sv, es, r, nd, hf, ho⟩⟩
    · exact ⟨[], fun t ht => absurd ⟨t, ht⟩ hq⟩
  have own : ∀ (i : Nat) (t : Tr) (a : Addr), os[i]? = some (.o t) → a ∈ (key i).choose → OwnI H' σ' ρ' i a := fun i t a ht m => by
    obtain ⟨v, s, hv, sv, es, r, nd, hf, ho⟩ := (key i).choose_spec t ht
    exact ⟨s, v, es, sv, (ho a).mpr m⟩
  refine ⟨fun i => (key i).choose, ⟨n.sub, n.rp.sb, fun a o e t z => n.keep a o e t fun y => z (own0 a y), n.dom, fun a z => (n.fr a z).imp id fun q => q.imp id (own0 a), fun i v t hv ht => ?_, fun i j a t t' h1 h2 m1 m2 => n.rp.nd i j a (own i t a h1 m1) (own j t' a h2 m2), fun i z => (outs_at eo i (.fz .none)).2 z⟩, fun a ⟨i, t, ht, m⟩ => ⟨i, own i t a ht m⟩, own0⟩
  obtain ⟨v', s, hv', sv, es, r, nd, hf, ho⟩ := (key i).choose_spec t ht
  rw [hv] at hv'; cases hv'
  exact ⟨r, nd, fun a m => ⟨hf a m, (n.os a ⟨i, own i t a ht m⟩).imp (own0 a) id⟩⟩
end
theorem fn_T {P : Program} {w : World} {K : PySem.W.Frag} {mg : Str → Option Value} {base : Heap} {cA : Str → Addr} {x qual : Str} {sd : Stmt} {f : Addr} {fd : FuncData} {N ps : List Str} {k : Nat} {g : Rho → Fl} {md : List Nat} {pn : List Nat} (Fn : Fun K x qual sd f fd) (S : FnScope N ps (defScope sd)) (hmd : md.length = ps.length) (hpn : ∀ i : Nat, md[i]? = some 2 → i ∈ pn)
    (hb : ∀ (cdv : Value) (A : Around) (outer : List Env) (s : Shared) (H : Hp) (E : XK), Room k (A.deeper (PyProof.Rows.envOfC qual (defScope sd) s.heap.objs.size f cdv)) → PSs (cxOf (L2.CX P w) P w K mg base N qual (defScope sd) f cdv A outer s H E) (defBody sd) (tS ⟨fun cls d _ H => E cls d H, cA, false⟩ pn g)) :
    FnOk P w K mg base (L2.CX P w) (k + 1) f fd ps (spT cA ps.length (runT N.length g md)) := by
  refine Fn.okX S (fun vs H Q E h => h.1) fun cdv A outer s H vs Q E hr h => ⟨_, hb cdv A outer s H E hr, ?_⟩
  obtain ⟨hl, Hf, as, Fs, sm, ak, h⟩ := h
  by_cases hm : as.map arM = md
  · simp only [runT, if_pos hm] at h
    have hN : as.length ≤ N.length := by
      have := congrArg List.length S.pre
      rw [List.length_take] at this
      rw [← ak.len]
      omega
    have hp : ∀ (i : Nat) (t : Tr), as[i]? = some (.o t) → i ∈ pn := fun i t e => hpn i (by rw [← hm, List.getElem?_map, e]; rfl)
    refine ⟨Hf, stT N.length as, startT_rp sm ak hN, ?_⟩
    cases e : g (stT N.length as) with
    | nx ρ' =>
      rw [e] at h
      intro σ' Hf' H' n pi
      simp only [toOutT] at h
      cases eo : outs as ρ' with
      | none => rw [eo] at h; exact h.elim
      | some os =>
        rw [eo] at h
        obtain ⟨Gs, en, _, _⟩ := end_T ak hp n pi eo
        exact h .non Hf' H' Gs en .non
    | ret rt ρ' =>
      rw [e] at h
      intro v σ' Hf' H' n pi hq
      simp only [toOutT] at h
      cases eo : outs as ρ' with
      | none => rw [eo] at h; exact h.elim
      | some os =>
        rw [eo] at h
        obtain ⟨Gs, en, oo, o0⟩ := end_T ak hp n pi eo
        refine h v Hf' H' Gs en ?_
        cases rt with
        | fz d => exact hq
        | ow es =>
          obtain ⟨p, us, ev, h1, h2, h3, h4, h5⟩ := hq
          exact ⟨p, us, ev, h1.imp id (o0 p), h2, fun z => h3 (oo p z), h4, h5⟩
        | tr t =>
          obtain ⟨F, h1, h2, h3⟩ := hq
          exact ⟨F, h1, h2, fun a m => ⟨(h3 a m).1.imp id (o0 a), (h3 a m).2.1, fun z => (h3 a m).2.2 (oo a z)⟩⟩
    | exc c ρ' =>
      rw [e] at h
      intro σ' Hf' H' n pi
      simp only [toOutT] at h
      cases eo : outs as ρ' with
      | none => rw [eo] at h; exact h.elim
      | some os =>
        rw [eo] at h
        obtain ⟨Gs, en, _, _⟩ := end_T ak hp n pi eo
        exact h Hf' H' Gs en
    | brk _ => rw [e] at h; exact h.elim
    | ct _ => rw [e] at h; exact h.elim
    | bad => rw [e] at h; exact h.elim
  · simp only [runT, if_neg hm] at h
end Fx
namespace Fx
open PySem L2
variable [Tabz]
mutual
def leafT : PyData → Tr
  | .list ds => .ow ds
  | .dict [(.none, .str c), (.none, .tuple ds)] => .nd (.ins c) (leafTs ds)
  | d => .fz d
def leafTs : List PyData → List Tr
  | [] => []
  | d :: ds => leafT d :: leafTs ds
end
theorem leafTs_map : ∀ ds : List PyData, leafTs ds = ds.map leafT
  | [] => by simp [leafTs]
  | d :: ds => by simp [leafTs, leafTs_map ds]
@[simp] theorem leafT_list {ds : List PyData} : leafT (.list ds) = .ow ds := by simp [leafT]
@[simp] theorem leafT_inst {c : Str} {ds : List PyData} : leafT (instD c ds) = .nd (.ins c) (ds.map leafT) := by simp [instD, leafT, leafTs_map]
@[simp] theorem leafT_none : leafT .none = .fz .none := by simp [leafT]
@[simp] theorem leafT_bool {b : Bool} : leafT (.bool b) = .fz (.bool b) := by simp [leafT]
@[simp] theorem leafT_int {i : Int} : leafT (.int i) = .fz (.int i) := by simp [leafT]
@[simp] theorem leafT_str {x : Str} : leafT (.str x) = .fz (.str x) := by simp [leafT]
@[simp] theorem leafT_tup {ds : List PyData} : leafT (.tuple ds) = .fz (.tuple ds) := by simp [leafT]
theorem leafT_dict {ks : List Key} {ds : List PyData} : leafT (.dict ((ks.map kD).zip ds)) = .fz (.dict ((ks.map kD).zip ds)) := by
  cases ks with
  | nil => simp [leafT]
  | cons k ks =>
    cases ds with
    | nil => simp [leafT]
    | cons d ds => cases k <;> simp [leafT, kD]
def unkD : PyData → Option Key
  | .int i => some (.inl i)
  | .str x => some (.inr x)
  | _ => none
def keysD : List (PyData × PyData) → Option (List Key)
  | [] => some []
  | (k, _) :: r => match unkD k with
    | some k => (keysD r).map (k :: ·)
    | none => none
def unfr : PyData → Option Tr
  | .list ds => some (.ow ds)
  | .dict [(.none, .str c), (.none, .tuple ds)] => some (.nd (.ins c) (ds.map leafT))
  | .dict kvs => (keysD kvs).map fun ks => .nd (.dct ks) (kvs.map fun p => leafT p.2)
  | _ => none
@[simp] theorem unfr_list {ds : List PyData} : unfr (.list ds) = some (.ow ds) := rfl
@[simp] theorem unfr_inst {c : Str} {ds : List PyData} : unfr (instD c ds) = some (.nd (.ins c) (ds.map leafT)) := rfl
section
variable {Hf H : Hp}
mutual
theorem leaf_tr (sm : Same Hf H) : ∀ {v : V} {d : PyData}, Rep Hf v d → ∃ F, TR Hf H v (leafT d) F ∧ ∀ a ∈ F, Hf a ≠ none
  | _, _, .lst h r => ⟨_, by rw [leafT_list]; exact .ow (sm _ _ h) r, fun a m => by rw [List.mem_singleton] at m; rw [m, h]; exact fun z => nomatch z⟩
  | _, _, .non => ⟨[], by rw [leafT_none]; exact .fz .non, fun _ z => nomatch z⟩
  | _, _, .bl b => ⟨[], by rw [leafT_bool]; exact .fz (.bl b), fun _ z => nomatch z⟩
  | _, _, .int i => ⟨[], by rw [leafT_int]; exact .fz (.int i), fun _ z => nomatch z⟩
  | _, _, .str i => ⟨[], by rw [leafT_str]; exact .fz (.str i), fun _ z => nomatch z⟩
  | _, _, .tup h r => ⟨[], by rw [leafT_tup]; exact .fz (.tup h r), fun _ z => nomatch z⟩
  | _, _, .ins h l r => by
    obtain ⟨F, h1, h2⟩ := leafs_tr sm r
    refine ⟨_, by rw [leafT_inst]; exact .nd ⟨l, _, sm _ _ h⟩ h1, fun a m => (List.mem_cons.mp m).elim (fun z => by rw [z, h]; exact fun y => nomatch y) (h2 a)⟩
  | _, _, .dct h l r => ⟨[], by rw [leafT_dict]; exact .fz (.dct h l r), fun _ z => nomatch z⟩
theorem leafs_tr (sm : Same Hf H) : ∀ {vs : List V} {ds : List PyData}, RepA Hf vs ds → ∃ F, TRs Hf H vs (ds.map leafT) F ∧ ∀ a ∈ F, Hf a ≠ none
  | _, _, .nil => ⟨[], .nil, fun _ z => nomatch z⟩
  | _, _, .cons h r => by
    obtain ⟨F, h1, h2⟩ := leaf_tr sm h
    obtain ⟨F', h3, h4⟩ := leafs_tr sm r
    exact ⟨F ++ F', .cons h1 h3, fun a m => (List.mem_append.mp m).elim (h2 a) (h4 a)⟩
end
theorem unkD_kD (k : Key) : unkD (kD k) = some k := by cases k <;> rfl
theorem keysD_zip : ∀ {ks : List Key} {ds : List PyData}, ks.length = ds.length → keysD ((ks.map kD).zip ds) = some ks ∧ ((ks.map kD).zip ds).map (fun p => leafT p.2) = ds.map leafT
  | [], [], _ => ⟨rfl, rfl⟩
  | k :: ks, d :: ds, h => by
    obtain ⟨h1, h2⟩ := keysD_zip (ks := ks) (ds := ds) (by simpa using h)
    refine ⟨?_, ?_⟩
    · show (match unkD (kD k) with
        | some k => (keysD ((ks.map kD).zip ds)).map (k :: ·)
        | none => none) = _
      rw [unkD_kD, h1]; rfl
    · simp only [List.map_cons, List.zip_cons_cons, h2]
  | [], _ :: _, h => by simp at h
  | _ :: _, [], h => by simp at h
theorem unfr_dct {ks : List Key} {ds : List PyData} (h : ks.length = ds.length) : unfr (.dict ((ks.map kD).zip ds)) = some (.nd (.dct ks) (ds.map leafT)) := by
  obtain ⟨h1, h2⟩ := keysD_zip h
  unfold unfr
  split
  · rename_i z; cases z
  · rename_i c ds' z
    exfalso
    cases ks with
    | nil => cases z
    | cons k ks =>
      cases ds with
      | nil => cases z
      | cons d ds =>
        simp only [List.map_cons, List.zip_cons_cons, PyData.dict.injEq, List.cons.injEq, Prod.mk.injEq] at z
        cases k <;> exact nomatch z.1.1
  · rename_i kvs z
    cases z
    rw [h1, h2]; rfl
  · rename_i z1 z2; exact absurd rfl (z2 _)
theorem unfr_tr (sm : Same Hf H) {v : V} {d : PyData} {t : Tr} (r : Rep Hf v d) (e : unfr d = some t) : ∃ F, TR Hf H v t F ∧ ∀ a ∈ F, Hf a ≠ none := by
  cases r with
  | lst h r =>
    cases e
    have z := leaf_tr sm (.lst h r)
    rw [leafT_list] at z
    exact z
  | non => cases e
  | bl b => cases e
  | int i => cases e
  | str i => cases e
  | tup h r => cases e
  | ins h l r =>
    cases e
    obtain ⟨F, h1, h2⟩ := leafs_tr sm r
    exact ⟨_, .nd ⟨l, _, sm _ _ h⟩ h1, fun a m => (List.mem_cons.mp m).elim (fun z => by rw [z, h]; exact fun y => nomatch y) (h2 a)⟩
  | dct h l r =>
    rw [unfr_dct (l.trans (repA_len r))] at e
    cases e
    obtain ⟨F, h1, h2⟩ := leafs_tr sm r
    exact ⟨_, .nd ⟨l, sm _ _ h⟩ h1, fun a m => (List.mem_cons.mp m).elim (fun z => by rw [z, h]; exact fun y => nomatch y) (h2 a)⟩
end
inductive Ag where
  | e (f : M PyData)
  | ld (f : M PyData)
  | lp (f : M Pth)
  | op (f : M Pth)
  | ls (i : Nat)
  | os (i : Nat)
inductive AgV where
  | e (d : PyData)
  | ld (d : PyData)
  | lp (p : Pth)
  | op (p : Pth)
  | ls (i : Nat)
  | os (i : Nat)
@[simp] def lsA (i : Nat) (ρ : Rho) : Option Tr := match (ρ[i]? : Option Sl) with
  | some (.tr t) => some t
  | some (.lk t) => some t
  | some (.ow ds) => some (.ow ds)
  | some (.fz d) => unfr d
  | _ => none
@[simp] def osA (i : Nat) (ρ : Rho) : Option Tr := match (ρ[i]? : Option Sl) with
  | some (.tr t) => some t
  | some (.ow ds) => some (.ow ds)
  | _ => none
@[simp] def Ag.go : Ag → M AgV
  | .e f => fun ρ => (bnd f fun d => ret (.e d)) ρ
  | .ld f => fun ρ => (bnd f fun d => ret (.ld d)) ρ
  | .lp f => fun ρ => (bnd f fun p => ret (.lp p)) ρ
  | .op f => fun ρ => (bnd f fun p => ret (.op p)) ρ
  | .ls i => fun ρ => if (lsA i ρ).isSome = true then .ok (.ls i, ρ) else .bad
  | .os i => fun ρ => if (osA i ρ).isSome = true then .ok (.os i, ρ) else .bad
def Ag.t (G : Gx) : Ag → TE
  | .e f => tE G f
  | .ld f => tE G f
  | .lp f => tPl G f
  | .op f => tPl G f
  | .ls i => tVar i
  | .os i => tVar i
def agR (σ : St) (ρ : Rho) (Hf H : Hp) (v : V) : AgV → Prop
  | .e d => Rep Hf v d
  | .ld d => Rep Hf v d
  | .lp p => ∃ s, AtV H σ ρ p v s
  | .op p => ∃ s, AtV H σ ρ p v s
  | .ls i => σ[i]? = some (some v)
  | .os i => σ[i]? = some (some v)
@[simp] def goT : List Ag → M (List AgV)
  | [] => ret []
  | A :: As => bnd A.go fun a => bnd (goT As) fun as => ret (a :: as)
def tArgs (G : Gx) : List Ag → TA
  | [] => tNil
  | A :: As => tCons (A.t G) (tArgs G As)
inductive AgAll (σ : St) (ρ : Rho) (Hf H : Hp) : List V → List AgV → Prop
  | nil : AgAll σ ρ Hf H [] []
  | cons {v : V} {vs : List V} {a : AgV} {as : List AgV} : agR σ ρ Hf H v a → AgAll σ ρ Hf H vs as → AgAll σ ρ Hf H (v :: vs) (a :: as)
def Ag.isPl : Ag → Bool
  | .lp _ => true
  | .op _ => true
  | _ => false
def plOk : List Ag → Bool
  | [] => true
  | [_] => true
  | A :: As => !A.isPl && plOk As
def AfR (G : Gx) (σ : St) (ρ : Rho) (Hf H : Hp) (Q : VK) : Res Rt → Prop
  | .ok (r, ρ') => ∀ v Hf' H', Nxt G.q σ ρ Hf H σ ρ' Hf' H' → RtOk [] σ ρ H σ ρ' Hf' H' v r → Q v H'
  | .exc c ρ' => ∀ Hf' H', Nxt G.q σ ρ Hf H σ ρ' Hf' H' → G.W (.ref (G.cA c)) none σ H'
  | .bad => False
def tR (G : Gx) (f : M Rt) : TE := fun σ H Q => ∃ Hf ρ, Rp Hf H σ ρ ∧ AfR G σ ρ Hf H Q (f ρ)
section
variable {X : Cx} {G Ga : Gx} {e a b : Expr} {es : List Expr} {pos : Pos} {pn : List Nat} {σ : St} {ρ ρ1 ρ2 : Rho} {Hf H Hf1 H1 Hf2 H2 : Hp} {Q : VK}
theorem AfR.later (n : Nxt G.q σ ρ Hf H σ ρ1 Hf1 H1) : ∀ {o : Res Rt}, AfR G σ ρ Hf H Q o → AfR G σ ρ1 Hf1 H1 Q o
  | .ok (a, ρ'), q => fun v Hf' H' n' r => q v Hf' H' (n.trans n') (r.later n)
  | .exc c ρ', q => fun Hf' H' n' => q Hf' H' (n.trans n')
  | .bad, q => q
theorem lsA_at (rp : Rp Hf H σ ρ) {i : Nat} {t : Tr} (h : lsA i ρ = some t) : ∃ v F, σ[i]? = some (some v) ∧ TR Hf H v t F ∧ ((∀ a ∈ F, OwnI H σ ρ i a) ∨ (∀ a ∈ F, LkA H σ ρ a) ∨ (∀ a ∈ F, Hf a ≠ none)) := by
  unfold lsA at h
  split at h
  · rename_i t' e; cases h
    obtain ⟨v, F, e1, r, _, _⟩ := slok_tr' (rp.sl i _ e)
    exact ⟨v, F, e1, r, .inl fun a m => (ownI_tr e e1 r).mpr m⟩
  · rename_i t' e; cases h
    obtain ⟨v, F, e1, r⟩ := slok_lk' (rp.sl i _ e)
    exact ⟨v, F, e1, r, .inr (.inl fun a m => ⟨i, _, v, Hf, F, e, e1, r, m⟩)⟩
  · rename_i ds e; cases h
    obtain ⟨p, vs, e1, h1, h2, h3⟩ := slok_ow (rp.sl i _ e)
    exact ⟨_, [p], e1, .ow h2 h3, .inl fun a m => by rw [List.mem_singleton] at m; exact (ownI_ow e e1).mpr m⟩
  · rename_i d e
    obtain ⟨v, e1, r⟩ := slok_fz' (rp.sl i _ e)
    obtain ⟨F, h1, h2⟩ := unfr_tr rp.sub r h
    exact ⟨v, F, e1, h1, .inr (.inr h2)⟩
  · cases h
theorem osA_at (rp : Rp Hf H σ ρ) {i : Nat} {t : Tr} (h : osA i ρ = some t) : ∃ v F s, ρ[i]? = some s ∧ slTr s = some t ∧ σ[i]? = some (some v) ∧ TR Hf H v t F ∧ F.Nodup ∧ (∀ a ∈ F, Hf a = none) ∧ ∀ a, OwnI H σ ρ i a ↔ a ∈ F := by
  unfold osA at h
  split at h
  · rename_i t' e; cases h
    obtain ⟨v, F, e1, r, nd, hf⟩ := slok_tr' (rp.sl i _ e)
    exact ⟨v, F, _, e, rfl, e1, r, nd, hf, fun a => ownI_tr e e1 r⟩
  · rename_i ds e; cases h
    obtain ⟨p, vs, e1, h1, h2, h3⟩ := slok_ow (rp.sl i _ e)
    exact ⟨_, [p], _, e, rfl, e1, .ow h2 h3, List.nodup_cons.mpr ⟨List.not_mem_nil, List.nodup_nil⟩, fun a m => by rw [List.mem_singleton] at m; rw [m]; exact h1, fun a => by rw [List.mem_singleton]; exact ownI_ow e e1⟩
  · cases h
theorem agR_keep (hq : Ga.q = true) (rp : Rp Hf1 H1 σ ρ1) (n : Nxt Ga.q σ ρ1 Hf1 H1 σ ρ2 Hf2 H2) {v : V} : ∀ {a : AgV}, agR σ ρ1 Hf1 H1 v a → agR σ ρ2 Hf2 H2 v a
  | .e d, h => rep_same n.sub h
  | .ld d, h => rep_same n.sub h
  | .lp p, ⟨s, h⟩ => ⟨s, h.keep rp (by rw [hq] at n; exact n)⟩
  | .op p, ⟨s, h⟩ => ⟨s, h.keep rp (by rw [hq] at n; exact n)⟩
  | .ls i, h => h
  | .os i, h => h
theorem agR_keep' (n : Nxt Ga.q σ ρ1 Hf1 H1 σ ρ2 Hf2 H2) {v : V} : ∀ {a : AgV}, (∀ p, a ≠ .lp p ∧ a ≠ .op p) → agR σ ρ1 Hf1 H1 v a → agR σ ρ2 Hf2 H2 v a
  | .e d, _, h => rep_same n.sub h
  | .ld d, _, h => rep_same n.sub h
  | .lp p, z, _ => absurd rfl (z p).1
  | .op p, z, _ => absurd rfl (z p).2
  | .ls i, _, h => h
  | .os i, _, h => h
theorem upG (hG : Ga.q = true ∨ G.q = false) {σ' : St} {ρ' : Rho} {Hf' H' : Hp} (n : Nxt Ga.q σ ρ Hf H σ' ρ' Hf' H') : Nxt G.q σ ρ Hf H σ' ρ' Hf' H' := by
  rcases hG with z | z
  · rw [z] at n; exact n.qto
  · rw [z]; exact n.any
theorem stepAg {A : Ag} {k : AgV → M Rt} (hG : Ga.q = true ∨ G.q = false) (hW : Ga.W = G.W) (hc : Ga.cA = G.cA) (rp : Rp Hf H σ ρ) (af : AfR G σ ρ Hf H Q (bnd A.go k ρ)) :
    A.t Ga σ H fun y H1 => ∃ b Hf1 ρ1, Nxt Ga.q σ ρ Hf H σ ρ1 Hf1 H1 ∧ (A.isPl = false → ∀ p, b ≠ .lp p ∧ b ≠ .op p) ∧ agR σ ρ1 Hf1 H1 y b ∧ AfR G σ ρ1 Hf1 H1 Q (k b ρ1) := by
  have lat : ∀ {ρ1 Hf1 H1 o}, Nxt Ga.q σ ρ Hf H σ ρ1 Hf1 H1 → AfR G σ ρ Hf H Q o → AfR G σ ρ1 Hf1 H1 Q o := fun n q => q.later (upG hG n)
  have data : ∀ {f : M PyData} {mk : PyData → AgV}, (∀ v Hf H ρ d, Rep Hf v d → agR σ ρ Hf H v (mk d)) → (∀ d p, mk d ≠ .lp p ∧ mk d ≠ .op p) → AfR G σ ρ Hf H Q (bnd (fun ρ => (bnd f fun d => ret (mk d)) ρ) k ρ) → tE Ga f σ H fun y H1 => ∃ b Hf1 ρ1, Nxt Ga.q σ ρ Hf H σ ρ1 Hf1 H1 ∧ (A.isPl = false → ∀ p, b ≠ .lp p ∧ b ≠ .op p) ∧ agR σ ρ1 Hf1 H1 y b ∧ AfR G σ ρ1 Hf1 H1 Q (k b ρ1) := by
    intro f mk h1 h2 af
    refine ⟨Hf, ρ, rp, ?_⟩
    unfold bnd at af
    dsimp only at af
    cases e : f ρ with
    | ok p =>
      obtain ⟨d, ρ1⟩ := p
      rw [e] at af
      exact fun x Hf1 H1 n r => ⟨mk d, Hf1, ρ1, n, fun _ => h2 d, h1 _ _ _ _ _ r, lat n af⟩
    | exc c ρ1 => rw [e] at af; exact fun Hf' H' n => by rw [hW, hc]; exact af Hf' H' (upG hG n)
    | bad => rw [e] at af; exact af
  have plc : ∀ {f : M Pth} {mk : Pth → AgV}, (∀ v Hf H ρ p s, AtV H σ ρ p v s → agR σ ρ Hf H v (mk p)) → A.isPl = true → AfR G σ ρ Hf H Q (bnd (fun ρ => (bnd f fun d => ret (mk d)) ρ) k ρ) → tPl Ga f σ H fun y H1 => ∃ b Hf1 ρ1, Nxt Ga.q σ ρ Hf H σ ρ1 Hf1 H1 ∧ (A.isPl = false → ∀ p, b ≠ .lp p ∧ b ≠ .op p) ∧ agR σ ρ1 Hf1 H1 y b ∧ AfR G σ ρ1 Hf1 H1 Q (k b ρ1) := by
    intro f mk h1 h2 af
    refine ⟨Hf, ρ, rp, ?_⟩
    unfold bnd at af
    dsimp only at af
    cases e : f ρ with
    | ok p =>
      obtain ⟨d, ρ1⟩ := p
      rw [e] at af
      exact fun x s Hf1 H1 n r => ⟨mk d, Hf1, ρ1, n, (fun z => by rw [h2] at z; cases z), h1 _ _ _ _ _ _ r, lat n af⟩
    | exc c ρ1 => rw [e] at af; exact fun Hf' H' n => by rw [hW, hc]; exact af Hf' H' (upG hG n)
    | bad => rw [e] at af; exact af
  cases A with
  | e f => exact data (mk := AgV.e) (fun _ _ _ _ _ r => r) (fun _ _ => ⟨(fun z => nomatch z), (fun z => nomatch z)⟩) af
  | ld f => exact data (mk := AgV.ld) (fun _ _ _ _ _ r => r) (fun _ _ => ⟨(fun z => nomatch z), (fun z => nomatch z)⟩) af
  | lp f => exact plc (mk := AgV.lp) (fun _ _ _ _ _ s r => ⟨s, r⟩) rfl af
  | op f => exact plc (mk := AgV.op) (fun _ _ _ _ _ s r => ⟨s, r⟩) rfl af
  | ls i =>
    unfold bnd Ag.go at af
    cases e : lsA i ρ with
    | none => simp only [e] at af; exact False.elim af
    | some t =>
      simp only [e, Option.isSome_some, if_true] at af
      obtain ⟨v, F, e1, _⟩ := lsA_at rp e
      exact ⟨v, e1, .ls i, Hf, ρ, .refl rp, fun _ p => ⟨(fun z => nomatch z), (fun z => nomatch z)⟩, e1, af⟩
  | os i =>
    unfold bnd Ag.go at af
    cases e : osA i ρ with
    | none => simp only [e] at af; exact False.elim af
    | some t =>
      simp only [e, Option.isSome_some, if_true] at af
      obtain ⟨v, F, s, _, _, e1, _⟩ := osA_at rp e
      exact ⟨v, e1, .os i, Hf, ρ, .refl rp, fun _ p => ⟨(fun z => nomatch z), (fun z => nomatch z)⟩, e1, af⟩
theorem Ag.run {A : Ag} {Q Q' : VK} (t : A.t G σ H Q) (h : ∀ x H, Q x H → Q' x H) : A.t G σ H Q' := by
  cases A with
  | e f => exact tG.mono h t
  | ld f => exact tG.mono h t
  | lp f => exact tPl.mono h t
  | op f => exact tPl.mono h t
  | ls i => exact ⟨t.choose, t.choose_spec.1, h _ _ t.choose_spec.2⟩
  | os i => exact ⟨t.choose, t.choose_spec.1, h _ _ t.choose_spec.2⟩
theorem tArgs_mono {σ : St} {Q Q' : List V → Hp → Prop} (h : ∀ x H, Q x H → Q' x H) : ∀ {As : List Ag} {H : Hp}, tArgs G As σ H Q → tArgs G As σ H Q'
  | [], H, t => h _ _ t
  | A :: As, H, t => Ag.run (A := A) (Q := fun x H1 => tArgs G As σ H1 fun xs H2 => Q (x :: xs) H2) t fun x H1 q => tArgs_mono (Q := fun xs H2 => Q (x :: xs) H2) (Q' := fun xs H2 => Q' (x :: xs) H2) (fun ys H2 w => h _ _ w) q
theorem stepArgs (hG : Ga.q = true ∨ G.q = false) (hW : Ga.W = G.W) (hc : Ga.cA = G.cA) : ∀ {As : List Ag} {ρ : Rho} {Hf H : Hp} {k : List AgV → M Rt}, (Ga.q = true ∨ plOk As = true) → Rp Hf H σ ρ → AfR G σ ρ Hf H Q (bnd (goT As) k ρ) →
    tArgs Ga As σ H fun ys H1 => ∃ bs Hf1 ρ1, Nxt Ga.q σ ρ Hf H σ ρ1 Hf1 H1 ∧ AgAll σ ρ1 Hf1 H1 ys bs ∧ AfR G σ ρ1 Hf1 H1 Q (k bs ρ1)
  | [], ρ, Hf, H, k, _, rp, af => ⟨[], Hf, ρ, .refl rp, .nil, af⟩
  | A :: As, ρ, Hf, H, k, ho, rp, af => by
    have e : bnd (goT (A :: As)) k ρ = bnd A.go (fun a => bnd (goT As) fun as => k (a :: as)) ρ := by
      show bnd (bnd A.go fun a => bnd (goT As) fun as => ret (a :: as)) k ρ = _
      rw [bnd_assoc]
      congr 1
      funext a
      rw [bnd_assoc]
      rfl
    rw [e] at af
    refine Ag.run (stepAg hG hW hc rp af) fun x H1 ⟨a, Hf1, ρ1, n1, np, ra, af1⟩ => ?_
    cases As with
    | nil => exact ⟨[a], Hf1, ρ1, n1, .cons ra .nil, af1⟩
    | cons B Bs =>
      have ho2 : Ga.q = true ∨ plOk (B :: Bs) = true := ho.imp id fun z => by
        simp only [plOk, Bool.and_eq_true] at z
        exact z.2
      refine tArgs_mono ?_ (stepArgs hG hW hc ho2 n1.rp af1)
      rintro ys H2 ⟨bs, Hf2, ρ2, n2, rb, af2⟩
      refine ⟨a :: bs, Hf2, ρ2, n1.trans n2, .cons ?_ rb, af2⟩
      rcases ho with z | z
      · exact agR_keep z n1.rp n2 ra
      · refine agR_keep' n2 (np ?_) ra
        simp only [plOk, Bool.and_eq_true, Bool.not_eq_true'] at z
        exact z.1
end
end Fx
namespace Fx
open PySem L2
variable [Tabz]
@[simp] def arOf : AgV → Rho → Option Ar
  | .e d, _ => some (.d d)
  | .ld d, _ => (unfr d).map .l
  | .lp p, ρ => (trAt p ρ).map .l
  | .op p, ρ => (match (ρ[p.1]? : Option Sl) with
    | some (.tr t) => (t.at p.2).map .o
    | _ => none)
  | .ls i, ρ => (lsA i ρ).map .l
  | .os i, ρ => (osA i ρ).map .o
@[simp] def arsOf : List AgV → Rho → Option (List Ar)
  | [], _ => some []
  | a :: as, ρ => match arOf a ρ with
    | some x => (arsOf as ρ).map (x :: ·)
    | none => none
@[simp] def rootO : AgV → Option Nat
  | .op p => some p.1
  | .os i => some i
  | _ => none
@[simp] def rootL : AgV → Option Nat
  | .lp p => some p.1
  | .ls i => some i
  | _ => none
@[simp] def rootsOk (avs : List AgV) : Bool := decide (avs.filterMap rootO).Nodup && (avs.filterMap rootL).all fun r => !(avs.filterMap rootO).contains r
@[simp] def kPre (qs : List Nat) : List Nat → Bool := fun q => q.isPrefixOf qs
@[simp] def upd1 (i : Nat) (qs : List Nat) (t' : Tr) (ρ : Rho) : Rho := match (ρ[i]? : Option Sl) with
  | some (.tr t) => killB (kPre qs) i (ρ.set i (.tr (t.put qs t')))
  | some (.ow _) => (match t' with
    | .ow es => ρ.set i (.ow es)
    | _ => ρ.set i .un)
  | _ => ρ
@[simp] def apU : List AgV → List Ar → Rho → Rho
  | .op p :: as, .o t :: os, ρ => apU as os (upd1 p.1 p.2 t ρ)
  | .os i :: as, .o t :: os, ρ => apU as os (upd1 i [] t ρ)
  | _ :: as, _ :: os, ρ => apU as os ρ
  | _, _, ρ => ρ
@[simp] def callTM (F : List Ar → OT) (avs : List AgV) : M Rt := fun ρ => match arsOf avs ρ with
  | some as => if rootsOk avs = true then (match F as with
    | .ok r os => .ok (r, apU avs os ρ)
    | .exc c os => .exc c (apU avs os ρ)
    | .bad => .bad) else .bad
  | none => .bad
@[simp] def fCallT (F : List Ar → OT) (As : List Ag) : M Rt := fun ρ => (bnd (goT As) (callTM F)) ρ
section
variable {ρ : Rho}
theorem arsOf_len : ∀ {avs : List AgV} {as : List Ar}, arsOf avs ρ = some as → as.length = avs.length
  | [], as, h => by cases h; rfl
  | a :: avs, as, h => by
    unfold arsOf at h
    cases e : arOf a ρ with
    | none => rw [e] at h; cases h
    | some x =>
      rw [e] at h
      dsimp only at h
      cases e2 : arsOf avs ρ with
      | none => rw [e2] at h; cases h
      | some bs => rw [e2] at h; cases h; simp [arsOf_len e2]
theorem arsOf_get : ∀ {avs : List AgV} {as : List Ar}, arsOf avs ρ = some as → ∀ (i : Nat) (a : AgV), avs[i]? = some a → ∃ x, as[i]? = some x ∧ arOf a ρ = some x
  | [], as, h, i, a, ha => by simp at ha
  | a0 :: avs, as, h, i, a, ha => by
    unfold arsOf at h
    cases e : arOf a0 ρ with
    | none => rw [e] at h; cases h
    | some x =>
      rw [e] at h
      dsimp only at h
      cases e2 : arsOf avs ρ with
      | none => rw [e2] at h; cases h
      | some bs =>
        rw [e2] at h; cases h
        cases i with
        | zero => simp only [List.getElem?_cons_zero, Option.some.injEq] at ha; subst ha; exact ⟨x, rfl, e⟩
        | succ i => simp only [List.getElem?_cons_succ] at ha; simpa using arsOf_get e2 i a ha
theorem fm_nodup {avs : List AgV} : (avs.filterMap rootO).Nodup → ∀ (i j : Nat) (a b : AgV) (r : Nat), avs[i]? = some a → avs[j]? = some b → rootO a = some r → rootO b = some r → i = j := by
  induction avs with
  | nil => intro _ i j a b r h; simp at h
  | cons c avs ih =>
    intro hn i j a b r h1 h2 r1 r2
    have mem : ∀ (k : Nat) (x : AgV), avs[k]? = some x → rootO x = some r → r ∈ avs.filterMap rootO := fun k x hk hx => List.mem_filterMap.mpr ⟨x, List.mem_of_getElem? hk, hx⟩
    have hn2 : (avs.filterMap rootO).Nodup := by
      cases hc : rootO c with
      | none => rw [List.filterMap_cons_none hc] at hn; exact hn
      | some x => rw [List.filterMap_cons_some hc] at hn; exact (List.nodup_cons.mp hn).2
    have hc : ∀ x, rootO c = some x → x ∉ avs.filterMap rootO := fun x hx => by
      rw [List.filterMap_cons_some hx] at hn; exact (List.nodup_cons.mp hn).1
    cases i with
    | zero =>
      simp only [List.getElem?_cons_zero, Option.some.injEq] at h1
      subst h1
      cases j with
      | zero => rfl
      | succ j => exact absurd (mem j b (by simpa using h2) r2) (hc r r1)
    | succ i =>
      cases j with
      | zero =>
        simp only [List.getElem?_cons_zero, Option.some.injEq] at h2
        subst h2
        exact absurd (mem i a (by simpa using h1) r1) (hc r r2)
      | succ j => rw [ih hn2 i j a b r (by simpa using h1) (by simpa using h2) r1 r2]
theorem upd1_len {i : Nat} {qs : List Nat} {t' : Tr} : (upd1 i qs t' ρ).length = ρ.length := by
  unfold upd1
  split
  · rw [killB_len, List.length_set]
  · split <;> rw [List.length_set]
  · rfl
theorem upd1_other {i j : Nat} {qs : List Nat} {t' : Tr} {s : Sl} (hj : j ≠ i) (h : (upd1 i qs t' ρ)[j]? = some s) : ρ[j]? = some s ∨ s = .un := by
  unfold upd1 at h
  split at h
  · rcases killB_get h with ⟨h, _⟩ | ⟨h, _⟩
    · rw [List.getElem?_set, if_neg fun z => hj z.symm] at h; exact .inl h
    · exact .inr h
  · split at h <;> (rw [List.getElem?_set, if_neg fun z => hj z.symm] at h; exact .inl h)
  · exact .inl h
theorem upd1_keep {i j : Nat} {qs : List Nat} {t' : Tr} {s : Sl} (hj : j ≠ i) (h : ρ[j]? = some s) (hs : ∀ k q, s ≠ .pa k q) : (upd1 i qs t' ρ)[j]? = some s := by
  unfold upd1
  split
  · exact killB_at (by rw [List.getElem?_set, if_neg fun z => hj z.symm]; exact h) hs
  · split <;> (rw [List.getElem?_set, if_neg fun z => hj z.symm]; exact h)
  · exact h
theorem upd1_pa {i j k : Nat} {qs q : List Nat} {t' : Tr} (h : (upd1 i qs t' ρ)[j]? = some (.pa k q)) : ρ[j]? = some (.pa k q) ∧ (k = i → (∃ t, ρ[i]? = some (.tr t)) → kPre qs q = true) := by
  unfold upd1 at h
  split at h
  · rename_i t0 e0
    rcases killB_get h with ⟨h, hk⟩ | ⟨h, _⟩
    · rw [List.getElem?_set] at h
      split at h
      · split at h <;> cases h
      · exact ⟨h, fun z _ => hk _ _ rfl z⟩
    · cases h
  · rename_i ds e0
    split at h <;> (rw [List.getElem?_set] at h; split at h; split at h <;> cases h; exact ⟨h, fun z ⟨t, e⟩ => by rw [e] at e0; cases e0⟩)
  · rename_i n1 n2
    exact ⟨h, fun z ⟨t, e⟩ => absurd e (n1 t)⟩
theorem apU_len : ∀ {avs : List AgV} {os : List Ar} {ρ : Rho}, (apU avs os ρ).length = ρ.length
  | [], _, _ => rfl
  | _ :: _, [], _ => by rename_i a _ _; cases a <;> rfl
  | a :: avs, o :: os, ρ => by
    cases a <;> cases o <;> simp only [apU] <;> first | exact apU_len | (rw [apU_len]; exact upd1_len)
theorem apU_other {j : Nat} {s : Sl} : ∀ {avs : List AgV} {os : List Ar} {ρ : Rho}, j ∉ avs.filterMap rootO → (apU avs os ρ)[j]? = some s → ρ[j]? = some s ∨ s = .un
  | [], _, _, _, h => .inl h
  | a :: _, [], _, _, h => .inl (by cases a <;> exact h)
  | a :: avs, o :: os, ρ, hj, h => by
    have h2 : j ∉ avs.filterMap rootO := fun z => hj (by
      cases hc : rootO a with
      | none => rw [List.filterMap_cons_none hc]; exact z
      | some x => rw [List.filterMap_cons_some hc]; exact List.mem_cons_of_mem _ z)
    have h3 : ∀ x, rootO a = some x → j ≠ x := fun x hx e => hj (by rw [List.filterMap_cons_some hx, e]; exact List.mem_cons_self)
    cases a <;> cases o <;> simp only [apU] at h <;> first | exact apU_other h2 h | skip
    · rcases apU_other h2 h with h | h
      · exact upd1_other (h3 _ rfl) h
      · exact .inr h
    · rcases apU_other h2 h with h | h
      · exact upd1_other (h3 _ rfl) h
      · exact .inr h
theorem apU_pa {j k : Nat} {q : List Nat} : ∀ {avs : List AgV} {os : List Ar} {ρ : Rho}, (apU avs os ρ)[j]? = some (.pa k q) → ρ[j]? = some (.pa k q)
  | [], _, _, h => h
  | a :: _, [], _, h => by cases a <;> exact h
  | a :: avs, o :: os, ρ, h => by
    cases a <;> cases o <;> simp only [apU] at h <;> first | exact apU_pa h | exact (upd1_pa (apU_pa h)).1
def qsOf : AgV → List Nat
  | .op p => p.2
  | _ => []
theorem apU_at {r : Nat} : ∀ {avs : List AgV} {os : List Ar} {ρ : Rho} {i : Nat} {a : AgV} {t' : Tr} {s : Sl}, (avs.filterMap rootO).Nodup → avs[i]? = some a → rootO a = some r → os[i]? = some (.o t') → ρ[r]? = some s → (∀ k q, s ≠ .pa k q) →
    ∃ ρ0, ρ0[r]? = some s ∧ (apU avs os ρ)[r]? = (upd1 r (qsOf a) t' ρ0)[r]? ∧ ∀ (j : Nat) (q : List Nat), (apU avs os ρ)[j]? = some (.pa r q) → ρ[j]? = some (.pa r q) ∧ ((∃ t, s = .tr t) → kPre (qsOf a) q = true)
  | a0 :: avs, o :: os, ρ, i, a, t', s, hn, ha, hr, ho, hs, hp => by
    have hn2 : (avs.filterMap rootO).Nodup := by
      cases hc : rootO a0 with
      | none => rw [List.filterMap_cons_none hc] at hn; exact hn
      | some x => rw [List.filterMap_cons_some hc] at hn; exact (List.nodup_cons.mp hn).2
    cases i with
    | zero =>
      simp only [List.getElem?_cons_zero, Option.some.injEq] at ha ho
      subst ha ho
      have hr2 : r ∉ avs.filterMap rootO := by rw [List.filterMap_cons_some hr] at hn; exact (List.nodup_cons.mp hn).1
      have fin : ∀ (qs : List Nat), ∃ ρ0, ρ0[r]? = some s ∧ (apU avs os (upd1 r qs t' ρ))[r]? = (upd1 r qs t' ρ0)[r]? ∧ ∀ (j : Nat) (q : List Nat), (apU avs os (upd1 r qs t' ρ))[j]? = some (.pa r q) → ρ[j]? = some (.pa r q) ∧ ((∃ t, s = .tr t) → kPre qs q = true) := fun qs => by
        refine ⟨ρ, hs, ?_, fun j q h => ?_⟩
        · have keepr : ∀ {avs : List AgV} {os : List Ar} {ρ : Rho} {s : Sl}, r ∉ avs.filterMap rootO → ρ[r]? = some s → (∀ k q, s ≠ .pa k q) → (apU avs os ρ)[r]? = some s := by
            intro avs
            induction avs with
            | nil => intro os ρ s _ h _; exact h
            | cons a avs ih =>
              intro os ρ s hj h hp
              have h2 : r ∉ avs.filterMap rootO := fun z => hj (by
                cases hc : rootO a with
                | none => rw [List.filterMap_cons_none hc]; exact z
                | some x => rw [List.filterMap_cons_some hc]; exact List.mem_cons_of_mem _ z)
              have h3 : ∀ x, rootO a = some x → r ≠ x := fun x hx e => hj (by rw [List.filterMap_cons_some hx, e]; exact List.mem_cons_self)
              cases os with
              | nil => cases a <;> exact h
              | cons o os => cases a <;> cases o <;> simp only [apU] <;> first | exact ih h2 h hp | exact ih h2 (upd1_keep (h3 _ rfl) h hp) hp
          have hlt : r < ρ.length := (List.getElem?_eq_some_iff.mp hs).1
          obtain ⟨s', hs'⟩ : ∃ s', (upd1 r qs t' ρ)[r]? = some s' := ⟨_, List.getElem?_eq_getElem (by rw [upd1_len]; exact hlt)⟩
          rw [hs']
          refine keepr hr2 hs' fun k q z => ?_
          subst z
          have := (upd1_pa hs').1
          rw [hs] at this
          cases this
          exact hp _ _ rfl
        · have h1 := upd1_pa (apU_pa h)
          exact ⟨h1.1, fun ⟨t, e⟩ => h1.2 rfl ⟨t, by rw [hs, e]⟩⟩
      cases a0 with
      | op p => cases hr; exact fin p.2
      | os k => cases hr; exact fin []
      | e _ => cases hr
      | ld _ => cases hr
      | lp _ => cases hr
      | ls _ => cases hr
    | succ i =>
      simp only [List.getElem?_cons_succ] at ha ho
      have ne : ∀ x, rootO a0 = some x → r ≠ x := fun x hx e => by
        subst e
        rw [List.filterMap_cons_some hx] at hn
        exact (List.nodup_cons.mp hn).1 (List.mem_filterMap.mpr ⟨a, List.mem_of_getElem? ha, hr⟩)
      cases a0 <;> cases o <;> simp only [apU] <;> first | exact apU_at hn2 ha hr ho hs hp | skip
      · obtain ⟨ρ0, g1, g2, g3⟩ := apU_at (ρ := upd1 _ _ _ ρ) hn2 ha hr ho (upd1_keep (ne _ rfl) hs hp) hp
        exact ⟨ρ0, g1, g2, fun j q h => ⟨(upd1_pa (g3 j q h).1).1, (g3 j q h).2⟩⟩
      · obtain ⟨ρ0, g1, g2, g3⟩ := apU_at (ρ := upd1 _ _ _ ρ) hn2 ha hr ho (upd1_keep (ne _ rfl) hs hp) hp
        exact ⟨ρ0, g1, g2, fun j q h => ⟨(upd1_pa (g3 j q h).1).1, (g3 j q h).2⟩⟩
  | [], _, _, _, _, _, _, _, ha, _, _, _, _ => by simp at ha
  | _ :: _, [], _, _, _, _, _, _, _, _, ho, _, _ => by simp at ho
end
end Fx
namespace Fx
open PySem L2
variable [Tabz]
section
variable {X : Cx} {G Ga : Gx} {σ : St} {ρ ρ' : Rho} {Hf H Hf' H' : Hp} {Q : VK} {vs : List V} {avs : List AgV} {as os : List Ar} {Fs Gs : Nat → List Addr}
theorem nodup_parts {α : Type} {L M R : List α} (h : (L ++ (M ++ R)).Nodup) : M.Nodup ∧ (∀ a, a ∈ L ∨ a ∈ R → a ∉ M) ∧ L.Nodup ∧ R.Nodup ∧ ∀ a ∈ L, a ∉ R := by
  rw [List.nodup_append] at h
  obtain ⟨h1, h2, h3⟩ := h
  rw [List.nodup_append] at h2
  obtain ⟨h4, h5, h6⟩ := h2
  refine ⟨h4, fun a z m => z.elim (fun y => h3 a y a (List.mem_append_left _ m) rfl) fun y => h6 a m a y rfl, h1, h5, fun a y z => h3 a y a (List.mem_append_right _ z) rfl⟩
theorem At.put : ∀ {q qs : List Nat} {u w w2 : V} {t s s2 t' : Tr} {F M : List Addr}, q.isPrefixOf qs = true → At H u t q w s → TR Hf H u t F → F.Nodup → At H u t qs w2 s2 → TR Hf H w2 s2 M → (∀ a ∈ F, a ∉ M → H' a = H a) → ∃ s1, At H' u (t.put qs t') q w s1
  | [], qs, u, w, w2, t, s, s2, t', F, M, _, h, _, _, _, _, _ => by cases h; exact ⟨_, .nil⟩
  | n :: q, [], _, _, _, _, _, _, _, _, _, hp, _, _, _, _, _, _ => by simp [List.isPrefixOf] at hp
  | n :: q, m :: qs, u, w, w2, t, s, s2, t', F, M, hp, h, r, nd, h2, r2, hk => by
    simp only [List.isPrefixOf, Bool.and_eq_true, beq_iff_eq] at hp
    obtain ⟨rfl, hp⟩ := hp
    cases h with
    | @cons p k vs ts _ v _ t1 _ _ a b c d =>
      cases h2 with
      | cons a2 b2 c2 d2 =>
        have ev := a.inj a2
        subst ev
        rw [b] at b2; cases b2
        rw [c] at c2; cases c2
        cases r with
        | nd a3 r3 =>
          have ev := a.inj a3
          subst ev
          obtain ⟨L, M1, R, eF, r1⟩ := TRs.get r3 b c
          obtain ⟨M', z, hM⟩ := r1.atv d2
          have eM := r2.inj z
          subst eM
          obtain ⟨ndp, ndk⟩ := List.nodup_cons.mp nd
          have hp' : H' p = H p := hk p List.mem_cons_self fun y => ndp (by rw [eF]; exact List.mem_append_right _ (List.mem_append_left _ (hM p y)))
          rw [eF] at ndk
          obtain ⟨s1, z1⟩ := At.put (t' := t') hp d r1 (nodup_parts ndk).1 d2 r2 (fun x y z => hk x (List.mem_cons_of_mem _ (by rw [eF]; exact List.mem_append_right _ (List.mem_append_left _ y))) z)
          refine ⟨s1, ?_⟩
          simp only [Tr.put, c]
          exact .cons (a.of hp') b (by rw [List.getElem?_set, if_pos rfl, if_pos (List.getElem?_eq_some_iff.mp c).1]) z1
theorem arg_ok (rp : Rp Hf H σ ρ) {v : V} {a : AgV} {x : Ar} (ra : agR σ ρ Hf H v a) (e : arOf a ρ = some x) : ∃ F, ArOk Hf H v x F ∧ (∀ t, x = .o t → ∃ r, rootO a = some r ∧ ∀ b ∈ F, OwnI H σ ρ r b) ∧ ∀ t, x = .l t → (∃ r, rootL a = some r ∧ ∀ b ∈ F, OwnI H σ ρ r b) ∨ (∀ b ∈ F, LkA H σ ρ b) ∨ ∀ b ∈ F, Hf b ≠ none := by
  cases a with
  | e d => cases e; exact ⟨[], ⟨rfl, ra⟩, (fun _ z => nomatch z), (fun _ z => nomatch z)⟩
  | ld d =>
    simp only [arOf] at e
    cases e1 : unfr d with
    | none => rw [e1] at e; cases e
    | some t =>
      rw [e1] at e; cases e
      obtain ⟨F, h1, h2⟩ := unfr_tr rp.sub ra e1
      exact ⟨F, h1, (fun _ z => nomatch z), fun _ _ => .inr (.inr h2)⟩
  | lp p =>
    simp only [arOf] at e
    cases e1 : trAt p ρ with
    | none => rw [e1] at e; cases e
    | some s =>
      rw [e1] at e; cases e
      obtain ⟨s', av⟩ := ra
      have es := av.trAt
      rw [e1] at es; cases es
      obtain ⟨u, t0, g1, g2, g3⟩ := av
      rcases g2 with g2 | g2
      · obtain ⟨u', F0, e2, r0, nd, hf⟩ := slok_tr' (rp.sl _ _ g2)
        rw [g1] at e2; cases e2
        obtain ⟨M, z, hM⟩ := r0.atv g3
        exact ⟨M, z, (fun _ z => nomatch z), fun _ _ => .inl ⟨_, rfl, fun b m => (ownI_tr g2 g1 r0).mpr (hM b m)⟩⟩
      · obtain ⟨u', F0, e2, r0⟩ := slok_lk' (rp.sl _ _ g2)
        rw [g1] at e2; cases e2
        obtain ⟨M, z, hM⟩ := r0.atv g3
        exact ⟨M, z, (fun _ z => nomatch z), fun _ _ => .inr (.inl fun b m => ⟨_, _, _, Hf, F0, g2, g1, r0, hM b m⟩)⟩
  | op p =>
    simp only [arOf] at e
    split at e
    · rename_i t0 g2
      cases e1 : t0.at p.2 with
      | none => rw [e1] at e; cases e
      | some t =>
        rw [e1] at e; cases e
        obtain ⟨s', u, t1, g1, g2', g3⟩ := ra
        have et : t1 = t0 := by
          rcases g2' with y | y
          · rw [g2] at y; cases y; rfl
          · rw [g2] at y; cases y
        subst et
        have es := g3.at
        rw [e1] at es; cases es
        obtain ⟨u', F0, e2, r0, nd, hf⟩ := slok_tr' (rp.sl _ _ g2)
        rw [g1] at e2; cases e2
        obtain ⟨w, L, M, R, h1, h2, h3, _⟩ := r0.focus (s' := .fz .none) e1
        obtain ⟨ew, _⟩ := g3.inj h1
        subst ew
        have hM : ∀ b ∈ M, b ∈ F0 := fun b m => by rw [h2]; exact List.mem_append_right _ (List.mem_append_left _ m)
        rw [h2] at nd
        exact ⟨M, ⟨h3, (nodup_parts nd).1, fun b m => hf b (hM b m)⟩, fun _ _ => ⟨_, rfl, fun b m => (ownI_tr g2 g1 r0).mpr (hM b m)⟩, (fun _ z => nomatch z)⟩
    · cases e
  | ls i =>
    simp only [arOf] at e
    cases e1 : lsA i ρ with
    | none => rw [e1] at e; cases e
    | some t =>
      rw [e1] at e; cases e
      obtain ⟨v', F, e2, h1, h2⟩ := lsA_at rp e1
      have ra' : σ[i]? = some (some v) := ra
      rw [ra'] at e2; cases e2
      exact ⟨F, h1, (fun _ z => nomatch z), fun _ _ => h2.imp (fun z => ⟨i, rfl, z⟩) id⟩
  | os i =>
    simp only [arOf] at e
    cases e1 : osA i ρ with
    | none => rw [e1] at e; cases e
    | some t =>
      rw [e1] at e; cases e
      obtain ⟨v', F, s, h1, h2, e2, h3, h4, h5, h6⟩ := osA_at rp e1
      have ra' : σ[i]? = some (some v) := ra
      rw [ra'] at e2; cases e2
      exact ⟨F, ⟨h3, h4, h5⟩, fun _ _ => ⟨i, rfl, fun b m => (h6 b).mpr m⟩, (fun _ z => nomatch z)⟩
theorem io_slot (rp : Rp Hf H σ ρ) {v : V} {a : AgV} {t t' : Tr} {r : Nat} {F K : List Addr} (ra : agR σ ρ Hf H v a) (e : arOf a ρ = some (.o t)) (hr : rootO a = some r) (aF : ArOk Hf H v (.o t) F) (sub : Same Hf Hf') (kp : ∀ b, OwnI H σ ρ r b → b ∉ F → H' b = H b ∧ Hf' b = none)
    (rG : TR Hf' H' v t' K) (nG : K.Nodup) (fG : ∀ b ∈ K, Hf' b = none) (dj : ∀ b ∈ K, OwnI H σ ρ r b → b ∈ F) :
    ∃ s u, ρ[r]? = some s ∧ (∀ k q, s ≠ .pa k q) ∧ σ[r]? = some (some u) ∧ ∀ ρ0 : Rho, ρ0[r]? = some s → ∃ s', (upd1 r (qsOf a) t' ρ0)[r]? = some s' ∧ ((∀ x, s' ≠ .lk x) ∧ ∀ k q, s' ≠ .pa k q) ∧ SlOk Hf' H' (some (some u)) s' ∧ (∀ b, OwnS H' u s' b → b ∈ K ∨ (OwnI H σ ρ r b ∧ b ∉ F)) ∧
      ∀ t1, s' = .tr t1 → ∃ t0, s = .tr t0 ∧ ∀ q w s0, kPre (qsOf a) q = true → At H u t0 q w s0 → ∃ s1, At H' u t1 q w s1 := by
  have tree : ∀ {t0 : Tr} {u : V} {F0 : List Addr} {qs : List Nat}, ρ[r]? = some (.tr t0) → σ[r]? = some (some u) → TR Hf H u t0 F0 → F0.Nodup → At H u t0 qs v t → ∀ ρ0 : Rho, ρ0[r]? = some (.tr t0) → ∃ s', (upd1 r qs t' ρ0)[r]? = some s' ∧ ((∀ x, s' ≠ .lk x) ∧ ∀ k q, s' ≠ .pa k q) ∧ SlOk Hf' H' (some (some u)) s' ∧ (∀ b, OwnS H' u s' b → b ∈ K ∨ (OwnI H σ ρ r b ∧ b ∉ F)) ∧
      ∀ t1, s' = .tr t1 → ∃ t0', Sl.tr t0 = .tr t0' ∧ ∀ q w s0, kPre qs q = true → At H u t0' q w s0 → ∃ s1, At H' u t1 q w s1 := by
    intro t0 u F0 qs g2 g1 r0 nd g3 ρ0 h0
    obtain ⟨w, L, M, R, h1, h2, h3, h4⟩ := r0.focus (s' := t') g3.at
    obtain ⟨ew, _⟩ := g3.inj h1
    subst ew
    have eF := h3.inj aF.1
    subst eF
    have own : ∀ b, b ∈ L ∨ b ∈ R → OwnI H σ ρ r b := fun b z => (ownI_tr g2 g1 r0).mpr (by
      rw [h2]
      rcases z with z | z
      · exact List.mem_append_left _ z
      · exact List.mem_append_right _ (List.mem_append_right _ z))
    have nd' := nd
    rw [h2] at nd'
    obtain ⟨n1, n2, n3, n4, n5⟩ := nodup_parts nd'
    have r1 := h4 sub (fun b z => (kp b (own b z) (n2 b z)).1) rG
    have hlt : r < ρ0.length := (List.getElem?_eq_some_iff.mp h0).1
    have hat : (upd1 r qs t' ρ0)[r]? = some (.tr (t0.put qs t')) := by
      unfold upd1
      rw [h0]
      exact killB_at (by rw [List.getElem?_set, if_pos rfl, if_pos hlt]) fun _ _ z => nomatch z
    refine ⟨_, hat, ⟨(fun _ z => nomatch z), (fun _ _ z => nomatch z)⟩, slok_tr.mpr ⟨_, r1, ?_, fun b m => ?_⟩, fun b z => ?_, fun t1 et => ?_⟩
    · rw [List.nodup_append, List.nodup_append]
      refine ⟨n3, ⟨nG, n4, fun b m c mc ebc => ?_⟩, fun b m c mc ebc => ?_⟩
      · subst ebc
        exact n2 b (.inr mc) (dj b m (own b (.inr mc)))
      · subst ebc
        rcases List.mem_append.mp mc with y | y
        · exact n2 b (.inl m) (dj b y (own b (.inl m)))
        · exact n5 b m y
    · rcases List.mem_append.mp m with y | y
      · exact (kp b (own b (.inl y)) (n2 b (.inl y))).2
      · rcases List.mem_append.mp y with y | y
        · exact fG b y
        · exact (kp b (own b (.inr y)) (n2 b (.inr y))).2
    · obtain ⟨Hf0, F1, r2, m⟩ := z
      have ee := r1.inj r2
      subst ee
      rcases List.mem_append.mp m with y | y
      · exact .inr ⟨own b (.inl y), n2 b (.inl y)⟩
      · rcases List.mem_append.mp y with y | y
        · exact .inl y
        · exact .inr ⟨own b (.inr y), n2 b (.inr y)⟩
    · cases et
      refine ⟨t0, rfl, fun q w s0 hk ha => ?_⟩
      exact At.put hk ha r0 nd g3 h3 fun b m nm => (kp b ((ownI_tr g2 g1 r0).mpr m) nm).1
  cases a with
  | e d => cases hr
  | ld d => cases hr
  | lp d => cases hr
  | ls d => cases hr
  | op p =>
    cases hr
    simp only [arOf] at e
    split at e
    · rename_i t0 g2
      cases e1 : t0.at p.2 with
      | none => rw [e1] at e; cases e
      | some t1 =>
        rw [e1] at e; cases e
        obtain ⟨s', u, t1, g1, g2', g3⟩ := ra
        have et : t1 = t0 := by
          rcases g2' with y | y
          · rw [g2] at y; cases y; rfl
          · rw [g2] at y; cases y
        subst et
        have es := g3.at
        rw [e1] at es; cases es
        obtain ⟨u', F0, e2, r0, nd, hf⟩ := slok_tr' (rp.sl _ _ g2)
        rw [g1] at e2; cases e2
        exact ⟨_, u, g2, (fun _ _ z => nomatch z), g1, tree g2 g1 r0 nd g3⟩
    · cases e
  | os i =>
    have ek : i = r := by simpa using hr
    subst ek
    simp only [arOf] at e
    cases e1 : osA i ρ with
    | none => rw [e1] at e; cases e
    | some t1 =>
      rw [e1] at e; cases e
      have ra' : σ[i]? = some (some v) := ra
      unfold osA at e1
      split at e1
      · rename_i t0 g2; cases e1
        obtain ⟨u', F0, e2, r0, nd, hf⟩ := slok_tr' (rp.sl _ _ g2)
        rw [ra'] at e2; cases e2
        exact ⟨_, v, g2, (fun _ _ z => nomatch z), ra', tree g2 ra' r0 nd .nil⟩
      · rename_i ds g2; cases e1
        refine ⟨_, v, g2, (fun _ _ z => nomatch z), ra', fun ρ0 h0 => ?_⟩
        have hlt : i < ρ0.length := (List.getElem?_eq_some_iff.mp h0).1
        unfold upd1
        rw [h0]
        dsimp only
        have un : ∃ s', (ρ0.set i .un)[i]? = some s' ∧ ((∀ x, s' ≠ .lk x) ∧ ∀ k q, s' ≠ .pa k q) ∧ SlOk Hf' H' (some (some v)) s' ∧ (∀ b, OwnS H' v s' b → b ∈ K ∨ (OwnI H σ ρ i b ∧ b ∉ F)) ∧ ∀ t1, s' = .tr t1 → ∃ t0, Sl.ow ds = .tr t0 ∧ ∀ q w s0, kPre (qsOf (.os i)) q = true → At H v t0 q w s0 → ∃ s1, At H' v t1 q w s1 :=
          ⟨.un, by rw [List.getElem?_set, if_pos rfl, if_pos hlt], ⟨(fun _ z => nomatch z), (fun _ _ z => nomatch z)⟩, slok_un, fun b z => z.elim, fun t1 z => nomatch z⟩
        cases rG with
        | @ow p2 vs2 es h1 h2 =>
          refine ⟨.ow es, by rw [List.getElem?_set, if_pos rfl, if_pos hlt], ⟨(fun _ z => nomatch z), (fun _ _ z => nomatch z)⟩, ⟨fG _ (List.mem_singleton.mpr rfl), _, h1, h2⟩, fun b z => .inl ?_, fun t1 z => nomatch z⟩
          cases (show V.ref _ = .ref b from z)
          exact List.mem_singleton.mpr rfl
        | fz _ => exact un
        | dk _ _ _ => exact un
        | dt _ _ _ => exact un
        | nd _ _ => exact un
      · cases e1
theorem agAll_get : ∀ {vs : List V} {avs : List AgV}, AgAll σ ρ Hf H vs avs → vs.length = avs.length ∧ ∀ (i : Nat) (a : AgV), avs[i]? = some a → ∃ v, vs[i]? = some v ∧ agR σ ρ Hf H v a
  | _, _, .nil => ⟨rfl, fun i a h => by simp at h⟩
  | _, _, .cons (v := v) h t => by
    obtain ⟨h1, h2⟩ := agAll_get t
    refine ⟨by simp [h1], fun i a ha => ?_⟩
    cases i with
    | zero => simp only [List.getElem?_cons_zero, Option.some.injEq] at ha; subst ha; exact ⟨v, rfl, h⟩
    | succ i => simpa using h2 i a (by simpa using ha)
theorem door (rp : Rp Hf H σ ρ) (ag : AgAll σ ρ Hf H vs avs) (ea : arsOf avs ρ = some as) (ro : rootsOk avs = true) : ∃ Fs, ArsOk Hf H vs as Fs ∧ (∀ (i : Nat) (t : Tr), as[i]? = some (.o t) → ∃ a r, avs[i]? = some a ∧ rootO a = some r ∧ ∀ b ∈ Fs i, OwnI H σ ρ r b) := by
  simp only [rootsOk, Bool.and_eq_true, decide_eq_true_eq, List.all_eq_true, Bool.not_eq_true'] at ro
  obtain ⟨ro1, ro2⟩ := ro
  obtain ⟨hl, hg⟩ := agAll_get ag
  have hla := arsOf_len ea
  have key : ∀ i : Nat, ∃ F : List Addr, ∀ x, as[i]? = some x → ∃ v a, vs[i]? = some v ∧ avs[i]? = some a ∧ ArOk Hf H v x F ∧ (∀ t, x = .o t → ∃ r, rootO a = some r ∧ ∀ b ∈ F, OwnI H σ ρ r b) ∧ ∀ t, x = .l t → (∃ r, rootL a = some r ∧ ∀ b ∈ F, OwnI H σ ρ r b) ∨ (∀ b ∈ F, LkA H σ ρ b) ∨ ∀ b ∈ F, Hf b ≠ none := fun i => by
    by_cases q : i < as.length
    · have hq : i < avs.length := by omega
      obtain ⟨v, hv, ra⟩ := hg i _ (List.getElem?_eq_getElem hq)
      obtain ⟨x, hx, ex⟩ := arsOf_get ea i _ (List.getElem?_eq_getElem hq)
      obtain ⟨F, h1, h2, h3⟩ := arg_ok rp ra ex
      exact ⟨F, fun x' hx' => by
        rw [hx] at hx'; cases hx'
        exact ⟨v, _, hv, List.getElem?_eq_getElem hq, h1, h2, h3⟩⟩
    · exact ⟨[], fun x hx => absurd (List.getElem?_eq_some_iff.mp hx).1 q⟩
  have oo : ∀ (i : Nat) (t : Tr), as[i]? = some (.o t) → ∃ a r, avs[i]? = some a ∧ rootO a = some r ∧ ∀ b ∈ (key i).choose, OwnI H σ ρ r b := fun i t h => by
    obtain ⟨v, a, hv, ha, h1, h2, h3⟩ := (key i).choose_spec _ h
    obtain ⟨r, h4, h5⟩ := h2 t rfl
    exact ⟨a, r, ha, h4, h5⟩
  refine ⟨fun i => (key i).choose, ⟨by omega, fun i v x hv hx => ?_, fun i j b t t' h1 h2 m1 m2 => ?_, fun i j b t t' h1 h2 m1 m2 => ?_⟩, oo⟩
  · obtain ⟨v', a, hv', ha, h1, _⟩ := (key i).choose_spec _ hx
    rw [hv] at hv'; cases hv'
    exact h1
  · obtain ⟨a1, r1, e1, e2, e3⟩ := oo i t h1
    obtain ⟨a2, r2, f1, f2, f3⟩ := oo j t' h2
    have er := rp.nd r1 r2 b (e3 b m1) (f3 b m2)
    subst er
    exact fm_nodup ro1 i j a1 a2 r1 e1 f1 e2 f2
  · obtain ⟨a2, r2, f1, f2, f3⟩ := oo j t' h2
    obtain ⟨v, a, hv, ha, g1, _, g3⟩ := (key i).choose_spec _ h1
    rcases g3 t rfl with ⟨r, h4, h5⟩ | h5 | h5
    · have er := rp.nd r r2 b (h5 b m1) (f3 b m2)
      subst er
      have := ro2 r (List.mem_filterMap.mpr ⟨a, List.mem_of_getElem? ha, h4⟩)
      have hm : r ∈ avs.filterMap rootO := List.mem_filterMap.mpr ⟨a2, List.mem_of_getElem? f1, f2⟩
      simp only [List.contains_eq_mem, decide_eq_false_iff_not] at this
      exact this hm
    · exact rp.lk b (h5 b m1) ⟨r2, f3 b m2⟩
    · exact h5 b m1 (rp.ownI (f3 b m2)).1
theorem back (rp : Rp Hf H σ ρ) (ag : AgAll σ ρ Hf H vs avs) (ea : arsOf avs ρ = some as) (ro : rootsOk avs = true) (ak : ArsOk Hf H vs as Fs) (oo : ∀ (i : Nat) (t : Tr), as[i]? = some (.o t) → ∃ a r, avs[i]? = some a ∧ rootO a = some r ∧ ∀ b ∈ Fs i, OwnI H σ ρ r b) (en : EndT Hf H vs as Fs Hf' H' os Gs) :
    Nxt false σ ρ Hf H σ (apU avs os ρ) Hf' H' ∧ (∀ b, IoA as Fs b → OwnA H σ ρ b) ∧ ∀ b, OwnA H' σ (apU avs os ρ) b → IoA os Gs b ∨ (OwnA H σ ρ b ∧ ¬ IoA as Fs b) := by
  have ro0 := ro
  simp only [rootsOk, Bool.and_eq_true, decide_eq_true_eq, List.all_eq_true, Bool.not_eq_true'] at ro
  obtain ⟨ro1, _⟩ := ro
  obtain ⟨hl, hg⟩ := agAll_get ag
  have hla := arsOf_len ea
  have ioo : ∀ b, IoA as Fs b → ∃ r, r ∈ avs.filterMap rootO ∧ OwnI H σ ρ r b := fun b ⟨i, t, h, m⟩ => by
    obtain ⟨a, r, h1, h2, h3⟩ := oo i t h
    exact ⟨r, List.mem_filterMap.mpr ⟨a, List.mem_of_getElem? h1, h2⟩, h3 b m⟩
  -- each root
  have root : ∀ r, r ∈ avs.filterMap rootO → ∃ (i : Nat) (t' : Tr) (s : Sl) (u : V), (os[i]? = some (.o t') ∧ (∃ v, vs[i]? = some v) ∧ ∃ a, avs[i]? = some a ∧ rootO a = some r) ∧ ρ[r]? = some s ∧ (∀ k q, s ≠ .pa k q) ∧ σ[r]? = some (some u) ∧ ∃ s', (apU avs os ρ)[r]? = some s' ∧ ((∀ x, s' ≠ .lk x) ∧ ∀ k q, s' ≠ .pa k q) ∧ SlOk Hf' H' (some (some u)) s' ∧
      (∀ b, OwnS H' u s' b → b ∈ Gs i ∨ (OwnI H σ ρ r b ∧ ¬ IoA as Fs b)) ∧ ∀ t1, s' = .tr t1 → ∃ t0, s = .tr t0 ∧ ∀ (j : Nat) (q : List Nat) (w : V) (s0 : Tr), (apU avs os ρ)[j]? = some (.pa r q) → ρ[j]? = some (.pa r q) ∧ (At H u t0 q w s0 → ∃ s1, At H' u t1 q w s1) := fun r hr => by
    obtain ⟨a, ha, hra⟩ := List.mem_filterMap.mp hr
    obtain ⟨i, hi⟩ := List.getElem?_of_mem ha
    obtain ⟨v, hv, rag⟩ := hg i a hi
    obtain ⟨x, hx, ex⟩ := arsOf_get ea i a hi
    have hxo : ∃ t, x = .o t := by
      cases a with
      | op p =>
        simp only [arOf] at ex
        split at ex
        · rename_i t0 _
          cases e1 : t0.at p.2 with
          | none => rw [e1] at ex; cases ex
          | some t => rw [e1] at ex; cases ex; exact ⟨t, rfl⟩
        · cases ex
      | os k =>
        simp only [arOf] at ex
        cases e1 : osA k ρ with
        | none => rw [e1] at ex; cases ex
        | some t => rw [e1] at ex; cases ex; exact ⟨t, rfl⟩
      | e _ => cases hra
      | ld _ => cases hra
      | lp _ => cases hra
      | ls _ => cases hra
    obtain ⟨t, rfl⟩ := hxo
    obtain ⟨t', ho⟩ := en.shp i ⟨t, hx⟩
    obtain ⟨rG, nG, fG⟩ := en.out i v t' hv ho
    have aF := ak.ok i v _ hv hx
    have nio : ∀ b, OwnI H σ ρ r b → b ∉ Fs i → ¬ IoA as Fs b := fun b ob nb ⟨j, t2, h2, m2⟩ => by
      obtain ⟨a2, r2, g1, g2, g3⟩ := oo j t2 h2
      have er := rp.nd r r2 b ob (g3 b m2)
      subst er
      have eij := fm_nodup ro1 i j a a2 r hi g1 hra g2
      subst eij
      exact nb m2
    have kp : ∀ b, OwnI H σ ρ r b → b ∉ Fs i → H' b = H b ∧ Hf' b = none := fun b ob nb => by
      obtain ⟨h0, o, ho, no⟩ := rp.ownI ob
      refine ⟨by rw [ho]; exact en.keep b o ho no (nio b ob nb), (en.fr b h0).elim id fun z => z.elim (fun z => ?_) fun z => absurd z (nio b ob nb)⟩
      rw [ho] at z; cases z
    obtain ⟨s, u, g1, g2, g3, g4⟩ := io_slot rp rag ex hra aF en.sub kp rG nG (fun b m => (fG b m).1) (fun b m ob => by
      rcases (fG b m).2 with z | z
      · by_cases nb : b ∈ Fs i
        · exact nb
        · exact absurd z (nio b ob nb)
      · obtain ⟨_, o, ho, _⟩ := rp.ownI ob
        rw [ho] at z; cases z)
    obtain ⟨ρ0, k1, k2, k3⟩ := apU_at ro1 hi hra ho g1 g2
    obtain ⟨s', m1, m2, m3, m4, m5⟩ := g4 ρ0 k1
    refine ⟨i, t', s, u, ⟨ho, ⟨v, hv⟩, a, hi, hra⟩, g1, g2, g3, s', by rw [k2]; exact m1, m2, m3, fun b z => (m4 b z).imp id fun y => ⟨y.1, nio b y.1 y.2⟩, fun t1 e1 => ?_⟩
    obtain ⟨t0, n1, n2⟩ := m5 t1 e1
    exact ⟨t0, n1, fun j q w s0 hj => ⟨(k3 j q hj).1, n2 q w s0 ((k3 j q hj).2 ⟨t0, n1⟩)⟩⟩
  have rown : ∀ r, r ∈ avs.filterMap rootO → ∀ b, OwnI H' σ (apU avs os ρ) r b → ∃ (i : Nat) (t' : Tr), (os[i]? = some (.o t') ∧ (∃ v, vs[i]? = some v) ∧ ∃ a, avs[i]? = some a ∧ rootO a = some r) ∧ (b ∈ Gs i ∨ (OwnI H σ ρ r b ∧ ¬ IoA as Fs b)) := fun r hr b ⟨s2, u2, e1, e2, o2⟩ => by
    obtain ⟨i, t', s, u, ho, g1, g2, g3, s', m1, m2, m3, m4, m5⟩ := root r hr
    rw [m1] at e1; cases e1
    rw [g3] at e2; cases e2
    exact ⟨i, t', ho, m4 b o2⟩
  have nx : Nxt false σ ρ Hf H σ (apU avs os ρ) Hf' H' := by
    refine rp.chgs (· ∈ avs.filterMap rootO) (by rw [apU_len]; exact rp.len) en.sub en.sb.sm en.sb.tb en.sb.nt (fun a o h t z => en.keep a o h t fun y => ?_) en.dom (fun a z => (en.fr a z).imp id fun y => y.imp id (ioo a)) (fun j s hj e => apU_other hj e) ?_ ?_ ?_ ?_ ?_ (fun z => nomatch z)
    · obtain ⟨r, h1, h2⟩ := ioo a y
      exact z r h1 h2
    · intro r s2 hr e1
      obtain ⟨i, t', s, u, ho, g1, g2, g3, s', m1, m2, m3, m4, m5⟩ := root r hr
      rw [m1] at e1; cases e1
      exact m2
    · intro j r q t h1 h2 hr
      obtain ⟨i, t', s, u, ho, g1, g2, g3, s', m1, m2, m3, m4, m5⟩ := root r hr
      have es : s' = .tr t := by
        rcases h2 with e | e
        · rw [m1] at e; cases e; rfl
        · rw [m1] at e; cases e; exact absurd rfl (m2.1 t)
      obtain ⟨t0, n1, n2⟩ := m5 t es
      obtain ⟨v, w, s0, p1, p2, p3⟩ := rp.al j r q t0 (apU_pa h1) (.inl (by rw [g1, n1]))
      rw [g3] at p1; cases p1
      obtain ⟨s1, p4⟩ := (n2 j q w s0 h1).2 p3
      exact ⟨u, w, s1, g3, p2, p4⟩
    · intro r s2 hr e1
      obtain ⟨i, t', s, u, ho, g1, g2, g3, s', m1, m2, m3, m4, m5⟩ := root r hr
      rw [m1] at e1; cases e1
      rw [g3]; exact m3
    · intro r b hr z
      obtain ⟨i, t', ⟨ho, ⟨v, hv⟩, _⟩, h⟩ := rown r hr b z
      rcases h with h | ⟨h, _⟩
      · exact ((en.out i v t' hv ho).2.2 b h).2.imp (ioo b) id
      · exact .inl ⟨r, hr, h⟩
    · intro r1 r2 b hr1 hr2 z1 z2
      obtain ⟨i1, t1, ⟨ho1, ⟨v1, hv1⟩, a1, ha1, hra1⟩, h1⟩ := rown r1 hr1 b z1
      obtain ⟨i2, t2, ⟨ho2, ⟨v2, hv2⟩, a2, ha2, hra2⟩, h2⟩ := rown r2 hr2 b z2
      have no : ∀ {i : Nat} {t : Tr} {v : V} {r : Nat}, vs[i]? = some v → os[i]? = some (.o t) → b ∈ Gs i → OwnI H σ ρ r b → IoA as Fs b := fun hv ho m ob => by
        rcases ((en.out _ _ _ hv ho).2.2 b m).2 with y | y
        · exact y
        · obtain ⟨_, o, ho, _⟩ := rp.ownI ob
          rw [ho] at y; cases y
      rcases h1 with h1 | ⟨h1, k1⟩
      · rcases h2 with h2 | ⟨h2, k2⟩
        · have ei := en.nd i1 i2 b t1 t2 ho1 ho2 h1 h2
          subst ei
          rw [ha1] at ha2; cases ha2
          rw [hra1] at hra2; cases hra2
          rfl
        · exact absurd (no hv1 ho1 h1 h2) k2
      · rcases h2 with h2 | ⟨h2, k2⟩
        · exact absurd (no hv2 ho2 h2 h1) k1
        · exact rp.nd r1 r2 b h1 h2
  refine ⟨nx, fun b z => (ioo b z).elim fun r h => ⟨r, h.2⟩, fun b ⟨r, z⟩ => ?_⟩
  by_cases hr : r ∈ avs.filterMap rootO
  · obtain ⟨i, t', ⟨ho, _⟩, h⟩ := rown r hr b z
    exact h.imp (fun m => ⟨i, t', ho, m⟩) fun y => ⟨⟨r, y.1⟩, y.2⟩
  · obtain ⟨s, v, e1, e2, o⟩ := z
    rcases apU_other hr e1 with e | e
    · have nio : ∀ c, OwnI H σ ρ r c → ¬ IoA as Fs c := fun c oc y => by
        obtain ⟨r2, h1, h2⟩ := ioo c y
        exact hr (rp.nd r2 r c h2 oc ▸ h1)
      have ob : OwnI H σ ρ r b := (rp.ownI_iff (fun c y => by
        obtain ⟨_, o, ho, no⟩ := rp.ownI y
        rw [ho]; exact en.keep c o ho no (nio c y)) b).mp ⟨s, v, e, e2, o⟩
      exact .inr ⟨⟨r, ob⟩, nio b ob⟩
    · subst e; exact o.elim
end
end Fx
namespace Fx
open PySem L2
variable [Tabz]
section
variable {X : Cx} {G Ga : Gx} {e a b : Expr} {es : List Expr} {pos p : Pos} {pn : List Nat} {σ : St} {ρ ρ1 ρ2 : Rho} {Hf H Hf1 H1 Hf2 H2 Hf' H' : Hp} {Q : VK} {As : List Ag} {A : Ag} {vs : List V} {avs : List AgV} {as os : List Ar} {Fs Gs : Nat → List Addr}
theorem back_q {q : Bool} (rp : Rp Hf H σ ρ) (ni : ∀ (i : Nat) (t : Tr), as[i]? ≠ some (.o t)) (en : EndT Hf H vs as Fs Hf' H' os Gs) : Nxt q σ ρ Hf H σ ρ Hf' H' ∧ SmN H H' := by
  have io : ∀ b, ¬ IoA as Fs b := fun b ⟨i, t, h, _⟩ => ni i t h
  have sn : SmN H H' := ⟨fun a o h n => en.keep a o h n (io a), en.dom, en.sb.tb⟩
  exact ⟨nxt_call rp en.sub en.sb sn fun a z => (en.fr a z).imp id fun y => y.elim id fun y => absurd y (io a), sn⟩
def Ag.isO : Ag → Bool
  | .op _ => true
  | .os _ => true
  | _ => false
theorem apU_no : ∀ {avs : List AgV} {os : List Ar} {ρ : Rho}, (∀ a ∈ avs, rootO a = none) → apU avs os ρ = ρ
  | [], _, _, _ => rfl
  | a :: _, [], _, _ => by cases a <;> rfl
  | a :: avs, o :: os, ρ, h => by
    have h2 := apU_no (avs := avs) (os := os) (ρ := ρ) fun x m => h x (List.mem_cons_of_mem _ m)
    have h1 := h a List.mem_cons_self
    cases a <;> cases o <;> first | exact h2 | cases h1
theorem call_door {F : List Ar → OT} (hG : G.q = false ∨ ∀ a ∈ avs, rootO a = none) (rp : Rp Hf H σ ρ) (ag : AgAll σ ρ Hf H vs avs) (af : AfR G σ ρ Hf H Q (callTM F avs ρ)) {n : Nat} (hn : ∀ as, F as ≠ .bad → as.length = n) : spT G.cA n F vs H Q (WE G.W σ) := by
  unfold callTM at af
  cases ea : arsOf avs ρ with
  | none => rw [ea] at af; exact af.elim
  | some as =>
    rw [ea] at af
    dsimp only at af
    cases ro : rootsOk avs with
    | false => rw [ro] at af; exact False.elim af
    | true =>
      rw [ro, if_pos rfl] at af
      obtain ⟨Fs, ak, oo⟩ := door rp ag ea ro
      have hb : F as ≠ .bad := fun z => by rw [z] at af; exact af
      refine ⟨by rw [ak.len]; exact hn as hb, Hf, as, Fs, rp.sb, ak, ?_⟩
      have nxt : ∀ {Hf' H' : Hp} {os : List Ar} {Gs : Nat → List Addr}, EndT Hf H vs as Fs Hf' H' os Gs → Nxt G.q σ ρ Hf H σ (apU avs os ρ) Hf' H' := fun {Hf' H' os Gs} en => by
        rcases hG with z | z
        · rw [z]; exact (back rp ag ea ro ak oo en).1
        · rw [apU_no z]
          refine (back_q rp (fun i t h => ?_) en).1
          obtain ⟨a, r, h1, h2, _⟩ := oo i t h
          rw [z a (List.mem_of_getElem? h1)] at h2
          cases h2
      cases e : F as with
      | bad => exact absurd e hb
      | exc c os =>
        rw [e] at af
        exact fun Hf' H' Gs en => af Hf' H' (nxt en)
      | ok r os =>
        rw [e] at af
        intro v Hf' H' Gs en rt
        obtain ⟨_, b2, b3⟩ := back rp ag ea ro ak oo en
        have fre : ∀ b, H b = none ∨ IoA as Fs b → Fre H σ ρ b := fun b z => z.imp id (b2 b)
        have now : ∀ b, (H b = none ∨ IoA as Fs b) → ¬ IoA os Gs b → ¬ OwnA H' σ (apU avs os ρ) b := fun b h1 h2 z => (b3 b z).elim h2 fun y => h1.elim (fun w => by
          obtain ⟨_, o, ho, _⟩ := rp.own y.1
          rw [ho] at w; cases w) y.2
        refine af v Hf' H' (nxt en) ?_
        cases r with
        | fz d => exact rt
        | ow ds =>
          obtain ⟨p, us, ev, h1, h2, h3, h4, h5⟩ := rt
          exact ⟨p, us, ev, fre p h1, h2, now p h1 h3, h4, h5⟩
        | tr t =>
          obtain ⟨F', h1, h2, h3⟩ := rt
          exact ⟨F', h1, h2, fun b m => ⟨fre b (h3 b m).1, (h3 b m).2.1, now b (h3 b m).1 (h3 b m).2.2⟩⟩
theorem AfR.fz {d : PyData} {v : V} {Hf' H' : Hp} (n : Nxt G.q σ ρ Hf H σ ρ1 Hf' H') (af : AfR G σ ρ Hf H Q (.ok (.fz d, ρ1))) (r : Rep Hf' v d) : Q v H' := af v Hf' H' n r
@[simp] def fR (f : M Rt) : M PyData := fun ρ => (bnd f fun r => opt (rtD r)) ρ
theorem fe_R {f : M Rt} (h : PE X e (tR G f)) : PE X e (tE G (fR f)) := by
  refine h.imp fun σ H Q ⟨Hf, ρ, rp, af⟩ => ⟨Hf, ρ, rp, ?_⟩
  unfold fR bnd at af
  cases e : f ρ with
  | ok x =>
    obtain ⟨r, ρ1⟩ := x
    rw [e] at af
    intro v Hf' H' n rt
    cases r with
    | fz d => exact af v Hf' H' n rt
    | ow ds =>
      obtain ⟨p, us, rfl, h1, h2, h3, h4, h5⟩ := rt
      obtain ⟨n2, r2⟩ := n.take h1 h2 h3 h4 h5
      exact af _ _ _ n2 r2
    | tr t => exact False.elim af
  | exc c ρ1 => rw [e] at af; exact af
  | bad => rw [e] at af; exact af
@[simp] def rtL : Rt → Option (List PyData)
  | .ow ds => some ds
  | _ => none
@[simp] def lR (f : M Rt) : M (List PyData) := fun ρ => (bnd f fun r => opt (rtL r)) ρ
theorem fl_R {f : M Rt} (h : PE X e (tR G f)) : PE X e (tL G (lR f)) := by
  refine h.imp fun σ H Q ⟨Hf, ρ, rp, af⟩ => ⟨Hf, ρ, rp, ?_⟩
  unfold lR bnd at af
  cases e : f ρ with
  | ok x =>
    obtain ⟨r, ρ1⟩ := x
    rw [e] at af
    intro v Hf' H' n rt
    cases r with
    | fz d => exact False.elim af
    | ow ds =>
      obtain ⟨p, us, rfl, h1, h2, h3, h4, h5⟩ := rt
      exact af p us Hf' H' n h1 h2 h3 h4 h5
    | tr t => exact False.elim af
  | exc c ρ1 => rw [e] at af; exact af
  | bad => rw [e] at af; exact af
@[simp] def rtT : Rt → Tr
  | .fz d => .fz d
  | .ow ds => .ow ds
  | .tr t => t
@[simp] def nR (f : M Rt) : M Tr := fun ρ => (bnd f fun r => ret (rtT r)) ρ
theorem fn_R {f : M Rt} (h : PE X e (tR G f)) : PE X e (tN G (nR f)) := by
  refine h.imp fun σ H Q ⟨Hf, ρ, rp, af⟩ => ⟨Hf, ρ, rp, ?_⟩
  unfold nR bnd at af
  cases e : f ρ with
  | ok x =>
    obtain ⟨r, ρ1⟩ := x
    rw [e] at af
    intro v Hf' H' n rt
    cases r with
    | fz d => exact af v [] Hf' H' n (.fz rt) List.nodup_nil fun _ z => nomatch z
    | ow ds =>
      obtain ⟨p, us, rfl, h1, h2, h3, h4, h5⟩ := rt
      exact af _ [p] Hf' H' n (.ow h4 h5) (List.nodup_cons.mpr ⟨List.not_mem_nil, List.nodup_nil⟩) fun a m => by
        rw [List.mem_singleton] at m; subst m; exact ⟨h1, h2, h3⟩
    | tr t =>
      obtain ⟨F, h1, h2, h3⟩ := rt
      exact af v F Hf' H' n h1 h2 h3
  | exc c ρ1 => rw [e] at af; exact af
  | bad => rw [e] at af; exact af
def noO (As : List Ag) : Bool := As.all fun A => !A.isO
theorem stepAgs {k : List AgV → M Rt} (hG : Ga.q = true ∨ G.q = false) (hW : Ga.W = G.W) (hc : Ga.cA = G.cA) (ho : Ga.q = true ∨ plOk As = true) (hio : G.q = false ∨ noO As = true) (rp : Rp Hf H σ ρ) (af : AfR G σ ρ Hf H Q (bnd (goT As) k ρ)) :
    tArgs Ga As σ H fun ys H1 => ∃ bs Hf1 ρ1, Nxt Ga.q σ ρ Hf H σ ρ1 Hf1 H1 ∧ AgAll σ ρ1 Hf1 H1 ys bs ∧ (G.q = false ∨ ∀ a ∈ bs, rootO a = none) ∧ AfR G σ ρ1 Hf1 H1 Q (k bs ρ1) := by
  have key : ∀ {As : List Ag} {ρ ρ1 : Rho} {bs : List AgV}, goT As ρ = .ok (bs, ρ1) → noO As = true → ∀ a ∈ bs, rootO a = none := by
    intro As
    induction As with
    | nil => intro ρ ρ1 bs h _ a m; cases h; cases m
    | cons A As ih =>
      intro ρ ρ1 bs h hno a m
      simp only [noO, List.all_cons, Bool.and_eq_true, Bool.not_eq_true'] at hno
      unfold goT bnd at h
      cases e : A.go ρ with
      | exc c ρ2 => rw [e] at h; cases h
      | bad => rw [e] at h; cases h
      | ok x =>
        obtain ⟨b, ρ2⟩ := x
        rw [e] at h
        dsimp only at h
        cases e2 : goT As ρ2 with
        | exc c ρ3 => rw [e2] at h; cases h
        | bad => rw [e2] at h; cases h
        | ok y =>
          obtain ⟨cs, ρ3⟩ := y
          rw [e2] at h
          cases h
          rcases List.mem_cons.mp m with z | z
          · subst z
            have one : ∀ {α : Type} {f : M α} {mk : α → AgV}, (∀ d, rootO (mk d) = none) → (bnd f fun d => ret (mk d)) ρ = .ok (a, ρ2) → rootO a = none := by
              intro α f mk hm h
              unfold bnd at h
              cases e : f ρ with
              | exc c ρ2 => rw [e] at h; cases h
              | bad => rw [e] at h; cases h
              | ok x => rw [e] at h; cases h; exact hm _
            cases A with
            | e f => exact one (fun _ => rfl) e
            | ld f => exact one (fun _ => rfl) e
            | lp f => exact one (fun _ => rfl) e
            | ls i =>
              unfold Ag.go at e
              cases hl : (lsA i ρ).isSome with
              | true => simp only [hl, if_true] at e; cases e; rfl
              | false => simp only [hl] at e; cases e
            | op f => cases hno.1
            | os i => cases hno.1
          · exact ih e2 hno.2 a z
  classical
  have af2 : AfR G σ ρ Hf H Q (bnd (goT As) (fun bs ρ1 => if G.q = false ∨ ∀ a ∈ bs, rootO a = none then k bs ρ1 else .bad) ρ) := by
    unfold bnd at af ⊢
    cases e : goT As ρ with
    | exc c ρ1 => rw [e] at af; exact af
    | bad => rw [e] at af; exact af
    | ok x =>
      obtain ⟨bs, ρ1⟩ := x
      rw [e] at af
      dsimp only
      rw [if_pos (hio.imp id fun z => key e z)]
      exact af
  refine tArgs_mono ?_ (stepArgs hG hW hc ho rp af2)
  rintro ys H1 ⟨bs, Hf1, ρ1, n1, ag, af3⟩
  by_cases q : G.q = false ∨ ∀ a ∈ bs, rootO a = none
  · rw [if_pos q] at af3
    exact ⟨bs, Hf1, ρ1, n1, ag, q, af3⟩
  · rw [if_neg q] at af3
    exact af3.elim
theorem callT_run {F : List Ar → OT} {n : Nat} (hG : Ga.q = true ∨ G.q = false) (hW : Ga.W = G.W) (hc : Ga.cA = G.cA) (ho : Ga.q = true ∨ plOk As = true) (hio : G.q = false ∨ noO As = true) (hn : ∀ as, F as ≠ .bad → as.length = n) (σ : St) (H : Hp) (Q : VK) (h : tR G (fCallT F As) σ H Q) : tCallS (spT G.cA n F) (WE G.W) (tArgs Ga As) σ H Q := by
  obtain ⟨Hf, ρ, rp, af⟩ := h
  refine tArgs_mono ?_ (stepAgs hG hW hc ho hio rp af)
  rintro vs H1 ⟨avs, Hf1, ρ1, n1, ag, q, af1⟩
  exact call_door q n1.rp ag af1 hn
theorem ga_nil : PA X [] (tArgs G []) := pa_nil
theorem ga_cons (h : PE X e (A.t G)) (hr : PA X es (tArgs G As)) (hs : starEach (e :: es) X.env = (false, eval e X.env) :: starEach es X.env := by rfl) : PA X (e :: es) (tArgs G (A :: As)) := pa_cons h hr hs
theorem gE {f : M PyData} (h : PE X e (tE G f)) : PE X e ((Ag.e f).t G) := h
theorem gLp {f : M Pth} (h : PE X e (tPl G f)) : PE X e ((Ag.lp f).t G) := h
theorem gOp {f : M Pth} (h : PE X e (tPl G f)) : PE X e ((Ag.op f).t G) := h
theorem gLs (i : Nat) {x : Str} (hN : X.N[i]? = some x := by rfl) (hv : Vis X.env.scope x := by first | exact Or.inl rfl | exact Or.inr (Or.inl rfl) | exact Or.inr (Or.inr rfl)) (hd : (x == ("__debug__" : Str)) = false := by decide)
    (hcd : (x == ("__classdict__" : Str)) = false := by decide) : PE X (.Name x pos) ((Ag.ls i).t G) := pe_var hN hv hd hcd
theorem gOs (i : Nat) {x : Str} (hN : X.N[i]? = some x := by rfl) (hv : Vis X.env.scope x := by first | exact Or.inl rfl | exact Or.inr (Or.inl rfl) | exact Or.inr (Or.inr rfl)) (hd : (x == ("__debug__" : Str)) = false := by decide)
    (hcd : (x == ("__classdict__" : Str)) = false := by decide) : PE X (.Name x pos) ((Ag.os i).t G) := pe_var hN hv hd hcd
theorem runT_len {n : Nat} {g : Rho → Fl} {md : List Nat} (as : List Ar) (h : runT n g md as ≠ .bad) : as.length = md.length := by
  unfold runT at h
  by_cases q : as.map arM = md
  · rw [← q, List.length_map]
  · rw [if_neg q] at h; exact absurd rfl h
theorem fr_call {x : Str} {k m : Nat} {ps : List Str} {F : List Ar → OT} (hn : ∀ as, F as ≠ .bad → as.length = m) (C : Cal X.prog X.w X.K X.mg X.base x k ps (spT G.cA m F)) (hr : Room k X.A) (hg : Gl X x) (tk : Takes X G.W) (ha : PA X (e :: es) (tArgs Ga As)) (hG : Ga.q = true ∨ G.q = false := by first | exact Or.inr rfl | exact Or.inl rfl) (hW : Ga.W = G.W := by rfl) (hc : Ga.cA = G.cA := by rfl) (ho : Ga.q = true ∨ plOk As = true := by first | exact Or.inr rfl | exact Or.inl rfl) (hio : G.q = false ∨ noO As = true := by first | exact Or.inl rfl | exact Or.inr rfl)
    (hdb : (x == ("__debug__" : Str)) = false := by decide) (he : starEach (e :: es) X.env = (false, eval e X.env) :: starEach es X.env := by rfl) (hpl : (backTo pos (starEach es X.env)).any (·.1) = false := by rfl) : PE X (.Call (.Name x p) (e :: es) [] pos) (tR G (fCallT F As)) := by
  obtain ⟨f, fd, Fo, hm, hk, hb⟩ := C
  exact (pe_callS Fo hr hg hm hk hb (fun σ => passAt tk σ) ha hdb he hpl).imp (callT_run hG hW hc ho hio hn)
end
end Fx
namespace Fx
open PySem L2
def tMe (C : Addr) (m : Str) (sp : Sp) (E : St → XK) (ta : TE) (t : TA) : TE := fun σ H Q => ta σ H fun y Hy => ∃ q dq gs, y = .ref q ∧ Hy q = some (.ins C dq gs) ∧ gs.lookup m = none ∧ t σ Hy fun ws Hw => sp (y :: ws) Hw Q (E σ)
section
variable {X : Cx} {CX : CXT} {k : Nat} {g C : Addr} {fd : FuncData} {ps : List Str} {sp : Sp} {E : St → XK} {m : Str} {pos apos : Pos} {e o : Expr} {es : List Expr} {ta : TE} {t : TA}
theorem pe_me {pl : Sem Bool} (ho : PE X o ta) (cl : Cls X.K C) (me : Meth X.K C m g) (Fo : FnOk X.prog X.w X.K X.mg X.base CX k g fd ps sp) (rm : Room k X.A) (bi : Binds X.K fd ps []) (pa : ∀ σ, PassesAt CX X σ (E σ)) (ha : PA X (e :: es) t)
    (h1 : starEach (e :: es) X.env = (false, eval e X.env) :: starEach es X.env := by rfl) (h2 : (backTo pos (starEach es X.env)).any (·.1) = false := by rfl)
    (h3 : eval (.Call (.Attribute o m apos) (e :: es) [] pos) X.env = (do let ov ← eval o X.env; standAt apos.atName; let (f, first) ← holding [ov] (getMethod ov m pl); callWith pos f first (backTo pos (starEach (e :: es) X.env)) (backToKw pos (keywordEach [] X.env))) := by rfl) :
    PE X (.Call (.Attribute o m apos) (e :: es) [] pos) (tMe C m sp E ta t) := ⟨fun pins s σ H Q I w => by
  refine PySem.W.methodCall_KW (pl := pl) (thn (ho.run pins s σ H _ I w) fun u0 sA hA => ?_) h3
  obtain ⟨y, Hy, IA, ry, q, dq, gs, ey, eq, lq, w2⟩ := hA
  subst ey
  cases (show u0 = Value.ref q from ry)
  refine getmeth_ok IA eq cl me lq (PySem.W.callWith_K (first := [.ref q]) (h₀ := X.base) I.ok.mod.kin me.kp (thn (ha.run pos pins sA σ Hy _ IA w2) fun us sB hB => ?_) h1 h2)
  obtain ⟨ws, Hw, IB, rs, w3⟩ := hB
  exact ⟨IB.kIn, run_fnS (us := .ref q :: us) (vs := .ref q :: ws) Fo rm bi (pa σ) IB (.cons rfl rs) w3⟩⟩
theorem pe_me0 {pl : Sem Bool} (ho : PE X o ta) (cl : Cls X.K C) (me : Meth X.K C m g) (Fo : FnOk X.prog X.w X.K X.mg X.base CX k g fd ps sp) (rm : Room k X.A) (bi : Binds X.K fd ps []) (pa : ∀ σ, PassesAt CX X σ (E σ))
    (h3 : eval (.Call (.Attribute o m apos) [] [] pos) X.env = (do let ov ← eval o X.env; standAt apos.atName; let (f, first) ← holding [ov] (getMethod ov m pl); callWith pos f first (backTo pos (starEach [] X.env)) (backToKw pos (keywordEach [] X.env))) := by rfl) :
    PE X (.Call (.Attribute o m apos) [] [] pos) (tMe C m sp E ta tNil) := ⟨fun pins s σ H Q I w => by
  refine PySem.W.methodCall_KW (pl := pl) (thn (ho.run pins s σ H _ I w) fun u0 sA hA => ?_) h3
  obtain ⟨y, Hy, IA, ry, q, dq, gs, ey, eq, lq, w2⟩ := hA
  subst ey
  cases (show u0 = Value.ref q from ry)
  exact getmeth_ok IA eq cl me lq (PySem.W.callWith_K0 (first := [.ref q]) IA.kIn me.kp (run_fnS (us := [.ref q]) (vs := [.ref q]) Fo rm bi (pa σ) IA (.cons rfl .nil) w2))⟩
def tMk (C : Addr) (sp : Sp) (E : St → XK) (t : TA) : TE := fun σ H Q => t σ H fun ws Hw => ∀ q dq, Hw q = none → Hw dq = none → dq ≠ q → sp (.ref q :: ws) (upd (upd Hw dq (.own q)) q (.ins C dq [])) (fun v Hz => v = .non ∧ Q (.ref q) Hz) (E σ)
theorem run_mk {pins : List (Addr × Obj)} {σ : St} {H : Hp} {s : Shared} {Q : VK} {us : List Value} {ws : List V} (mk : Mk X.K C g) (Fo : FnOk X.prog X.w X.K X.mg X.base CX k g fd ps sp) (rm : Room (k + 1) X.A) (bi : Binds X.K fd ps []) (pa : PassesAt CX X σ (E σ)) (I : Inv X pins σ H s) (rs : Vals ws us)
    (w : ∀ q dq, H q = none → H dq = none → dq ≠ q → sp (.ref q :: ws) (upd (upd H dq (.own q)) q (.ins C dq [])) (fun v Hz => v = .non ∧ Q (.ref q) Hz) (E σ)) : wpAny (model X.prog X.w) X.A (call (.ref C) us) (EP X pins σ Q) X.xe s := by
  let z := s.heap.objs.size
  have w0 := w (z + 1) z (I.hok.fresh (Nat.le_succ _)) (I.hok.fresh (Nat.le_refl _)) (Nat.ne_of_lt (Nat.lt_succ_self _))
  have J := Inv.made (C := C) I
  have rs2 : Vals (V.ref (z + 1) :: ws) (Value.ref (z + 1) :: us) := .cons rfl rs
  have len : (Value.ref (z + 1) :: us).length = ps.length := by rw [← rs2.length]; exact Fo.len _ _ _ _ w0
  have bb := bi _ (Value.ref (z + 1) :: us) J.kIn (by rw [List.append_nil]; exact len)
  rw [List.append_nil] at bb
  have run := Fo.run _ X.stack _ _ ⟨Value.ref (z + 1) :: us, []⟩ (Value.ref (z + 1) :: us) _ _ (E σ) (rm.make C us []) (J.env0.make C us []) bb rs2 w0
  refine wpAny_call (make_map (f := g) I.kIn mk.makes mk.init (beq_iff_eq.mp mk.fn) (codeAny_mono run fun r s' hq => ?_))
  cases r with
  | error er => exact pa pins _ _ er s' J hq
  | ok fl =>
    cases fl with
    | ret u =>
      obtain ⟨v, Hz, J3, rv, ev, q3⟩ := J.after hq
      subst ev
      exact ⟨rv, ⟨V.ref (z + 1), Hz, J3, rfl, q3⟩⟩
    | next => cases hq
    | brk => cases hq
    | cont => cases hq
variable {x : Str} {p : Pos}
theorem pe_mk0 (mk : Mk X.K C g) (Fo : FnOk X.prog X.w X.K X.mg X.base CX k g fd ps sp) (rm : Room (k + 1) X.A) (hg : Gl X x) (hm : X.mg x = some (.ref C)) (bi : Binds X.K fd ps []) (pa : ∀ σ, PassesAt CX X σ (E σ)) (hdb : (x == ("__debug__" : Str)) = false := by decide) : PE X (.Call (.Name x p) [] [] pos) (tMk C sp E tNil) := ⟨fun pins s σ H Q I w =>
  wpAny_Call_Name_kw (ld_glob I hg hm (PySem.W.callWith_K0 I.kIn mk.kp (run_mk (us := []) mk Fo rm bi (pa σ) I .nil w)) hdb)⟩
end
variable [Tabz]
section
variable {X : Cx} {G Ga : Gx} {e a b o : Expr} {es : List Expr} {pos p apos : Pos} {pn : List Nat} {σ : St} {ρ ρ1 ρ2 : Rho} {Hf H Hf1 H1 Hf2 H2 Hf' H' : Hp} {Q : VK} {As : List Ag} {A : Ag} {vs : List V} {avs : List AgV} {as os : List Ar} {Fs Gs : Nat → List Addr}
@[simp] def isIns (c : Str) (a : AgV) (ρ : Rho) : Bool := match arOf a ρ with
  | some (.l (.nd (.ins c') _)) => decide (c' = c)
  | some (.o (.nd (.ins c') _)) => decide (c' = c)
  | _ => false
theorem isIns_at {c : Str} {a : AgV} {v : V} (rp : Rp Hf H σ ρ) (ra : agR σ ρ Hf H v a) (h : isIns c a ρ = true) : ∃ q dq us, v = .ref q ∧ H q = some (.ins (Tabz.cA c) dq ((flds c).zip us)) := by
  unfold isIns at h
  split at h
  · rename_i c' ts e
    obtain ⟨F, h1, _⟩ := arg_ok rp ra e
    have ec := of_decide_eq_true h
    subst ec
    cases (show TR Hf H v _ F from h1) with
    | nd hk _ => obtain ⟨_, dx, hp⟩ := hk; exact ⟨_, dx, _, rfl, hp⟩
  · rename_i c' ts e
    obtain ⟨F, h1, _⟩ := arg_ok rp ra e
    have ec := of_decide_eq_true h
    subst ec
    cases h1.1 with
    | nd hk _ => obtain ⟨_, dx, hp⟩ := hk; exact ⟨_, dx, _, rfl, hp⟩
  · cases h
@[simp] def fMeth (c : Str) (F : List Ar → OT) (A : Ag) (As : List Ag) : M Rt := fun ρ => (bnd A.go fun a ρ => if isIns c a ρ = true then bnd (goT As) (fun as => callTM F (a :: as)) ρ else .bad) ρ
theorem lookup_no {m : Str} : ∀ {fs : List Str} {us : List V}, m ∉ fs → (fs.zip us).lookup m = none
  | [], _, _ => rfl
  | y :: fs, [], _ => rfl
  | y :: fs, u :: us, h => by
    have nb : (m == y) = false := by simpa using fun (z : m = y) => h (z ▸ List.mem_cons_self)
    simp only [List.zip_cons_cons, List.lookup, nb]
    exact lookup_no fun z => h (List.mem_cons_of_mem _ z)
theorem go_noO {A : Ag} {b : AgV} (h : A.go ρ = .ok (b, ρ1)) (hn : A.isO = false) : rootO b = none := by
  have one : ∀ {α : Type} {f : M α} {mk : α → AgV}, (∀ d, rootO (mk d) = none) → (bnd f fun d => ret (mk d)) ρ = .ok (b, ρ1) → rootO b = none := by
    intro α f mk hm h
    unfold bnd at h
    cases e : f ρ with
    | exc c ρ2 => rw [e] at h; cases h
    | bad => rw [e] at h; cases h
    | ok x => rw [e] at h; cases h; exact hm _
  cases A with
  | e f => exact one (fun _ => rfl) h
  | ld f => exact one (fun _ => rfl) h
  | lp f => exact one (fun _ => rfl) h
  | ls i =>
    unfold Ag.go at h
    cases hl : (lsA i ρ).isSome with
    | true => simp only [hl, if_true] at h; cases h; rfl
    | false => simp only [hl] at h; cases h
  | op f => cases hn
  | os i => cases hn
theorem meth_run {c m : Str} {F : List Ar → OT} {n : Nat} (hm : m ∉ flds c) (hG : Ga.q = true ∨ G.q = false) (hW : Ga.W = G.W) (hc : Ga.cA = G.cA) (ho : Ga.q = true ∨ (A.isPl = false ∨ As = []) ∧ plOk As = true) (hio : G.q = false ∨ noO (A :: As) = true) (hn : ∀ as, F as ≠ .bad → as.length = n) (σ : St) (H : Hp) (Q : VK) (h : tR G (fMeth c F A As) σ H Q) :
    tMe (Tabz.cA c) m (spT G.cA n F) (WE G.W) (A.t Ga) (tArgs Ga As) σ H Q := by
  obtain ⟨Hf, ρ, rp, af⟩ := h
  classical
  have af0 : AfR G σ ρ Hf H Q (bnd A.go (fun a ρ1 => if G.q = false ∨ rootO a = none then (if isIns c a ρ1 = true then bnd (goT As) (fun as => callTM F (a :: as)) ρ1 else .bad) else .bad) ρ) := by
    have af' := af
    unfold fMeth bnd at af'
    unfold bnd
    cases e : A.go ρ with
    | exc c ρ1 => rw [e] at af'; exact af'
    | bad => rw [e] at af'; exact af'
    | ok x =>
      obtain ⟨b, ρ1⟩ := x
      rw [e] at af'
      dsimp only at af' ⊢
      rw [if_pos (hio.imp id fun z => go_noO e (by
        simp only [noO, List.all_cons, Bool.and_eq_true, Bool.not_eq_true'] at z
        exact z.1))]
      exact af'
  refine Ag.run (stepAg hG hW hc rp af0) fun y Hy ⟨b, Hf1, ρ1, n1, np, ra, af1⟩ => ?_
  by_cases qr : G.q = false ∨ rootO b = none
  · rw [if_pos qr] at af1
    cases hi : isIns c b ρ1 with
    | false => rw [hi] at af1; exact False.elim af1
    | true =>
      rw [hi, if_pos rfl] at af1
      obtain ⟨q, dq, us, ey, hq⟩ := isIns_at n1.rp ra hi
      refine ⟨q, dq, _, ey, hq, lookup_no hm, ?_⟩
      cases As with
      | nil => exact call_door (avs := [b]) (qr.imp id fun w a m => by rw [List.mem_singleton.mp m]; exact w) n1.rp (.cons ra .nil) af1 hn
      | cons B Bs =>
        refine tArgs_mono ?_ (stepAgs hG hW hc (ho.imp id (·.2)) (hio.imp id fun z => by
          simp only [noO, List.all_cons, Bool.and_eq_true] at z ⊢
          exact z.2) n1.rp af1)
        rintro vs H2 ⟨avs, Hf2, ρ2, n2, ag, q2, af2⟩
        have ra2 : agR σ ρ2 Hf2 H2 y b := by
          rcases ho with z | ⟨z, _⟩
          · exact agR_keep z n1.rp n2 ra
          · rcases z with z | z
            · exact agR_keep' n2 (np z) ra
            · cases z
        have qq : G.q = false ∨ ∀ a ∈ b :: avs, rootO a = none := by
          rcases q2 with z | z
          · exact .inl z
          · rcases qr with w | w
            · exact .inl w
            · exact .inr fun a m => (List.mem_cons.mp m).elim (fun e => by rw [e]; exact w) (z a)
        exact call_door (avs := b :: avs) qq n2.rp (.cons ra2 ag) af2 hn
  · rw [if_neg qr] at af1
    exact af1.elim
end
end Fx
namespace Fx
open PySem L2
def mkM (c m q : Str) (st : Stmt) : He.FnD := ⟨(c, some m), m, q, defArgs st, defBody st, defScope st⟩
def fdM (K : PySem.W.Frag) (c m : Str) : FuncData := match K.lookup (He.ma K (He.ga K c) m) with
  | some ⟨_, _, .func fd, _⟩ => fd
  | _ => PySem.W.fnOf c m (defArgs (.Pass ⟨0, 0, 0, 0⟩)) [] (defScope (.Pass ⟨0, 0, 0, 0⟩)) .none .none .none .none none .none .none
section
variable {fa : List Fq} {fn : List He.FnD} {K : PySem.W.Frag} {mg : Str → Option Value} (T : Top fa fn K mg)
include T
theorem Top.cls (i : Nat) {c : Str} (h : fa[i]? = some (.f (.cls c)) := by rfl) : Cls K (He.ga K c) := He.cls_ok (T.fact i h)
theorem Top.noat (i : Nat) {c f : Str} (h : fa[i]? = some (.f (.noat c f)) := by rfl) : NoAttr K (He.ga K c) f := He.eqO_ok (T.fact i h)
theorem Top.meth (i : Nat) {c m : Str} (h : fa[i]? = some (.f (.meth c m)) := by rfl) : Meth K (He.ga K c) m (He.ma K (He.ga K c) m) := He.meth_ok (T.fact i h)
theorem Top.mkr (i : Nat) {c : Str} (h : fa[i]? = some (.f (.mkr c)) := by rfl) : Mk K (He.ga K c) (He.ma K (He.ga K c) "__init__") := He.mkr_ok (T.fact i h)
theorem Top.defM (i : Nat) {c m q : Str} {st : Stmt} (h : fn[i]? = some (mkM c m q st) := by rfl) : Fun K m q st (He.ma K (He.ga K c) m) (fdM K c m) := by
  have all := (He.ba (show ((fa.all fun f => f.ok K) && fn.all fun d => (He.Fa.code d.at_ d.qual).ok K && PySem.W.keepIn K (.ref (He.fAd K d.at_))) = true from congrArg (fun z : He.Al => z.1) T.says)).2
  obtain ⟨cc, kp⟩ := He.ba (List.all_eq_true.mp all _ (List.mem_of_getElem? h))
  have ev : fn.map (fun d => He.fnObs K d.at_) = fn.map He.FnD.val := congrArg (fun z : He.Al => z.2) T.says
  have ei := congrArg (fun l => l[i]?) ev
  simp only [List.getElem?_map, h, Option.map_some, Option.some.injEq] at ei
  obtain ⟨oc, od, osl, kV, doc, pm, an, cdv, ct, lk, cd⟩ := He.fn_ok ei cc
  have lk2 : K.lookup (He.ma K (He.ga K c) m) = some ⟨oc, od, .func (PySem.W.fnOf m q (defArgs st) (defBody st) (defScope st) .none kV doc pm an cdv ct), osl⟩ := lk
  have efd : fdM K c m = PySem.W.fnOf m q (defArgs st) (defBody st) (defScope st) .none kV doc pm an cdv ct := by
    unfold fdM
    rw [lk2]
  rw [efd]
  exact fun_mk lk2 cd kp
end
def CalM (P : Program) (w : World) (K : PySem.W.Frag) (mg : Str → Option Value) (base : Heap) (c m : Str) (k : Nat) (ps : List Str) (sp : Sp) : Prop :=
  ∃ fd : FuncData, FnOk P w K mg base (L2.CX P w) k (He.ma K (He.ga K c) m) fd ps sp ∧ Binds K fd ps []
variable [Tabz]
section
variable {P : Program} {w : World} {K : PySem.W.Frag} {mg : Str → Option Value} {base : Heap} {fa : List Fq} {fn : List He.FnD}
theorem cal_T {x : Str} {sd : Stmt} {N ps : List Str} {k : Nat} {g : Rho → Fl} (md pn : List Nat) (T : Top fa fn K mg) (i j : Nat) (hi : fa[i]? = some (.f (.glo x))) (hj : fn[j]? = some (mkD x sd)) (S : FnScope N ps (defScope sd)) (hmd : md.length = ps.length) (hpn : ∀ i : Nat, md[i]? = some 2 → i ∈ pn)
    (hbind : ∀ (kV doc pm : Value) (an : Option Addr) (cdv ct : Value) (us : List Value), us.length = ps.length → bindArgs (PySem.W.fnOf x x (defArgs sd) (defBody sd) (defScope sd) .none kV doc pm an cdv ct) ⟨us, []⟩ = pure (ps.zip us))
    (hb : ∀ (cdv : Value) (A : Around) (outer : List Env) (s : Shared) (H : Hp) (E : XK), Room k (A.deeper (PyProof.Rows.envOfC x (defScope sd) s.heap.objs.size (He.ga K x) cdv)) → PSs (cxOf (L2.CX P w) P w K mg base N x (defScope sd) (He.ga K x) cdv A outer s H E) (defBody sd) (tS ⟨fun cls d _ H => E cls d H, He.ga K, false⟩ pn g)) :
    Cal P w K mg base x (k + 1) ps (spT (He.ga K) ps.length (runT N.length g md)) := by
  have F := T.def_ j hj
  exact ⟨_, _, fn_T F S hmd hpn hb, T.glo i hi, F.kp, F.binds hbind⟩
theorem cal_M {c m q : Str} {sd : Stmt} {N ps : List Str} {k : Nat} {g : Rho → Fl} (md pn : List Nat) (T : Top fa fn K mg) (j : Nat) (hj : fn[j]? = some (mkM c m q sd)) (S : FnScope N ps (defScope sd)) (hmd : md.length = ps.length) (hpn : ∀ i : Nat, md[i]? = some 2 → i ∈ pn)
    (hbind : ∀ (kV doc pm : Value) (an : Option Addr) (cdv ct : Value) (us : List Value), us.length = ps.length → bindArgs (PySem.W.fnOf m q (defArgs sd) (defBody sd) (defScope sd) .none kV doc pm an cdv ct) ⟨us, []⟩ = pure (ps.zip us))
    (hb : ∀ (cdv : Value) (A : Around) (outer : List Env) (s : Shared) (H : Hp) (E : XK), Room k (A.deeper (PyProof.Rows.envOfC q (defScope sd) s.heap.objs.size (He.ma K (He.ga K c) m) cdv)) → PSs (cxOf (L2.CX P w) P w K mg base N q (defScope sd) (He.ma K (He.ga K c) m) cdv A outer s H E) (defBody sd) (tS ⟨fun cls d _ H => E cls d H, He.ga K, false⟩ pn g)) :
    CalM P w K mg base c m (k + 1) ps (spT (He.ga K) ps.length (runT N.length g md)) := by
  have F := T.defM j hj
  exact ⟨_, fn_T F S hmd hpn hb, F.binds hbind⟩
end
section
variable {X : Cx} {G Ga : Gx} {e a b o : Expr} {es : List Expr} {pos p apos : Pos} {pn : List Nat} {σ : St} {ρ ρ1 ρ2 : Rho} {Hf H Hf1 H1 Hf2 H2 Hf' H' : Hp} {Q : VK} {As : List Ag} {A : Ag}
theorem fr_meth {c m : Str} {k n : Nat} {ps : List Str} {F : List Ar → OT} {pl : Sem Bool} (hca : Tabz.cA = He.ga X.K) (hm : m ∉ flds c) (hn : ∀ as, F as ≠ .bad → as.length = n) (C : CalM X.prog X.w X.K X.mg X.base c m k ps (spT G.cA n F)) (cl : Cls X.K (He.ga X.K c)) (me : Meth X.K (He.ga X.K c) m (He.ma X.K (He.ga X.K c) m)) (hr : Room k X.A) (tk : Takes X G.W) (hob : PE X o (A.t Ga)) (ha : PA X (e :: es) (tArgs Ga As))
    (hG : Ga.q = true ∨ G.q = false := by first | exact Or.inr rfl | exact Or.inl rfl) (hW : Ga.W = G.W := by rfl) (hc : Ga.cA = G.cA := by rfl) (ho : Ga.q = true ∨ (A.isPl = false ∨ As = []) ∧ plOk As = true := by first | exact Or.inr ⟨Or.inl rfl, rfl⟩ | exact Or.inl rfl) (hio : G.q = false ∨ noO (A :: As) = true := by first | exact Or.inl rfl | exact Or.inr rfl)
    (h1 : starEach (e :: es) X.env = (false, eval e X.env) :: starEach es X.env := by rfl) (h2 : (backTo pos (starEach es X.env)).any (·.1) = false := by rfl)
    (h3 : eval (.Call (.Attribute o m apos) (e :: es) [] pos) X.env = (do let ov ← eval o X.env; standAt apos.atName; let (f, first) ← holding [ov] (getMethod ov m pl); callWith pos f first (backTo pos (starEach (e :: es) X.env)) (backToKw pos (keywordEach [] X.env))) := by rfl) : PE X (.Call (.Attribute o m apos) (e :: es) [] pos) (tR G (fMeth c F A As)) := by
  obtain ⟨fd, Fo, hb⟩ := C
  refine (pe_me (C := He.ga X.K c) hob cl me Fo hr hb (fun σ => passAt tk σ) ha h1 h2 h3).imp fun σ H Q h => ?_
  have := meth_run hm hG hW hc ho hio hn σ H Q h
  rw [hca] at this
  exact this
theorem fr_meth0 {c m : Str} {k n : Nat} {ps : List Str} {F : List Ar → OT} {pl : Sem Bool} (hca : Tabz.cA = He.ga X.K) (hm : m ∉ flds c) (hn : ∀ as, F as ≠ .bad → as.length = n) (C : CalM X.prog X.w X.K X.mg X.base c m k ps (spT G.cA n F)) (cl : Cls X.K (He.ga X.K c)) (me : Meth X.K (He.ga X.K c) m (He.ma X.K (He.ga X.K c) m)) (hr : Room k X.A) (tk : Takes X G.W) (hob : PE X o (A.t G))
    (hio : G.q = false ∨ noO (A :: []) = true := by first | exact Or.inl rfl | exact Or.inr rfl)
    (h3 : eval (.Call (.Attribute o m apos) [] [] pos) X.env = (do let ov ← eval o X.env; standAt apos.atName; let (f, first) ← holding [ov] (getMethod ov m pl); callWith pos f first (backTo pos (starEach [] X.env)) (backToKw pos (keywordEach [] X.env))) := by rfl) : PE X (.Call (.Attribute o m apos) [] [] pos) (tR G (fMeth c F A [])) := by
  obtain ⟨fd, Fo, hb⟩ := C
  refine (pe_me0 (C := He.ga X.K c) hob cl me Fo hr hb (fun σ => passAt tk σ) h3).imp fun σ H Q h => ?_
  have hq : G.q = true ∨ G.q = false := by cases G.q <;> simp
  have := meth_run (Ga := G) hm hq rfl rfl (.inr ⟨.inr rfl, rfl⟩) hio hn σ H Q h
  rw [hca] at this
  exact this
@[simp] def nMk (c : Str) (F : List Ar → OT) (fs : M (List PyData)) : M Tr := fun ρ => (bnd fs fun ds ρ => match F (.o (.nd (.ins c) []) :: ds.map Ar.d) with
  | .ok (.fz .none) (.o t :: _) => .ok (t, ρ)
  | .exc x _ => .exc x ρ
  | _ => .bad) ρ
theorem args_d (sm : Sb Hf H) : ∀ {vs : List V} {ds : List PyData}, RepA Hf vs ds → vs.length = (ds.map Ar.d).length ∧ ∀ (i : Nat) (v : V) (x : Ar), vs[i]? = some v → (ds.map Ar.d)[i]? = some x → ∃ d, x = .d d ∧ Rep Hf v d
  | _, _, .nil => ⟨rfl, fun i v x h => by simp at h⟩
  | _, _, .cons h t => by
    obtain ⟨h1, h2⟩ := args_d sm t
    refine ⟨by simp at h1 ⊢; exact h1, fun i v x hv hx => ?_⟩
    cases i with
    | zero =>
      simp only [List.getElem?_cons_zero, Option.some.injEq, List.map_cons] at hv hx
      subst hv hx
      exact ⟨_, rfl, h⟩
    | succ i => exact h2 i v x (by simpa using hv) (by simpa using hx)
theorem mk_run {c : Str} {F : List Ar → OT} {n : Nat} {fs : M (List PyData)} (hn : ∀ as, F as ≠ .bad → as.length = n) (σ : St) (H : Hp) (Q : VK) (h : tN G (nMk c F fs) σ H Q) : tMk (Tabz.cA c) (spT G.cA n F) (WE G.W) (tA G fs) σ H Q := by
  obtain ⟨Hf, ρ, rp, af⟩ := h
  refine (stepN rp af).mono fun ws Hw ⟨ds, Hf1, ρ1, n1, ra, af1⟩ => ?_
  intro q dq hq hdq hne
  have rp1 := n1.rp
  have nq : ∀ {b o}, Hw b = some o → b ≠ q := fun h => ne_of_none h hq
  have nd : ∀ {b o}, Hw b = some o → b ≠ dq := fun h => ne_of_none h hdq
  have up : ∀ {b o}, Hw b = some o → upd (upd Hw dq (.own q)) q (.ins (Tabz.cA c) dq []) b = some o := fun h => by rw [upd_ne (nq h), upd_ne (nd h)]; exact h
  have sb : Sb Hf1 (upd (upd Hw dq (.own q)) q (.ins (Tabz.cA c) dq [])) := by
    have hq2 : upd Hw dq (.own q) q = none := by rw [upd_ne fun z => hne z.symm]; exact hq
    exact ⟨fun b o e => up (rp1.sub b o e), (rp1.tb.upd hdq).upd hq2, rp1.nt⟩
  have tq : TR Hf1 (upd (upd Hw dq (.own q)) q (.ins (Tabz.cA c) dq [])) (.ref q) (.nd (.ins c) []) [q] := .nd ⟨Nat.zero_le _, dq, by rw [upd_same, List.zip_nil_right]⟩ .nil
  obtain ⟨hl, hd⟩ := args_d sb ra
  have hb : F (.o (.nd (.ins c) []) :: ds.map Ar.d) ≠ .bad := fun z => by simp only [z] at af1; exact af1
  have ak : ArsOk Hf1 (upd (upd Hw dq (.own q)) q (.ins (Tabz.cA c) dq [])) (.ref q :: ws) (.o (.nd (.ins c) []) :: ds.map Ar.d) (fun i => if i = 0 then [q] else []) := by
    refine ⟨by simp at hl ⊢; exact hl, fun i v x hv hx => ?_, fun i j b t t' h1 h2 m1 m2 => ?_, fun i j b t t' h1 h2 m1 m2 => ?_⟩
    · cases i with
      | zero =>
        simp only [List.getElem?_cons_zero, Option.some.injEq] at hv hx
        subst hv hx
        exact ⟨tq, List.nodup_cons.mpr ⟨List.not_mem_nil, List.nodup_nil⟩, fun b m => by
          rw [if_pos rfl, List.mem_singleton] at m
          rw [m]; exact rp1.sub.free hq⟩
      | succ i =>
        obtain ⟨d, rfl, r⟩ := hd i v x (by simpa using hv) (by simpa using hx)
        exact ⟨by simp, r⟩
    · by_cases z1 : i = 0
      · by_cases z2 : j = 0
        · rw [z1, z2]
        · rw [if_neg z2] at m2; cases m2
      · rw [if_neg z1] at m1; cases m1
    · by_cases z1 : i = 0
      · subst z1; cases h1
      · rw [if_neg z1] at m1; cases m1
  have io : ∀ b, IoA (.o (.nd (.ins c) []) :: ds.map Ar.d) (fun i => if i = 0 then [q] else []) b → b = q := fun b ⟨i, t, _, m⟩ => by
    dsimp only at m
    by_cases z : i = 0
    · rw [if_pos z] at m; exact List.mem_singleton.mp m
    · rw [if_neg z] at m; cases m
  refine ⟨by rw [ak.len]; exact hn _ hb, Hf1, _, _, sb, ak, ?_⟩
  have fin : ∀ {Hf' H' : Hp} {os : List Ar} {Gs : Nat → List Addr}, EndT Hf1 (upd (upd Hw dq (.own q)) q (.ins (Tabz.cA c) dq [])) (.ref q :: ws) (.o (.nd (.ins c) []) :: ds.map Ar.d) (fun i => if i = 0 then [q] else []) Hf' H' os Gs → SmN Hw H' ∧ Nxt G.q σ ρ1 Hf1 Hw σ ρ1 Hf' H' := fun {Hf' H' os Gs} en => by
    have sn : SmN Hw H' := by
      refine ⟨fun b o h t => en.keep b o (up h) t fun y => nq h (io b y), fun b h => ?_, en.sb.tb⟩
      have := en.dom b h
      by_cases z : b = q
      · rw [z]; exact hq
      · rw [upd_ne z] at this
        by_cases z2 : b = dq
        · rw [z2]; exact hdq
        · rw [upd_ne z2] at this; exact this
    refine ⟨sn, nxt_call rp1 en.sub en.sb sn fun b h => (en.fr b h).imp id fun y => y.elim (fun y => ?_) fun y => by rw [io b y]; exact hq⟩
    by_cases z : b = q
    · rw [z]; exact hq
    · rw [upd_ne z] at y
      by_cases z2 : b = dq
      · rw [z2]; exact hdq
      · rw [upd_ne z2] at y; exact y
  cases ef : F (.o (.nd (.ins c) []) :: ds.map Ar.d) with
  | bad => exact absurd ef hb
  | exc x os =>
    simp only [ef] at af1
    exact fun Hf' H' Gs en => af1 Hf' H' (fin en).2
  | ok r os =>
    simp only [ef] at af1
    intro v Hf' H' Gs en rt
    split at af1
    · rename_i t rest e
      cases e
      have rt : Rep Hf' v .none := rt
      cases rt
      obtain ⟨sn, nx⟩ := fin en
      obtain ⟨g1, g2, g3⟩ := en.out 0 (.ref q) t rfl rfl
      refine ⟨rfl, af1 (.ref q) (Gs 0) Hf' H' nx g1 g2 fun b m => ?_⟩
      have hbn : Hw b = none := by
        rcases (g3 b m).2 with y | y
        · rw [io b y]; exact hq
        · by_cases z : b = q
          · rw [z]; exact hq
          · rw [upd_ne z] at y
            by_cases z2 : b = dq
            · rw [z2]; exact hdq
            · rw [upd_ne z2] at y; exact y
      exact ⟨.inl hbn, (g3 b m).1, notOwn_call rp1 sn hbn⟩
    · rename_i e; cases e
    · exact af1.elim
theorem fn_mk0 {c : Str} {k n : Nat} {ps : List Str} {F : List Ar → OT} (hca : Tabz.cA = He.ga X.K) (hn : ∀ as, F as ≠ .bad → as.length = n) (C : CalM X.prog X.w X.K X.mg X.base c "__init__" k ps (spT G.cA n F)) (mk : Mk X.K (He.ga X.K c) (He.ma X.K (He.ga X.K c) "__init__")) (hr : Room (k + 1) X.A) (hg : Gl X c) (hm : X.mg c = some (.ref (He.ga X.K c))) (tk : Takes X G.W) (hdb : (c == ("__debug__" : Str)) = false := by decide) : PE X (.Call (.Name c p) [] [] pos) (tN G (nMk c F fNil)) := by
  obtain ⟨fd, Fo, hb⟩ := C
  refine (pe_mk0 mk Fo hr hg hm hb (fun σ => passAt tk σ) hdb).imp fun σ H Q ⟨Hf, ρ, rp, af⟩ => ?_
  have h2 := mk_run hn σ H Q ⟨Hf, ρ, rp, af⟩
  rw [hca] at h2
  obtain ⟨Hf0, ρ0, rp0, k0⟩ := h2
  exact k0 [] Hf0 H (.refl rp0) .nil
end
end Fx
namespace Fx
open PySem L2
variable [Tabz]
section
variable {q : Bool} {Hf Hf' H H' Hf0 H0 : Hp} {σ σ' : St} {ρ ρ' ρ0 : Rho}
theorem Nxt.chgTF (n1 : Nxt q σ ρ0 Hf0 H0 σ ρ Hf H) (rp0 : Rp Hf0 H0 σ ρ0) (Fl : List Addr) (hFl : ∀ a ∈ Fl, Fre H0 σ ρ0 a ∧ Hf a = none ∧ ¬ OwnA H σ ρ a) {i : Nat} {t t' : Tr} {v : V} {F F' : List Addr} (kf : List Nat → Bool) (hi : ρ[i]? = some (.tr t)) (hv : σ[i]? = some (some v)) (r0 : TR Hf H v t F) (sub : Same Hf Hf') (sub' : Same Hf' H') (tb : Tb H') (nt : NtH Hf')
    (keep : ∀ a o, H a = some o → NT o → a ∉ F → H' a = some o) (dom : ∀ a, H' a = none → H a = none) (fr : ∀ a, Hf a = none → Hf' a = none ∨ H a = none ∨ a ∈ F) (r1 : TR Hf' H' v t' F') (nd1 : F'.Nodup) (hf1 : ∀ a ∈ F', Hf' a = none) (own : ∀ a ∈ F', a ∈ F ∨ H a = none ∨ a ∈ Fl)
    (al : ∀ qs w s, kf qs = true → At H v t qs w s → ∃ s', At H' v t' qs w s') : Nxt false σ ρ0 Hf0 H0 σ (killB kf i (ρ.set i (.tr t'))) Hf' H' := by
  have r := n1.rp
  have hlt : i < ρ.length := (List.getElem?_eq_some_iff.mp hi).1
  have gi : (killB kf i (ρ.set i (.tr t')))[i]? = some (.tr t') := killB_at (by rw [List.getElem?_set, if_pos rfl, if_pos hlt]) fun _ _ z => nomatch z
  have ow' : ∀ a, OwnI H' σ (killB kf i (ρ.set i (.tr t'))) i a ↔ a ∈ F' := fun a => ownI_tr gi hv r1
  have key := r.chgsF (ρ' := killB kf i (ρ.set i (.tr t'))) (· = i) (· ∈ Fl) (fun a z => ⟨(hFl a z).2.2, fun y => (hFl a z).1.notLk rp0 (n1.ls a y)⟩) (by rw [killB_len, List.length_set]; exact r.len) sub sub' tb nt (fun a o h t n => keep a o h t fun z => n i rfl ((ownI_tr hi hv r0).mpr z)) dom (fun a z => (fr a z).imp id fun w => w.imp id fun y => ⟨i, rfl, (ownI_tr hi hv r0).mpr y⟩) (fun j s n e => by
      rcases killB_get e with ⟨h, _⟩ | ⟨h, _⟩
      · rw [List.getElem?_set, if_neg fun z => n z.symm] at h
        exact .inl h
      · exact .inr h) (by
      rintro _ s rfl e
      rw [gi] at e; cases e
      exact ⟨(fun _ z => nomatch z), (fun _ _ z => nomatch z)⟩) (by
      rintro j i' qs t2 h1 h2 ei
      have ei : i' = i := ei
      subst ei
      have et : t2 = t' := by
        rcases h2 with e | e
        · rw [gi] at e; cases e; rfl
        · rw [gi] at e; cases e
      subst et
      rcases killB_get h1 with ⟨h, hk⟩ | ⟨h, _⟩
      · have hj : j ≠ i' := fun z => by
          subst z
          rw [gi] at h1; cases h1
        rw [List.getElem?_set, if_neg fun z => hj z.symm] at h
        obtain ⟨v', w, s, g1, g2, g3⟩ := r.al j _ qs t h (.inl hi)
        rw [hv] at g1; cases g1
        obtain ⟨s', a'⟩ := al qs w s (hk _ _ rfl rfl) g3
        exact ⟨v, w, s', hv, g2, a'⟩
      · cases h) (by
      rintro _ s rfl e
      rw [gi] at e; cases e
      rw [hv]
      exact slok_tr.mpr ⟨F', r1, nd1, hf1⟩) (by
      rintro _ a rfl z
      exact (own a ((ow' a).mp z)).imp (fun m => ⟨_, rfl, (ownI_tr hi hv r0).mpr m⟩) id) (by rintro _ _ a rfl rfl _ _; rfl)
  obtain ⟨rp', oa, lkk, _⟩ := key
  have ownF : ∀ a ∈ F, OwnA H σ ρ a := fun a m => ⟨i, (ownI_tr hi hv r0).mpr m⟩
  refine ⟨n1.sub.trans sub, fun a o h t n => keep a o (n1.keep a o h t n) t (fun z => (n1.os a (ownF a z)).elim n fun y => by rw [h] at y; cases y), fun a z => (oa a z).elim (n1.os a) fun y => y.elim (fun y => .inr (n1.dom a y)) fun y => (hFl a y).1.symm, fun a z => n1.ls a (lkk a z), fun a z => n1.dom a (dom a z), fun a z => ?_, (fun z => nomatch z), rp'⟩
  rcases n1.fr a z with y | y
  · rcases fr a y with w | w | w
    · exact .inl w
    · exact .inr (.inl (n1.dom a w))
    · exact .inr ((n1.os a (ownF a w)).symm)
  · exact .inr y
@[simp] def setAp {α : Type} (l : List α) (n : Nat) (x : α) : List α := if n < l.length then l.set n x else l ++ [x]
theorem putF_zip {x : Str} {y : V} : ∀ {fs : List Str} {vs : List V} {n : Nat}, fs.Nodup → fs[n]? = some x → vs.length ≤ fs.length → n ≤ vs.length → putF x y (fs.zip vs) = fs.zip (setAp vs n y)
  | g :: fs, [], 0, _, e, _, _ => by
    simp only [List.getElem?_cons_zero, Option.some.injEq] at e
    subst e
    simp [putF]
  | g :: fs, v :: vs, 0, _, e, _, _ => by
    simp only [List.getElem?_cons_zero, Option.some.injEq] at e
    subst e
    simp [putF]
  | g :: fs, v :: vs, n + 1, hn, e, hl, hn2 => by
    simp only [List.getElem?_cons_succ] at e
    have ne : ¬ g = x := fun z => by
      subst z
      exact (List.nodup_cons.mp hn).1 (List.mem_of_getElem? e)
    have ih := putF_zip (y := y) (List.nodup_cons.mp hn).2 e (vs := vs) (by simp at hl; omega) (by simp at hn2; omega)
    simp only [List.zip_cons_cons, putF, if_neg ne, ih, setAp, List.length_cons, Nat.add_lt_add_iff_right]
    split <;> rfl
  | [], _, _, _, e, _, _ => by simp at e
  | _ :: _, [], _ + 1, _, _, _, h => by simp at h
theorem TRs.app {Hf H : Hp} {v : V} {t : Tr} {F' : List Addr} (h : TR Hf H v t F') : ∀ {vs : List V} {ts : List Tr} {F : List Addr}, TRs Hf H vs ts F → TRs Hf H (vs ++ [v]) (ts ++ [t]) (F ++ F')
  | _, _, _, .nil => by simpa using TRs.cons h .nil
  | _, _, _, .cons (F := A) (F' := B) a b => by rw [List.append_assoc]; exact .cons a (TRs.app h b)
end
section
variable {X : Cx} {G : Gx} {e a b : Expr} {es : List Expr} {f g : M D} {fs : M (List D)} {pos : Pos} {A B : Opd} {As : List Opd} {pn : List Nat} {σ : St} {ρ ρ1 : Rho} {Hf H Hf1 H1 : Hp}
@[simp] def sFldS (i : Nat) (c : Str) (n : Nat) (f : M Tr) : Rho → Fl := fun ρ => (sBnd f fun t ρ1 => match (ρ1[i]? : Option Sl) with
  | some (.tr (.nd (.ins c') ts)) => if c' = c ∧ n ≤ ts.length then .nx (killB (kPre []) i (ρ1.set i (.tr (.nd (.ins c) (setAp ts n t))))) else .bad
  | _ => .bad) ρ
theorem fs_fld (i : Nat) {x y c : Str} (n : Nat) {p1 tp : Pos} {f : M Tr} (hca : Tabz.cA = He.ga X.K) (cl : Cls X.K (He.ga X.K c)) (na : NoAttr X.K (He.ga X.K c) x) (hnd : (flds c).Nodup) (hx : (flds c)[n]? = some x) (hsm : (flds c).length < 1000) (he : PE X e (tN G f)) (hN : X.N[i]? = some y := by rfl) (hv : Vis X.env.scope y := by first | exact Or.inl rfl | exact Or.inr (Or.inl rfl) | exact Or.inr (Or.inr rfl)) (hd : (y == ("__debug__" : Str)) = false := by decide)
    (hcd : (y == ("__classdict__" : Str)) = false := by decide) (hs : swapsWith e (some (.Attribute (.Name y p1) x tp)) pos.line X.env = pure false := by rfl) : PS X (.Assign [.Attribute (.Name y p1) x tp] e pos) (tS G pn (sFldS i c n f)) := by
  refine (ps_fld (pe_var hN hv hd hcd) he hs).imp fun D σ H ⟨Hf, ρ, rp, af⟩ => ?_
  refine (stepSN rp af).mono fun v H1 ⟨t, F, Hf1, ρ1, n1, r, nd, hF, af1⟩ => ?_
  split at af1
  · rename_i c' ts e1
    split at af1
    · rename_i hc
      obtain ⟨rfl, hn⟩ := hc
      obtain ⟨u, F0, e2, r0, nd0, hf0⟩ := slok_tr' (n1.rp.sl i _ e1)
      cases r0 with
      | @nd p _ vs _ Fk hk hs =>
        have hk' := hk
        obtain ⟨hl, dx, hp⟩ := hk
        have hlen := hs.len
        refine ⟨_, e2, p, _, dx, _, rfl, by rw [← hca]; exact hp, cl, na, ?_, ?_⟩
        · rw [List.length_zip]; omega
        · rw [← hca, putF_zip (n := n) hnd hx hl (by omega)]
          have r0 : TR Hf1 H1 (.ref p) (.nd (.ins c') ts) (p :: Fk) := .nd hk' hs
          have own0 : ∀ b ∈ p :: Fk, OwnA H1 σ ρ1 b := fun b m => ⟨i, (ownI_tr e1 e2 r0).mpr m⟩
          have pF : p ∉ F := fun z => (hF p z).2.2 (own0 p List.mem_cons_self)
          obtain ⟨pk, ndk⟩ := List.nodup_cons.mp nd0
          have hup : ∀ b, b ≠ p → upd H1 p (.ins (Tabz.cA c') dx ((flds c').zip (setAp vs n v))) b = H1 b := fun b z => upd_ne z
          have rt : TR Hf1 (upd H1 p (.ins (Tabz.cA c') dx ((flds c').zip (setAp vs n v)))) v t F := r.mono (Same.refl _) fun b m => hup b fun z => pF (z ▸ m)
          have ndp : (upd H1 p (.ins (Tabz.cA c') dx ((flds c').zip (setAp vs n v)))) p = some (.ins (Tabz.cA c') dx ((flds c').zip (setAp vs n v))) := upd_same
          have hsl : (setAp vs n v).length ≤ (flds c').length := by
            have : n < (flds c').length := (List.getElem?_eq_some_iff.mp hx).1
            unfold setAp
            split
            · rw [List.length_set]; omega
            · rw [List.length_append, List.length_singleton]; omega
          have kids : ∃ Fn, TRs Hf1 (upd H1 p (.ins (Tabz.cA c') dx ((flds c').zip (setAp vs n v)))) (setAp vs n v) (setAp ts n t) Fn ∧ Fn.Nodup ∧ ∀ b ∈ Fn, b ∈ Fk ∨ b ∈ F := by
            by_cases hlt : n < ts.length
            · obtain ⟨L, M, R, eF, h1, st⟩ := TRs.set (s := t) hs (List.getElem?_eq_getElem (show n < vs.length by omega)) (List.getElem?_eq_getElem hlt)
              have sub : ∀ b, b ∈ L ∨ b ∈ R → b ∈ Fk := fun b z => by
                rw [eF]
                rcases z with z | z
                · exact List.mem_append_left _ z
                · exact List.mem_append_right _ (List.mem_append_right _ z)
              have z := st (Same.refl _) (fun b m => hup b fun y => pk (y ▸ sub b m)) rt
              have nd1 := ndk
              rw [eF] at nd1
              obtain ⟨n1', n2, n3, n4, n5⟩ := nodup_parts nd1
              have dj : ∀ b, b ∈ L ∨ b ∈ R → b ∉ F := fun b m y => (hF b y).2.2 (own0 b (List.mem_cons_of_mem _ (sub b m)))
              refine ⟨L ++ (F ++ R), ?_, ?_, fun b m => ?_⟩
              · simp only [setAp, if_pos hlt, if_pos (show n < vs.length by omega)]
                simp only [setAp, if_pos (show n < vs.length by omega)] at z
                exact z
              · rw [List.nodup_append, List.nodup_append]
                refine ⟨n3, ⟨nd, n4, fun b m c' mc ebc => ?_⟩, fun b m c' mc ebc => ?_⟩
                · subst ebc; exact dj b (.inr mc) m
                · subst ebc
                  rcases List.mem_append.mp mc with y | y
                  · exact dj b (.inl m) y
                  · exact n5 b m y
              · rcases List.mem_append.mp m with y | y
                · exact .inl (sub b (.inl y))
                · rcases List.mem_append.mp y with y | y
                  · exact .inr y
                  · exact .inl (sub b (.inr y))
            · have hs' : TRs Hf1 (upd H1 p (.ins (Tabz.cA c') dx ((flds c').zip (setAp vs n v)))) vs ts Fk := hs.mono (Same.refl _) fun b m => hup b fun y => pk (y ▸ m)
              have z := TRs.app rt hs'
              refine ⟨Fk ++ F, ?_, ?_, fun b m => (List.mem_append.mp m).imp id id⟩
              · simp only [setAp, if_neg hlt, if_neg (show ¬ n < vs.length by omega)]
                simp only [setAp, if_neg (show ¬ n < vs.length by omega)] at z
                exact z
              · rw [List.nodup_append]
                exact ⟨ndk, nd, fun b m c' mc ebc => by subst ebc; exact (hF b mc).2.2 (own0 b (List.mem_cons_of_mem _ m))⟩
          obtain ⟨Fn, k1, k2, k3⟩ := kids
          refine af1 σ Hf1 _ (n1.chgTF rp F hF (kPre []) e1 e2 r0 (Same.refl _) (fun b o z => ?_) (n1.rp.tb.setO hp (fun _ z => nomatch z) fun _ z => nomatch z) n1.rp.nt (fun b o h _ nb => ?_) (fun b h => ?_) (fun b h => .inl h) (.nd ⟨hsl, dx, ndp⟩ k1) ?_ (fun b m => ?_) (fun b m => ?_) (fun qs w s hk ha => ?_)) (.refl _ _)
          · rw [hup b fun y => by rw [y, hf0 p List.mem_cons_self] at z; cases z]; exact n1.rp.sub b o z
          · rw [hup b fun y => nb (y ▸ List.mem_cons_self)]; exact h
          · by_cases y : b = p
            · rw [y, ndp] at h; cases h
            · rw [hup b y] at h; exact h
          · refine List.nodup_cons.mpr ⟨fun y => (k3 p y).elim pk pF, k2⟩
          · rcases List.mem_cons.mp m with y | y
            · rw [y]; exact hf0 p List.mem_cons_self
            · exact (k3 b y).elim (fun z => hf0 b (List.mem_cons_of_mem _ z)) fun z => (hF b z).2.1
          · rcases List.mem_cons.mp m with y | y
            · exact .inl (by rw [y]; exact List.mem_cons_self)
            · exact (k3 b y).elim (fun z => .inl (List.mem_cons_of_mem _ z)) fun z => .inr (.inr z)
          · cases qs with
            | nil => cases ha; exact ⟨_, .nil⟩
            | cons m qs => cases hk
    · exact False.elim af1
  · exact False.elim af1
end
end Fx
namespace Fx
open PySem L2
variable [Tabz]
section
variable {q : Bool} {Hf Hf' H H' : Hp} {σ σ' : St} {ρ ρ' : Rho}
theorem TRs.apart : ∀ {vs : List V} {ts : List Tr} {F : List Addr} {n m : Nat} {v w : V} {t s : Tr} {M N : List Addr}, TRs Hf H vs ts F → F.Nodup → n ≠ m → vs[n]? = some v → ts[n]? = some t → vs[m]? = some w → ts[m]? = some s → TR Hf H v t M → TR Hf H w s N → ∀ a ∈ M, a ∉ N
  | _, _, _, 0, 0, _, _, _, _, _, _, _, _, hn, _, _, _, _, _, _ => absurd rfl hn
  | _, _, _, 0, m + 1, v, w, t, s, M, N, .cons (F := A) (F' := B) h r, nd, _, e1, e2, e3, e4, z1, z2 => by
    simp only [List.getElem?_cons_zero, Option.some.injEq, List.getElem?_cons_succ] at e1 e2 e3 e4
    subst e1 e2
    have eA := h.inj z1
    subst eA
    obtain ⟨L, N', R, eB, z3⟩ := TRs.get r e3 e4
    have eN := z2.inj z3
    subst eN
    rw [List.nodup_append] at nd
    exact fun a m1 m2 => nd.2.2 a m1 a (by rw [eB]; exact List.mem_append_right _ (List.mem_append_left _ m2)) rfl
  | _, _, _, n + 1, 0, v, w, t, s, M, N, .cons (F := A) (F' := B) h r, nd, _, e1, e2, e3, e4, z1, z2 => by
    simp only [List.getElem?_cons_zero, Option.some.injEq, List.getElem?_cons_succ] at e1 e2 e3 e4
    subst e3 e4
    have eA := h.inj z2
    subst eA
    obtain ⟨L, N', R, eB, z3⟩ := TRs.get r e1 e2
    have eN := z1.inj z3
    subst eN
    rw [List.nodup_append] at nd
    exact fun a m1 m2 => nd.2.2 a m2 a (by rw [eB]; exact List.mem_append_right _ (List.mem_append_left _ m1)) rfl
  | _, _, _, n + 1, m + 1, v, w, t, s, M, N, .cons (F := A) (F' := B) h r, nd, hn, e1, e2, e3, e4, z1, z2 => by
    simp only [List.getElem?_cons_succ] at e1 e2 e3 e4
    rw [List.nodup_append] at nd
    exact TRs.apart r nd.2.1 (fun z => hn (by rw [z])) e1 e2 e3 e4 z1 z2
  | _, _, _, 0, _ + 1, _, _, _, _, _, _, .nil, _, _, e1, _, _, _, _, _ => by simp at e1
  | _, _, _, _ + 1, _, _, _, _, _, _, _, .nil, _, _, e1, _, _, _, _, _ => by simp at e1
theorem At.leaf {es : List D} : ∀ {qs p2 : List Nat} {u w v : V} {t s : Tr} {ds : List D} {F : List Addr} {l : Addr}, At H u t qs w s → TR Hf H u t F → F.Nodup → At H u t p2 v (.ow ds) → v = .ref l → l ∈ F → (∀ a ∈ F, a ≠ l → H' a = H a) → ∃ s1, At H' u (t.put p2 (.ow es)) qs w s1
  | [], p2, u, w, v, t, s, ds, F, l, h, _, _, _, _, _, _ => by cases h; exact ⟨_, .nil⟩
  | n :: qs, [], u, w, v, t, s, ds, F, l, h, _, _, h2, _, _, _ => by cases h2; cases h
  | n :: qs, m :: p2, u, w, v, t, s, ds, F, l, h, r, nd, h2, ev, hl, hk => by
    cases h with
    | @cons p k vs ts _ v1 _ t1 _ _ a b c d =>
      cases h2 with
      | @cons _ _ _ _ _ v2 _ t2 _ _ a2 b2 c2 d2 =>
        have e := a.inj a2
        subst e
        cases r with
        | nd a3 r3 =>
          have e := a.inj a3
          subst e
          obtain ⟨ndp, ndk⟩ := List.nodup_cons.mp nd
          obtain ⟨L, M2, R, eF, r2⟩ := TRs.get r3 b2 c2
          obtain ⟨M', z, hM⟩ := r2.atv d2
          have lM : l ∈ M2 := by
            subst ev
            cases z with
            | ow _ _ => exact hM l (List.mem_singleton.mpr rfl)
          have lk : l ∈ _ := (eF ▸ List.mem_append_right L (List.mem_append_left R lM))
          have pl : p ≠ l := fun z => ndp (by rw [z, eF]; exact List.mem_append_right _ (List.mem_append_left _ lM))
          have hp : H' p = H p := hk p List.mem_cons_self pl
          have sub : ∀ {L' M' R' : List Addr} {F' : List Addr}, F' = L' ++ (M' ++ R') → ∀ x ∈ M', x ∈ F' := fun e x m => by rw [e]; exact List.mem_append_right _ (List.mem_append_left _ m)
          by_cases hnm : n = m
          · subst hnm
            rw [b] at b2; cases b2
            rw [c] at c2; cases c2
            have ndk' := ndk
            rw [eF] at ndk'
            obtain ⟨s1, z1⟩ := At.leaf (es := es) d r2 (nodup_parts ndk').1 d2 ev lM fun x m ne => hk x (List.mem_cons_of_mem _ (sub eF x m)) ne
            refine ⟨s1, ?_⟩
            simp only [Tr.put, c]
            exact .cons (a.of hp) b (by rw [List.getElem?_set, if_pos rfl, if_pos (List.getElem?_eq_some_iff.mp c).1]) z1
          · obtain ⟨L1, M1, R1, eF1, r1⟩ := TRs.get r3 b c
            have ap := TRs.apart r3 ndk hnm b c b2 c2 r1 r2
            have z1 := d.mono r1 fun x m => hk x (List.mem_cons_of_mem _ (sub eF1 x m)) fun z => ap x m (z ▸ lM)
            refine ⟨s, ?_⟩
            simp only [Tr.put, c2]
            exact .cons (a.of hp) b (by rw [List.getElem?_set, if_neg fun z => hnm z.symm]; exact c) z1
theorem killB_all {i : Nat} (ρ : Rho) : killB (fun _ => true) i ρ = ρ := by
  unfold killB
  have : (killS (fun _ => true) i) = id := by
    funext s
    cases s <;> simp [killS]
  rw [this, List.map_id]
@[simp] def owP (p : Pth) (ρ : Rho) : Option (List D) := match (ρ[p.1]? : Option Sl) with
  | some (.tr t) => (match t.at p.2 with
    | some (.ow ds) => some ds
    | _ => none)
  | _ => none
@[simp] def putP (p : Pth) (s : Tr) (ρ : Rho) : Rho := match (ρ[p.1]? : Option Sl) with
  | some (.tr t) => ρ.set p.1 (.tr (t.put p.2 s))
  | _ => ρ
theorem owP_at (rp : Rp Hf H σ ρ) {p : Pth} {ds : List D} (h : owP p ρ = some ds) {v : V} {s : Tr} (av : AtV H σ ρ p v s) : ∃ l vs, v = .ref l ∧ H l = some (.lst vs) ∧ RepA Hf vs ds ∧ Hf l = none ∧ ∀ {es : List D} {ws : List V}, RepA Hf ws es → Nxt false σ ρ Hf H σ (putP p (.ow es) ρ) Hf (upd H l (.lst ws)) := by
  unfold owP at h
  split at h
  · rename_i t e
    split at h
    · rename_i ds' e2
      cases h
      obtain ⟨u, t', e3, e4, a⟩ := av
      have et : t' = t := by
        rcases e4 with y | y
        · rw [e] at y; cases y; rfl
        · rw [e] at y; cases y
      subst et
      have es' := a.at
      rw [e2] at es'; cases es'
      obtain ⟨u', F, e5, r, nd, hf⟩ := slok_tr' (rp.sl _ _ e)
      rw [e3] at e5; cases e5
      obtain ⟨M, z, hM⟩ := r.atv a
      cases z with
      | @ow l vs _ h1 h2 =>
        have lF := hM l (List.mem_singleton.mpr rfl)
        refine ⟨l, vs, rfl, h1, h2, hf l lF, fun {es ws} rw' => ?_⟩
        have hne : ∀ b, b ≠ l → upd H l (.lst ws) b = H b := fun b z => upd_ne z
        obtain ⟨w, L, M, R, g1, g2, g3, g4⟩ := r.focus (s' := .ow es) e2
        obtain ⟨ew, _⟩ := a.inj g1
        subst ew
        have eM : M = [l] := by cases g3; rfl
        subst eM
        have nd' := nd
        rw [g2] at nd'
        have dj := (nodup_parts nd').2.1
        have r1 := g4 (Same.refl _) (fun b m => hne b fun z => dj b m (by rw [z]; exact List.mem_singleton.mpr rfl)) (.ow upd_same rw')
        have key := rp.chgT (fun _ => true) e e3 r (Same.refl _) (fun b o h => by rw [hne b fun z => by rw [z, hf l lF] at h; cases h]; exact rp.sub b o h) (rp.tb.set h1) rp.nt (fun b o h _ n => by rw [hne b fun z => n (z ▸ lF)]; exact h) (fun b h => by
          by_cases z : b = l
          · rw [z, upd_same] at h; cases h
          · rw [hne b z] at h; exact h) (fun b h => .inl h) r1 (by rw [← g2]; exact nd) (fun b m => hf b (by rw [g2]; exact m)) (fun b m => .inl (by rw [g2]; exact m)) (fun qs w s _ ha => At.leaf ha r nd a rfl lF fun b m ne => hne b ne)
        rw [killB_all] at key
        unfold putP
        rw [e]
        exact key
    · cases h
  · cases h
end
section
variable {X : Cx} {G : Gx} {e a b o : Expr} {es : List Expr} {f g : M D} {fs : M (List D)} {pos : Pos} {A B : Opd} {As : List Opd} {pn : List Nat} {σ : St} {ρ ρ1 : Rho} {Hf H Hf1 H1 : Hp}
theorem stepSP {D : Ends} {g : M Pth} {k : Pth → Rho → Fl} (rp : Rp Hf H σ ρ) (af : AfS G pn σ ρ Hf H D (sBnd g k ρ)) :
    tPl (qG G) g σ H fun y H1 => ∃ p s Hf1 ρ1, Nxt true σ ρ Hf H σ ρ1 Hf1 H1 ∧ AtV H1 σ ρ1 p y s ∧ AfS G pn σ ρ1 Hf1 H1 D (k p ρ1) := by
  refine ⟨Hf, ρ, rp, ?_⟩
  unfold sBnd at af
  cases e : g ρ with
  | ok p =>
    obtain ⟨b, ρ1⟩ := p
    rw [e] at af
    exact fun v s Hf1 H1 n a => ⟨b, s, Hf1, ρ1, n, a, af.later (Nxt.any n) (.refl _ _)⟩
  | exc c ρ1 => rw [e] at af; exact fun Hf' H' n => af σ Hf' H' (Nxt.any n) (.refl _ _)
  | bad => rw [e] at af; exact af
theorem stepSq {α β : Type} {R1 : Hp → β → α → Prop} {D : Ends} {g : M α} {k : α → Rho → Fl} (rp : Rp Hf H σ ρ) (af : AfS G pn σ ρ Hf H D (sBnd g k ρ)) :
    tG (qG G) R1 g σ H fun y H1 => ∃ b Hf1 ρ1, Nxt true σ ρ Hf H σ ρ1 Hf1 H1 ∧ R1 Hf1 y b ∧ AfS G pn σ ρ1 Hf1 H1 D (k b ρ1) := by
  refine ⟨Hf, ρ, rp, ?_⟩
  unfold sBnd at af
  cases e : g ρ with
  | ok p =>
    obtain ⟨b, ρ1⟩ := p
    rw [e] at af
    exact fun x Hf1 H1 n r => ⟨b, Hf1, ρ1, n, r, af.later (Nxt.any n) (.refl _ _)⟩
  | exc c ρ1 => rw [e] at af; exact fun Hf' H' n => af σ Hf' H' (Nxt.any n) (.refl _ _)
  | bad => rw [e] at af; exact af
@[simp] def sMutP {α : Type} (f : M Pth) (g : M α) (k : α → List D → Option (List D)) : Rho → Fl := fun ρ => (sBnd f fun p ρ => if (owP p ρ).isSome = true then sBnd g (fun x ρ1 => match owP p ρ1 with
    | some ds => (match k x ds with
      | some es => .nx (putP p (.ow es) ρ1)
      | none => .bad)
    | none => .bad) ρ else .bad) ρ
theorem fs_appendP {ap cp : Pos} {h : M Pth} (ho : PE X o (tPl (qG G) h)) (he : PE X e (tE (qG G) f)) (hbase : attributeBase o "append" X.env (eval o X.env) = eval o X.env := by rfl)
    (hfew : ((backTo cp (starEach [e] X.env)).all (fun x => !x.1) && (backToKw cp (keywordEach [] X.env)).all (fun x => x.1.isSome) && decide (([e] : List Expr).length + ([] : List Keyword).length + (if ([] : List Keyword).isEmpty then 0 else 1) < 30)) = true := by rfl)
    (hline : (ap.endLine == cp.line) = true := by rfl) (hs : starEach [e] X.env = (false, eval e X.env) :: starEach [] X.env := by rfl) (hplain : (backTo cp (starEach [] X.env)).any (·.1) = false := by rfl)
    (hsw : swapsWith (.Call (.Attribute o "append" ap) [e] [] cp) none pos.line X.env = pure false := by rfl) : PS X (.Expr (.Call (.Attribute o "append" ap) [e] [] cp) pos) (tS G pn (sMutP h f kAppend)) := by
  refine (ps_expr (pe_bm PySem.F.plainAttrs_list PySem.F.slot_list_append PySem.F.type_list_append mt_append ho (pa_cons he pa_nil hs) hbase hfew hline hs hplain) hsw).imp fun D σ H ⟨Hf, ρ, rp, af⟩ => ?_
  refine tPl.mono ?_ (stepSP rp af)
  rintro y H1 ⟨p, s, Hf1, ρ1, n1, av, af1⟩
  cases e0 : owP p ρ1 with
  | none => simp only [e0] at af1; exact False.elim af1
  | some ds0 =>
    simp only [e0, Option.isSome_some, if_true] at af1
    obtain ⟨l, vs0, rfl, h1, _⟩ := owP_at n1.rp e0 av
    refine ⟨.inl ⟨rfl, _, SqL.of h1⟩, (stepSq n1.rp af1).mono fun v H2 ⟨d, Hf2, ρ2, n2, ra, af2⟩ => ?_⟩
    have av2 := av.keep n1.rp n2
    cases e1 : owP p ρ2 with
    | none => simp only [e1] at af2; exact False.elim af2
    | some ds =>
      simp only [e1] at af2
      obtain ⟨l', vs, el, g1, g2, _, g3⟩ := owP_at n2.rp e1 av2
      cases el
      cases ek : kAppend d ds with
      | none => simp only [ek] at af2; exact False.elim af2
      | some es =>
        simp only [ek] at af2
        unfold kAppend at ek
        split at ek
        · rename_i hsm
          cases ek
          exact ⟨l, vs, v, rfl, rfl, g1, by rw [repA_len g2]; exact small_lt hsm, af2 σ Hf2 _ (g3 (repA_append g2 (.cons ra .nil))) (.refl _ _)⟩
        · cases ek
@[simp] def fPopP (f : M Pth) : M D := fun ρ => (bnd f fun p ρ => match owP p ρ with
  | some ds => (match ds.getLast? with
    | some d => .ok (d, putP p (.ow ds.dropLast) ρ)
    | none => .bad)
  | none => .bad) ρ
@[simp] def lkP (p : Pth) (ρ : Rho) : Option (List D) := match (ρ[p.1]? : Option Sl) with
  | some (.lk t) => (match t.at p.2 with
    | some (.ow ds) => some ds
    | _ => none)
  | _ => none
theorem lkP_at (rp : Rp Hf H σ ρ) {p : Pth} {ds : List D} (h : lkP p ρ = some ds) {v : V} {s : Tr} (av : AtV H σ ρ p v s) : ∃ l vs, v = .ref l ∧ H l = some (.lst vs) ∧ RepA Hf vs ds ∧ LkA H σ ρ l := by
  unfold lkP at h
  split at h
  · rename_i t e
    split at h
    · rename_i ds' e2
      cases h
      obtain ⟨u, t', e3, e4, a⟩ := av
      have et : t' = t := by
        rcases e4 with y | y
        · rw [e] at y; cases y
        · rw [e] at y; cases y; rfl
      subst et
      have es' := a.at
      rw [e2] at es'; cases es'
      obtain ⟨u', F, e5, r⟩ := slok_lk' (rp.sl _ _ e)
      rw [e3] at e5; cases e5
      obtain ⟨M, z, hM⟩ := r.atv a
      cases z with
      | @ow l vs _ h1 h2 => exact ⟨l, vs, rfl, h1, h2, ⟨_, _, _, Hf, F, e, e3, r, hM l (List.mem_singleton.mpr rfl)⟩⟩
    · cases h
  · cases h
@[simp] def fItP (f : M Pth) : M (List D) := fun ρ => (bnd f fun p ρ => match lkP p ρ with
  | some ds => .ok (ds, ρ)
  | none => .bad) ρ
theorem iter_lk {K : PySem.W.Frag} {l : Addr} {vs : List V} {ds : List D} (rp : Rp Hf H σ ρ) (h : H l = some (.lst vs)) (r : RepA Hf vs ds) (lk : LkA H σ ρ l) : IterOk σ ρ Hf H (Itl K l) ds := by
  intro i Hf1 H1 σ1 ρ1 nn
  have hq : SqL K H1 l vs := SqL.of (nn.keep l _ h NT.lst (rp.lk l lk))
  refine ⟨fun d e => ?_, fun hl => ⟨vs, hq, by rw [repA_len r]; exact hl⟩⟩
  obtain ⟨v, e1, r1⟩ := repA_get r e
  refine ⟨⟨vs, v, hq, e1⟩, fun x H' ⟨eh, hx⟩ => ?_⟩
  subst eh
  have z := hx vs hq
  rw [e1] at z
  cases z
  exact ⟨Hf1, .refl nn.rp, rep_same nn.sub r1⟩
variable {tg : Expr}
theorem fi_listP {h : M Pth} (ho : PE X e (tPl G h)) : PI X tg e (tI G (fItP h)) := by
  refine (pi_list ho).imp fun σ H R ⟨Hf, ρ, rp, af⟩ => ?_
  refine tPl.mono ?_ (stepPP (P := fun ρ Hf H o => AfI G σ ρ Hf H R o) (fun n q => q.later n) (fun q => q) (fun q => q) rp af)
  rintro y H1 ⟨p, s, Hf1, ρ1, n1, av, af1⟩
  cases e0 : lkP p ρ1 with
  | none => simp only [e0] at af1; exact False.elim af1
  | some ds =>
    simp only [e0] at af1
    obtain ⟨l, vs, rfl, g1, g2, g3⟩ := lkP_at n1.rp e0 av
    exact ⟨l, rfl, ⟨_, SqL.of g1⟩, af1 _ Hf1 H1 (.refl n1.rp) (iter_lk n1.rp g1 g2 g3)⟩
@[simp] def fItPE (f : M Pth) : M (List D) := fun ρ => (bnd f fun p ρ => match lkP p ρ with
  | some ds => .ok (enumD ds, ρ)
  | none => .bad) ρ
end
end Fx
namespace Fx
open PySem L2
variable [Tabz]
theorem u2s {k : Nat} {Z U : Around} (hr : Room k Z) (h : U.units = Z.units := by rfl) : U.units + 1 < cLine := by have := u64s hr h; omega
section
variable {κ : Type} [DecidableEq κ]
def lkK {α : Type} : List κ → List α → κ → Option α
  | k :: ks, d :: ds, x => if k = x then some d else lkK ks ds x
  | _, _, _ => none
def repK {α : Type} (ks : List κ) (ds : List α) (k : κ) (d : α) : List α := List.zipWith (fun k' d' => if k' = k then d else d') ks ds
def ptK {α : Type} (ks : List κ) (ds : List α) (k : κ) (d : α) : List κ × List α := if k ∈ ks then (ks, repK ks ds k d) else (ks ++ [k], ds ++ [d])
theorem valV_zip {k : κ} : ∀ {ks : List κ} {vs : List V}, valV (ks.zip vs) k = lkK ks vs k
  | [], vs => by simp [lkK, valV]
  | _ :: _, [] => by simp [lkK, valV]
  | c :: ks, v :: vs => by
    by_cases h : c = k
    · subst h; rw [List.zip_cons_cons, valV_pos rfl]; simp [lkK]
    · rw [List.zip_cons_cons, valV_neg (by simpa using h), valV_zip]; simp [lkK, h]
theorem lkK_rep {Hf : Hp} {k : κ} : ∀ {ks : List κ} {vs : List V} {ds : List D}, RepA Hf vs ds → (lkK ks vs k = none ∧ lkK ks ds k = none) ∨ ∃ v d, lkK ks vs k = some v ∧ lkK ks ds k = some d ∧ Rep Hf v d
  | [], _, _, _ => .inl ⟨by simp [lkK], by simp [lkK]⟩
  | _ :: _, _, _, .nil => .inl ⟨by simp [lkK], by simp [lkK]⟩
  | c :: ks, v :: vs, d :: ds, .cons h r => by
    by_cases e : c = k
    · exact .inr ⟨v, d, by simp [lkK, e], by simp [lkK, e], h⟩
    · rcases lkK_rep (ks := ks) (k := k) r with ⟨a, b⟩ | ⟨v', d', a, b, c'⟩
      · exact .inl ⟨by simp [lkK, e, a], by simp [lkK, e, b]⟩
      · exact .inr ⟨v', d', by simp [lkK, e, a], by simp [lkK, e, b], c'⟩
theorem repK_rep {Hf : Hp} {k : κ} {v : V} {d : D} (rd : Rep Hf v d) : ∀ {ks : List κ} {vs : List V} {ds : List D}, RepA Hf vs ds → RepA Hf (repK ks vs k v) (repK ks ds k d)
  | [], _, _, _ => by simp [repK]; exact .nil
  | _ :: _, _, _, .nil => by simp [repK]; exact .nil
  | c :: ks, _, _, .cons h r => by
    have ih := repK_rep rd (ks := ks) (k := k) r
    simp only [repK, List.zipWith_cons_cons]
    refine .cons ?_ ih
    by_cases e : c = k
    · simp only [e, if_true]; exact rd
    · simp only [e, if_false]; exact h
theorem repK_len {α : Type} {ks : List κ} {ds : List α} {k : κ} {d : α} (h : ks.length = ds.length) : (repK ks ds k d).length = ds.length := by simp [repK, h]
theorem map_zip {k : κ} {v : V} : ∀ {ks : List κ} {vs : List V}, (ks.zip vs).map (fun kv => if kv.1 = k then (kv.1, v) else kv) = ks.zip (repK ks vs k v)
  | [], _ => by simp [repK]
  | _ :: _, [] => by simp [repK]
  | c :: ks, w :: vs => by
    have ih := map_zip (k := k) (v := v) (ks := ks) (vs := vs)
    simp only [repK] at ih
    simp only [List.zip_cons_cons, List.map_cons, repK, List.zipWith_cons_cons, ih]
    by_cases e : c = k <;> simp [e]
theorem putK_zip {k : κ} {v : V} {ks : List κ} {vs : List V} (h : ks.length = vs.length) : putK (ks.zip vs) k v = (ptK ks vs k v).1.zip (ptK ks vs k v).2 := by
  have mem : ((ks.zip vs).any fun kv => decide (kv.1 = k)) = true ↔ k ∈ ks := by
    rw [List.any_eq_true]
    constructor
    · rintro ⟨p, m, e⟩
      have := of_decide_eq_true e
      rw [← this]
      exact (List.of_mem_zip m).1
    · intro m
      obtain ⟨i, hi⟩ := List.getElem?_of_mem m
      have hl : i < ks.length := (List.getElem?_eq_some_iff.mp hi).1
      refine ⟨(k, vs[i]), List.mem_of_getElem? (i := i) ?_, by simp⟩
      rw [List.getElem?_zip_eq_some]
      exact ⟨hi, List.getElem?_eq_getElem (by omega)⟩
  unfold putK ptK
  by_cases m : k ∈ ks
  · rw [if_pos (mem.mpr m), if_pos m]; exact map_zip
  · rw [if_neg (fun z => m (mem.mp z)), if_neg m, List.zip_append h]; rfl
theorem ptK_rep {Hf : Hp} {k : κ} {v : V} {d : D} {ks : List κ} {vs : List V} {ds : List D} (rd : Rep Hf v d) (r : RepA Hf vs ds) (h : ks.length = vs.length) : (ptK ks vs k v).1 = (ptK ks ds k d).1 ∧ RepA Hf (ptK ks vs k v).2 (ptK ks ds k d).2 ∧ (ptK ks vs k v).1.length = (ptK ks vs k v).2.length := by
  unfold ptK
  by_cases m : k ∈ ks
  · rw [if_pos m, if_pos m]; exact ⟨rfl, repK_rep rd r, by rw [repK_len h]; exact h⟩
  · rw [if_neg m, if_neg m]; exact ⟨rfl, repA_append r (.cons rd .nil), by simp [h]⟩
end
def keyT : PyData → Option (List Key)
  | .tuple ds => ds.mapM unkD
  | _ => none
section
variable {Hf H : Hp} {σ : St} {ρ : Rho}
theorem unkD_rep {v : V} {d : D} {k : Key} (r : Rep Hf v d) (e : unkD d = some k) : v = kV k := by
  cases d <;> simp only [unkD, Option.some.injEq, reduceCtorEq] at e <;> subst e <;> cases r <;> rfl
theorem mapM_cons' {α β : Type} (f : α → Option β) (a : α) (as : List α) : (a :: as).mapM f = (match f a with
    | some b => (match as.mapM f with
      | some bs => some (b :: bs)
      | none => none)
    | none => none) := by
  rw [List.mapM_cons]
  cases f a with
  | none => rfl
  | some b => cases as.mapM f <;> rfl
theorem keys_rep : ∀ {vs : List V} {ds : List D} {ks : List Key}, RepA Hf vs ds → ds.mapM unkD = some ks → vs = ks.map kV
  | _, [], ks, .nil, e => by cases e; rfl
  | _, d :: ds, ks, .cons h r, e => by
    rw [mapM_cons'] at e
    cases e1 : unkD d with
    | none => rw [e1] at e; cases e
    | some k =>
      rw [e1] at e
      dsimp only at e
      cases e2 : ds.mapM unkD with
      | none => rw [e2] at e; cases e
      | some ks' =>
        rw [e2] at e; cases e
        rw [List.map_cons, unkD_rep h e1, keys_rep r e2]
@[simp] def dkAt (i : Nat) (ρ : Rho) : Option (List Key × List D) := match (ρ[i]? : Option Sl) with
  | some (.tr (.dk ks ds)) => some (ks, ds)
  | _ => none
@[simp] def dtAt (i : Nat) (ρ : Rho) : Option (List (List Key) × List D) := match (ρ[i]? : Option Sl) with
  | some (.tr (.dt ks ds)) => some (ks, ds)
  | _ => none
theorem dkAt_ok (rp : Rp Hf H σ ρ) {i : Nat} {ks : List Key} {ds : List D} (h : dkAt i ρ = some (ks, ds)) : ∃ p vs, ρ[i]? = some (.tr (.dk ks ds)) ∧ σ[i]? = some (some (.ref p)) ∧ H p = some (.dK (ks.zip vs)) ∧ ks.length = vs.length ∧ RepA Hf vs ds ∧ Hf p = none := by
  unfold dkAt at h
  split at h
  · rename_i e; cases h
    obtain ⟨v, F, e1, r, _, hf⟩ := slok_tr' (rp.sl i _ e)
    cases r with
    | dk h1 h2 h3 => exact ⟨_, _, e, e1, h1, h2, h3, hf _ (List.mem_singleton.mpr rfl)⟩
  · cases h
theorem Rp.chgD (rp : Rp Hf H σ ρ) {i : Nat} {t t' : Tr} {p : Addr} {o o' : HO} (hi : ρ[i]? = some (.tr t)) (hv : σ[i]? = some (some (.ref p))) (r0 : TR Hf H (.ref p) t [p]) (hp : H p = some o) (ho : NT o) (hx : ∀ φ, o ≠ .ext φ) (hfp : Hf p = none) (r1 : TR Hf (upd H p o') (.ref p) t' [p]) (nl : ∀ k ts, t ≠ .nd k ts) : Nxt false σ ρ Hf H σ (ρ.set i (.tr t')) Hf (upd H p o') := by
  have hne : ∀ b, b ≠ p → upd H p o' b = H b := fun b z => upd_ne z
  have key := rp.chgT (fun _ => true) hi hv r0 (Same.refl _) (fun b o h => by rw [hne b fun z => by rw [z, hfp] at h; cases h]; exact rp.sub b o h) (rp.tb.setO hp ho hx) rp.nt (fun b o h _ n => by rw [hne b fun z => n (by rw [z]; exact List.mem_singleton.mpr rfl)]; exact h) (fun b h => by
    by_cases z : b = p
    · rw [z, upd_same] at h; cases h
    · rw [hne b z] at h; exact h) (fun b h => .inl h) r1 (List.nodup_cons.mpr ⟨List.not_mem_nil, List.nodup_nil⟩) (fun b m => by rw [List.mem_singleton] at m; rw [m]; exact hfp) (fun b m => .inl m) (fun qs w s _ ha => by
      cases ha with
      | nil => exact ⟨_, .nil⟩
      | cons _ _ _ _ => exact absurd rfl (nl _ _))
  rw [killB_all] at key
  exact key
end
section
variable {X : Cx} {G : Gx} {e a b o : Expr} {es : List Expr} {f g h : M D} {pos p1 : Pos} {pn : List Nat} {σ : St} {ρ ρ1 : Rho} {Hf H Hf1 H1 : Hp} {x : Str}
theorem newD {Q : VK} {t : Tr} {p : Addr} {o : HO} (rp : Rp Hf H σ ρ) (af : AfN G σ ρ Hf H Q (.ok (t, ρ))) (hp : H p = none) (r : TR Hf (upd H p o) (.ref p) t [p]) : Q (.ref p) (upd H p o) :=
  af _ [p] Hf _ (rp.newO hp) r (List.nodup_cons.mpr ⟨List.not_mem_nil, List.nodup_nil⟩) fun a m => by
    rw [List.mem_singleton] at m; subst m
    exact ⟨.inl hp, rp.sub.free hp, rp.notOwnU hp⟩
theorem fn_dK : PE X (.Dict [] [] pos) (tN G (ret (.dk [] []))) := pe_dnewK.imp fun σ H Q ⟨Hf, ρ, rp, af⟩ p hp => newD rp af hp (.dk (vs := []) (by rw [upd_same]; rfl) rfl .nil)
@[simp] def fDinT (f : M D) (i : Nat) : M D := fun ρ => (bnd f fun d ρ => match dtAt i ρ with
  | some (ks, ds) => (match keyT d with
    | some k => .ok (.bool (lkK ks ds k).isSome, ρ)
    | none => .bad)
  | none => .bad) ρ
@[simp] def sDputT (i : Nat) (f g : M D) : Rho → Fl := fun ρ => (sBnd f fun d ρ => if (dtAt i ρ).isSome = true then sBnd g (fun k ρ => match dtAt i ρ with
  | some (ks, ds) => (match keyT k with
    | some k => if small ks.length = true then .nx (ρ.set i (.tr (.dt (ptK ks ds k d).1 (ptK ks ds k d).2))) else .bad
    | none => .bad)
  | none => .bad) ρ else .bad) ρ
@[simp] def sDputK (i : Nat) (f g : M D) : Rho → Fl := fun ρ => (sBnd f fun d ρ => if (dkAt i ρ).isSome = true then sBnd g (fun k ρ => match dkAt i ρ with
  | some (ks, ds) => (match unkD k with
    | some k => if small ks.length = true then .nx (ρ.set i (.tr (.dk (ptK ks ds k d).1 (ptK ks ds k d).2))) else .bad
    | none => .bad)
  | none => .bad) ρ else .bad) ρ
theorem fs_dputK (i : Nat) {tp : Pos} (hu : X.A.units + 1 < cLine) (hv : PE X e (tE G f)) (hk : PE X b (tE G g)) (hs : swapsWith e (some (.Subscript (.Name x p1) b tp)) pos.line X.env = pure false := by rfl) (hN : X.N[i]? = some x := by rfl) (hvi : Vis X.env.scope x := by first | exact Or.inl rfl | exact Or.inr (Or.inl rfl) | exact Or.inr (Or.inr rfl)) (hd : (x == ("__debug__" : Str)) = false := by decide)
    (hcd : (x == ("__classdict__" : Str)) = false := by decide) : PS X (.Assign [.Subscript (.Name x p1) b tp] e pos) (tS G pn (sDputK i f g)) := by
  refine (ps_dput hu (pe_var hN hvi hd hcd) hk hv hs).imp fun D σ H ⟨Hf, ρ, rp, af⟩ => ?_
  refine (stepS rp af).mono fun v H1 ⟨d, Hf1, ρ1, n1, ra, af1⟩ => ?_
  cases e0 : dkAt i ρ1 with
  | none => simp only [e0] at af1; exact False.elim af1
  | some kd0 =>
    simp only [e0, Option.isSome_some, if_true] at af1
    obtain ⟨p, vs0, _, s0, _⟩ := dkAt_ok (ks := kd0.1) (ds := kd0.2) n1.rp e0
    refine ⟨_, s0, (stepS n1.rp af1).mono fun y H2 ⟨k, Hf2, ρ2, n2, rk, af2⟩ => ?_⟩
    cases e1 : dkAt i ρ2 with
    | none => simp only [e1] at af2; exact False.elim af2
    | some kd =>
      obtain ⟨ks, ds⟩ := kd
      simp only [e1] at af2
      cases e2 : unkD k with
      | none => simp only [e2] at af2; exact False.elim af2
      | some kk =>
        simp only [e2] at af2
        split at af2
        · rename_i hsm
          obtain ⟨p', vs, h1, h2, h3, h4, h5, h6⟩ := dkAt_ok n2.rp e1
          rw [s0] at h2; cases h2
          rw [unkD_rep rk e2]
          obtain ⟨q1, q2, q3⟩ := ptK_rep (k := kk) (rep_same n2.sub ra) h5 h4
          refine ⟨p, _, rfl, DPut.k h3 (by rw [List.length_zip, ← h4, Nat.min_self]; exact small_lt hsm), ?_⟩
          rw [putK_zip h4]
          refine af2 σ Hf2 _ (n2.rp.chgD h1 s0 (.dk h3 h4 h5) h3 (fun _ z => nomatch z) (fun _ z => nomatch z) h6 ?_ (fun _ _ z => nomatch z)) (.refl _ _)
          rw [← q1]
          exact .dk upd_same q3 q2
        · exact False.elim af2
@[simp] def fDget2 (i : Nat) (f g : M D) : M D := fun ρ => if (dkAt i ρ).isSome = true then bnd f (fun k => bnd g fun z ρ => match dkAt i ρ with
  | some (ks, ds) => (match unkD k with
    | some k => .ok ((lkK ks ds k).getD z, ρ)
    | none => .bad)
  | none => .bad) ρ else .bad
theorem fe_dget2 (i : Nat) {ap cp : Pos} (hu : X.A.units + 1 < cLine) (ha : PE X a (tE G f)) (hb : PE X b (tE G g)) (m : M2 X (.Name x p1) "get" ap a b cp := by exact ⟨rfl, rfl, rfl, rfl⟩) (hN : X.N[i]? = some x := by rfl) (hv : Vis X.env.scope x := by first | exact Or.inl rfl | exact Or.inr (Or.inl rfl) | exact Or.inr (Or.inr rfl)) (hd : (x == ("__debug__" : Str)) = false := by decide)
    (hcd : (x == ("__classdict__" : Str)) = false := by decide) : PE X (.Call (.Attribute (.Name x p1) "get" ap) [a, b] [] cp) (tE G (fDget2 i f g)) := by
  refine (pe_dget2 hu (pe_var hN hv hd hcd) ha hb m).imp fun σ H Q ⟨Hf, ρ, rp, af⟩ => ?_
  unfold fDget2 at af
  cases e0 : dkAt i ρ with
  | none => simp only [e0] at af; exact False.elim af
  | some kd0 =>
    simp only [e0, Option.isSome_some, if_true] at af
    obtain ⟨p, vs0, _, s0, h0, _⟩ := dkAt_ok (ks := kd0.1) (ds := kd0.2) rp e0
    refine ⟨_, s0, p, rfl, .inl ⟨_, .of h0⟩, (step rp af).mono fun y H1 ⟨k, Hf1, ρ1, n1, rk, af1⟩ => (step n1.rp af1).mono fun z H2 ⟨zd, Hf2, ρ2, n2, rz, af2⟩ => ?_⟩
    cases e1 : dkAt i ρ2 with
    | none => simp only [e1] at af2; exact False.elim af2
    | some kd =>
      obtain ⟨ks, ds⟩ := kd
      simp only [e1] at af2
      cases e2 : unkD k with
      | none => simp only [e2] at af2; exact False.elim af2
      | some kk =>
        simp only [e2] at af2
        obtain ⟨p', vs, h1, h2, h3, h4, h5, h6⟩ := dkAt_ok n2.rp e1
        rw [s0] at h2; cases h2
        rw [unkD_rep rk e2]
        refine ⟨_, DGet.k h3, ?_⟩
        rw [valV_zip]
        rcases lkK_rep (ks := ks) (k := kk) h5 with ⟨a1, b1⟩ | ⟨v', d', a1, b1, c1⟩
        · rw [a1]; rw [b1] at af2; exact af2 z Hf2 H2 (.refl n2.rp) rz
        · rw [a1]; rw [b1] at af2; exact af2 v' Hf2 H2 (.refl n2.rp) c1
@[simp] def fDgetK (i : Nat) (f : M D) : M D := fun ρ => if (dkAt i ρ).isSome = true then bnd f (fun k ρ => match dkAt i ρ with
  | some (ks, ds) => (match (unkD k).bind (lkK ks ds) with
    | some d => .ok (d, ρ)
    | none => .bad)
  | none => .bad) ρ else .bad
theorem fe_dgetK (i : Nat) (hu : X.A.units + 1 < cLine) (ha : PE X a (tE G f)) (hs : NoSl a := by exact fun _ _ => rfl) (hN : X.N[i]? = some x := by rfl) (hv : Vis X.env.scope x := by first | exact Or.inl rfl | exact Or.inr (Or.inl rfl) | exact Or.inr (Or.inr rfl)) (hd : (x == ("__debug__" : Str)) = false := by decide)
    (hcd : (x == ("__classdict__" : Str)) = false := by decide) : PE X (.Subscript (.Name x p1) a pos) (tE G (fDgetK i f)) := by
  refine (pe_dget hu (pe_var hN hv hd hcd) ha hs).imp fun σ H Q ⟨Hf, ρ, rp, af⟩ => ?_
  unfold fDgetK at af
  cases e0 : dkAt i ρ with
  | none => simp only [e0] at af; exact False.elim af
  | some kd0 =>
    simp only [e0, Option.isSome_some, if_true] at af
    obtain ⟨p, vs0, _, s0, h0, _⟩ := dkAt_ok (ks := kd0.1) (ds := kd0.2) rp e0
    refine ⟨_, s0, (step rp af).mono fun y H1 ⟨k, Hf1, ρ1, n1, rk, af1⟩ => ?_⟩
    cases e1 : dkAt i ρ1 with
    | none => simp only [e1] at af1; exact False.elim af1
    | some kd =>
      obtain ⟨ks, ds⟩ := kd
      simp only [e1] at af1
      cases e2 : unkD k with
      | none => simp only [e2, Option.bind_none] at af1; exact False.elim af1
      | some kk =>
        simp only [e2, Option.bind_some] at af1
        obtain ⟨p', vs, h1, h2, h3, h4, h5, h6⟩ := dkAt_ok n1.rp e1
        rw [s0] at h2; cases h2
        rw [unkD_rep rk e2]
        rcases lkK_rep (ks := ks) (k := kk) h5 with ⟨a1, b1⟩ | ⟨v', d', a1, b1, c1⟩
        · rw [b1] at af1; exact False.elim af1
        · rw [b1] at af1
          refine ⟨p, v', rfl, ?_, af1 v' Hf1 H1 (.refl n1.rp) c1⟩
          have := DGet.k (k := kk) h3
          rw [valV_zip, a1] at this
          exact this
def keysI : List Key → Option (List Int)
  | [] => some []
  | .inl i :: ks => (keysI ks).map (i :: ·)
  | .inr _ :: _ => none
theorem keysI_map : ∀ {ks : List Key} {ns : List Int}, keysI ks = some ns → ks = ns.map Sum.inl
  | [], ns, h => by cases h; rfl
  | .inl i :: ks, ns, h => by
    simp only [keysI] at h
    cases e : keysI ks with
    | none => rw [e] at h; cases h
    | some ms => rw [e] at h; cases h; rw [keysI_map e]; rfl
  | .inr _ :: _, ns, h => by cases h
@[simp] noncomputable def fSortD (i : Nat) : M (List D) := fun ρ => match dkAt i ρ with
  | some (ks, _) => (match keysI ks with
    | some ns => if ns.length < 64 then .ok ((sortI ns).map PyData.int, ρ) else .bad
    | none => .bad)
  | none => .bad
theorem fl_sortD (i : Nat) {p : Pos} (hc : X.calm = true) (hg : Gl X "sorted") (hm : X.mg "sorted" = none) (hN : X.N[i]? = some x := by rfl) (hv : Vis X.env.scope x := by first | exact Or.inl rfl | exact Or.inr (Or.inl rfl) | exact Or.inr (Or.inr rfl)) (hd : (x == ("__debug__" : Str)) = false := by decide)
    (hcd : (x == ("__classdict__" : Str)) = false := by decide) (he : starEach [.Name x p1] X.env = (false, eval (.Name x p1) X.env) :: starEach [] X.env := by rfl) (hpl : (backTo pos (starEach [] X.env)).any (·.1) = false := by rfl) : PE X (.Call (.Name "sorted" p) [.Name x p1] [] pos) (tL G (fSortD i)) := by
  refine (pe_callB (call_sortedDI hc) hg hm (by decide +kernel) (pa_cons (pe_var hN hv hd hcd) pa_nil he) (by decide) (by decide) he hpl).imp fun σ H Q ⟨Hf, ρ, rp, af⟩ => ?_
  unfold fSortD at af
  cases e0 : dkAt i ρ with
  | none => rw [e0] at af; exact False.elim af
  | some kd =>
    obtain ⟨ks, ds⟩ := kd
    rw [e0] at af
    dsimp only at af
    cases e1 : keysI ks with
    | none => rw [e1] at af; exact False.elim af
    | some ns =>
      rw [e1] at af
      dsimp only at af
      split at af
      · rename_i hl
        obtain ⟨p, vs, _, s0, h3, h4, _⟩ := dkAt_ok rp e0
        refine ⟨_, s0, p, _, ns, rfl, .of h3, ?_, hl, fun ys q pm pw hq => ?_⟩
        · rw [List.map_fst_zip (by omega), keysI_map e1]
        · have ey : ys = sortI ns := perm_sorted_eq (pm.trans (sortI_perm ns).symm) pw (sortI_pw ns)
          rw [ey]
          exact finL rp af hq (repA_ints _)
      · exact False.elim af
end
end Fx
namespace Mm
open PySem L2 Fx
variable [Tabz]
end Mm
namespace Fx
open PySem L2
variable [Tabz]
section
variable {X : Cx} {G : Gx} {a b : Expr} {rest : List Expr} {f g : M D} {pos : Pos}
def orS (d : D) (g : M D) : M D := match d with
  | .str y => if y.length ≤ 100000 then (if ((y.length : Int) != 0) = true then ret (.str y) else g) else fun _ => .bad
  | _ => fun _ => .bad
@[simp] def vOrS (f g : M D) : M D := fun ρ => (bnd f fun d => orS d g) ρ
end
end Fx
namespace Fx
open PySem PySem.Spec PyProof.Rows L2
section
variable {X : Cx}
theorem nd_sub {α : Type} [DecidableEq α] : ∀ (l D : List α), l.Nodup → (∀ x ∈ l, x ∈ D) → l.length ≤ D.length
  | [], _, _, _ => Nat.zero_le _
  | a :: l, D, h, hs => by
    rw [List.nodup_cons] at h
    have ha := hs a List.mem_cons_self
    have ih := nd_sub l (D.erase a) h.2 fun x hx => (List.mem_erase_of_ne (fun e => h.1 (by rw [← e]; exact hx))).mpr (hs x (List.mem_cons_of_mem _ hx))
    rw [List.length_erase_of_mem ha] at ih
    have := List.length_pos_of_mem ha
    simp only [List.length_cons]
    omega
end
end Fx
namespace Fx
open PySem L2
variable [Tabz]
section
variable {X : Cx} {G Ga : Gx} {e a b o : Expr} {es : List Expr} {f g : M PyData} {pos p apos : Pos} {pn : List Nat} {σ : St} {ρ ρ1 ρ2 : Rho} {Hf H Hf1 H1 Hf2 H2 Hf' H' : Hp} {Q : VK} {As : List Ag} {A : Ag} {vs : List V} {avs : List AgV} {x : Str} {k : Nat} {ps : List Str}
@[simp] def zAr (a : AgV) (ρ : Rho) : Option PyData := match arOf a ρ with
  | some (.d d) => some d
  | some (.l t) => frzT t
  | _ => none
@[simp] def zArs : List AgV → Rho → Option (List PyData)
  | [], _ => some []
  | a :: as, ρ => match zAr a ρ with
    | some x => (zArs as ρ).map (x :: ·)
    | none => none
@[simp] def callZM (F : List PyData → Out Rt) (avs : List AgV) : M Rt := fun ρ => match zArs avs ρ with
  | some xs => (match F xs with
    | .ok (.fz d) => if (sc d).isSome then .ok (.fz d, ρ) else .bad
    | .ok _ => .bad
    | .exc c => .exc c ρ
    | .bad => .bad)
  | none => .bad
@[simp] def fCallZ (F : List PyData → Out Rt) (As : List Ag) : M PyData := fun ρ => (fR (fun ρ => bnd (goT As) (callZM F) ρ)) ρ
theorem pl_q {f : M Pth} (h : PE X e (tPl (qG G) f)) : PE X e (tPl G f) := h.imp fun σ H Q ⟨Hf, ρ, rp, af⟩ => ⟨Hf, ρ, rp, by
  cases e1 : f ρ with
  | ok x => obtain ⟨d, ρ1⟩ := x; rw [e1] at af; exact fun v s Hf' H' n a => af v s Hf' H' (Nxt.qto n) a
  | exc c ρ1 => rw [e1] at af; exact fun Hf' H' n => af Hf' H' (Nxt.qto n)
  | bad => rw [e1] at af; exact af⟩
theorem pO {f : M Pth} (h : PE X a (tPl G f)) : PE X a ((Opd.p f).t G) := h
theorem fl_q {f : M (List PyData)} (h : PE X e (tL (qG G) f)) : PE X e (tL G f) := h.imp fun σ H Q ⟨Hf, ρ, rp, af⟩ => ⟨Hf, ρ, rp, by
  cases e1 : f ρ with
  | ok x => obtain ⟨d, ρ1⟩ := x; rw [e1] at af; exact fun p vs Hf' H' n => af p vs Hf' H' (Nxt.qto n)
  | exc c ρ1 => rw [e1] at af; exact fun Hf' H' n => af Hf' H' (Nxt.qto n)
  | bad => rw [e1] at af; exact af⟩
def posK (k : Key) : List Key → Option Nat
  | [] => none
  | a :: l => if a = k then some 0 else (posK k l).map (· + 1)
@[simp] def plK (f : M Pth) (g : M PyData) : M Pth := fun ρ => (bnd f fun p => bnd g fun d ρ => match trAt p ρ with
  | some (.nd (.dct ks) ts) => (match (unkD d).bind fun k => posK k ks with
    | some n => if n < ts.length then .ok ((p.1, p.2 ++ [n]), ρ) else .bad
    | none => .bad)
  | _ => .bad) ρ
end
end Fx
namespace Fx
open PySem L2
variable [Tabz]
section
variable {q : Bool} {Hf Hf1 Hf2 H H1 H2 H' Hf' : Hp} {σ σ1 σ2 σ' : St} {ρ ρ1 ρ2 ρ' : Rho} {F : List Addr}
theorem Nxt.nob (n : Nxt q σ ρ1 Hf1 H1 σ ρ2 Hf2 H2) {a : Addr} {o : HO} (h1 : H1 a = some o) (ht : NT o) (hf : Hf1 a = none) (ho : ¬ OwnA H1 σ ρ1 a) : H2 a = some o ∧ Hf2 a = none ∧ ¬ OwnA H2 σ ρ2 a := by
  refine ⟨n.keep a o h1 ht ho, ?_, fun z => (n.os a z).elim ho fun y => by rw [h1] at y; cases y⟩
  rcases n.fr a hf with y | y | y
  · exact y
  · rw [h1] at y; cases y
  · exact absurd y ho
theorem Rp.mkPa (rp : Rp Hf H σ ρ) {i : Nat} {p : Pth} {v : V} {s : Tr} (hi : ρ[i]? = some .un) (hv : σ[i]? = some (some v)) (av : AtV H σ ρ p v s) : Nxt false σ ρ Hf H σ (ρ.set i (.pa p.1 p.2)) Hf H := by
  have hlt : i < ρ.length := (List.getElem?_eq_some_iff.mp hi).1
  have gi : (ρ.set i (.pa p.1 p.2))[i]? = some (.pa p.1 p.2) := by rw [List.getElem?_set, if_pos rfl, if_pos hlt]
  have gj : ∀ j, j ≠ i → (ρ.set i (.pa p.1 p.2))[j]? = ρ[j]? := fun j n => by rw [List.getElem?_set, if_neg fun z => n z.symm]
  have oi : ∀ j a, OwnI H σ (ρ.set i (.pa p.1 p.2)) j a → OwnI H σ ρ j a := fun j a ⟨s, w, e1, e2, o⟩ => by
    by_cases z : j = i
    · subst z
      rw [gi] at e1; cases e1
      exact o.elim
    · rw [gj j z] at e1
      exact ⟨s, w, e1, e2, o⟩
  have ti : ∀ j t, isTr (ρ.set i (.pa p.1 p.2)) j t → isTr ρ j t := fun j t z => by
    by_cases y : j = i
    · subst y
      rcases z with z | z <;> (rw [gi] at z; cases z)
    · unfold isTr at z
      rw [gj j y] at z
      exact z
  have lk : ∀ a, LkA H σ (ρ.set i (.pa p.1 p.2)) a → LkA H σ ρ a := fun a ⟨j, t, w, Hf0, F, e1, e2, z, m⟩ => by
    by_cases y : j = i
    · subst y
      rw [gi] at e1; cases e1
    · rw [gj j y] at e1
      exact ⟨j, t, w, Hf0, F, e1, e2, z, m⟩
  refine ⟨Same.refl _, fun _ _ h _ _ => h, fun a ⟨j, z⟩ => .inl ⟨j, oi j a z⟩, lk, fun _ h => h, fun _ h => .inl h, (fun z => nomatch z), rp.sub, rp.tb, rp.nt, by rw [List.length_set]; exact rp.len, fun j s e => ?_, fun j k a h1 h2 => rp.nd j k a (oi j a h1) (oi k a h2), fun a h1 ⟨j, h2⟩ => rp.lk a (lk a h1) ⟨j, oi j a h2⟩, fun j k qs t h1 h2 => ?_⟩
  · by_cases y : j = i
    · subst y
      rw [gi] at e; cases e
      exact slok_pa
    · rw [gj j y] at e
      exact rp.sl j s e
  · by_cases y : j = i
    · subst y
      rw [gi] at h1; cases h1
      obtain ⟨u, t', e1, e2, a⟩ := av
      have et : t = t' := by
        rcases ti _ _ h2 with e | e <;> rcases e2 with e' | e' <;> (rw [e] at e'; cases e'; try rfl)
      subst et
      exact ⟨u, v, s, e1, hv, a⟩
    · rw [gj j y] at h1
      exact rp.al j k qs t h1 (ti k t h2)
end
section
variable {X : Cx} {G Ga : Gx} {e a b o : Expr} {es : List Expr} {f g : M PyData} {pos p apos : Pos} {pn : List Nat} {σ : St} {ρ ρ1 ρ2 : Rho} {Hf H Hf1 H1 Hf2 H2 Hf' H' : Hp} {Q : VK} {As : List Ag} {A B : Opd} {vs : List V} {avs : List AgV} {x : Str} {k : Nat} {ps : List Str}
@[simp] def sRetG (i : Nat) : Rho → Fl := fun ρ => match (ρ[i]? : Option Sl) with
  | some (.fz d) => .ret (.fz d) ρ
  | some (.ow ds) => .ret (.ow ds) (ρ.set i .un)
  | some (.tr t) => .ret (.tr t) (ρ.set i .un)
  | _ => .bad
theorem fs_retG (i : Nat) {x : Str} {p1 : Pos} (hN : X.N[i]? = some x := by rfl) (hv : Vis X.env.scope x := by first | exact Or.inl rfl | exact Or.inr (Or.inl rfl) | exact Or.inr (Or.inr rfl)) (hd : (x == ("__debug__" : Str)) = false := by decide)
    (hcd : (x == ("__classdict__" : Str)) = false := by decide) : PS X (.Return (some (.Name x p1)) pos) (tS G pn (sRetG i)) := by
  refine (ps_ret (pe_var hN hv hd hcd)).imp fun D σ H ⟨Hf, ρ, rp, af⟩ => ?_
  unfold sRetG at af
  cases e : ρ[i]? with
  | none => rw [e] at af; exact af.elim
  | some s =>
    rw [e] at af
    cases s with
    | un => exact af.elim
    | raw _ => exact af.elim
    | lk _ => exact af.elim
    | pa _ _ => exact af.elim
    | fz d =>
      obtain ⟨v, hv, q⟩ := slok_fz' (rp.sl i _ e)
      exact ⟨v, hv, af v σ Hf H (.refl rp) (.refl _ _) q⟩
    | ow ds =>
      obtain ⟨p, vs, e1, h1, h2, h3⟩ := slok_ow (rp.sl i _ e)
      have oi : OwnI H σ ρ i p := (ownI_ow e e1).mpr rfl
      exact ⟨_, e1, af _ σ Hf H (rp.drop i) (.refl _ _) ⟨p, vs, rfl, .inr ⟨i, oi⟩, h1, rp.drop_own oi, h2, h3⟩⟩
    | tr t =>
      obtain ⟨v, F, e1, r, nd, hf⟩ := slok_tr' (rp.sl i _ e)
      exact ⟨v, e1, af v σ Hf H (rp.drop i) (.refl _ _) ⟨F, r, nd, fun a m => ⟨.inr ⟨i, (ownI_tr e e1 r).mpr m⟩, hf a m, rp.drop_own ((ownI_tr e e1 r).mpr m)⟩⟩⟩
@[simp] def sSetPa (i : Nat) (f : M Pth) : Rho → Fl := fun ρ => (sBnd f fun p ρ => if p.1 = i then .bad else .nx ((killB kNo i ρ).set i (.pa p.1 p.2))) ρ
@[simp] def sAppT (f : M (List PyData)) (g : M PyData) : Rho → Fl := fun ρ => (sBnd f fun ds => if small ds.length then sBnd g (fun _ ρ => .nx ρ) else fun _ => .bad) ρ
end
end Fx
namespace Fx
open PySem L2
variable [Tabz]
theorem pn_ok {md pn : List Nat} (h : ((List.range md.length).all fun i => (md[i]? != some 2) || pn.contains i) = true) : ∀ i : Nat, md[i]? = some 2 → i ∈ pn := fun i e => by
  have hl : i < md.length := (List.getElem?_eq_some_iff.mp e).1
  have z := List.all_eq_true.mp h i (List.mem_range.mpr hl)
  rw [e] at z
  simpa using z
section
variable {X : Cx} {G Ga : Gx} {e a b o : Expr} {es : List Expr} {f g : M PyData} {pos p apos : Pos} {pn : List Nat} {σ : St} {ρ ρ1 ρ2 : Rho} {Hf H Hf1 H1 Hf2 H2 Hf' H' : Hp} {Q : VK} {As : List Ag} {A B : Opd} {vs : List V} {avs : List AgV} {x : Str} {k : Nat} {ps : List Str}
@[simp] def noX : Fl → Fl
  | .exc _ _ => .bad
  | x => x
@[simp] def sTryN (m : Str → Option Bool) (sb su : Rho → Fl) : Rho → Fl := fun ρ => match sb ρ with
  | .exc c ρ1 => (match m c with
    | some true => noX (su ρ1)
    | some false => .exc c ρ1
    | none => .bad)
  | x => x
@[simp] def fRevO (f : M Pth) : M (List PyData) := fun ρ => (bnd f fun p ρ => match (trAt p ρ).bind lkD with
  | some (.list ds) => .ok (ds.reverse, ρ)
  | _ => .bad) ρ
@[simp] def fMethK (F : List Ar → OT) (t : Tr) (avs : List AgV) : M Rt := fun ρ => match arsOf avs ρ with
  | some as => if (avs.all fun a => (rootO a).isNone) = true then (match F (.o t :: as) with
    | .ok (.fz d) _ => .ok (.fz d, ρ)
    | .exc x _ => .exc x ρ
    | _ => .bad) else .bad
  | none => .bad
@[simp] def fMethN (c : Str) (F : List Ar → OT) (f : M Tr) (As : List Ag) : M Rt := fun ρ => (bnd f fun t ρ => match t with
  | .nd (.ins c') ts => if c' = c then bnd (goT As) (fMethK F (.nd (.ins c') ts)) ρ else .bad
  | _ => .bad) ρ
@[simp] def nsNil : M (List Key × List Tr) := ret ([], [])
@[simp] def nsCons (k : Str) (f : M Tr) (r : M (List Key × List Tr)) : M (List Key × List Tr) := fun ρ => (bnd f fun t => bnd r fun x => ret (Sum.inr k :: x.1, t :: x.2)) ρ
@[simp] def nDisp (r : M (List Key × List Tr)) : M Tr := fun ρ => (bnd r fun x => ret (.nd (.dct x.1) x.2)) ρ
end
end Fx
namespace Fx
open PySem L2
variable [Tabz]
section
variable {X : Cx} {G Ga : Gx} {e a b o : Expr} {es : List Expr} {f g : M PyData} {pos p apos : Pos} {pn : List Nat} {σ : St} {ρ ρ1 ρ2 : Rho} {Hf H Hf1 H1 Hf2 H2 Hf' H' : Hp} {Q : VK} {A B C : Opd} {As : List Opd} {vs : List V} {x : Str} {k : Nat}
def dlk (d k : PyData) : Option (Option PyData) := match d with
  | .dict kvs => (keysD kvs).bind fun ks => (unkD k).map fun key => lkK ks (kvs.map (·.2)) key
  | _ => none
@[simp] def fDgD (f g h : M PyData) : M PyData := fun ρ => (bnd f fun d => if (dlk d (.int 0)).isSome = true then bnd g (fun k => bnd h fun z => opt ((dlk d k).map fun r => r.getD z)) else fun _ => .bad) ρ
@[simp] def fDinD (f g : M PyData) : M PyData := fun ρ => (bnd f fun k => bnd g fun d => opt ((dlk d k).map fun r => .bool r.isSome)) ρ
end
section
variable {X : Cx} {G : Gx} {e a b o : Expr} {es : List Expr} {pos p apos : Pos} {As : List Ag} {A : Ag} {x : Str}
theorem fr_callQ {k m : Nat} {ps : List Str} {F : List Ar → OT} (hn : ∀ as, F as ≠ .bad → as.length = m) (C : Cal X.prog X.w X.K X.mg X.base x k ps (spT G.cA m F)) (hr : Room k X.A) (hg : Gl X x) (tk : Takes X G.W) (ha : PA X (e :: es) (tArgs (qG G) As)) (hio : G.q = false ∨ noO As = true := by first | exact Or.inl rfl | exact Or.inr rfl) (hdb : (x == ("__debug__" : Str)) = false := by decide)
    (he : starEach (e :: es) X.env = (false, eval e X.env) :: starEach es X.env := by rfl) (hpl : (backTo pos (starEach es X.env)).any (·.1) = false := by rfl) : PE X (.Call (.Name x p) (e :: es) [] pos) (tR G (fCallT F As)) :=
  fr_call (Ga := qG G) hn C hr hg tk ha (.inl rfl) rfl rfl (.inl rfl) hio hdb he hpl
theorem q_or (G : Gx) : G.q = true ∨ G.q = false := by cases G.q <;> simp
theorem fr_methG {c m : Str} {k n : Nat} {ps : List Str} {F : List Ar → OT} {pl : Sem Bool} (hca : Tabz.cA = He.ga X.K) (hm : m ∉ flds c) (hn : ∀ as, F as ≠ .bad → as.length = n) (C : CalM X.prog X.w X.K X.mg X.base c m k ps (spT G.cA n F)) (cl : Cls X.K (He.ga X.K c)) (me : Meth X.K (He.ga X.K c) m (He.ma X.K (He.ga X.K c) m)) (hr : Room k X.A) (tk : Takes X G.W) (hob : PE X o (A.t G)) (ha : PA X (e :: es) (tArgs G As)) (ho : (A.isPl = false ∨ As = []) ∧ plOk As = true := by exact ⟨Or.inl rfl, rfl⟩) (hio : G.q = false ∨ noO (A :: As) = true := by first | exact Or.inl rfl | exact Or.inr rfl)
    (h1 : starEach (e :: es) X.env = (false, eval e X.env) :: starEach es X.env := by rfl) (h2 : (backTo pos (starEach es X.env)).any (·.1) = false := by rfl)
    (h3 : eval (.Call (.Attribute o m apos) (e :: es) [] pos) X.env = (do let ov ← eval o X.env; standAt apos.atName; let (f, first) ← holding [ov] (getMethod ov m pl); callWith pos f first (backTo pos (starEach (e :: es) X.env)) (backToKw pos (keywordEach [] X.env))) := by rfl) : PE X (.Call (.Attribute o m apos) (e :: es) [] pos) (tR G (fMeth c F A As)) :=
  fr_meth (Ga := G) hca hm hn C cl me hr tk hob ha (q_or G) rfl rfl (.inr ho) hio h1 h2 h3
theorem fr_callG {k m : Nat} {ps : List Str} {F : List Ar → OT} (hn : ∀ as, F as ≠ .bad → as.length = m) (C : Cal X.prog X.w X.K X.mg X.base x k ps (spT G.cA m F)) (hr : Room k X.A) (hg : Gl X x) (tk : Takes X G.W) (ha : PA X (e :: es) (tArgs G As)) (ho : plOk As = true := by rfl) (hio : G.q = false ∨ noO As = true := by first | exact Or.inl rfl | exact Or.inr rfl) (hdb : (x == ("__debug__" : Str)) = false := by decide)
    (he : starEach (e :: es) X.env = (false, eval e X.env) :: starEach es X.env := by rfl) (hpl : (backTo pos (starEach es X.env)).any (·.1) = false := by rfl) : PE X (.Call (.Name x p) (e :: es) [] pos) (tR G (fCallT F As)) :=
  fr_call (Ga := G) hn C hr hg tk ha (q_or G) rfl rfl (.inr ho) hio hdb he hpl
@[simp] def sSetIxP (f : M PyData) (h : M Pth) (g : M PyData) : Rho → Fl := fun ρ => (sBnd f fun d => sMutP h g (kSet d)) ρ
@[simp] def ndAt (i : Nat) (ρ : Rho) : Option (List Key × List Tr) := match (ρ[i]? : Option Sl) with
  | some (.tr (.nd (.dct ks) ts)) => some (ks, ts)
  | _ => none
@[simp] def sDnd (i : Nat) (f : M Tr) (g : M PyData) : Rho → Fl := fun ρ => (sBnd f fun t ρ => if (ndAt i ρ).isSome = true then sBnd g (fun k ρ1 => match ndAt i ρ1 with
  | some (ks, ts) => (match unkD k with
    | some key => if (posK key ks).isNone = true ∧ ks.length < 1000 then .nx (killB (kPre []) i (ρ1.set i (.tr (.nd (.dct (ks ++ [key])) (ts ++ [t]))))) else .bad
    | none => .bad)
  | none => .bad) ρ else .bad) ρ
end
end Fx
namespace Fx
open PySem L2
theorem ln1 {x0 : Str} {Q : List Value → Prop} (h : ∀ a0, Q [a0]) (us : List Value) (hl : us.length = ([x0] : List Str).length) : Q us := match us, hl with | [a0], _ => h a0
theorem ln2 {x0 x1 : Str} {Q : List Value → Prop} (h : ∀ a0 a1, Q [a0, a1]) (us : List Value) (hl : us.length = ([x0, x1] : List Str).length) : Q us := match us, hl with | [a0, a1], _ => h a0 a1
theorem ln3 {x0 x1 x2 : Str} {Q : List Value → Prop} (h : ∀ a0 a1 a2, Q [a0, a1, a2]) (us : List Value) (hl : us.length = ([x0, x1, x2] : List Str).length) : Q us := match us, hl with | [a0, a1, a2], _ => h a0 a1 a2
end Fx
namespace Fx
open PySem L2
variable [Tabz]
@[simp] def itemsQ : D → Option (List D)
  | .list ds => some ds
  | .tuple ds => some ds
  | _ => none
@[simp] def fItQ (f : M D) : M (List D) := fun ρ => (bnd f fun d => opt (itemsQ d)) ρ
end Fx
namespace Fx
open PySem L2
variable [Tabz]
end Fx
namespace Mm
open PySem L2 Fx
variable [Tabz]
noncomputable def g_Kinds___init__ : Rho → Fl := (sSeq (sFldS 0 "Kinds" 0 (nL (fLs fNil)))
    (sFldS 0 "Kinds" 1 (nL (fLs fNil))))
noncomputable def F_Kinds___init__ := runT 1 g_Kinds___init__ [2]
noncomputable def g_Kinds_twin : Rho → Fl := (sSeq (sSetT 1 (nMk "Kinds" F_Kinds___init__ fNil))
    (sSeq (sFldS 1 "Kinds" 0 (nL (fLB oList [(.p (plF (plN 0) "Kinds" 0))])))
    (sSeq (sFldS 1 "Kinds" 1 (nL (fLB oList [(.p (plF (plN 0) "Kinds" 1))])))
    (sRetG 1))))
noncomputable def F_Kinds_twin := runT 2 g_Kinds_twin [1]
noncomputable def g_Kinds_many : Rho → Fl := (sRet (fCB oLen [(.p (plF (plN 0) "Kinds" 0))]))
noncomputable def F_Kinds_many := runT 1 g_Kinds_many [1]
noncomputable def g_Kinds_need_kind : Rho → Fl := (sIf (tOrM (fB (fOp oLt (.v 1) (.e (ret (.int 1))))) (fB (fOp oGt (.v 1) (.e (fCB oLen [(.p (plF (plN 0) "Kinds" 0))]))))) (sRaise "NoKind") sNil)
noncomputable def F_Kinds_need_kind := runT 2 g_Kinds_need_kind [1, 0]
noncomputable def g_Kinds_need_room : Rho → Fl := (sIf (fB (fOp oGe (.e (fCB oLen [(.p (plF (plN 0) "Kinds" 0))])) (.e (ret (.int 12))))) (sRaise "Full") sNil)
noncomputable def F_Kinds_need_room := runT 1 g_Kinds_need_room [1]
noncomputable def g_Kinds_put : Rho → Fl := (sSeq (sMutP (plF (plN 0) "Kinds" 0) (fVar 1) kAppend)
    (sSeq (sMutP (plF (plN 0) "Kinds" 1) (fVar 2) kAppend)
    (sRet (fCB oLen [(.p (plF (plN 0) "Kinds" 0))]))))
noncomputable def F_Kinds_put := runT 3 g_Kinds_put [2, 0, 0]
noncomputable def g_Kinds_raw : Rho → Fl := (sSeq (sDrop (fR (fMeth "Kinds" F_Kinds_need_room (.ls 0) [])))
    (sSeq (sSet 1 (fOp oAdd (.e (fCB oLen [(.p (plF (plN 0) "Kinds" 0))])) (.e (ret (.int 1)))))
    (sRet (fR (fMeth "Kinds" F_Kinds_put (.os 0) [(.e (fTup fNil)), (.e (fTup (fCons (fTup (fCons (fVar 1) (fCons (ret (.int 1)) fNil))) fNil)))])))))
noncomputable def F_Kinds_raw := runT 2 g_Kinds_raw [2]
noncomputable def b_Kinds_need_parts_1 : Rho → Fl := (sSeq (sIf (tOrM (fB (fOp oLe (.v 3) (.v 2))) (tOrM (fB (fOp oGt (.v 3) (.e (fCB oLen [(.p (plF (plN 0) "Kinds" 0))])))) (tOrM (fB (fOp oLt (.v 4) (.e (ret (.int 1))))) (fB (fOp oGt (.v 4) (.e (ret (.int 100)))))))) (sRaise "BadParts") sNil)
    (sSet 2 (fVar 3)))
noncomputable def g_Kinds_need_parts : Rho → Fl := (sSeq (sSet 2 (ret (.int 0)))
    (sSeq (sFor (fItP (plN 1)) (gTp (gsCons (gSet 3) (gsCons (gSet 4) gsNil))) b_Kinds_need_parts_1)
    (sIf (fB (fOp oEQ (.v 2) (.e (ret (.int 0))))) (sRaise "BadParts") sNil)))
noncomputable def F_Kinds_need_parts := runT 5 g_Kinds_need_parts [1, 1]
noncomputable def b_Kinds_held_by_1 : Rho → Fl := (sDputK 2 (fOp oAdd (.e (fDget2 2 (fVar 5) (ret (.int 0)))) (.e (fOp oMul (.v 6) (.v 4)))) (fVar 5))
noncomputable def b_Kinds_held_by_2 : Rho → Fl := (sFor (fItT (fOp oIx (.p (plF (plN 0) "Kinds" 1)) (.e (fOp oSub (.v 3) (.e (ret (.int 1))))))) (gTp (gsCons (gSet 5) (gsCons (gSet 6) gsNil))) b_Kinds_held_by_1)
noncomputable def q_Kinds_held_by_1 : M (List PyData) := (fLc (fItL (fLst (fSortD 2))) (gSet 5) (ret true) (fTup (fCons (fVar 5) (fCons (fDgetK 2 (fVar 5)) fNil))) [5])
noncomputable def g_Kinds_held_by : Rho → Fl := (sSeq (sSetT 2 (ret (.dk [] [])))
    (sSeq (sFor (fItP (plN 1)) (gTp (gsCons (gSet 3) (gsCons (gSet 4) gsNil))) b_Kinds_held_by_2)
    (sRet (fCB oTuple [(.e (fLst q_Kinds_held_by_1))]))))
noncomputable def F_Kinds_held_by := runT 7 g_Kinds_held_by [1, 1]
noncomputable def q_Kinds_made_1 : M (List PyData) := (fLc (fItT (fVar 2)) (gTp (gsCons (gSet 3) (gsCons (gSet 4) gsNil))) (ret true) (fOp oGt (.v 4) (.e (ret (.int 10000)))) [3, 4])
noncomputable def q_Kinds_made_2 : M (List PyData) := (fLc (fItP (plN 1)) (gTp (gsCons (gSet 5) (gsCons (gSet 6) gsNil))) (ret true) (fTup (fCons (fVar 5) (fCons (fVar 6) fNil))) [5, 6])
noncomputable def g_Kinds_made : Rho → Fl := (sSeq (sDrop (fR (fMeth "Kinds" F_Kinds_need_parts (.ls 0) [(.ls 1)])))
    (sSeq (sSet 2 (fR (fMeth "Kinds" F_Kinds_held_by (.ls 0) [(.ls 1)])))
    (sSeq (sIf (fB (fCB oAny [(.e (fLst q_Kinds_made_1))])) (sRaise "TooMuch") sNil)
    (sSeq (sDrop (fR (fMeth "Kinds" F_Kinds_need_room (.ls 0) [])))
    (sRet (fR (fMeth "Kinds" F_Kinds_put (.os 0) [(.e (fCB oTuple [(.e (fLst q_Kinds_made_2))])), (.e (fVar 2))])))))))
noncomputable def F_Kinds_made := runT 7 g_Kinds_made [2, 1]
noncomputable def g_Kinds_is_raw : Rho → Fl := (sSeq (sDrop (fR (fMeth "Kinds" F_Kinds_need_kind (.ls 0) [(.e (fVar 1))])))
    (sRet (fOp oEQ (.e (fOp oIx (.p (plF (plN 0) "Kinds" 0)) (.e (fOp oSub (.v 1) (.e (ret (.int 1))))))) (.e (fTup fNil)))))
noncomputable def F_Kinds_is_raw := runT 2 g_Kinds_is_raw [1, 0]
noncomputable def g_Kinds_parts : Rho → Fl := (sSeq (sDrop (fR (fMeth "Kinds" F_Kinds_need_kind (.ls 0) [(.e (fVar 1))])))
    (sRetT (nL (fLB oList [(.e (fOp oIx (.p (plF (plN 0) "Kinds" 0)) (.e (fOp oSub (.v 1) (.e (ret (.int 1)))))))]))))
noncomputable def F_Kinds_parts := runT 2 g_Kinds_parts [1, 0]
noncomputable def g_Kinds_holds : Rho → Fl := (sSeq (sDrop (fR (fMeth "Kinds" F_Kinds_need_kind (.ls 0) [(.e (fVar 1))])))
    (sRetT (nL (fLB oList [(.e (fOp oIx (.p (plF (plN 0) "Kinds" 1)) (.e (fOp oSub (.v 1) (.e (ret (.int 1)))))))]))))
noncomputable def F_Kinds_holds := runT 2 g_Kinds_holds [1, 0]
noncomputable def b_l_parts_1 : Rho → Fl := (sSeq (sSet 4 (fOp oAdd (.e (fOp oAdd (.v 4) (.e (ret (.int 1))))) (.e (fCallI 0 F_l_pick (fCons (ret (.int 3)) fNil)))))
    (sIf (fB (fOp oLe (.v 4) (.v 1))) (sMut 3 (fTup (fCons (fVar 4) (fCons (fOp oAdd (.e (ret (.int 1))) (.e (fCallI 0 F_l_pick (fCons (fVar 2) fNil)))) fNil))) kAppend) sNil))
noncomputable def g_l_parts : Rho → Fl := (sSeq (sSetL 3 (fLs fNil))
    (sSeq (sSet 4 (ret (.int 0)))
    (sSeq (sFor (fAB oRng1 (fCons (fOp oAdd (.e (ret (.int 1))) (.e (fCallI 0 F_l_pick (fCons (ret (.int 3)) fNil)))) fNil)) (gSet 5) b_l_parts_1)
    (sRetV0 3))))
noncomputable abbrev F_l_parts := runI 6 g_l_parts 3
noncomputable def b_l_holding_1 : Rho → Fl := (sDputK 2 (fOp oAdd (.e (fDget2 2 (fVar 5) (ret (.int 0)))) (.e (fOp oMul (.v 6) (.v 4)))) (fVar 5))
noncomputable def b_l_holding_2 : Rho → Fl := (sFor (fItL (fOp oIx (.v 0) (.e (fOp oSub (.v 3) (.e (ret (.int 1))))))) (gTp (gsCons (gSet 5) (gsCons (gSet 6) gsNil))) b_l_holding_1)
noncomputable def q_l_holding_1 : M (List PyData) := (fLc (fItL (fLst (fSortD 2))) (gSet 5) (ret true) (fTup (fCons (fVar 5) (fCons (fDgetK 2 (fVar 5)) fNil))) [5])
noncomputable def g_l_holding : Rho → Fl := (sSeq (sSetT 2 (ret (.dk [] [])))
    (sSeq (sFor (fItL (fVar 1)) (gTp (gsCons (gSet 3) (gsCons (gSet 4) gsNil))) b_l_holding_2)
    (sRetT (nL q_l_holding_1))))
noncomputable def F_l_holding := runT 7 g_l_holding [1, 0]
end Mm
namespace Fx
open PySem L2
variable [Tabz]
section
variable {X : Cx} {G : Gx} {e a b o : Expr} {es : List Expr} {f g : M PyData} {pos : Pos} {pn : List Nat} {σ : St} {ρ ρ1 : Rho} {Hf H Hf1 H1 : Hp}
theorem ixN_lt {n : Nat} {i : Int} {k : Nat} (h : ixN n i = some k) : k < n := by
  unfold ixN at h
  split at h
  · split at h
    · cases h; omega
    · cases h
  · split at h
    · cases h; omega
    · cases h
@[simp] def ndS : Tr → Option (List Tr)
  | .nd .lst ts => some ts
  | .nd .tup ts => some ts
  | _ => none
@[simp] def plI (f : M Pth) (g : M PyData) : M Pth := fun ρ => (bnd f fun p => bnd g fun d ρ => match (trAt p ρ).bind ndS, d with
  | some ts, .int i => (match ixN ts.length i with
    | some n => .ok ((p.1, p.2 ++ [n]), ρ)
    | none => .bad)
  | _, _ => .bad) ρ
theorem pl_idx {f : M Pth} (h : PE X e (tPl (qG G) f)) (hk : PE X b (tE (qG G) g)) (hs : PlainIx b := by exact fun _ _ => rfl) : PE X (.Subscript e b pos) (tPl G (plI f g)) := by
  refine pl_q ((pe_ix ix_seq h hk hs).imp fun σ H Q ⟨Hf, ρ, rp, af⟩ => ?_)
  refine tPl.mono ?_ (stepPP (G := qG G) (P := fun ρ Hf H o => AfP (qG G) σ ρ Hf H Q o) (fun n q => q.later n) (fun q => q) (fun q => q) rp af)
  rintro y H1 ⟨p, s, Hf1, ρ1, n1, av, af1⟩
  refine tG.mono ?_ (stepP (R1 := Rep) n1.rp af1)
  rintro z H2 ⟨d, Hf2, ρ2, n2, rz, af2⟩
  have av2 := av.keep n1.rp n2
  rw [av2.trAt] at af2
  simp only [Option.bind_some] at af2
  cases es : ndS s with
  | none => rw [es] at af2; exact False.elim af2
  | some ts =>
    rw [es] at af2
    cases d with
    | int i =>
      dsimp only at af2
      cases en : ixN ts.length i with
      | none => rw [en] at af2; exact False.elim af2
      | some n =>
        rw [en] at af2
        dsimp only at af2
        cases rz
        obtain ⟨M, tr⟩ := av2.tr n2.rp
        have fin : ∀ (pp : Addr) (k : Nk) (vs : List V) (F : List Addr), s = .nd k ts → y = .ref pp → NodeOk H2 pp k vs → TRs Hf2 H2 vs ts F → ∃ v, vs[n]? = some v ∧ vs.length = ts.length ∧ Q v H2 := fun pp k vs F hs hy hk2 hs2 => by
          have hl := hs2.len
          have hn : n < ts.length := ixN_lt en
          obtain ⟨v, hv⟩ : ∃ v, vs[n]? = some v := ⟨vs[n]'(by omega), List.getElem?_eq_getElem (by omega)⟩
          refine ⟨v, hv, hl, af2 v (ts[n]'hn) Hf2 H2 (.refl n2.rp) ?_⟩
          obtain ⟨u, t, e3, e4, a4⟩ := av2
          exact ⟨u, t, e3, e4, a4.snoc hs hy hk2 hv (List.getElem?_eq_getElem hn)⟩
        cases s with
        | nd k ts' =>
          cases tr with
          | @nd pp _ vs _ _ hk2 hs2 =>
            cases k with
            | lst =>
              cases es
              obtain ⟨v, hv, hl, q⟩ := fin pp .lst vs _ rfl rfl hk2 hs2
              exact .inl ⟨pp, vs, i, v, rfl, rfl, SqL.of hk2, by unfold atI; rw [hl, en]; exact hv, q⟩
            | tup =>
              cases es
              obtain ⟨v, hv, hl, q⟩ := fin pp .tup vs _ rfl rfl hk2 hs2
              exact .inr (.inl ⟨pp, vs, i, v, rfl, rfl, SqT.of hk2, by unfold atI; rw [hl, en]; exact hv, q⟩)
            | ins _ => cases es
            | dct _ => cases es
        | fz _ => cases es
        | ow _ => cases es
        | dk _ _ => cases es
        | dt _ _ => cases es
    | _ => exact False.elim af2
def AfTs (G : Gx) (σ : St) (ρ : Rho) (Hf H : Hp) (Q : List V → Hp → Prop) : Res (List Tr) → Prop
  | .ok (ts, ρ') => ∀ vs F Hf' H', Nxt G.q σ ρ Hf H σ ρ' Hf' H' → TRs Hf' H' vs ts F → F.Nodup → (∀ a ∈ F, Fre H σ ρ a ∧ Hf' a = none ∧ ¬ OwnA H' σ ρ' a) → Q vs H'
  | .exc c ρ' => ∀ Hf' H', Nxt G.q σ ρ Hf H σ ρ' Hf' H' → G.W (.ref (G.cA c)) none σ H'
  | .bad => False
def tNs (G : Gx) (r : M (List Tr)) : TA := fun σ H Q => ∃ Hf ρ, Rp Hf H σ ρ ∧ AfTs G σ ρ Hf H Q (r ρ)
@[simp] def tsNil : M (List Tr) := ret []
@[simp] def tsCons (f : M Tr) (r : M (List Tr)) : M (List Tr) := fun ρ => (bnd f fun t => bnd r fun ts => ret (t :: ts)) ρ
theorem pa_tnil : PA X [] (tNs G tsNil) := pa_nil.imp fun σ H Q ⟨Hf, ρ, rp, af⟩ => af [] [] Hf H (.refl rp) .nil List.nodup_nil (fun _ z => nomatch z)
theorem pa_tcons {f : M Tr} {r : M (List Tr)} (hv : PE X e (tN G f)) (hr : PA X es (tNs G r)) (hs : starEach (e :: es) X.env = (false, eval e X.env) :: starEach es X.env := by rfl) : PA X (e :: es) (tNs G (tsCons f r)) := by
  refine (pa_cons hv hr hs).imp fun σ H Q ⟨Hf, ρ, rp, af⟩ => ?_
  show tN G f σ H _
  refine ⟨Hf, ρ, rp, ?_⟩
  unfold tsCons bnd at af
  cases e1 : f ρ with
  | bad => rw [e1] at af; exact af
  | exc c ρ1 => rw [e1] at af; exact af
  | ok z =>
    obtain ⟨t, ρ1⟩ := z
    rw [e1] at af
    dsimp only at af
    intro v F1 Hf1 H1 n1 r1 nd1 hF1
    refine ⟨Hf1, ρ1, n1.rp, ?_⟩
    cases e2 : r ρ1 with
    | bad => rw [e2] at af; exact af
    | exc c ρ2 => rw [e2] at af; exact fun Hf' H' n => af Hf' H' (n1.trans n)
    | ok z =>
      obtain ⟨x, ρ2⟩ := z
      rw [e2] at af
      intro vs F2 Hf2 H2 n2 r2 nd2 hF2
      have nob : ∀ a ∈ F1, H2 a = H1 a ∧ Hf2 a = none ∧ ¬ OwnA H2 σ ρ2 a := fun a m => by
        obtain ⟨o, h1, h2⟩ := r1.obj a m
        obtain ⟨g1, g2, g3⟩ := n2.nob h1 h2 (hF1 a m).2.1 (hF1 a m).2.2
        exact ⟨by rw [g1, h1], g2, g3⟩
      refine af (v :: vs) (F1 ++ F2) Hf2 H2 (n1.trans n2) (.cons (r1.mono n2.sub fun a m => (nob a m).1) r2) ?_ (fun a m => ?_)
      · rw [List.nodup_append]
        refine ⟨nd1, nd2, fun a m b mb eab => ?_⟩
        subst eab
        obtain ⟨o, h1, _⟩ := r1.obj a m
        rcases (hF2 a mb).1 with z | z
        · rw [h1] at z; cases z
        · exact (hF1 a m).2.2 z
      · rcases List.mem_append.mp m with m | m
        · exact ⟨(hF1 a m).1, (nob a m).2.1, (nob a m).2.2⟩
        · exact ⟨(hF2 a m).1.back n1, (hF2 a m).2⟩
@[simp] def nTupT (r : M (List Tr)) : M Tr := fun ρ => (bnd r fun ts => if small ts.length then ret (.nd .tup ts) else fun _ => .bad) ρ
@[simp] def nLstT (r : M (List Tr)) : M Tr := fun ρ => (bnd r fun ts => if small ts.length then ret (.nd .lst ts) else fun _ => .bad) ρ
theorem new_node {r : M (List Tr)} {Q : VK} {k : Nk} {mk : List V → HO} (hk : ∀ (vs : List V) (p : Addr) (H : Hp), NodeOk (upd H p (mk vs)) p k vs) (hm : ∀ vs, NT (mk vs)) (rp : Rp Hf H σ ρ) (af : AfN G σ ρ Hf H Q (bnd r (fun ts => if small ts.length then ret (.nd k ts) else fun _ => .bad) ρ)) :
    tNs G r σ H fun xs H1 => xs.length ≤ sizeLine ∧ ∀ p, H1 p = none → Q (.ref p) (upd H1 p (mk xs)) := by
  refine ⟨Hf, ρ, rp, ?_⟩
  unfold bnd at af
  cases e : r ρ with
  | bad => rw [e] at af; exact af
  | exc c ρ1 => rw [e] at af; exact af
  | ok z =>
    obtain ⟨ts, ρ1⟩ := z
    rw [e] at af
    dsimp only at af
    split at af
    · rename_i hs
      intro vs F Hf1 H1 n1 r1 nd1 hF1
      refine ⟨by rw [r1.len]; exact small_le hs, fun p hp => ?_⟩
      have rp1 := n1.rp
      have hpf : Hf1 p = none := rp1.sub.free hp
      have pF : p ∉ F := fun m => by
        obtain ⟨o, h1, _⟩ := r1.obj p m
        rw [hp] at h1; cases h1
      have n2 : Nxt G.q σ ρ1 Hf1 H1 σ ρ1 Hf1 (upd H1 p (mk vs)) := rp1.newO hp
      have no : ∀ a, ¬ OwnA H1 σ ρ1 a → H1 a ≠ none → ¬ OwnA (upd H1 p (mk vs)) σ ρ1 a := fun a h1 h2 z => (n2.os a z).elim h1 h2
      refine af (.ref p) (p :: F) Hf1 _ (n1.trans n2) (.nd (hk vs p H1) (r1.mono (Same.refl _) fun a m => upd_ne fun z => pF (z ▸ m))) (List.nodup_cons.mpr ⟨pF, nd1⟩) fun a m => ?_
      rcases List.mem_cons.mp m with rfl | m
      · exact ⟨(show Fre H1 σ ρ1 a from .inl hp).back n1, hpf, rp1.notOwnU hp⟩
      · obtain ⟨o, h1, _⟩ := r1.obj a m
        exact ⟨(hF1 a m).1, (hF1 a m).2.1, no a (hF1 a m).2.2 (by rw [h1]; exact fun z => nomatch z)⟩
    · exact False.elim af
theorem fn_lstT {r : M (List Tr)} (h : PA X es (tNs G r)) : PE X (.List es pos) (tN G (nLstT r)) :=
  (pe_lst h).imp fun σ H Q ⟨Hf, ρ, rp, af⟩ => new_node (k := .lst) (mk := .lst) (fun vs p H => upd_same) (fun vs => NT.lst) rp af
@[simp] def sClrP (f : M Pth) : Rho → Fl := fun ρ => (sBnd f fun p ρ => if (owP p ρ).isSome = true then .nx (putP p (.ow []) ρ) else .bad) ρ
end
end Fx
namespace Fx
open PySem L2
variable [Tabz]
end Fx
namespace Fx
open PySem L2
variable [Tabz]
section
variable {Hf H Hf1 H1 : Hp} {σ σ1 : St} {ρ ρ1 : Rho}
theorem Rp.bindPa (rp : Rp Hf H σ ρ) {i : Nat} {p : Pth} {v : V} {s : Tr} (hne : p.1 ≠ i) (av : AtV H σ ρ p v s) : Nxt false σ ρ Hf H (σ.set i (some v)) ((killB kNo i ρ).set i (.pa p.1 p.2)) Hf H := by
  by_cases hlt : i < ρ.length
  · have ln : i < σ.length := Nat.lt_of_lt_of_le hlt rp.len
    have n2 : Nxt false σ ρ Hf H (σ.set i (some v)) ((killB kNo i ρ).set i .un) Hf H := by
      refine rp.weak (by rw [List.length_set, killB_len, List.length_set]; exact rp.len) fun j s h => ?_
      by_cases z : j = i
      · subst z
        rw [List.getElem?_set, if_pos rfl, if_pos (by rw [killB_len]; exact hlt)] at h
        cases h
        exact .inr ⟨True.intro, slok_un⟩
      · rw [List.getElem?_set, if_neg fun y => z y.symm] at h
        rcases killB_get h with ⟨h, _⟩ | ⟨h, _⟩
        · exact .inl ⟨h, by rw [List.getElem?_set, if_neg fun y => z y.symm]⟩
        · subst h; exact .inr ⟨True.intro, slok_un⟩
    have gi : ((killB kNo i ρ).set i .un)[i]? = some .un := by rw [List.getElem?_set, if_pos rfl, if_pos (by rw [killB_len]; exact hlt)]
    have gv : (σ.set i (some v))[i]? = some (some v) := by rw [List.getElem?_set, if_pos rfl, if_pos ln]
    have av2 : AtV H (σ.set i (some v)) ((killB kNo i ρ).set i .un) p v s := by
      obtain ⟨u, t, e1, e2, a⟩ := av
      refine ⟨u, t, by rw [List.getElem?_set, if_neg fun y => hne y.symm]; exact e1, ?_, a⟩
      unfold isTr
      rw [List.getElem?_set, if_neg fun y => hne y.symm]
      rcases e2 with e | e
      · exact .inl (killB_at e fun _ _ z => nomatch z)
      · exact .inr (killB_at e fun _ _ z => nomatch z)
    have n3 := n2.rp.mkPa gi gv av2
    rw [List.set_set] at n3
    exact n2.trans n3
  · have e1 : (killB kNo i ρ).set i (.pa p.1 p.2) = killB kNo i ρ := List.set_eq_of_length_le (by rw [killB_len]; omega)
    rw [e1]
    refine rp.weak (by rw [killB_len, List.length_set]; exact rp.len) fun j s h => ?_
    have hj : j ≠ i := fun z => by
      have := (List.getElem?_eq_some_iff.mp h).1
      rw [killB_len] at this
      omega
    rcases killB_get h with ⟨h, _⟩ | ⟨h, _⟩
    · exact .inl ⟨h, by rw [List.getElem?_set, if_neg fun y => hj y.symm]⟩
    · subst h; exact .inr ⟨True.intro, slok_un⟩
def len1 (k : Nat) (ρ : Rho) : Option Nat := match (ρ[k]? : Option Sl) with
  | some (.tr (.nd .lst ts)) => some ts.length
  | some (.ow ds) => some ds.length
  | _ => none
def bnd1 (j k i : Nat) (ρ : Rho) : Option Rho := match (ρ[k]? : Option Sl) with
  | some (.tr (.nd .lst _)) => some ((killB kNo j ρ).set j (.pa k [i]))
  | some (.ow ds) => (ds[i]?).map fun d => ρ.set j (.fz d)
  | _ => none
theorem src1 (rp : Rp Hf H σ ρ) {k n : Nat} (h : len1 k ρ = some n) : ∃ l vs, σ[k]? = some (some (.ref l)) ∧ H l = some (.lst vs) ∧ vs.length = n ∧ ∀ (i : Nat) (v : V), vs[i]? = some v → ∀ (j : Nat) (ρ2 : Rho), j ≠ k → bnd1 j k i ρ = some ρ2 → Nxt false σ ρ Hf H (σ.set j (some v)) ρ2 Hf H := by
  unfold len1 at h
  split at h
  · rename_i ts e
    cases h
    obtain ⟨v, F, e1, r, nd, hf⟩ := slok_tr' (rp.sl k _ e)
    cases r with
    | @nd l _ vs _ _ hk hs =>
      refine ⟨l, vs, e1, hk, hs.len, fun i v hv j ρ2 hj hb => ?_⟩
      unfold bnd1 at hb
      rw [e] at hb
      cases hb
      have hi : i < ts.length := by
        have := (List.getElem?_eq_some_iff.mp hv).1
        rw [hs.len] at this
        exact this
      exact rp.bindPa (p := (k, [i])) (fun z => hj z.symm) ⟨_, _, e1, .inl e, At.cons hk hv (List.getElem?_eq_getElem hi) .nil⟩
  · rename_i ds e
    cases h
    obtain ⟨p, vs, s1, f1, g1, r1⟩ := slok_ow (rp.sl k _ e)
    refine ⟨p, vs, s1, g1, repA_len r1, fun i v hv j ρ2 hj hb => ?_⟩
    unfold bnd1 at hb
    rw [e] at hb
    dsimp only at hb
    cases ed : ds[i]? with
    | none => rw [ed] at hb; cases hb
    | some d =>
      rw [ed] at hb
      cases hb
      obtain ⟨w, e2, r2⟩ := repA_get r1 ed
      rw [hv] at e2; cases e2
      exact rp.put r2
  · cases h
end
def lcC (cur : Rho → Option Nat) (g : Nat → Rho → Option Rho) (fe : M PyData) (vs : List Nat) : Nat → Nat → Rho → Res (List PyData)
  | 0, _, _ => .bad
  | f + 1, i, ρ => match cur (wipeR ρ vs) with
    | none => .bad
    | some n => if i < n then (match g i (wipeR ρ vs) with
        | none => .bad
        | some ρ1 => match fe ρ1 with
          | .ok (x, ρ2) => (match lcC cur g fe vs f (i + 1) ρ2 with
            | .ok (xs, ρ3) => .ok (x :: xs, ρ3)
            | _ => .bad)
          | _ => .bad)
      else .ok ([], ρ)
def fLcC (cur : Rho → Option Nat) (g : Nat → Rho → Option Rho) (fe : M PyData) (vs : List Nat) : M (List PyData) := fun ρ => if (cur ρ).isSome = true then (match lcC cur g fe vs 1000 0 ρ with
    | .ok (xs, ρ2) => .ok (xs, rest ρ2 ρ vs)
    | _ => .bad) else .bad
section
variable {X : Cx} {G : Gx} {e a b o iter tg elt : Expr} {es : List Expr} {sts : List Stmt} {s : Rho → Fl} {pos p p1 p2 : Pos} {pn pk is vs : List Nat} {cur : Rho → Option Nat} {g : Nat → Rho → Option Rho} {tgt : TG} {wi : TI} {x y : Str} {j k j2 k2 : Nat} {fe : M PyData}
theorem tYes_of {σ : St} {H : Hp} {A B : Hp → Prop} (h : A H) : tYes σ H (fun b H3 => if b = true then A H3 else B H3) := by
  show (if (true = true) then A H else B H)
  rw [if_pos rfl]
  exact h
def SrcOk (pk is : List Nat) (cur : Rho → Option Nat) (g : Nat → Rho → Option Rho) (tgt : TG) (σ : St) (J : It) : Prop := ∀ (σ1 : St) (ρ1 : Rho) (Hf1 H1 : Hp) (n i : Nat), Rp Hf1 H1 σ1 ρ1 → Pin pk σ σ1 → cur ρ1 = some n →
  (i < n → J.go i H1 ∧ ∀ x H', J.yld i H1 x H' → ∀ ρ2, g i ρ1 = some ρ2 → ∀ Q : St → Hp → Prop, (∀ σ2 Hf2 H2, Nxt false σ1 ρ1 Hf1 H1 σ2 ρ2 Hf2 H2 → Only is σ1 σ2 → Q σ2 H2) → tgt x σ1 H' Q) ∧ (n ≤ i → J.stop i H1)
def Starts (pk is : List Nat) (cur : Rho → Option Nat) (g : Nat → Rho → Option Rho) (tgt : TG) (wi : TI) : Prop := ∀ (σ : St) (H Hf : Hp) (ρ : Rho) (R : It → Hp → Prop), Rp Hf H σ ρ → (cur ρ).isSome = true → (∀ J, SrcOk pk is cur g tgt σ J → R J H) → wi σ H R
theorem lcC_run (hgq : G.q = false) (his : ∀ i ∈ is, i ∈ vs) (hpk : ∀ k ∈ pk, k ∉ vs) (st : Starts pk is cur g tgt wi) (σ : St) (H : Hp) (Q : VK) (h : tL G (fLcC cur g fe vs) σ H Q) : tLc wi tgt tYes (tE (G0 G) fe) vs σ H Q := by
  obtain ⟨Hf, ρ, rp, af⟩ := h
  unfold fLcC at af
  split at af
  · rename_i hcur
    cases er : lcC cur g fe vs 1000 0 ρ with
    | exc c _ => rw [er] at af; exact False.elim af
    | bad => rw [er] at af; exact False.elim af
    | ok x =>
      obtain ⟨xs, ρ2⟩ := x
      rw [er] at af
      refine st σ H Hf ρ _ rp hcur fun J hJ => ?_
      intro D0 hD
      have hDf : Hf D0 = none := rp.sub.free hD
      have w1 := rp.wipe vs
      have noD : ¬ OwnA (upd H D0 (.lst [])) (L2.wipe σ vs) (wipeR ρ vs) D0 := w1.rp.notOwnU hD
      have pkw : Pin pk σ (L2.wipe σ vs) := fun j z => by rw [wipe_get, if_neg (hpk j z)]
      refine ⟨fun i m Hc => ∃ Hfc ρc acc accv ys, Nxt false (L2.wipe σ vs) (wipeR ρ vs) Hf H (L2.wipe σ vs) (wipeR ρc vs) Hfc Hc ∧ Hc D0 = some (.lst accv) ∧ Hfc D0 = none ∧ ¬ OwnA Hc (L2.wipe σ vs) (wipeR ρc vs) D0 ∧
          RepA Hfc accv acc ∧ acc.length + m ≤ 1000 ∧ lcC cur g fe vs m i ρc = .ok (ys, ρ2) ∧ acc ++ ys = xs,
        ⟨1000, Hf, ρ, [], [], xs, w1.rp.newO hD, upd_same, hDf, noD, .nil, by simp, er, rfl⟩, ?_⟩
      rintro i m Hc ⟨Hfc, ρc, acc, accv, ys, n, eD, fD, oD, ra, hl, el, ex⟩
      cases m with
      | zero => cases el
      | succ m =>
        unfold lcC at el
        cases ec : cur (wipeR ρc vs) with
        | none => simp only [ec, reduceCtorEq] at el
        | some nn =>
          have it := hJ (L2.wipe σ vs) (wipeR ρc vs) Hfc Hc nn i n.rp pkw ec
          by_cases hlt : i < nn
          · obtain ⟨hgo, hy⟩ := it.1 hlt
            simp only [ec, if_pos hlt] at el
            refine .inr ⟨hgo, fun H' => ∃ Hfc ρc acc accv ys, Nxt false (L2.wipe σ vs) (wipeR ρ vs) Hf H (L2.wipe σ vs) (wipeR ρc vs) Hfc H' ∧ H' D0 = some (.lst accv) ∧ Hfc D0 = none ∧ ¬ OwnA H' (L2.wipe σ vs) (wipeR ρc vs) D0 ∧
              RepA Hfc accv acc ∧ acc.length + m ≤ 1000 ∧ lcC cur g fe vs m (i + 1) ρc = .ok (ys, ρ2) ∧ acc ++ ys = xs, fun H' q => ⟨m, by omega, q⟩, fun x H' yx => ?_⟩
            have carry : ∀ {σ2 : St} {ρ2' : Rho} {Hf2 H2 : Hp}, Nxt false (L2.wipe σ vs) (wipeR ρc vs) Hfc Hc σ2 ρ2' Hf2 H2 → H2 D0 = some (.lst accv) ∧ Hf2 D0 = none ∧ ¬ OwnA H2 σ2 ρ2' D0 := fun nn => by
              refine ⟨nn.keep _ _ eD NT.lst oD, (nn.fr D0 fD).elim id fun q => q.elim (fun z => ?_) fun z => absurd z oD, fun z => (nn.os D0 z).elim oD fun w => ?_⟩
              · rw [eD] at z; cases z
              · rw [eD] at w; cases w
            cases eg : g i (wipeR ρc vs) with
            | none => simp only [eg, reduceCtorEq] at el
            | some ρg =>
              simp only [eg] at el
              refine hy x H' yx ρg eg _ fun σ2 Hf2 H2 n2 o2 => ⟨by rw [o2.wipe his, wipe_wipe], ?_⟩
              have ew : L2.wipe σ2 vs = L2.wipe σ vs := by rw [o2.wipe his, wipe_wipe]
              refine tYes_of (A := fun H3 => tE (G0 G) fe σ2 H3 _) ?_
              refine ⟨Hf2, ρg, n2.rp, ?_⟩
              cases ee : fe ρg with
              | exc c _ => simp only [ee, reduceCtorEq] at el
              | bad => simp only [ee, reduceCtorEq] at el
              | ok z2 =>
                obtain ⟨y, ρe⟩ := z2
                simp only [ee] at el
                intro v Hf7 H7 n7 rv
                have n8 := n2.trans n7
                obtain ⟨c1, c2, c3⟩ := carry n8
                have n9 := n8.trans (n8.rp.wipe vs)
                rw [ew] at n9
                obtain ⟨d1, d2, d3⟩ := carry n9
                refine ⟨accv, c1, ?_, ?_⟩
                · rw [repA_len ra]
                  exact Nat.lt_of_lt_of_le (show acc.length < 1001 by omega) (by decide)
                · cases e5 : lcC cur g fe vs m (i + 1) ρe with
                  | exc c _ => simp only [e5, reduceCtorEq] at el
                  | bad => simp only [e5, reduceCtorEq] at el
                  | ok z3 =>
                    obtain ⟨ys2, ρ5⟩ := z3
                    simp only [e5, Res.ok.injEq, Prod.mk.injEq] at el
                    obtain ⟨e6, e7⟩ := el
                    subst e6 e7
                    refine ⟨Hf7, ρe, acc ++ [y], accv ++ [v], ys2, ((n.trans n9).updNew d1 hD d2 d3).1, upd_same, d2, ((n.trans n9).updNew d1 hD d2 d3).2, repA_append (repA_same n9.sub ra) (.cons rv .nil), ?_, e5, ?_⟩
                    · rw [List.length_append, List.length_singleton]; omega
                    · rw [List.append_assoc]; exact ex
          · simp only [ec, if_neg hlt] at el
            cases el
            rw [List.append_nil] at ex
            subst ex
            refine .inl ⟨it.2 (by omega), ?_⟩
            have nr := Nxt.rest rp n
            rw [← hgq] at nr
            refine af D0 accv Hfc Hc nr (.inl hD) fD (fun z => ?_) eD ra
            exact ((rest_weak rp n.sub n.rp).os D0 z).elim oD fun y => by rw [eD] at y; cases y
  · exact False.elim af
theorem fl_lcC {scope : Scope} {own : List (Str × Nat)} (hc : X.calm = true) (hN : X.N.Nodup) (ok : BlkOk X.N X.env.scope scope own) (his : ∀ i ∈ is, i ∈ own.map (·.2)) (hpk : ∀ k ∈ pk, k ∉ own.map (·.2)) (st : Starts pk is cur g tgt wi) (hi : PI X tg iter wi)
    (hg : ∀ (s : Shared) (H : Hp) (C : Addr) (cl : List (Str × Addr)) (fp : List Addr), PG (X.blk s H scope (compEnvC scope cl C X.env) fp) tg tgt)
    (he : ∀ (s : Shared) (H : Hp) (C : Addr) (cl : List (Str × Addr)) (fp : List Addr), PE (X.blk s H scope (compEnvC scope cl C X.env) fp) elt (tE (G0 G) fe)) (hs : ∀ x, foldedSetIterable iter X.env x = pure x := by intro _; rfl) (hgq : G.q = false := by rfl) :
    PE X (.ListComp elt [⟨tg, iter, [], 0⟩] scope pos) (tL G (fLcC cur g fe (own.map (·.2)))) := (pe_lc hc hN hi ok hg (fun _ _ _ _ _ => pts_nil) he hs).imp (lcC_run hgq his hpk st)
def tVr (k : Nat) : TE := fun σ H Q => ∃ v, σ[k]? = some (some v) ∧ Q v H
theorem starts1 (hj : j ≠ k) : Starts [k] [j] (len1 k) (bnd1 j k) (gName j) (iList X.K (tVr k)) := by
  intro σ H Hf ρ R rp hc hR
  obtain ⟨n, hn⟩ := Option.isSome_iff_exists.mp hc
  obtain ⟨l, vs, e1, e2, e3, _⟩ := src1 rp hn
  refine ⟨_, e1, l, rfl, ⟨vs, SqL.of e2⟩, hR _ fun σ1 ρ1 Hf1 H1 n i rp1 pk1 hn1 => ?_⟩
  obtain ⟨l', vs1, g1, g2, g3, g4⟩ := src1 rp1 hn1
  rw [pk1 k (List.mem_singleton.mpr rfl), e1] at g1
  cases g1
  refine ⟨fun hi => ⟨⟨vs1, vs1[i]'(by omega), SqL.of g2, List.getElem?_eq_getElem (by omega)⟩, fun x H' ⟨eh, hx⟩ ρ2 hb Q hQ => ?_⟩, fun hi => ⟨vs1, SqL.of g2, by omega⟩⟩
  subst eh
  have z := hx vs1 (SqL.of g2)
  refine hQ _ Hf1 _ (g4 i x z j ρ2 hj hb) ⟨List.length_set, fun j' n => ?_⟩
  rw [List.getElem?_set, if_neg fun z => n (by rw [z]; exact List.mem_singleton.mpr rfl)]
@[simp] def curZ (k k2 : Nat) (ρ : Rho) : Option Nat := (len1 k ρ).bind fun a => (len1 k2 ρ).map fun b => min a b
@[simp] def bndZ (j j2 k k2 : Nat) (i : Nat) (ρ : Rho) : Option Rho := (bnd1 j k i ρ).bind (bnd1 j2 k2 i)
end
end Fx
namespace Fx
open PySem L2
variable [Tabz]
section
variable {X : Cx} {G : Gx} {e elt : Expr} {sts : List Stmt} {s : Rho → Fl} {pos : Pos} {pn : List Nat} {fe : M PyData} {f : M Tr}
theorem gn_name (i : Nat) {x : Str} (hN : X.N.Nodup) (hi : X.N[i]? = some x := by rfl) (hx : Loc X.env.scope x := by first | exact Or.inl rfl | exact Or.inr rfl) (hf : X.fn x = true ∨ X.env.scope.names.lookup x = some .local := by first | exact .inl rfl | exact .inr rfl) : PG X (.Name x pos) (gName i) := pg_name hN hi hx hf
theorem fl_lcN (k j : Nat) {x y : Str} {p1 p2 : Pos} {scope : Scope} {own : List (Str × Nat)} (hc : X.calm = true) (hN : X.N.Nodup) (ok : BlkOk X.N X.env.scope scope own) (hjk : j ≠ k) (his : j ∈ own.map (·.2)) (hpk : k ∉ own.map (·.2))
    (hg : ∀ (s : Shared) (H : Hp) (C : Addr) (cl : List (Str × Addr)) (fp : List Addr), PG (X.blk s H scope (compEnvC scope cl C X.env) fp) (.Name y p2) (gName j))
    (he : ∀ (s : Shared) (H : Hp) (C : Addr) (cl : List (Str × Addr)) (fp : List Addr), PE (X.blk s H scope (compEnvC scope cl C X.env) fp) elt (tE (G0 G) fe))
    (hx : X.N[k]? = some x := by rfl) (hv : Vis X.env.scope x := by first | exact Or.inl rfl | exact Or.inr (Or.inl rfl) | exact Or.inr (Or.inr rfl)) (hd : (x == ("__debug__" : Str)) = false := by decide) (hcd : (x == ("__classdict__" : Str)) = false := by decide) (hgq : G.q = false := by rfl) :
    PE X (.ListComp elt [⟨.Name y p2, .Name x p1, [], 0⟩] scope pos) (tL G (fLcC (len1 k) (bnd1 j k) fe (own.map (·.2)))) :=
  fl_lcC (pk := [k]) (is := [j]) (wi := iList X.K (tVr k)) hc hN ok (fun i h => by rw [List.mem_singleton.mp h]; exact his) (fun i h => by rw [List.mem_singleton.mp h]; exact hpk) (starts1 hjk) (pi_list (pe_var hx hv hd hcd)) hg he (hgq := hgq)
@[simp] def ndl (i : Nat) (ρ : Rho) : Option (List Tr) := match (ρ[i]? : Option Sl) with
  | some (.tr (.nd .lst ts)) => some ts
  | _ => none
theorem ndl_is {i : Nat} {ρ : Rho} {ts : List Tr} (h : ndl i ρ = some ts) : ρ[i]? = some (.tr (.nd .lst ts)) := by
  unfold ndl at h
  split at h
  · rename_i e; cases h; exact e
  · cases h
@[simp] def sAppN (i : Nat) (f : M Tr) : Rho → Fl := fun ρ => if (ndl i ρ).isSome = true then (sBnd f fun t ρ1 => match ndl i ρ1 with
    | some ts => if ts.length < 1000 then .nx (killB (kPre []) i (ρ1.set i (.tr (.nd .lst (ts ++ [t]))))) else .bad
    | none => .bad) ρ else .bad
theorem fs_appN (i : Nat) {x : Str} {p1 ap cp : Pos} (he : PE X e (tN G f)) (hN : X.N[i]? = some x := by rfl) (hv : Vis X.env.scope x := by first | exact Or.inl rfl | exact Or.inr (Or.inl rfl) | exact Or.inr (Or.inr rfl)) (hd : (x == ("__debug__" : Str)) = false := by decide)
    (hcd : (x == ("__classdict__" : Str)) = false := by decide) (hbase : attributeBase (.Name x p1) "append" X.env (eval (.Name x p1) X.env) = eval (.Name x p1) X.env := by rfl)
    (hfew : ((backTo cp (starEach [e] X.env)).all (fun x => !x.1) && (backToKw cp (keywordEach [] X.env)).all (fun x => x.1.isSome) && decide (([e] : List Expr).length + ([] : List Keyword).length + (if ([] : List Keyword).isEmpty then 0 else 1) < 30)) = true := by rfl)
    (hline : (ap.endLine == cp.line) = true := by rfl) (hs : starEach [e] X.env = (false, eval e X.env) :: starEach [] X.env := by rfl) (hplain : (backTo cp (starEach [] X.env)).any (·.1) = false := by rfl)
    (hsw : swapsWith (.Call (.Attribute (.Name x p1) "append" ap) [e] [] cp) none pos.line X.env = pure false := by rfl) : PS X (.Expr (.Call (.Attribute (.Name x p1) "append" ap) [e] [] cp) pos) (tS G pn (sAppN i f)) := by
  refine (ps_expr (pe_bm PySem.F.plainAttrs_list PySem.F.slot_list_append PySem.F.type_list_append mt_append (pe_var hN hv hd hcd) (pa_cons he pa_nil hs) hbase hfew hline hs hplain) hsw).imp fun D σ H ⟨Hf, ρ, rp, af⟩ => ?_
  unfold sAppN at af
  split at af
  · rename_i h0
    obtain ⟨ts0, e0⟩ := Option.isSome_iff_exists.mp h0
    obtain ⟨w0, F0, s0, r0, _, _⟩ := slok_tr' (rp.sl i _ (ndl_is e0))
    cases r0 with
    | @nd p _ vs0 _ _ hk0 _ =>
      refine ⟨.ref p, s0, .inl ⟨rfl, _, SqL.of hk0⟩, (stepSN rp af).mono fun v H1 ⟨t, F, Hf1, ρ1, n1, r, nd, hF, af1⟩ => ?_⟩
      cases e1 : ndl i ρ1 with
      | none => rw [e1] at af1; exact False.elim af1
      | some ts =>
        rw [e1] at af1
        dsimp only at af1
        split at af1
        · rename_i hlt
          have hi := ndl_is e1
          obtain ⟨w, F2, s2, r0, nd0, hf0⟩ := slok_tr' (n1.rp.sl i _ hi)
          rw [s0] at s2
          cases s2
          have r00 := r0
          cases r0 with
          | @nd _ _ vs _ Fk hk hs =>
            have hp : H1 p = some (.lst vs) := hk
            have hlen := hs.len
            refine ⟨p, vs, v, rfl, rfl, hp, Nat.lt_of_lt_of_le (show vs.length < 1001 by omega) (by decide), ?_⟩
            have own0 : ∀ c ∈ p :: Fk, OwnA H1 σ ρ1 c := fun c m => ⟨i, (ownI_tr hi s0 r00).mpr m⟩
            have pF : p ∉ F := fun z => (hF p z).2.2 (own0 p List.mem_cons_self)
            obtain ⟨pk, ndk⟩ := List.nodup_cons.mp nd0
            have hup : ∀ c, c ≠ p → upd H1 p (.lst (vs ++ [v])) c = H1 c := fun c z => upd_ne z
            have rt : TR Hf1 (upd H1 p (.lst (vs ++ [v]))) v t F := r.mono (Same.refl _) fun c m => hup c fun z => pF (z ▸ m)
            have hs' : TRs Hf1 (upd H1 p (.lst (vs ++ [v]))) vs ts Fk := hs.mono (Same.refl _) fun c m => hup c fun z => pk (z ▸ m)
            have kids := TRs.app rt hs'
            have ndF : (Fk ++ F).Nodup := by
              rw [List.nodup_append]
              exact ⟨ndk, nd, fun c m c' mc ebc => by subst ebc; exact (hF c mc).2.2 (own0 c (List.mem_cons_of_mem _ m))⟩
            refine af1 σ Hf1 _ (n1.chgTF rp F hF (kPre []) hi s0 r00 (Same.refl _) (fun c o z => ?_) (n1.rp.tb.set hp) n1.rp.nt (fun c o h _ nb => ?_) (fun c h => ?_) (fun c h => .inl h) (.nd upd_same kids) (List.nodup_cons.mpr ⟨fun y => (List.mem_append.mp y).elim pk pF, ndF⟩) (fun c m => ?_) (fun c m => ?_) (fun qs w s hk ha => ?_)) (.refl _ _)
            · rw [hup c fun y => by rw [y, hf0 p List.mem_cons_self] at z; cases z]; exact n1.rp.sub c o z
            · rw [hup c fun y => nb (y ▸ List.mem_cons_self)]; exact h
            · by_cases y : c = p
              · rw [y, upd_same] at h; cases h
              · rw [hup c y] at h; exact h
            · rcases List.mem_cons.mp m with y | y
              · rw [y]; exact hf0 p List.mem_cons_self
              · exact (List.mem_append.mp y).elim (fun z => hf0 c (List.mem_cons_of_mem _ z)) fun z => (hF c z).2.1
            · rcases List.mem_cons.mp m with y | y
              · exact .inl (by rw [y]; exact List.mem_cons_self)
              · exact (List.mem_append.mp y).elim (fun z => .inl (List.mem_cons_of_mem _ z)) fun z => .inr (.inr z)
            · cases qs with
              | nil => cases ha; exact ⟨_, .nil⟩
              | cons m qs => cases hk
        · exact False.elim af1
  · exact False.elim af
@[simp] def fLenN (f : M Pth) : M PyData := fun ρ => (bnd f fun p ρ => match (trAt p ρ).bind ndS with
  | some ts => .ok (.int (ts.length : Int), ρ)
  | none => .bad) ρ
end
end Fx
namespace Fx
open PySem L2
variable [Tabz]
section
variable {X : Cx} {G : Gx} {e e2 : Expr} {pos : Pos} {f g : M PyData}
def oLr2 : PyData → PyData → Option (List PyData)
  | .int i, .int j => if 0 ≤ i ∧ i ≤ 100000 ∧ 0 ≤ j ∧ j ≤ 100000 then some (rng i (j - i).toNat) else none
  | _, _ => none
@[simp] def fLr2 (f g : M PyData) : M (List PyData) := fun ρ => (bnd f fun a => bnd g fun b => opt (oLr2 a b)) ρ
theorem fl_lrange2 {p p2 q : Pos} (hc : X.calm = true) (hg : Gl X "list") (hm : X.mg "list" = none) (hg2 : Gl X "range") (hm2 : X.mg "range" = none) (he : PE X e (tE G f)) (he2 : PE X e2 (tE G g)) (na : starEach [e, e2] X.env = (false, eval e X.env) :: starEach [e2] X.env := by rfl)
    (nb : starEach [e2] X.env = (false, eval e2 X.env) :: starEach [] X.env := by rfl) (hp : (backTo q (starEach [e2] X.env)).any (·.1) = false := by rfl) :
    PE X (.Call (.Name "list" p) [.Call (.Name "range" p2) [e, e2] [] q] [] pos) (tL G (fLr2 f g)) := by
  refine (pe_listRg hc hg hm (prg_2 hg2 hm2 he he2 na nb hp) rfl).imp fun σ H Q ⟨Hf, ρ, rp, af⟩ => ?_
  refine (stepL (R1 := Rep) rp af).mono fun x H1 ⟨d, Hf1, ρ1, n1, rd, af1⟩ => ?_
  refine (stepL (R1 := Rep) n1.rp af1).mono fun y H2 ⟨d2, Hf2, ρ2, n2, rd2, af2⟩ => ?_
  obtain ⟨i, rfl⟩ : ∃ i, d = .int i := by cases d <;> first | exact False.elim af2 | exact ⟨_, rfl⟩
  obtain ⟨j, rfl⟩ : ∃ j, d2 = .int j := by cases d2 <;> first | exact False.elim af2 | exact ⟨_, rfl⟩
  have e1 := rep_int rd
  have e2 := rep_int rd2
  subst e1 e2
  by_cases h : 0 ≤ i ∧ i ≤ 100000 ∧ 0 ≤ j ∧ j ≤ 100000
  · have eo : oLr2 (.int i) (.int j) = some (rng i (j - i).toNat) := if_pos h
    rw [eo] at af2
    refine ⟨i, j, rfl, rfl, ⟨by omega, by omega, by omega, by omega, by omega⟩, fun q hq => ?_⟩
    exact af2 q _ Hf2 _ (n2.rp.newO hq) (.inl hq) (n2.rp.sub.free hq) (n2.rp.notOwnU hq) upd_same (by
      unfold rgV rng
      have : ((List.range (j - i).toNat).map fun k => V.int (i + (k : Nat))) = ((List.range (j - i).toNat).map fun k : Nat => (i + (k : Int))).map V.int := by simp
      rw [this]
      have e2 : ((List.range (j - i).toNat).map fun k => PyData.int (i + (k : Nat))) = ((List.range (j - i).toNat).map fun k : Nat => (i + (k : Int))).map PyData.int := by simp
      rw [e2]
      exact repA_ints _)
  · have eo : oLr2 (.int i) (.int j) = none := if_neg h
    rw [eo] at af2
    exact False.elim af2
end
end Fx
namespace K34
open PySem L2 Fx Mm
variable [Tabz]
noncomputable def q_l_look_1 : M (List PyData) := (fLc (fItL (fVar 1)) (gSet 2) (ret true) (fTup (fCons (fR (fMeth "Kinds" F_Kinds_is_raw (.ls 0) [(.e (fVar 2))])) (fCons (fR (fMeth "Kinds" F_Kinds_parts (.ls 0) [(.e (fVar 2))])) (fCons (fR (fMeth "Kinds" F_Kinds_holds (.ls 0) [(.e (fVar 2))])) fNil)))) [2])
noncomputable def g_l_look : Rho → Fl := (sSeq (sSet 1 (fLst (fLr2 (ret (.int 1)) (fOp oAdd (.e (fR (fMeth "Kinds" F_Kinds_many (.ls 0) []))) (.e (ret (.int 1)))))))
    (sRetT (nL q_l_look_1)))
noncomputable def F_l_look := runT 3 g_l_look [1]
noncomputable def q_l_more_1 : M (List PyData) := (fLc (fItL (fVar 2)) (gSet 4) (ret true) (fOp oIx (.v 4) (.e (ret (.int 2)))) [4])
noncomputable def q_l_more_2 : M (List PyData) := (fLc (fItL (fVar 6)) (gTp (gsCons (gSet 7) (gsCons (gSet 8) gsNil))) (ret true) (fVar 8) [7, 8])
noncomputable def g_l_more : Rho → Fl := (sSeq (sSetL 3 q_l_more_1)
    (sSeq (sSet 5 (fCallI 0 F_l_parts (fCons (fCB oLen [(.v 2)]) (fCons (ret (.int 9)) fNil))))
    (sSeq (sIf (tOrM (fB (fOp oEQ (.v 5) (.e (fLst (fLs fNil))))) (fB (fOp oEQ (.e (fCallI 0 F_l_pick (fCons (ret (.int 2)) fNil))) (.e (ret (.int 0)))))) (sSeq (sDrop (fR (fMeth "Kinds" F_Kinds_raw (.os 1) [])))
    (sRetT (nL (fOpL oCat (.v 2) (.e (fLst (fLs (fCons (fTup (fCons (ret (.bool true)) (fCons (fLst (fLs fNil)) (fCons (fLst (fLs (fCons (fTup (fCons (fOp oAdd (.e (fCB oLen [(.v 2)])) (.e (ret (.int 1)))) (fCons (ret (.int 1)) fNil))) fNil))) fNil)))) fNil)))))))) sNil)
    (sSeq (sSet 6 (fLst (lR (fCallT F_l_holding [(.ls 3), (.e (fVar 5))]))))
    (sSeq (sIf (fB (fOp oGt (.e (fCB oMaxL [(.e (fLst q_l_more_2))])) (.e (ret (.int 10000))))) (sRetG 2) sNil)
    (sSeq (sDrop (fR (fMeth "Kinds" F_Kinds_made (.os 1) [(.ls 5)])))
    (sRetT (nL (fOpL oCat (.v 2) (.e (fLst (fLs (fCons (fTup (fCons (ret (.bool false)) (fCons (fVar 5) (fCons (fVar 6) fNil)))) fNil)))))))))))))
noncomputable def F_l_more := runT 9 g_l_more [2, 2, 0]
noncomputable def b_law_1 : Rho → Fl := (sSetIx 3 (fR (fCallT F_l_more [(.os 1), (.op (plI (plN 2) (ret (.int 0)))), (.e (fOp oIx (.v 3) (.e (ret (.int 0)))))])) (ret (.int 0)))
noncomputable def q_law_1 : M (List PyData) := (fLc (fAB oRng1 (fCons (ret (.int 3)) fNil)) (gSet 4) (ret true) (fLst (fLB oList [(.e (fOp oIx (.v 3) (.e (ret (.int 0)))))])) [4])
noncomputable def q_law_2 : M (List PyData) := (fLcC (len1 2) (bnd1 6 2) (fLst (lR (fCallT F_l_look [(.lp (plN 6))]))) [6])
noncomputable def b_law_2 : Rho → Fl := (sSeq (sSet 5 (fCallI 1 F_l_pick (fCons (ret (.int 3)) fNil)))
    (sSeq (sSetIx 3 (fR (fCallT F_l_more [(.os 1), (.op (plI (plN 2) (fVar 5))), (.e (fOp oIx (.v 3) (.v 5)))])) (fVar 5))
    (sIf (tNotM (fB (fCallP F_l_same [(.e (fLst q_law_2)), (.v 3)]))) (sRet (ret (.bool false))) sNil)))
noncomputable def q_law_3 : M (List PyData) := (fLcC (len1 2) (bnd1 6 2) (fLst (lR (fCallT F_l_look [(.lp (plN 6))]))) [6])
noncomputable def g_law : Rho → Fl := (sSeq (sSetT 2 (nLstT (tsCons (nMk "Kinds" F_Kinds___init__ fNil) tsNil)))
    (sSeq (sSetL 3 (fLs (fCons (fLst (fLs fNil)) fNil)))
    (sSeq (sFor (fAB oRng1 (fCons (fCallI 1 F_l_pick (fCons (ret (.int 8)) fNil)) fNil)) (gSet 4) b_law_1)
    (sSeq (sAppN 2 (nR (fMeth "Kinds" F_Kinds_twin (.lp (plI (plN 2) (ret (.int 0)))) [])))
    (sSeq (sAppN 2 (nR (fMeth "Kinds" F_Kinds_twin (.lp (plI (plN 2) (ret (.int 1)))) [])))
    (sSeq (sSetL 3 q_law_1)
    (sSeq (sFor (fAB oRng1 (fCons (fCallI 1 F_l_pick (fCons (ret (.int 5)) fNil)) fNil)) (gSet 4) b_law_2)
    (sRet (fCallP F_l_same [(.e (fLst q_law_3)), (.v 3)])))))))))
end K34
namespace K34
open PySem L2 Fx Mm
variable [Tabz]
def top (i : Nat) : Stmt := PySem.Challenge.pw_drawback_k34_kinds_and_twins.main.body.getD i (.Pass ⟨0, 0, 0, 0⟩)
def clb : Stmt → List Stmt
  | .ClassDef _ _ _ b _ _ _ _ _ _ _ => b
  | _ => []
def mtd (i j : Nat) : Stmt := (clb (top i)).getD j (.Pass ⟨0, 0, 0, 0⟩)
abbrev s_Kinds___init__ : Stmt := mtd 11 0
abbrev s_Kinds_twin : Stmt := mtd 11 1
abbrev s_Kinds_many : Stmt := mtd 11 2
abbrev s_Kinds_need_kind : Stmt := mtd 11 3
abbrev s_Kinds_need_room : Stmt := mtd 11 4
abbrev s_Kinds_put : Stmt := mtd 11 5
abbrev s_Kinds_raw : Stmt := mtd 11 6
abbrev s_Kinds_need_parts : Stmt := mtd 11 7
abbrev s_Kinds_held_by : Stmt := mtd 11 8
abbrev s_Kinds_made : Stmt := mtd 11 9
abbrev s_Kinds_is_raw : Stmt := mtd 11 10
abbrev s_Kinds_parts : Stmt := mtd 11 11
abbrev s_Kinds_holds : Stmt := mtd 11 12
abbrev s__law_pick : Stmt := top 13
abbrev s__law_parts : Stmt := top 14
abbrev s__law_holding : Stmt := top 15
abbrev s__law_begin : Stmt := top 16
abbrev s__law_same : Stmt := top 17
abbrev s__law_look : Stmt := top 18
abbrev s__law_more : Stmt := top 19
abbrev s_law : Stmt := top 20
theorem sc_Kinds___init__ : FnScope ["self"] ["self"] (defScope s_Kinds___init__) := ⟨rfl, rfl, rfl, by decide +kernel, rfl, by decide +kernel, by decide +kernel⟩
theorem sc_Kinds_twin : FnScope ["self", "other"] ["self"] (defScope s_Kinds_twin) := ⟨rfl, rfl, rfl, by decide +kernel, rfl, by decide +kernel, by decide +kernel⟩
theorem sc_Kinds_many : FnScope ["self"] ["self"] (defScope s_Kinds_many) := ⟨rfl, rfl, rfl, by decide +kernel, rfl, by decide +kernel, by decide +kernel⟩
theorem sc_Kinds_need_kind : FnScope ["self", "kind"] ["self", "kind"] (defScope s_Kinds_need_kind) := ⟨rfl, rfl, rfl, by decide +kernel, rfl, by decide +kernel, by decide +kernel⟩
theorem sc_Kinds_need_room : FnScope ["self"] ["self"] (defScope s_Kinds_need_room) := ⟨rfl, rfl, rfl, by decide +kernel, rfl, by decide +kernel, by decide +kernel⟩
theorem sc_Kinds_put : FnScope ["self", "parts", "held"] ["self", "parts", "held"] (defScope s_Kinds_put) := ⟨rfl, rfl, rfl, by decide +kernel, rfl, by decide +kernel, by decide +kernel⟩
theorem sc_Kinds_raw : FnScope ["self", "number"] ["self"] (defScope s_Kinds_raw) := ⟨rfl, rfl, rfl, by decide +kernel, rfl, by decide +kernel, by decide +kernel⟩
theorem sc_Kinds_need_parts : FnScope ["self", "parts", "ahead", "kind", "number"] ["self", "parts"] (defScope s_Kinds_need_parts) := ⟨rfl, rfl, rfl, by decide +kernel, rfl, by decide +kernel, by decide +kernel⟩
theorem sc_Kinds_held_by : FnScope ["self", "parts", "sums", "kind", "number", "raw", "many"] ["self", "parts"] (defScope s_Kinds_held_by) := ⟨rfl, rfl, rfl, by decide +kernel, rfl, by decide +kernel, by decide +kernel⟩
theorem sc_Kinds_made : FnScope ["self", "parts", "held", "raw", "many", "kind", "number"] ["self", "parts"] (defScope s_Kinds_made) := ⟨rfl, rfl, rfl, by decide +kernel, rfl, by decide +kernel, by decide +kernel⟩
theorem sc_Kinds_is_raw : FnScope ["self", "kind"] ["self", "kind"] (defScope s_Kinds_is_raw) := ⟨rfl, rfl, rfl, by decide +kernel, rfl, by decide +kernel, by decide +kernel⟩
theorem sc_Kinds_parts : FnScope ["self", "kind"] ["self", "kind"] (defScope s_Kinds_parts) := ⟨rfl, rfl, rfl, by decide +kernel, rfl, by decide +kernel, by decide +kernel⟩
theorem sc_Kinds_holds : FnScope ["self", "kind"] ["self", "kind"] (defScope s_Kinds_holds) := ⟨rfl, rfl, rfl, by decide +kernel, rfl, by decide +kernel, by decide +kernel⟩
theorem sc__law_pick : FnScope ["_law_draw", "_law_many", "_law_cell", "_law_got"] ["_law_draw", "_law_many"] (defScope s__law_pick) := ⟨rfl, rfl, rfl, by decide +kernel, rfl, by decide +kernel, by decide +kernel⟩
theorem sc__law_parts : FnScope ["_law_draw", "_law_many", "_law_most", "_law_found", "_law_kind", "_law_k"] ["_law_draw", "_law_many", "_law_most"] (defScope s__law_parts) := ⟨rfl, rfl, rfl, by decide +kernel, rfl, by decide +kernel, by decide +kernel⟩
theorem sc__law_holding : FnScope ["_law_held", "_law_parts_here", "_law_sums", "_law_kind", "_law_number", "_law_raw", "_law_some"] ["_law_held", "_law_parts_here"] (defScope s__law_holding) := ⟨rfl, rfl, rfl, by decide +kernel, rfl, by decide +kernel, by decide +kernel⟩
theorem sc__law_begin : FnScope ["_law_script"] ["_law_script"] (defScope s__law_begin) := ⟨rfl, rfl, rfl, by decide +kernel, rfl, by decide +kernel, by decide +kernel⟩
theorem sc__law_same : FnScope ["_law_found", "_law_due", "_law_one", "_law_other"] ["_law_found", "_law_due"] (defScope s__law_same) := ⟨rfl, rfl, rfl, by decide +kernel, rfl, by decide +kernel, by decide +kernel⟩
theorem sc__law_look : FnScope ["_law_goods", "_law_kinds", "_law_kind"] ["_law_goods"] (defScope s__law_look) := ⟨rfl, rfl, rfl, by decide +kernel, rfl, by decide +kernel, by decide +kernel⟩
theorem sc__law_more : FnScope ["_law_draw", "_law_goods", "_law_look_here", "_law_held", "_law_row", "_law_parts_here", "_law_some", "_law_raw", "_law_many"] ["_law_draw", "_law_goods", "_law_look_here"] (defScope s__law_more) := ⟨rfl, rfl, rfl, by decide +kernel, rfl, by decide +kernel, by decide +kernel⟩
theorem sc_law : FnScope ["_law_script", "_law_draw", "_law_goods", "_law_looks", "_law_k", "_law_at", "_law_one"] ["_law_script"] (defScope s_law) := ⟨rfl, rfl, rfl, by decide +kernel, rfl, by decide +kernel, by decide +kernel⟩
def fa : List Fq := [.f (.noat "Kinds" "part_rows"),
  .f (.cls "Kinds"),
  .f (.noat "Kinds" "held"),
  .f (.mkr "Kinds"),
  .f (.glo "Kinds"),
  .f (.free "list"),
  .f (.free "len"),
  .f (.exc "NoKind"),
  .f (.glo "NoKind"),
  .f (.int "MOST_KINDS" 12),
  .f (.exc "Full"),
  .f (.glo "Full"),
  .f (.meth "Kinds" "need_room"),
  .f (.meth "Kinds" "put"),
  .f (.int "MOST_PARTS" 100),
  .f (.exc "BadParts"),
  .f (.glo "BadParts"),
  .f (.free "sorted"),
  .f (.free "tuple"),
  .f (.meth "Kinds" "need_parts"),
  .f (.meth "Kinds" "held_by"),
  .f (.int "MOST_HELD" 10000),
  .f (.free "any"),
  .f (.exc "TooMuch"),
  .f (.glo "TooMuch"),
  .f (.meth "Kinds" "need_kind"),
  .f (.free "range"),
  .f (.free "isinstance"),
  .f (.free "bool"),
  .f (.free "int"),
  .f (.free "str"),
  .f (.free "zip"),
  .f (.free "all"),
  .f (.meth "Kinds" "many"),
  .f (.meth "Kinds" "is_raw"),
  .f (.meth "Kinds" "parts"),
  .f (.meth "Kinds" "holds"),
  .f (.meth "Kinds" "raw"),
  .f (.free "max"),
  .f (.meth "Kinds" "made"),
  .f (.meth "Kinds" "twin"),
  .f (.glo "_law_pick"),
  .f (.glo "_law_parts"),
  .f (.glo "_law_holding"),
  .f (.glo "_law_begin"),
  .f (.glo "_law_same"),
  .f (.glo "_law_look"),
  .f (.glo "_law_more"),
  .f (.glo "law")]
def tf : List Str := []
def fn : List He.FnD := [mkM "Kinds" "__init__" "Kinds.__init__" s_Kinds___init__, mkM "Kinds" "twin" "Kinds.twin" s_Kinds_twin, mkM "Kinds" "many" "Kinds.many" s_Kinds_many, mkM "Kinds" "need_kind" "Kinds.need_kind" s_Kinds_need_kind, mkM "Kinds" "need_room" "Kinds.need_room" s_Kinds_need_room, mkM "Kinds" "put" "Kinds.put" s_Kinds_put, mkM "Kinds" "raw" "Kinds.raw" s_Kinds_raw, mkM "Kinds" "need_parts" "Kinds.need_parts" s_Kinds_need_parts, mkM "Kinds" "held_by" "Kinds.held_by" s_Kinds_held_by, mkM "Kinds" "made" "Kinds.made" s_Kinds_made, mkM "Kinds" "is_raw" "Kinds.is_raw" s_Kinds_is_raw, mkM "Kinds" "parts" "Kinds.parts" s_Kinds_parts, mkM "Kinds" "holds" "Kinds.holds" s_Kinds_holds, mkD "_law_pick" s__law_pick, mkD "_law_parts" s__law_parts, mkD "_law_holding" s__law_holding, mkD "_law_begin" s__law_begin, mkD "_law_same" s__law_same, mkD "_law_look" s__law_look, mkD "_law_more" s__law_more, mkD "law" s_law]
section
variable {P : Program} {w : World} {K : PySem.W.Frag} {mg : Str → Option Value} {base : Heap}
theorem c_Kinds___init__ (T : Tp fa fn tf K mg base) : CalM P w K mg base "Kinds" "__init__" 1 ["self"] (spT (He.ga K) 1 F_Kinds___init__) := by
  refine cal_M (c := "Kinds") (m := "__init__") (q := "Kinds.__init__") (sd := s_Kinds___init__) (N := ["self"]) (ps := ["self"]) (k := 0) (g := g_Kinds___init__) [2] [0] T.toTop 0 rfl sc_Kinds___init__ rfl (pn_ok (by decide)) (fun _ _ _ _ _ _ => ln1 fun _ => by kernel_rfl) (fun cdv A outer s H E hr => ?_)
  exact (fss_cons (fs_fld 0 0 T.ca (T.cls 1) (T.noat 0) (by decide) (by decide) (by decide) (fn_L (fl_lst fa_nil)))
      (fss_one (fs_fld 0 1 T.ca (T.cls 1) (T.noat 2) (by decide) (by decide) (by decide) (fn_L (fl_lst fa_nil)))))
theorem c_Kinds_twin (T : Tp fa fn tf K mg base) : CalM P w K mg base "Kinds" "twin" 3 ["self"] (spT (He.ga K) 1 F_Kinds_twin) := by
  refine cal_M (c := "Kinds") (m := "twin") (q := "Kinds.twin") (sd := s_Kinds_twin) (N := ["self", "other"]) (ps := ["self"]) (k := 2) (g := g_Kinds_twin) [1] [] T.toTop 1 rfl sc_Kinds_twin rfl (pn_ok (by decide)) (fun _ _ _ _ _ _ => ln1 fun _ => by kernel_rfl) (fun cdv A outer s H E hr => ?_)
  exact (fss_cons (fs_setT 1 sc_Kinds_twin.nd (by decide) (fn_mk0 T.ca (fun as h => runT_len as h) (c_Kinds___init__ T) (T.mkr 3) (hr.mono (by decide)) (by rfl) (T.glo 4) (takes_of rfl rfl rfl rfl)))
      (fss_cons (fs_fld 1 0 T.ca (T.cls 1) (T.noat 0) (by decide) (by decide) (by decide) (fn_L (fl_q (fl_list (by rfl) (T.free 5) (oa_cons (pO (pl_fld 0 (pl_name 0) (by rw [T.ca]; exact (T.cls 1)) (by rw [T.ca]; exact (T.noat 0)) (by decide) (by decide))) oa_nil)))))
      (fss_cons (fs_fld 1 1 T.ca (T.cls 1) (T.noat 2) (by decide) (by decide) (by decide) (fn_L (fl_q (fl_list (by rfl) (T.free 5) (oa_cons (pO (pl_fld 1 (pl_name 0) (by rw [T.ca]; exact (T.cls 1)) (by rw [T.ca]; exact (T.noat 2)) (by decide) (by decide))) oa_nil)))))
      (fss_one (fs_retG 1)))))
theorem c_Kinds_many (T : Tp fa fn tf K mg base) : CalM P w K mg base "Kinds" "many" 1 ["self"] (spT (He.ga K) 1 F_Kinds_many) := by
  refine cal_M (c := "Kinds") (m := "many") (q := "Kinds.many") (sd := s_Kinds_many) (N := ["self"]) (ps := ["self"]) (k := 0) (g := g_Kinds_many) [1] [] T.toTop 2 rfl sc_Kinds_many rfl (pn_ok (by decide)) (fun _ _ _ _ _ _ => ln1 fun _ => by kernel_rfl) (fun cdv A outer s H E hr => ?_)
  exact (fss_one (fs_ret (fe_q (fe_len (by rfl) (T.free 6) (oa_cons (pO (pl_fld 0 (pl_name 0) (by rw [T.ca]; exact (T.cls 1)) (by rw [T.ca]; exact (T.noat 0)) (by decide) (by decide))) oa_nil)))))
theorem c_Kinds_need_kind (T : Tp fa fn tf K mg base) : CalM P w K mg base "Kinds" "need_kind" 1 ["self", "kind"] (spT (He.ga K) 2 F_Kinds_need_kind) := by
  refine cal_M (c := "Kinds") (m := "need_kind") (q := "Kinds.need_kind") (sd := s_Kinds_need_kind) (N := ["self", "kind"]) (ps := ["self", "kind"]) (k := 0) (g := g_Kinds_need_kind) [1, 0] [] T.toTop 3 rfl sc_Kinds_need_kind rfl (pn_ok (by decide)) (fun _ _ _ _ _ _ => ln2 fun _ _ => by kernel_rfl) (fun cdv A outer s H E hr => ?_)
  exact (fss_one (fs_if (ft_pw (fw_or (ft_cmp op_lt rd_lt (vO 1) (eO fe_int) (nomark _)) (fw_or1 (ft_cmp op_gt rd_gt (vO 1) (eO (fe_q (fe_len (by rfl) (T.free 6) (oa_cons (pO (pl_fld 0 (pl_name 0) (by rw [T.ca]; exact (T.cls 1)) (by rw [T.ca]; exact (T.noat 0)) (by decide) (by decide))) oa_nil)))) (nomark _))))) (fss_one (fs_raise rfl (takes_of rfl rfl rfl rfl) PySem.F.excBase_ValueError (T.exc 7).1 (T.glo 8) (T.exc 7).2.1 (raises_own (T.exc 7).2.2.1 (T.exc 7).2.2.2) (by rfl))) fss_nil))
theorem c_Kinds_need_room (T : Tp fa fn tf K mg base) : CalM P w K mg base "Kinds" "need_room" 1 ["self"] (spT (He.ga K) 1 F_Kinds_need_room) := by
  refine cal_M (c := "Kinds") (m := "need_room") (q := "Kinds.need_room") (sd := s_Kinds_need_room) (N := ["self"]) (ps := ["self"]) (k := 0) (g := g_Kinds_need_room) [1] [] T.toTop 4 rfl sc_Kinds_need_room rfl (pn_ok (by decide)) (fun _ _ _ _ _ _ => ln1 fun _ => by kernel_rfl) (fun cdv A outer s H E hr => ?_)
  exact (fss_one (fs_if (ft_cmp op_ge rd_ge (eO (fe_q (fe_len (by rfl) (T.free 6) (oa_cons (pO (pl_fld 0 (pl_name 0) (by rw [T.ca]; exact (T.cls 1)) (by rw [T.ca]; exact (T.noat 0)) (by decide) (by decide))) oa_nil)))) (eO (fe_globI (by rfl) (T.int 9).choose_spec)) (nomark _)) (fss_one (fs_raise rfl (takes_of rfl rfl rfl rfl) PySem.F.excBase_ValueError (T.exc 10).1 (T.glo 11) (T.exc 10).2.1 (raises_own (T.exc 10).2.2.1 (T.exc 10).2.2.2) (by rfl))) fss_nil))
theorem c_Kinds_put (T : Tp fa fn tf K mg base) : CalM P w K mg base "Kinds" "put" 1 ["self", "parts", "held"] (spT (He.ga K) 3 F_Kinds_put) := by
  refine cal_M (c := "Kinds") (m := "put") (q := "Kinds.put") (sd := s_Kinds_put) (N := ["self", "parts", "held"]) (ps := ["self", "parts", "held"]) (k := 0) (g := g_Kinds_put) [2, 0, 0] [0] T.toTop 5 rfl sc_Kinds_put rfl (pn_ok (by decide)) (fun _ _ _ _ _ _ => ln3 fun _ _ _ => by kernel_rfl) (fun cdv A outer s H E hr => ?_)
  exact (fss_cons (fs_appendP (pl_fld 0 (pl_name 0) (by rw [T.ca]; exact (T.cls 1)) (by rw [T.ca]; exact (T.noat 0)) (by decide) (by decide)) (fe_var 1))
      (fss_cons (fs_appendP (pl_fld 1 (pl_name 0) (by rw [T.ca]; exact (T.cls 1)) (by rw [T.ca]; exact (T.noat 2)) (by decide) (by decide)) (fe_var 2))
      (fss_one (fs_ret (fe_q (fe_len (by rfl) (T.free 6) (oa_cons (pO (pl_fld 0 (pl_name 0) (by rw [T.ca]; exact (T.cls 1)) (by rw [T.ca]; exact (T.noat 0)) (by decide) (by decide))) oa_nil)))))))
theorem c_Kinds_raw (T : Tp fa fn tf K mg base) : CalM P w K mg base "Kinds" "raw" 2 ["self"] (spT (He.ga K) 1 F_Kinds_raw) := by
  refine cal_M (c := "Kinds") (m := "raw") (q := "Kinds.raw") (sd := s_Kinds_raw) (N := ["self", "number"]) (ps := ["self"]) (k := 1) (g := g_Kinds_raw) [2] [0] T.toTop 6 rfl sc_Kinds_raw rfl (pn_ok (by decide)) (fun _ _ _ _ _ _ => ln1 fun _ => by kernel_rfl) (fun cdv A outer s H E hr => ?_)
  exact (fss_cons (fs_expr (fe_R (fr_meth0 T.ca (by decide) (fun as h => runT_len as h) (c_Kinds_need_room T) (T.cls 1) (T.meth 12) (hr.mono (by decide)) (takes_of rfl rfl rfl rfl) (gLs 0))))
      (fss_cons (fs_set 1 sc_Kinds_raw.nd (by decide) (fe_add (eO (fe_q (fe_len (by rfl) (T.free 6) (oa_cons (pO (pl_fld 0 (pl_name 0) (by rw [T.ca]; exact (T.cls 1)) (by rw [T.ca]; exact (T.noat 0)) (by decide) (by decide))) oa_nil)))) (eO fe_int)))
      (fss_one (fs_ret (fe_R (fr_methG T.ca (by decide) (fun as h => runT_len as h) (c_Kinds_put T) (T.cls 1) (T.meth 13) (hr.mono (by decide)) (takes_of rfl rfl rfl rfl) (gOs 0) (ga_cons (gE (fe_tup fa_nil)) (ga_cons (gE (fe_tup (fa_cons (fe_tup (fa_cons (fe_var 1) (fa_cons fe_int fa_nil))) fa_nil))) ga_nil))))))))
theorem c_Kinds_need_parts (T : Tp fa fn tf K mg base) : CalM P w K mg base "Kinds" "need_parts" 1 ["self", "parts"] (spT (He.ga K) 2 F_Kinds_need_parts) := by
  refine cal_M (c := "Kinds") (m := "need_parts") (q := "Kinds.need_parts") (sd := s_Kinds_need_parts) (N := ["self", "parts", "ahead", "kind", "number"]) (ps := ["self", "parts"]) (k := 0) (g := g_Kinds_need_parts) [1, 1] [] T.toTop 7 rfl sc_Kinds_need_parts rfl (pn_ok (by decide)) (fun _ _ _ _ _ _ => ln2 fun _ _ => by kernel_rfl) (fun cdv A outer s H E hr => ?_)
  exact (fss_cons (fs_set 2 sc_Kinds_need_parts.nd (by decide) fe_int)
      (fss_cons (fs_for (passes_of rfl) rfl (by decide) (fi_listP (pl_name 1)) (fg_tup rfl (fgs_cons (fg_name 3 sc_Kinds_need_parts.nd) (fgs_cons (fg_name 4 sc_Kinds_need_parts.nd) fgs_nil)) (gs_len (gs_len gs_len0))) (fss_cons (fs_if (ft_pw (fw_or (ft_cmp op_le rd_le (vO 3) (vO 2) (nomark _)) (fw_or (ft_cmp op_gt rd_gt (vO 3) (eO (fe_q (fe_len (by rfl) (T.free 6) (oa_cons (pO (pl_fld 0 (pl_name 0) (by rw [T.ca]; exact (T.cls 1)) (by rw [T.ca]; exact (T.noat 0)) (by decide) (by decide))) oa_nil)))) (nomark _)) (fw_or (ft_cmp op_lt rd_lt (vO 4) (eO fe_int) (nomark _)) (fw_or1 (ft_cmp op_gt rd_gt (vO 4) (eO (fe_globI (by rfl) (T.int 14).choose_spec)) (nomark _))))))) (fss_one (fs_raise rfl (takes_of rfl rfl rfl rfl) PySem.F.excBase_ValueError (T.exc 15).1 (T.glo 16) (T.exc 15).2.1 (raises_own (T.exc 15).2.2.1 (T.exc 15).2.2.2) (by rfl))) fss_nil)
      (fss_one (fs_set 2 sc_Kinds_need_parts.nd (by decide) (fe_var 3)))))
      (fss_one (fs_if (ft_cmp (op_EQ (u64s hr)) rd_EQ (vO 2) (eO fe_int) (nomark _)) (fss_one (fs_raise rfl (takes_of rfl rfl rfl rfl) PySem.F.excBase_ValueError (T.exc 15).1 (T.glo 16) (T.exc 15).2.1 (raises_own (T.exc 15).2.2.1 (T.exc 15).2.2.2) (by rfl))) fss_nil))))
theorem c_Kinds_held_by (T : Tp fa fn tf K mg base) : CalM P w K mg base "Kinds" "held_by" 1 ["self", "parts"] (spT (He.ga K) 2 F_Kinds_held_by) := by
  refine cal_M (c := "Kinds") (m := "held_by") (q := "Kinds.held_by") (sd := s_Kinds_held_by) (N := ["self", "parts", "sums", "kind", "number", "raw", "many"]) (ps := ["self", "parts"]) (k := 0) (g := g_Kinds_held_by) [1, 1] [] T.toTop 8 rfl sc_Kinds_held_by rfl (pn_ok (by decide)) (fun _ _ _ _ _ _ => ln2 fun _ _ => by kernel_rfl) (fun cdv A outer s H E hr => ?_)
  exact (fss_cons (fs_setT 2 sc_Kinds_held_by.nd (by decide) fn_dK)
      (fss_cons (fs_for (passes_of rfl) rfl (by decide) (fi_listP (pl_name 1)) (fg_tup rfl (fgs_cons (fg_name 3 sc_Kinds_held_by.nd) (fgs_cons (fg_name 4 sc_Kinds_held_by.nd) fgs_nil)) (gs_len (gs_len gs_len0))) (fss_one (fs_for (passes_of rfl) rfl (by decide) (fi_tup (fe_q (fe_ix (pO (pl_fld 1 (pl_name 0) (by rw [T.ca]; exact (T.cls 1)) (by rw [T.ca]; exact (T.noat 2)) (by decide) (by decide))) (eO (fe_sub (vO 3) (eO fe_int)))))) (fg_tup rfl (fgs_cons (fg_name 5 sc_Kinds_held_by.nd) (fgs_cons (fg_name 6 sc_Kinds_held_by.nd) fgs_nil)) (gs_len (gs_len gs_len0))) (fss_one (fs_dputK 2 (u2s hr) (fe_add (eO (fe_dget2 2 (u2s hr) (fe_var 5) fe_int)) (eO (fe_mul (vO 6) (vO 4)))) (fe_var 5))))))
      (fss_one (fs_ret (fe_tuple (by rfl) (T.free 18) (oa_cons (eO (fe_ofL (fl_lc (own := [("raw", 5)]) rfl sc_Kinds_held_by.nd (blkOk_by (own := [("raw", 5)]) (N := ["self", "parts", "sums", "kind", "number", "raw", "many"]) (sc := (defScope s_Kinds_held_by)) (by decide +kernel)) (by decide) (fi_list (fe_ofL (fl_sortD 2 rfl (by rfl) (T.free 17)))) (fun _ _ _ _ _ => (fg_name 5 sc_Kinds_held_by.nd)) (fun _ _ _ _ _ => fts_nil) (fun _ _ _ _ _ => (fe_tup (fa_cons (fe_var 5) (fa_cons (fe_dgetK 2 (u2s hr) (fe_var 5)) fa_nil))))))) oa_nil))))))
theorem c_Kinds_made (T : Tp fa fn tf K mg base) : CalM P w K mg base "Kinds" "made" 2 ["self", "parts"] (spT (He.ga K) 2 F_Kinds_made) := by
  refine cal_M (c := "Kinds") (m := "made") (q := "Kinds.made") (sd := s_Kinds_made) (N := ["self", "parts", "held", "raw", "many", "kind", "number"]) (ps := ["self", "parts"]) (k := 1) (g := g_Kinds_made) [2, 1] [0] T.toTop 9 rfl sc_Kinds_made rfl (pn_ok (by decide)) (fun _ _ _ _ _ _ => ln2 fun _ _ => by kernel_rfl) (fun cdv A outer s H E hr => ?_)
  exact (fss_cons (fs_expr (fe_R (fr_methG T.ca (by decide) (fun as h => runT_len as h) (c_Kinds_need_parts T) (T.cls 1) (T.meth 19) (hr.mono (by decide)) (takes_of rfl rfl rfl rfl) (gLs 0) (ga_cons (gLs 1) ga_nil))))
      (fss_cons (fs_set 2 sc_Kinds_made.nd (by decide) (fe_R (fr_methG T.ca (by decide) (fun as h => runT_len as h) (c_Kinds_held_by T) (T.cls 1) (T.meth 20) (hr.mono (by decide)) (takes_of rfl rfl rfl rfl) (gLs 0) (ga_cons (gLs 1) ga_nil))))
      (fss_cons (fs_if (ft_val (fe_any rfl (by rfl) (T.free 22) (oa_cons (eO (fe_ofL (fl_lc (own := [("raw", 3), ("many", 4)]) rfl sc_Kinds_made.nd (blkOk_by (own := [("raw", 3), ("many", 4)]) (N := ["self", "parts", "held", "raw", "many", "kind", "number"]) (sc := (defScope s_Kinds_made)) (by decide +kernel)) (by decide) (fi_tup (fe_var 2)) (fun _ _ _ _ _ => (fg_tup rfl (fgs_cons (fg_name 3 sc_Kinds_made.nd) (fgs_cons (fg_name 4 sc_Kinds_made.nd) fgs_nil)) (gs_len (gs_len gs_len0)))) (fun _ _ _ _ _ => fts_nil) (fun _ _ _ _ _ => (fe_cmp op_gt rd_gt (vO 4) (eO (fe_globI (by rfl) (T.int 21).choose_spec)) (nomark _)))))) oa_nil))) (fss_one (fs_raise rfl (takes_of rfl rfl rfl rfl) PySem.F.excBase_ValueError (T.exc 23).1 (T.glo 24) (T.exc 23).2.1 (raises_own (T.exc 23).2.2.1 (T.exc 23).2.2.2) (by rfl))) fss_nil)
      (fss_cons (fs_expr (fe_R (fr_meth0 T.ca (by decide) (fun as h => runT_len as h) (c_Kinds_need_room T) (T.cls 1) (T.meth 12) (hr.mono (by decide)) (takes_of rfl rfl rfl rfl) (gLs 0))))
      (fss_one (fs_ret (fe_R (fr_methG T.ca (by decide) (fun as h => runT_len as h) (c_Kinds_put T) (T.cls 1) (T.meth 13) (hr.mono (by decide)) (takes_of rfl rfl rfl rfl) (gOs 0) (ga_cons (gE (fe_tuple (by rfl) (T.free 18) (oa_cons (eO (fe_ofL (fl_lc (own := [("kind", 5), ("number", 6)]) rfl sc_Kinds_made.nd (blkOk_by (own := [("kind", 5), ("number", 6)]) (N := ["self", "parts", "held", "raw", "many", "kind", "number"]) (sc := (defScope s_Kinds_made)) (by decide +kernel)) (by decide) (fi_listP (pl_name 1)) (fun _ _ _ _ _ => (fg_tup rfl (fgs_cons (fg_name 5 sc_Kinds_made.nd) (fgs_cons (fg_name 6 sc_Kinds_made.nd) fgs_nil)) (gs_len (gs_len gs_len0)))) (fun _ _ _ _ _ => fts_nil) (fun _ _ _ _ _ => (fe_tup (fa_cons (fe_var 5) (fa_cons (fe_var 6) fa_nil))))))) oa_nil))) (ga_cons (gE (fe_var 2)) ga_nil))))))))))
theorem c_Kinds_is_raw (T : Tp fa fn tf K mg base) : CalM P w K mg base "Kinds" "is_raw" 2 ["self", "kind"] (spT (He.ga K) 2 F_Kinds_is_raw) := by
  refine cal_M (c := "Kinds") (m := "is_raw") (q := "Kinds.is_raw") (sd := s_Kinds_is_raw) (N := ["self", "kind"]) (ps := ["self", "kind"]) (k := 1) (g := g_Kinds_is_raw) [1, 0] [] T.toTop 10 rfl sc_Kinds_is_raw rfl (pn_ok (by decide)) (fun _ _ _ _ _ _ => ln2 fun _ _ => by kernel_rfl) (fun cdv A outer s H E hr => ?_)
  exact (fss_cons (fs_expr (fe_R (fr_methG T.ca (by decide) (fun as h => runT_len as h) (c_Kinds_need_kind T) (T.cls 1) (T.meth 25) (hr.mono (by decide)) (takes_of rfl rfl rfl rfl) (gLs 0) (ga_cons (gE (fe_var 1)) ga_nil))))
      (fss_one (fs_ret (fe_cmp (op_EQ (u64s hr)) rd_EQ (eO (fe_q (fe_ix (pO (pl_fld 0 (pl_name 0) (by rw [T.ca]; exact (T.cls 1)) (by rw [T.ca]; exact (T.noat 0)) (by decide) (by decide))) (eO (fe_sub (vO 1) (eO fe_int)))))) (eO (fe_tup fa_nil)) (nomark _)))))
theorem c_Kinds_parts (T : Tp fa fn tf K mg base) : CalM P w K mg base "Kinds" "parts" 2 ["self", "kind"] (spT (He.ga K) 2 F_Kinds_parts) := by
  refine cal_M (c := "Kinds") (m := "parts") (q := "Kinds.parts") (sd := s_Kinds_parts) (N := ["self", "kind"]) (ps := ["self", "kind"]) (k := 1) (g := g_Kinds_parts) [1, 0] [] T.toTop 11 rfl sc_Kinds_parts rfl (pn_ok (by decide)) (fun _ _ _ _ _ _ => ln2 fun _ _ => by kernel_rfl) (fun cdv A outer s H E hr => ?_)
  exact (fss_cons (fs_expr (fe_R (fr_methG T.ca (by decide) (fun as h => runT_len as h) (c_Kinds_need_kind T) (T.cls 1) (T.meth 25) (hr.mono (by decide)) (takes_of rfl rfl rfl rfl) (gLs 0) (ga_cons (gE (fe_var 1)) ga_nil))))
      (fss_one (fs_retT (fn_L (fl_list (by rfl) (T.free 5) (oa_cons (eO (fe_q (fe_ix (pO (pl_fld 0 (pl_name 0) (by rw [T.ca]; exact (T.cls 1)) (by rw [T.ca]; exact (T.noat 0)) (by decide) (by decide))) (eO (fe_sub (vO 1) (eO fe_int)))))) oa_nil))))))
theorem c_Kinds_holds (T : Tp fa fn tf K mg base) : CalM P w K mg base "Kinds" "holds" 2 ["self", "kind"] (spT (He.ga K) 2 F_Kinds_holds) := by
  refine cal_M (c := "Kinds") (m := "holds") (q := "Kinds.holds") (sd := s_Kinds_holds) (N := ["self", "kind"]) (ps := ["self", "kind"]) (k := 1) (g := g_Kinds_holds) [1, 0] [] T.toTop 12 rfl sc_Kinds_holds rfl (pn_ok (by decide)) (fun _ _ _ _ _ _ => ln2 fun _ _ => by kernel_rfl) (fun cdv A outer s H E hr => ?_)
  exact (fss_cons (fs_expr (fe_R (fr_methG T.ca (by decide) (fun as h => runT_len as h) (c_Kinds_need_kind T) (T.cls 1) (T.meth 25) (hr.mono (by decide)) (takes_of rfl rfl rfl rfl) (gLs 0) (ga_cons (gE (fe_var 1)) ga_nil))))
      (fss_one (fs_retT (fn_L (fl_list (by rfl) (T.free 5) (oa_cons (eO (fe_q (fe_ix (pO (pl_fld 1 (pl_name 0) (by rw [T.ca]; exact (T.cls 1)) (by rw [T.ca]; exact (T.noat 2)) (by decide) (by decide))) (eO (fe_sub (vO 1) (eO fe_int)))))) oa_nil))))))
theorem c__law_pick (T : Tp fa fn tf K mg base) : Cal P w K mg base "_law_pick" 1 ["_law_draw", "_law_many"] (spI (He.ga K) 2 F_l_pick) := by
  refine cal_io (x := "_law_pick") (sd := s__law_pick) (N := ["_law_draw", "_law_many", "_law_cell", "_law_got"]) (ps := ["_law_draw", "_law_many"]) (k := 0) (g := g_l_pick) T.toTop 41 13 rfl rfl sc__law_pick (fun _ _ _ _ _ _ => ln2 fun _ _ => by kernel_rfl) (fun cdv A outer s H E hr => ?_)
  exact (fss_cons (fs_if (ft_pw (fw_and (ft_cmp op_lt rd_lt (eO (fe_ix (vO 0) (eO fe_int))) (vO 1) (nomark _)) (fw_and1 (ft_cmp op_lt rd_lt (eO (fe_ix (vO 0) (eO fe_int))) (eO (fe_len (by rfl) (T.free 6) (oa_cons (eO (fe_ix (vO 0) (eO fe_int))) oa_nil))) (nomark _))))) (fss_cons (fs_set 2 sc__law_pick.nd (by decide) (fe_ix (eO (fe_ix (vO 0) (eO fe_int))) (eO (fe_ix (vO 0) (eO fe_int)))))
      (fss_cons (fs_setIx 0 (fe_add (eO (fe_ix (vO 0) (eO fe_int))) (eO fe_int)) fe_int)
      (fss_cons (fs_setIx 0 fe_int fe_int)
      (fss_one (fs_if (ft_cmp op_ge rd_ge (vO 2) (eO (fe_pow (eO fe_int) (eO fe_int))) (nomark _)) (fss_one (fs_setIx 0 (fe_var 2) fe_int)) (fss_one (fs_setIx 0 (fe_mod (eO (fe_add (eO (fe_ix (vO 0) (eO fe_int))) (vO 2))) (eO fe_int)) fe_int))))))) fss_nil)
      (fss_cons (fs_if (ft_cmp op_ge rd_ge (eO (fe_ix (vO 0) (eO fe_int))) (vO 1) (nomark _)) (fss_cons (fs_set 3 sc__law_pick.nd (by decide) (fe_mod (eO (fe_ix (vO 0) (eO fe_int))) (vO 1)))
      (fss_cons (fs_setIx 0 (fe_div (eO (fe_ix (vO 0) (eO fe_int))) (vO 1)) fe_int)
      (fss_one (fs_retV0 3 rfl (by decide))))) fss_nil)
      (fss_cons (fs_setIx 0 (fe_add (eO (fe_ix (vO 0) (eO fe_int))) (eO fe_int)) fe_int)
      (fss_cons (fs_setIx 0 (fe_mod (eO (fe_add (eO (fe_add (eO (fe_pow (eO (fe_ix (vO 0) (eO fe_int))) (eO fe_int))) (eO (fe_mul (eO fe_int) (eO (fe_ix (vO 0) (eO fe_int))))))) (eO fe_int))) (eO fe_int)) fe_int)
      (fss_one (fs_ret (fe_mod (eO (fe_div (eO (fe_ix (vO 0) (eO fe_int))) (eO fe_int))) (vO 1))))))))
theorem c__law_parts (T : Tp fa fn tf K mg base) : Cal P w K mg base "_law_parts" 2 ["_law_draw", "_law_many", "_law_most"] (spI (He.ga K) 3 F_l_parts) := by
  refine cal_io (x := "_law_parts") (sd := s__law_parts) (N := ["_law_draw", "_law_many", "_law_most", "_law_found", "_law_kind", "_law_k"]) (ps := ["_law_draw", "_law_many", "_law_most"]) (k := 1) (g := g_l_parts) T.toTop 42 14 rfl rfl sc__law_parts (fun _ _ _ _ _ _ => ln3 fun _ _ _ => by kernel_rfl) (fun cdv A outer s H E hr => ?_)
  exact (fss_cons (fs_setL 3 sc__law_parts.nd (by decide) (fl_lst fa_nil))
      (fss_cons (fs_set 4 sc__law_parts.nd (by decide) fe_int)
      (fss_cons (fs_for (passes_of rfl) rfl (by decide) (fi_rng1 (by rfl) (T.free 26) (fa_cons (fe_add (eO fe_int) (eO (fe_calI 0 (c__law_pick T) (hr.mono (by decide)) (by rfl) (takes_of rfl rfl rfl rfl) (fa_cons fe_int fa_nil)))) fa_nil)) (fg_name 5 sc__law_parts.nd) (fss_cons (fs_set 4 sc__law_parts.nd (by decide) (fe_add (eO (fe_add (vO 4) (eO fe_int))) (eO (fe_calI 0 (c__law_pick T) (hr.mono (by decide)) (by rfl) (takes_of rfl rfl rfl rfl) (fa_cons fe_int fa_nil)))))
      (fss_one (fs_if (ft_cmp op_le rd_le (vO 4) (vO 1) (nomark _)) (fss_one (fs_append 3 (fe_tup (fa_cons (fe_var 4) (fa_cons (fe_add (eO fe_int) (eO (fe_calI 0 (c__law_pick T) (hr.mono (by decide)) (by rfl) (takes_of rfl rfl rfl rfl) (fa_cons (fe_var 2) fa_nil)))) fa_nil))))) fss_nil))))
      (fss_one (fs_retV0 3 rfl (by decide))))))
theorem c__law_holding (T : Tp fa fn tf K mg base) : Cal P w K mg base "_law_holding" 1 ["_law_held", "_law_parts_here"] (spT (He.ga K) 2 F_l_holding) := by
  refine cal_T (x := "_law_holding") (sd := s__law_holding) (N := ["_law_held", "_law_parts_here", "_law_sums", "_law_kind", "_law_number", "_law_raw", "_law_some"]) (ps := ["_law_held", "_law_parts_here"]) (k := 0) (g := g_l_holding) [1, 0] [] T.toTop 43 15 rfl rfl sc__law_holding rfl (pn_ok (by decide)) (fun _ _ _ _ _ _ => ln2 fun _ _ => by kernel_rfl) (fun cdv A outer s H E hr => ?_)
  exact (fss_cons (fs_setT 2 sc__law_holding.nd (by decide) fn_dK)
      (fss_cons (fs_for (passes_of rfl) rfl (by decide) (fi_list (fe_var 1)) (fg_tup rfl (fgs_cons (fg_name 3 sc__law_holding.nd) (fgs_cons (fg_name 4 sc__law_holding.nd) fgs_nil)) (gs_len (gs_len gs_len0))) (fss_one (fs_for (passes_of rfl) rfl (by decide) (fi_list (fe_ix (vO 0) (eO (fe_sub (vO 3) (eO fe_int))))) (fg_tup rfl (fgs_cons (fg_name 5 sc__law_holding.nd) (fgs_cons (fg_name 6 sc__law_holding.nd) fgs_nil)) (gs_len (gs_len gs_len0))) (fss_one (fs_dputK 2 (u2s hr) (fe_add (eO (fe_dget2 2 (u2s hr) (fe_var 5) fe_int)) (eO (fe_mul (vO 6) (vO 4)))) (fe_var 5))))))
      (fss_one (fs_retT (fn_L (fl_lc (own := [("_law_raw", 5)]) rfl sc__law_holding.nd (blkOk_by (own := [("_law_raw", 5)]) (N := ["_law_held", "_law_parts_here", "_law_sums", "_law_kind", "_law_number", "_law_raw", "_law_some"]) (sc := (defScope s__law_holding)) (by decide +kernel)) (by decide) (fi_list (fe_ofL (fl_sortD 2 rfl (by rfl) (T.free 17)))) (fun _ _ _ _ _ => (fg_name 5 sc__law_holding.nd)) (fun _ _ _ _ _ => fts_nil) (fun _ _ _ _ _ => (fe_tup (fa_cons (fe_var 5) (fa_cons (fe_dgetK 2 (u2s hr) (fe_var 5)) fa_nil))))))))))
theorem c__law_begin (T : Tp fa fn tf K mg base) : Cal P w K mg base "_law_begin" 1 ["_law_script"] (spBegin K) := by
  have F := T.def_ (x := "_law_begin") (st := s__law_begin) 16
  exact ⟨_, _, ok_begin F sc__law_begin (T.free 5) (.inl rfl) (fun _ _ _ _ _ _ => by rfl) rfl, T.glo 44, F.kp, F.binds (fun _ _ _ _ _ _ us hl => match us, hl with | [_], _ => rfl)⟩
theorem cr__law_same (T : Tp fa fn tf K mg base) : ∀ n, Cal P w K mg base "_law_same" n ["_law_found", "_law_due"] (spP (He.ga K) 2 (F_l_same_at n))
  | 0 => cal_bad T.toTop 45 17 rfl rfl (fun _ _ _ _ _ _ => ln2 fun _ _ => by kernel_rfl) 0
  | n + 1 => by
    have ih : Cal P w K mg base "_law_same" n ["_law_found", "_law_due"] (spP (He.ga K) 2 (F_l_same_at n)) := cr__law_same T n
    refine cal_pure (x := "_law_same") (sd := s__law_same) (N := ["_law_found", "_law_due", "_law_one", "_law_other"]) (ps := ["_law_found", "_law_due"]) (k := n) (g := (g_l_same (F_l_same_at n))) T.toTop 45 17 rfl rfl sc__law_same (fun _ _ _ _ _ _ => ln2 fun _ _ => by kernel_rfl) (fun cdv A outer s H E hr => ?_)
    exact (fss_cons (fs_if (ft_isN (vO 1)) (fss_one (fs_ret (fe_isN (vO 0)))) fss_nil)
      (fss_cons (fs_if (ft_pw (fw_or (ft_val (fe_isi (T := "bool") rfl (by rfl) (T.free 27) (by rfl) (T.free 28) (by decide +kernel) (vO 1))) (fw_or1 (ft_val (fe_isi (T := "bool") rfl (by rfl) (T.free 27) (by rfl) (T.free 28) (by decide +kernel) (vO 0)))))) (fss_one (fs_ret (fe_and (fe_isi (T := "bool") rfl (by rfl) (T.free 27) (by rfl) (T.free 28) (by decide +kernel) (vO 1)) (fe_and (fe_isi (T := "bool") rfl (by rfl) (T.free 27) (by rfl) (T.free 28) (by decide +kernel) (vO 0)) (fe_one (fe_cmp (op_EQ (u64s hr)) rd_EQ (vO 0) (vO 1) (nomark _))))))) fss_nil)
      (fss_cons (fs_if (ft_val (fe_isi2 (T := "int") (U := "str") rfl rfl (by rfl) (T.free 27) (by rfl) (T.free 29) (by decide +kernel) (by rfl) (T.free 30) (by decide +kernel) (vO 1))) (fss_one (fs_ret (fe_and (fe_cmp (op_EQ (u64s hr)) rd_EQ (eO (fe_isi (T := "int") rfl (by rfl) (T.free 27) (by rfl) (T.free 29) (by decide +kernel) (vO 0))) (eO (fe_isi (T := "int") rfl (by rfl) (T.free 27) (by rfl) (T.free 29) (by decide +kernel) (vO 1))) (nomark _)) (fe_and (fe_isi2 (T := "int") (U := "str") rfl rfl (by rfl) (T.free 27) (by rfl) (T.free 29) (by decide +kernel) (by rfl) (T.free 30) (by decide +kernel) (vO 0)) (fe_one (fe_cmp (op_EQ (u64s hr)) rd_EQ (vO 0) (vO 1) (nomark _))))))) fss_nil)
      (fss_cons (fs_if (ft_pw (fw_or (ft_cmp (op_NE (u64s hr)) rd_NE (eO (fe_isi (T := "list") rfl (by rfl) (T.free 27) (by rfl) (T.free 5) (by decide +kernel) (vO 0))) (eO (fe_isi (T := "list") rfl (by rfl) (T.free 27) (by rfl) (T.free 5) (by decide +kernel) (vO 1))) (nomark _)) (fw_or1 (ft_cmp (op_NE (u64s hr)) rd_NE (eO (fe_isi (T := "tuple") rfl (by rfl) (T.free 27) (by rfl) (T.free 18) (by decide +kernel) (vO 0))) (eO (fe_isi (T := "tuple") rfl (by rfl) (T.free 27) (by rfl) (T.free 18) (by decide +kernel) (vO 1))) (nomark _))))) (fss_one (fs_ret fe_bool)) fss_nil)
      (fss_cons (fs_if (ft_cmp (op_NE (u64s hr)) rd_NE (eO (fe_len (by rfl) (T.free 6) (oa_cons (vO 0) oa_nil))) (eO (fe_len (by rfl) (T.free 6) (oa_cons (vO 1) oa_nil))) (nomark _)) (fss_one (fs_ret fe_bool)) fss_nil)
      (fss_one (fs_ret (fe_all rfl (by rfl) (T.free 32) (oa_cons (eO (fe_ofL (fl_lc (own := [("_law_one", 2), ("_law_other", 3)]) rfl sc__law_same.nd (blkOk_by (own := [("_law_one", 2), ("_law_other", 3)]) (N := ["_law_found", "_law_due", "_law_one", "_law_other"]) (sc := (defScope s__law_same)) (by decide +kernel)) (by decide) (fi_zip (by rfl) (T.free 31) (fa_cons (fe_var 0) (fa_cons (fe_var 1) fa_nil))) (fun _ _ _ _ _ => (fg_tup rfl (fgs_cons (fg_name 2 sc__law_same.nd) (fgs_cons (fg_name 3 sc__law_same.nd) fgs_nil)) (gs_len (gs_len gs_len0)))) (fun _ _ _ _ _ => fts_nil) (fun _ _ _ _ _ => (fe_calF (F_l_same_len n) ih (hr.mono (Nat.le_refl _)) (by rfl) takes0 (fa_cons (fe_var 2) (fa_cons (fe_var 3) fa_nil))))))) oa_nil)))))))))
theorem c__law_same (T : Tp fa fn tf K mg base) : Cal P w K mg base "_law_same" 8 ["_law_found", "_law_due"] (spP (He.ga K) 2 F_l_same) := cr__law_same T 8
theorem c__law_look (T : Tp fa fn tf K mg base) : Cal P w K mg base "_law_look" 3 ["_law_goods"] (spT (He.ga K) 1 F_l_look) := by
  refine cal_T (x := "_law_look") (sd := s__law_look) (N := ["_law_goods", "_law_kinds", "_law_kind"]) (ps := ["_law_goods"]) (k := 2) (g := g_l_look) [1] [] T.toTop 46 18 rfl rfl sc__law_look rfl (pn_ok (by decide)) (fun _ _ _ _ _ _ => ln1 fun _ => by kernel_rfl) (fun cdv A outer s H E hr => ?_)
  exact (fss_cons (fs_set 1 sc__law_look.nd (by decide) (fe_ofL (fl_lrange2 rfl (by rfl) (T.free 5) (by rfl) (T.free 26) fe_int (fe_add (eO (fe_R (fr_meth0 T.ca (by decide) (fun as h => runT_len as h) (c_Kinds_many T) (T.cls 1) (T.meth 33) (hr.mono (by decide)) (takes_of rfl rfl rfl rfl) (gLs 0)))) (eO fe_int)))))
      (fss_one (fs_retT (fn_L (fl_lc (own := [("_law_kind", 2)]) rfl sc__law_look.nd (blkOk_by (own := [("_law_kind", 2)]) (N := ["_law_goods", "_law_kinds", "_law_kind"]) (sc := (defScope s__law_look)) (by decide +kernel)) (by decide) (fi_list (fe_var 1)) (fun _ _ _ _ _ => (fg_name 2 sc__law_look.nd)) (fun _ _ _ _ _ => fts_nil) (fun _ _ _ _ _ => (fe_tup (fa_cons (fe_R (fr_methG T.ca (by decide) (fun as h => runT_len as h) (c_Kinds_is_raw T) (T.cls 1) (T.meth 34) (hr.mono (by decide)) takes0 (gLs 0) (ga_cons (gE (fe_var 2)) ga_nil))) (fa_cons (fe_R (fr_methG T.ca (by decide) (fun as h => runT_len as h) (c_Kinds_parts T) (T.cls 1) (T.meth 35) (hr.mono (by decide)) takes0 (gLs 0) (ga_cons (gE (fe_var 2)) ga_nil))) (fa_cons (fe_R (fr_methG T.ca (by decide) (fun as h => runT_len as h) (c_Kinds_holds T) (T.cls 1) (T.meth 36) (hr.mono (by decide)) takes0 (gLs 0) (ga_cons (gE (fe_var 2)) ga_nil))) fa_nil))))))))))
theorem c__law_more (T : Tp fa fn tf K mg base) : Cal P w K mg base "_law_more" 3 ["_law_draw", "_law_goods", "_law_look_here"] (spT (He.ga K) 3 F_l_more) := by
  refine cal_T (x := "_law_more") (sd := s__law_more) (N := ["_law_draw", "_law_goods", "_law_look_here", "_law_held", "_law_row", "_law_parts_here", "_law_some", "_law_raw", "_law_many"]) (ps := ["_law_draw", "_law_goods", "_law_look_here"]) (k := 2) (g := g_l_more) [2, 2, 0] [0, 1] T.toTop 47 19 rfl rfl sc__law_more rfl (pn_ok (by decide)) (fun _ _ _ _ _ _ => ln3 fun _ _ _ => by kernel_rfl) (fun cdv A outer s H E hr => ?_)
  exact (fss_cons (fs_setLc 3 (own := [("_law_row", 4)]) rfl sc__law_more.nd (by decide) rfl rfl (sw_true rfl rfl rfl (by decide +kernel)) (blkOk_by (own := [("_law_row", 4)]) (N := ["_law_draw", "_law_goods", "_law_look_here", "_law_held", "_law_row", "_law_parts_here", "_law_some", "_law_raw", "_law_many"]) (sc := (defScope s__law_more)) (by decide +kernel)) (by decide) (fi_list (fe_var 2)) (fun _ _ _ _ _ => (fg_name 4 sc__law_more.nd)) (fun _ _ _ _ _ => fts_nil) (fun _ _ _ _ _ => (fe_ix (vO 4) (eO fe_int))))
      (fss_cons (fs_set 5 sc__law_more.nd (by decide) (fe_calI 0 (c__law_parts T) (hr.mono (by decide)) (by rfl) (takes_of rfl rfl rfl rfl) (fa_cons (fe_len (by rfl) (T.free 6) (oa_cons (vO 2) oa_nil)) (fa_cons fe_int fa_nil))))
      (fss_cons (fs_if (ft_pw (fw_or (ft_cmp (op_EQ (u64s hr)) rd_EQ (vO 5) (eO (fe_ofL (fl_lst fa_nil))) (nomark _)) (fw_or1 (ft_cmp (op_EQ (u64s hr)) rd_EQ (eO (fe_calI 0 (c__law_pick T) (hr.mono (by decide)) (by rfl) (takes_of rfl rfl rfl rfl) (fa_cons fe_int fa_nil))) (eO fe_int) (nomark _))))) (fss_cons (fs_expr (fe_R (fr_meth0 T.ca (by decide) (fun as h => runT_len as h) (c_Kinds_raw T) (T.cls 1) (T.meth 37) (hr.mono (by decide)) (takes_of rfl rfl rfl rfl) (gOs 1))))
      (fss_one (fs_retT (fn_L (fl_cat (vO 2) (eO (fe_ofL (fl_lst (fa_cons (fe_tup (fa_cons fe_bool (fa_cons (fe_ofL (fl_lst fa_nil)) (fa_cons (fe_ofL (fl_lst (fa_cons (fe_tup (fa_cons (fe_add (eO (fe_len (by rfl) (T.free 6) (oa_cons (vO 2) oa_nil))) (eO fe_int)) (fa_cons fe_int fa_nil))) fa_nil))) fa_nil)))) fa_nil))))))))) fss_nil)
      (fss_cons (fs_set 6 sc__law_more.nd (by decide) (fe_ofL (fl_R (fr_callG (fun as h => runT_len as h) (c__law_holding T) (hr.mono (by decide)) (by rfl) (takes_of rfl rfl rfl rfl) (ga_cons (gLs 3) (ga_cons (gE (fe_var 5)) ga_nil))))))
      (fss_cons (fs_if (ft_cmp op_gt rd_gt (eO (fe_maxL rfl (by rfl) (T.free 38) (oa_cons (eO (fe_ofL (fl_lc (own := [("_law_raw", 7), ("_law_many", 8)]) rfl sc__law_more.nd (blkOk_by (own := [("_law_raw", 7), ("_law_many", 8)]) (N := ["_law_draw", "_law_goods", "_law_look_here", "_law_held", "_law_row", "_law_parts_here", "_law_some", "_law_raw", "_law_many"]) (sc := (defScope s__law_more)) (by decide +kernel)) (by decide) (fi_list (fe_var 6)) (fun _ _ _ _ _ => (fg_tup rfl (fgs_cons (fg_name 7 sc__law_more.nd) (fgs_cons (fg_name 8 sc__law_more.nd) fgs_nil)) (gs_len (gs_len gs_len0)))) (fun _ _ _ _ _ => fts_nil) (fun _ _ _ _ _ => (fe_var 8))))) oa_nil))) (eO fe_int) (nomark _)) (fss_one (fs_retG 2)) fss_nil)
      (fss_cons (fs_expr (fe_R (fr_methG T.ca (by decide) (fun as h => runT_len as h) (c_Kinds_made T) (T.cls 1) (T.meth 39) (hr.mono (by decide)) (takes_of rfl rfl rfl rfl) (gOs 1) (ga_cons (gLs 5) ga_nil))))
      (fss_one (fs_retT (fn_L (fl_cat (vO 2) (eO (fe_ofL (fl_lst (fa_cons (fe_tup (fa_cons fe_bool (fa_cons (fe_var 5) (fa_cons (fe_var 6) fa_nil)))) fa_nil))))))))))))))
theorem c_law (T : Tp fa fn tf K mg base) : FnOk P w K mg base CX0 10 (He.ga K "law") (fdOf K "law") ["_law_script"] (spLaw K 7 g_law) := by
  refine ok_law (st := (defBody s_law).head (by decide)) (rest := (defBody s_law).tail) (T.def_ (x := "law") (st := s_law) 20) sc_law (by decide) rfl (fun cdv A outer s H E hr => ?_) (fun cdv A outer s H E hr => ?_)
  · obtain ⟨f, fd, F, hm, hk, hb⟩ := c__law_begin (P := P) (w := w) (base := base) T
    exact ps_set (i := 1) sc_law.nd rfl (Or.inl rfl) (pe_callS F (hr.mono (by decide)) (by rfl) hm hk hb (fun σ => passAt takes0 σ) (pa_cons (pv 0) pa_nil))
  · exact (fss_cons (fs_setT 2 sc_law.nd (by decide) (fn_lstT (pa_tcons (fn_mk0 T.ca (fun as h => runT_len as h) (c_Kinds___init__ T) (T.mkr 3) (hr.mono (by decide)) (by rfl) (T.glo 4) takes0) pa_tnil)))
      (fss_cons (fs_setL 3 sc_law.nd (by decide) (fl_lst (fa_cons (fe_ofL (fl_lst fa_nil)) fa_nil)))
      (fss_cons (fs_for PassesOwn.never rfl (by decide) (fi_rng1 (by rfl) (T.free 26) (fa_cons (fe_calI 1 (c__law_pick T) (hr.mono (by decide)) (by rfl) takes0 (fa_cons fe_int fa_nil)) fa_nil)) (fg_name 4 sc_law.nd) (fss_one (fs_setIx 3 (fe_R (fr_callQ (fun as h => runT_len as h) (c__law_more T) (hr.mono (by decide)) (by rfl) takes0 (ga_cons (gOs 1) (ga_cons (gOp (pl_idx (pl_name 2) fe_int)) (ga_cons (gE (fe_ix (vO 3) (eO fe_int))) ga_nil))))) fe_int)))
      (fss_cons (fs_appN 2 (fn_R (fr_meth0 T.ca (by decide) (fun as h => runT_len as h) (c_Kinds_twin T) (T.cls 1) (T.meth 40) (hr.mono (by decide)) takes0 (gLp (pl_idx (pl_name 2) fe_int)))))
      (fss_cons (fs_appN 2 (fn_R (fr_meth0 T.ca (by decide) (fun as h => runT_len as h) (c_Kinds_twin T) (T.cls 1) (T.meth 40) (hr.mono (by decide)) takes0 (gLp (pl_idx (pl_name 2) fe_int)))))
      (fss_cons (fs_setL 3 sc_law.nd (by decide) (fl_lc (own := [("_law_k", 4)]) rfl sc_law.nd (blkOk_by (own := [("_law_k", 4)]) (N := ["_law_script", "_law_draw", "_law_goods", "_law_looks", "_law_k", "_law_at", "_law_one"]) (sc := (defScope s_law)) (by decide +kernel)) (by decide) (fi_rng1 (by rfl) (T.free 26) (fa_cons fe_int fa_nil)) (fun _ _ _ _ _ => (fg_name 4 sc_law.nd)) (fun _ _ _ _ _ => fts_nil) (fun _ _ _ _ _ => (fe_ofL (fl_list (by rfl) (T.free 5) (oa_cons (eO (fe_ix (vO 3) (eO fe_int))) oa_nil))))))
      (fss_cons (fs_for PassesOwn.never rfl (by decide) (fi_rng1 (by rfl) (T.free 26) (fa_cons (fe_calI 1 (c__law_pick T) (hr.mono (by decide)) (by rfl) takes0 (fa_cons fe_int fa_nil)) fa_nil)) (fg_name 4 sc_law.nd) (fss_cons (fs_set 5 sc_law.nd (by decide) (fe_calI 1 (c__law_pick T) (hr.mono (by decide)) (by rfl) takes0 (fa_cons fe_int fa_nil)))
      (fss_cons (fs_setIx 3 (fe_R (fr_callQ (fun as h => runT_len as h) (c__law_more T) (hr.mono (by decide)) (by rfl) takes0 (ga_cons (gOs 1) (ga_cons (gOp (pl_idx (pl_name 2) (fe_var 5))) (ga_cons (gE (fe_ix (vO 3) (vO 5))) ga_nil))))) (fe_var 5))
      (fss_one (fs_if (ft_not (ft_val (fe_calP (F_l_same_len _) (c__law_same T) (hr.mono (by decide)) (by rfl) takes0 (oa_cons (eO (fe_ofL (fl_lcN 2 6 (own := [("_law_one", 6)]) rfl sc_law.nd (blkOk_by (own := [("_law_one", 6)]) (N := ["_law_script", "_law_draw", "_law_goods", "_law_looks", "_law_k", "_law_at", "_law_one"]) (sc := (defScope s_law)) (by decide +kernel)) (by decide) (by decide) (by decide) (fun _ _ _ _ _ => gn_name 6 sc_law.nd) (fun _ _ _ _ _ => (fe_ofL (fl_R (fr_callG (fun as h => runT_len as h) (c__law_look T) (hr.mono (by decide)) (by rfl) takes0 (ga_cons (gLp (pl_name 6)) ga_nil)))))))) (oa_cons (vO 3) oa_nil))))) (fss_one (fs_ret fe_bool)) fss_nil)))))
      (fss_one (fs_ret (fe_calP (F_l_same_len _) (c__law_same T) (hr.mono (by decide)) (by rfl) takes0 (oa_cons (eO (fe_ofL (fl_lcN 2 6 (own := [("_law_one", 6)]) rfl sc_law.nd (blkOk_by (own := [("_law_one", 6)]) (N := ["_law_script", "_law_draw", "_law_goods", "_law_looks", "_law_k", "_law_at", "_law_one"]) (sc := (defScope s_law)) (by decide +kernel)) (by decide) (by decide) (by decide) (fun _ _ _ _ _ => gn_name 6 sc_law.nd) (fun _ _ _ _ _ => (fe_ofL (fl_R (fr_callG (fun as h => runT_len as h) (c__law_look T) (hr.mono (by decide)) (by rfl) takes0 (ga_cons (gLp (pl_name 6)) ga_nil)))))))) (oa_cons (vO 3) oa_nil))))))))))))
end
end K34
namespace Mm
open PySem L2 Fx
variable [Tabz]
def drw (cs : List Int) (i j a b : Int) : List PyData := [.list (cs.map PyData.int), .int i, .int j, .int a, .int b]
def Dw (io : List PyData) : Prop := ∃ cs i j a b, io = drw cs i j a b ∧ 0 ≤ i ∧ 0 ≤ j ∧ 0 ≤ a ∧ a < 1000000007 ∧ 0 ≤ b
theorem drw_ix0 (cs : List Int) (i j a b : Int) : atI (drw cs i j a b) 0 = some (.list (cs.map PyData.int)) := rfl
theorem drw_ix1 (cs : List Int) (i j a b : Int) : atI (drw cs i j a b) 1 = some (.int i) := rfl
theorem drw_ix2 (cs : List Int) (i j a b : Int) : atI (drw cs i j a b) 2 = some (.int j) := rfl
theorem drw_ix3 (cs : List Int) (i j a b : Int) : atI (drw cs i j a b) 3 = some (.int a) := rfl
theorem drw_ix4 (cs : List Int) (i j a b : Int) : atI (drw cs i j a b) 4 = some (.int b) := rfl
theorem drw_set1 (cs : List Int) (i j a b x : Int) : kSet (.int x) (.int 1) (drw cs i j a b) = some (drw cs x j a b) := rfl
theorem drw_set2 (cs : List Int) (i j a b x : Int) : kSet (.int x) (.int 2) (drw cs i j a b) = some (drw cs i x a b) := rfl
theorem drw_set3 (cs : List Int) (i j a b x : Int) : kSet (.int x) (.int 3) (drw cs i j a b) = some (drw cs i j x b) := rfl
theorem drw_set4 (cs : List Int) (i j a b x : Int) : kSet (.int x) (.int 4) (drw cs i j a b) = some (drw cs i j a x) := rfl
def g_pick2 : Rho → Fl := (sSeq (sIf (fB (fOp oGe (.e (fOp oIx (.v 0) (.e (ret (.int 2))))) (.v 1))) (sSeq (sSet 3 (fOp oMod (.e (fOp oIx (.v 0) (.e (ret (.int 2))))) (.v 1)))
    (sSeq (sSetIx 0 (fOp oDiv (.e (fOp oIx (.v 0) (.e (ret (.int 2))))) (.v 1)) (ret (.int 2)))
    (sRetV0 3))) sNil)
    (sSeq (sSetIx 0 (fOp oAdd (.e (fOp oIx (.v 0) (.e (ret (.int 4))))) (.e (ret (.int 1)))) (ret (.int 4)))
    (sSeq (sSetIx 0 (fOp oMod (.e (fOp oAdd (.e (fOp oAdd (.e (fOp oPow (.e (fOp oIx (.v 0) (.e (ret (.int 3))))) (.e (ret (.int 3))))) (.e (fOp oMul (.e (ret (.int 40503))) (.e (fOp oIx (.v 0) (.e (ret (.int 4))))))))) (.e (ret (.int 17))))) (.e (ret (.int 1000000007)))) (ret (.int 3)))
    (sRet (fOp oMod (.e (fOp oDiv (.e (fOp oIx (.v 0) (.e (ret (.int 3))))) (.e (ret (.int 5))))) (.v 1))))))
theorem pick2_ok (cs : List Int) (i j a b m : Int) (s2 : Sl) (hi : 0 ≤ i) (hj : 0 ≤ j) (ha : 0 ≤ a) (ha2 : a < 1000000007) (hb : 0 ≤ b) (hm : 0 < m) (hm2 : m.natAbs.log2 < 9000) :
    ∃ r io, toOutI (g_pick2 [.ow (drw cs i j a b), .fz (.int m), s2, .un]) = .ok (.fz (.int r), io) ∧ Dw io ∧ 0 ≤ r ∧ r < m := by
  have d1 : cMod j m = true := decide_eq_true hm
  have d2 : cDiv j m = true := decide_eq_true ⟨hm, hm2⟩
  by_cases h : m ≤ j
  · refine ⟨j % m, drw cs i (j / m) a b, ?_, ⟨cs, i, j / m, a, b, rfl, hi, Int.ediv_nonneg hj (by omega), ha, ha2, hb⟩, Int.emod_nonneg _ (by omega), Int.emod_lt_of_pos _ hm⟩
    simp [g_pick2, drw_ix0, drw_ix1, drw_ix2, drw_ix3, drw_ix4, drw_set1, drw_set2, drw_set3, drw_set4, h, d1, d2]
  · have p1 : cPow a 3 = true := decide_eq_true ⟨by decide, by decide, by omega⟩
    have p2 : ∀ x, cMul 40503 x = true := fun x => decide_eq_true (.inl (by decide))
    have p3 : ∀ x, cMod x 1000000007 = true := fun x => decide_eq_true (by decide)
    have p4 : ∀ x, cDiv x 5 = true := fun x => decide_eq_true ⟨by decide, by decide +kernel⟩
    have p5 : ∀ x, cMod x m = true := fun x => decide_eq_true hm
    refine ⟨((a ^ 3 + 40503 * (b + 1) + 17) % 1000000007) / 5 % m, drw cs i j ((a ^ 3 + 40503 * (b + 1) + 17) % 1000000007) (b + 1), ?_, ⟨cs, i, j, _, b + 1, rfl, hi, hj, Int.emod_nonneg _ (by decide), Int.emod_lt_of_pos _ (by decide), by omega⟩, Int.emod_nonneg _ (by omega), Int.emod_lt_of_pos _ hm⟩
    simp [g_pick2, drw_ix0, drw_ix1, drw_ix2, drw_ix3, drw_ix4, drw_set1, drw_set2, drw_set3, drw_set4, h, p1, p2, p3, p4, p5]
theorem pick_ok {io : List PyData} {m : Int} (hd : Dw io) (hm : 0 < m) (hm2 : m ≤ 10 ^ 40) : ∃ r io', F_l_pick io [.int m] = .ok (.fz (.int r), io') ∧ Dw io' ∧ 0 ≤ r ∧ r < m := by
  have hl : m.natAbs.log2 < 9000 := by
    have h1 : m.natAbs < 2 ^ 200 := by omega
    have := PySem.Flt.log2_lt_of (k := 200) (by decide) h1
    omega
  obtain ⟨cs, i, j, a, b, rfl, hi, hj, ha, ha2, hb⟩ := hd
  show ∃ r io', toOutI (g_l_pick [.ow (drw cs i j a b), .fz (.int m), .un, .un]) = .ok (.fz (.int r), io') ∧ Dw io' ∧ 0 ≤ r ∧ r < m
  have eg : g_l_pick = sSeq (sIf (tAndM (fB (fOp oLt (.e (fOp oIx (.v 0) (.e (ret (.int 2))))) (.v 1))) (fB (fOp oLt (.e (fOp oIx (.v 0) (.e (ret (.int 1))))) (.e (fCB oLen [(.e (fOp oIx (.v 0) (.e (ret (.int 0)))))]))))) (sSeq (sSet 2 (fOp oIx (.e (fOp oIx (.v 0) (.e (ret (.int 0))))) (.e (fOp oIx (.v 0) (.e (ret (.int 1)))))))
    (sSeq (sSetIx 0 (fOp oAdd (.e (fOp oIx (.v 0) (.e (ret (.int 1))))) (.e (ret (.int 1)))) (ret (.int 1)))
    (sSeq (sSetIx 0 (ret (.int 0)) (ret (.int 2)))
    (sIf (fB (fOp oGe (.v 2) (.e (fOp oPow (.e (ret (.int 10))) (.e (ret (.int 18))))))) (sSetIx 0 (fVar 2) (ret (.int 2))) (sSetIx 0 (fOp oMod (.e (fOp oAdd (.e (fOp oIx (.v 0) (.e (ret (.int 3))))) (.v 2))) (.e (ret (.int 1000000007)))) (ret (.int 3))))))) sNil) g_pick2 := rfl
  have p2 : cPow 10 18 = true := by decide
  have p3 : ∀ x, cMod x 1000000007 = true := fun x => decide_eq_true (by decide)
  by_cases h1 : j < m
  · by_cases h2 : i < (cs.length : Int)
    · obtain ⟨c, hc⟩ : ∃ c, cs[i.toNat]? = some c := ⟨cs[i.toNat]'(by omega), List.getElem?_eq_getElem (by omega)⟩
      have hc2 : atI (cs.map PyData.int) i = some (.int c) := atI_at hi (by rw [List.getElem?_map, hc]; rfl)
      by_cases h3 : (10 : Int) ^ 18 ≤ c
      · have h3' : (1000000000000000000 : Int) ≤ c := by omega
        have e : g_l_pick [.ow (drw cs i j a b), .fz (.int m), .un, .un] = g_pick2 [.ow (drw cs (i + 1) c a b), .fz (.int m), .fz (.int c), .un] := by
          rw [eg]
          simp [drw_ix0, drw_ix1, drw_ix2, drw_ix3, drw_ix4, drw_set1, drw_set2, drw_set3, drw_set4, h1, h2, hc2, h3', p2, p3]
        rw [e]
        exact pick2_ok cs (i + 1) c a b m _ (by omega) (by omega) ha ha2 hb hm hl
      · have h3' : ¬ (1000000000000000000 : Int) ≤ c := by omega
        have e : g_l_pick [.ow (drw cs i j a b), .fz (.int m), .un, .un] = g_pick2 [.ow (drw cs (i + 1) 0 ((a + c) % 1000000007) b), .fz (.int m), .fz (.int c), .un] := by
          rw [eg]
          simp [drw_ix0, drw_ix1, drw_ix2, drw_ix3, drw_ix4, drw_set1, drw_set2, drw_set3, drw_set4, h1, h2, hc2, h3', p2, p3]
        rw [e]
        exact pick2_ok cs (i + 1) 0 _ b m _ (by omega) (by omega) (Int.emod_nonneg _ (by decide)) (Int.emod_lt_of_pos _ (by decide)) hb hm hl
    · have e : g_l_pick [.ow (drw cs i j a b), .fz (.int m), .un, .un] = g_pick2 [.ow (drw cs i j a b), .fz (.int m), .un, .un] := by
        rw [eg]
        simp [drw_ix0, drw_ix1, drw_ix2, drw_ix3, drw_ix4, h1, h2]
      rw [e]
      exact pick2_ok cs i j a b m _ hi hj ha ha2 hb hm hl
  · have e : g_l_pick [.ow (drw cs i j a b), .fz (.int m), .un, .un] = g_pick2 [.ow (drw cs i j a b), .fz (.int m), .un, .un] := by
      rw [eg]
      simp [drw_ix0, drw_ix1, drw_ix2, drw_ix3, drw_ix4, h1]
    rw [e]
    exact pick2_ok cs i j a b m _ hi hj ha ha2 hb hm hl
theorem dw_cells (ns : List Int) : Dw (cells ns) := ⟨ns, 0, 0, 1, 0, rfl, by decide, by decide, by decide, by decide, by decide⟩
theorem zipD_self (ds : List PyData) : zipD ds ds = ds.map fun d => PyData.tuple [d, d] := by
  unfold zipD
  rw [List.zip_eq_zipWith, List.zipWith_self, List.map_map]
  rfl
theorem all_map_true (ds : List PyData) : asBools (ds.map fun _ => PyData.bool true) = some (ds.map fun _ => true) := by
  induction ds with
  | nil => rfl
  | cons d ds ih => simp only [List.map_cons, asBools, ih, Option.map_some]
theorem same_refl : ∀ (n : Nat) (d : PyData), gd n d = true → F_l_same_at n [d, d] = .ok (.fz (.bool true))
  | 0, _, h => by cases h
  | n + 1, d, h => by
    show toOut (g_l_same (F_l_same_at n) _) = _
    have step : ∀ (ds : List PyData) (x : PyData), ds.all (gd n) = true → small ds.length = true → (x = .list ds ∨ x = .tuple ds) →
        fLc (fAB oZip (fCons (fVar 0) (fCons (fVar 1) fNil))) (gTp (gsCons (gSet 2) (gsCons (gSet 3) gsNil))) (ret true) (fCall (F_l_same_at n) (fCons (fVar 2) (fCons (fVar 3) fNil))) [2, 3] [.fz x, .fz x, .un, .un] = .ok (ds.map fun _ => .bool true, [.fz x, .fz x, .un, .un]) := by
      intro ds x hds hs hx
      have hl : ds.length ≤ 100000 := of_decide_eq_true hs
      rw [lc_map (fun _ => .bool true) (ds := zipD ds ds) (ρ := [.fz x, .fz x, .un, .un]) (by rcases hx with rfl | rfl <;> simp [oZip]) (by rw [zipD_self, List.length_map]; exact hl) ?_]
      · rw [zipD_self, List.map_map]
        simp
      · intro d hd
        rw [zipD_self] at hd
        obtain ⟨y, hy, rfl⟩ := List.mem_map.mp hd
        have ey := same_refl n y (List.all_eq_true.mp hds y hy)
        refine ⟨[.fz x, .fz x, .fz y, .fz y], by simp, [.fz x, .fz x, .fz y, .fz y], by simp [ey], by simp⟩
    cases d with
    | none => simp [g_l_same]
    | bool b => simp [g_l_same, isTy, isTyN, tyName, oEQ]
    | int i => simp [g_l_same, isTy, isTyN, tyName, oEQ]
    | str x => simp [g_l_same, isTy, isTyN, tyName, oEQ]
    | dict kvs => cases h
    | list ds =>
      obtain ⟨h1, h2⟩ := Bool.and_eq_true_iff.mp (show (small ds.length && ds.all (gd n)) = true from h)
      simp [g_l_same, isTy, isTyN, tyName, oEQ, oNE, step ds (.list ds) h2 h1 (.inl rfl), all_map_true]
    | tuple ds =>
      obtain ⟨h1, h2⟩ := Bool.and_eq_true_iff.mp (show (small ds.length && ds.all (gd n)) = true from h)
      simp [g_l_same, isTy, isTyN, tyName, oEQ, oNE, step ds (.tuple ds) h2 h1 (.inr rfl), all_map_true]
theorem F_same_refl {d : PyData} (h : gd 8 d = true) : F_l_same [d, d] = .ok (.fz (.bool true)) := same_refl 8 d h
end Mm
namespace Mm
open PySem L2 Fx
variable [Tabz]
abbrev Lot := Int × Int × Int
abbrev Ot := Int × Int
def encL (l : Lot) : PyData := .tuple [.int l.1, .int l.2.1, .int l.2.2]
structure GoodL (l : Lot) : Prop where
  d1 : 1 ≤ l.1
  d2 : l.1 ≤ 999
  c1 : 1 ≤ l.2.1
  c2 : l.2.1 ≤ 10000000000
  u1 : 1 ≤ l.2.2
  u2 : l.2.2 ≤ 1000000
structure GoodO (l : Ot) : Prop where
  d1 : 1 ≤ l.1
  d2 : l.1 ≤ 999
  c1 : 1 ≤ l.2
  c2 : l.2 ≤ 10000000000
theorem kAppend_of {d : PyData} {ds : List PyData} (h : ds.length ≤ 100000) : kAppend d ds = some (ds ++ [d]) := by
  unfold kAppend
  rw [if_pos (small_of h)]
theorem rng_len (a : Int) (n : Nat) : (rng a n).length = n := by simp [rng]
theorem oRng1_of {j : Int} (h0 : 0 ≤ j) (h : j < 100000) : oRng1 [.int j] = some (rng 0 j.toNat) := by
  have e : small j.natAbs = true := decide_eq_true (by omega)
  simp [oRng1, e]
theorem rng_get {a : Int} {n j : Nat} {x : PyData} (h : (rng a n)[j]? = some x) : j < n ∧ x = .int (a + j) := by
  unfold rng at h
  rw [List.getElem?_map] at h
  cases q : (List.range n)[j]? with
  | none => rw [q] at h; cases h
  | some m =>
    rw [q] at h
    cases h
    obtain ⟨h1, h2⟩ := List.getElem?_eq_some_iff.mp q
    rw [List.length_range] at h1
    rw [List.getElem_range] at h2
    exact ⟨h1, by rw [h2]⟩
end Mm
namespace Mm
open PySem L2 Fx
variable [Tabz]
def gi : Nat → PyData → Bool
  | 0, _ => false
  | _ + 1, .none => true
  | _ + 1, .bool _ => true
  | _ + 1, .int _ => true
  | n + 1, .list ds => ds.all (gi n)
  | n + 1, .tuple ds => ds.all (gi n)
  | _ + 1, _ => false
theorem gi_all {n : Nat} (ih : ∀ d, gi n d = true → d.canLay0 = true ∧ d.depth ≤ n) : ∀ ds : List PyData, ds.all (gi n) = true → PyData.canLayAll0 ds = true ∧ PyData.depthAll ds ≤ n
  | [], _ => ⟨by simp [PyData.canLayAll0], by simp [PyData.depthAll]⟩
  | d :: ds, h => by
    rw [List.all_cons, Bool.and_eq_true] at h
    obtain ⟨h1, h2⟩ := ih d h.1
    obtain ⟨h3, h4⟩ := gi_all ih ds h.2
    refine ⟨by simp [PyData.canLayAll0, h1, h3], ?_⟩
    simp only [PyData.depthAll]
    omega
theorem gi_ok : ∀ (n : Nat) (d : PyData), gi n d = true → d.canLay0 = true ∧ d.depth ≤ n
  | 0, _, h => by cases h
  | n + 1, d, h => by
    cases d with
    | none => exact ⟨by simp [PyData.canLay0], by simp [PyData.depth]⟩
    | bool b => exact ⟨by simp [PyData.canLay0], by simp [PyData.depth]⟩
    | int b => exact ⟨by simp [PyData.canLay0], by simp [PyData.depth]⟩
    | str b => cases h
    | dict b => cases h
    | list ds =>
      obtain ⟨h3, h4⟩ := gi_all (gi_ok n) ds h
      exact ⟨by simp [PyData.canLay0, h3], by simp only [PyData.depth]; omega⟩
    | tuple ds =>
      obtain ⟨h3, h4⟩ := gi_all (gi_ok n) ds h
      exact ⟨by simp [PyData.canLay0, h3], by simp only [PyData.depth]; omega⟩
theorem gi_shaped {n : Nat} {d : PyData} (hn : n ≤ 64) (h : gi n d = true) : SeqAt.shaped d = true := by
  obtain ⟨h1, h2⟩ := gi_ok n d h
  show (d.canLay0 && decide (d.depth ≤ 64)) = true
  rw [Bool.and_eq_true]
  exact ⟨h1, decide_eq_true (by omega)⟩
def outAgL (os : List Ot) (t a b : Int) : List Int := (os.filter fun o => decide (a ≤ o.1 ∧ o.1 ≤ b + t)).map fun o => o.2
def outAg (os : List Ot) (t a b : Int) : Int := (outAgL os t a b).sum
end Mm
namespace Mm
open PySem L2 Fx
variable [Tabz]
theorem at_map {α : Type} (f : α → PyData) {xs : List α} {k : Nat} {x : α} (h : xs[k]? = some x) : atI (xs.map f) (k : Int) = some (f x) :=
  atI_nat (by rw [List.getElem?_map, h]; rfl)
def okTk : List Lot → List Int → Bool
  | [], [] => true
  | l :: ls, t :: ts => decide (0 ≤ t ∧ t ≤ l.2.1) && okTk ls ts
  | _, _ => false
def valL : List Lot → List Int → List Int
  | l :: ls, t :: ts => l.2.2 * t :: valL ls ts
  | _, _ => []
def val (ls : List Lot) (ts : List Int) : Int := (valL ls ts).sum
end Mm
namespace Mm
open PySem L2 Fx
variable [Tabz]
inductive A2 {α β : Type} (R : α → β → Prop) : List α → List β → Prop
  | nil : A2 R [] []
  | cons {a b as bs} : R a b → A2 R as bs → A2 R (a :: as) (b :: bs)
theorem A2.len {α β : Type} {R : α → β → Prop} : ∀ {xs : List α} {ys : List β}, A2 R xs ys → ys.length = xs.length
  | _, _, .nil => rfl
  | _, _, .cons _ t => by simp [t.len]
end Mm
namespace Mm
open PySem L2 Fx
variable [Tabz]
end Mm
namespace Mm
def S (o : List Nat) (g : Nat → Int) : Int := (o.map g).sum
@[simp] theorem S_nil (g : Nat → Int) : S [] g = 0 := rfl
@[simp] theorem S_cons (i : Nat) (o : List Nat) (g : Nat → Int) : S (i :: o) g = g i + S o g := by simp [S]
theorem S_zero {o : List Nat} {g : Nat → Int} (k : ∀ i ∈ o, g i = 0) : S o g = 0 := by
  induction o with
  | nil => rfl
  | cons i o ih => rw [S_cons, k i List.mem_cons_self, ih fun j hj => k j (List.mem_cons_of_mem _ hj)]; rfl
theorem outAg_cons (o : Ot) (os : List Ot) (t f l : Int) : outAg (o :: os) t f l = (if f ≤ o.1 ∧ o.1 ≤ l + t then o.2 else 0) + outAg os t f l := by
  unfold outAg outAgL
  by_cases h : f ≤ o.1 ∧ o.1 ≤ l + t
  · rw [List.filter_cons_of_pos (by simp [h]), if_pos h]; simp
  · rw [List.filter_cons_of_neg (by simp only [decide_eq_true_eq]; exact h), if_neg h]; simp
theorem outAg_nonneg {os : List Ot} {t f l : Int} (hc : ∀ o ∈ os, 0 ≤ o.2) : 0 ≤ outAg os t f l := by
  induction os with
  | nil => exact Int.le_refl _
  | cons o os ih =>
    rw [outAg_cons]
    have h1 := ih fun x hx => hc x (List.mem_cons_of_mem _ hx)
    have h2 := hc o List.mem_cons_self
    split <;> omega
abbrev at0 (xs : List Int) (i : Nat) : Int := xs.getD i 0
theorem at0_set (xs : List Int) (i j : Nat) (v : Int) (hi : i < xs.length) : at0 (xs.set i v) j = if i = j then v else at0 xs j := by
  unfold at0
  rw [List.getD_eq_getElem?_getD, List.getD_eq_getElem?_getD, List.getElem?_set]
  by_cases h : i = j
  · subst h; simp [hi]
  · simp [h]
def give (dy : Nat → Int) (e t : Int) : List Nat → List Int → Int → List Int × List (Nat × Int)
  | [], left, _ => (left, [])
  | i :: r, left, c => if (e - t ≤ dy i ∧ dy i ≤ e) ∧ 0 < min c (at0 left i) then
      ((give dy e t r (left.set i (at0 left i - min c (at0 left i))) (c - min c (at0 left i))).1, (i, min c (at0 left i)) :: (give dy e t r (left.set i (at0 left i - min c (at0 left i))) (c - min c (at0 left i))).2)
    else give dy e t r left c
def dealG (dy : Nat → Int) (ot : Nat → Ot) (t : Int) (o : List Nat) : List Nat → List Int → List Int × List (Nat × Nat × Int)
  | [], left => (left, [])
  | j :: r, left => ((dealG dy ot t o r (give dy (ot j).1 t o left (ot j).2).1).1, ((give dy (ot j).1 t o left (ot j).2).2.map fun p => (p.1, j, p.2)) ++ (dealG dy ot t o r (give dy (ot j).1 t o left (ot j).2).1).2)
end Mm
namespace Mm
open PySem L2 Fx
variable [Tabz]
abbrev dI (xs : List Int) : List PyData := xs.map PyData.int
noncomputable def byK (n : Nat) (key : Nat → List Int) : List Nat := (List.range n).mergeSort fun a b => lexLe (key a) (key b)
theorem byK_perm (n : Nat) (key : Nat → List Int) : (byK n key).Perm (List.range n) := List.mergeSort_perm _ _
abbrev dyL (ls : List Lot) (i : Nat) : Int := (ls.getD i (0, 0, 0)).1
abbrev otO (os : List Ot) (i : Nat) : Ot := os.getD i (0, 0)
noncomputable def ageL (ls : List Lot) : List Nat := byK ls.length fun i => [dyL ls i, (i : Int)]
noncomputable def ageO (os : List Ot) : List Nat := byK os.length fun i => [(otO os i).1, (i : Int)]
noncomputable def dutyL (ls : List Lot) : List Nat := byK ls.length fun i => [-(ls.getD i (0, 0, 0)).2.2, dyL ls i, (i : Int)]
def prs : List Int → List (Int × Int)
  | [] => []
  | d :: r => ((d :: r).map fun l => (d, l)) ++ prs r
def encP (p : Int × Int) : PyData := .tuple [.int p.1, .int p.2]
end Mm
namespace Mm
open PySem L2 Fx
variable [Tabz]
noncomputable def strL (ls : List Lot) : List (Int × Int) := prs (sortU (ls.map (·.1)))
noncomputable def inS (ls : List Lot) (ts : List Int) (f l : Int) : Int := S (List.range ls.length) fun i => if f ≤ dyL ls i ∧ dyL ls i ≤ l then at0 ts i else 0
noncomputable def spr (ls : List Lot) (os : List Ot) (t : Int) (ts : List Int) (p : Int × Int) : Int := outAg os t p.1 p.2 - inS ls ts p.1 p.2
def fitB (ls : List Lot) (os : List Ot) (t : Int) (ts : List Int) : Prop := ∀ p ∈ strL ls, 0 ≤ spr ls os t ts p
noncomputable def roomF (ls : List Lot) (os : List Ot) (t : Int) (ts : List Int) (d : Int) : List (Int × Int) → Int → Int
  | [], m => m
  | p :: r, m => roomF ls os t ts d r (if p.1 ≤ d ∧ d ≤ p.2 then (if spr ls os t ts p < m then spr ls os t ts p else m) else m)
noncomputable def roomAt (ls : List Lot) (os : List Ot) (t : Int) (ts : List Int) (k : Nat) : Int := roomF ls os t ts (dyL ls k) (strL ls) ((ls.getD k (0, 0, 0)).2.1 - at0 ts k)
end Mm
namespace Mm
open PySem L2 Fx
variable [Tabz]
def tri (j : Nat) (p : Nat × Int) : Lot := ((p.1 : Int), (j : Int), p.2)
theorem give_len (dy : Nat → Int) (e t : Int) : ∀ (o : List Nat) (left : List Int) (c : Int), (give dy e t o left c).1.length = left.length ∧ (give dy e t o left c).2.length ≤ o.length
  | [], left, c => ⟨rfl, Nat.le_refl _⟩
  | i :: o, left, c => by
    unfold give
    split
    · have ih := give_len dy e t o (left.set i (at0 left i - min c (at0 left i))) (c - min c (at0 left i))
      rw [List.length_set] at ih
      exact ⟨ih.1, by simp only [List.length_cons]; omega⟩
    · have ih := give_len dy e t o left c
      exact ⟨ih.1, by simp only [List.length_cons]; omega⟩
def triL (p : Nat × Nat × Int) : Lot := ((p.1 : Int), (p.2.1 : Int), p.2.2)
noncomputable def dealR (ls : List Lot) (os : List Ot) (t : Int) (ts : List Int) : List Int × List (Nat × Nat × Int) := dealG (dyL ls) (otO os) t (ageL ls) (ageO os) ts
noncomputable def dealT (ls : List Lot) (os : List Ot) (t : Int) (ts : List Int) : List Lot := (dealR ls os t ts).2.map triL
theorem ageL_len (ls : List Lot) : (ageL ls).length = ls.length := by rw [ageL, (byK_perm _ _).length_eq, List.length_range]
theorem ageO_len (os : List Ot) : (ageO os).length = os.length := by rw [ageO, (byK_perm _ _).length_eq, List.length_range]
end Mm
namespace Mm
open PySem L2 Fx
variable [Tabz]
structure Okk (ls : List Lot) (os : List Ot) (t : Int) : Prop where
  nl : ls.length ≤ 62
  no : os.length ≤ 62
  co : ∀ o ∈ os, 0 ≤ o.2
  ht : 0 ≤ t
structure Tk (ls : List Lot) (ts : List Int) : Prop where
  len : ts.length = ls.length
  pos : ∀ i, i < ls.length → 0 ≤ at0 ts i
section
variable {ls : List Lot} {os : List Ot} {t : Int} {ts : List Int}
theorem le_roomF {d x : Int} : ∀ {ps : List (Int × Int)} {m : Int}, x ≤ roomF ls os t ts d ps m ↔ x ≤ m ∧ ∀ p ∈ ps, p.1 ≤ d ∧ d ≤ p.2 → x ≤ spr ls os t ts p
  | [], m => by simp [roomF]
  | p :: r, m => by
    unfold roomF
    rw [le_roomF (ps := r)]
    constructor
    · rintro ⟨h1, h2⟩
      refine ⟨?_, fun q hq hc => ?_⟩
      · split at h1
        · split at h1 <;> omega
        · exact h1
      · rcases List.mem_cons.mp hq with e | e
        · subst e
          rw [if_pos hc] at h1
          split at h1 <;> omega
        · exact h2 q e hc
    · rintro ⟨h1, h2⟩
      refine ⟨?_, fun q hq hc => h2 q (List.mem_cons_of_mem _ hq) hc⟩
      split
      · rename_i hc
        have := h2 p List.mem_cons_self hc
        split <;> omega
      · exact h1
theorem inS_set {k : Nat} {v f l : Int} (hl : ts.length = ls.length) (hk : k < ls.length) : inS ls (ts.set k v) f l = inS ls ts f l + if f ≤ dyL ls k ∧ dyL ls k ≤ l then v - at0 ts k else 0 := by
  unfold inS
  have key : ∀ (o : List Nat), o.Nodup → S o (fun i => if f ≤ dyL ls i ∧ dyL ls i ≤ l then at0 (ts.set k v) i else 0) = S o (fun i => if f ≤ dyL ls i ∧ dyL ls i ≤ l then at0 ts i else 0) + if k ∈ o ∧ f ≤ dyL ls k ∧ dyL ls k ≤ l then v - at0 ts k else 0 := by
    intro o
    induction o with
    | nil => simp
    | cons i o ih =>
      intro nd
      rw [List.nodup_cons] at nd
      have ih := ih nd.2
      simp only [S_cons, ih]
      rw [at0_set _ _ _ _ (by omega)]
      by_cases h : k = i
      · subst h
        simp only [nd.1, List.mem_cons, true_or, true_and, false_and, if_false, if_true]
        split <;> omega
      · have h2 : (k ∈ i :: o) = (k ∈ o) := by simp [h]
        rw [if_neg h]
        simp only [h2]
        omega
  have := key (List.range ls.length) List.nodup_range
  rw [this]
  simp [hk]
theorem fit_more {k : Nat} {m : Int} (T : Tk ls ts) (hk : k < ls.length) (hf : fitB ls os t ts) (hm : m ≤ (ls.getD k (0, 0, 0)).2.1 - at0 ts k) : fitB ls os t (ts.set k (at0 ts k + m)) ↔ m ≤ roomAt ls os t ts k := by
  unfold roomAt
  rw [le_roomF]
  constructor
  · intro h
    refine ⟨hm, fun p hp hc => ?_⟩
    have h1 := h p hp
    unfold spr at h1 ⊢
    rw [inS_set T.len hk, if_pos hc] at h1
    omega
  · rintro ⟨_, h⟩ p hp
    have h1 := hf p hp
    unfold spr at h1 ⊢
    rw [inS_set T.len hk]
    by_cases hc : p.1 ≤ dyL ls k ∧ dyL ls k ≤ p.2
    · have h2 := h p hp hc
      unfold spr at h2
      rw [if_pos hc]
      omega
    · rw [if_neg hc]
      omega
theorem room_nonneg {k : Nat} (hf : fitB ls os t ts) (hm : 0 ≤ (ls.getD k (0, 0, 0)).2.1 - at0 ts k) : 0 ≤ roomAt ls os t ts k := by
  unfold roomAt
  rw [le_roomF]
  exact ⟨hm, fun p hp _ => hf p hp⟩
theorem room_le {k : Nat} : roomAt ls os t ts k ≤ (ls.getD k (0, 0, 0)).2.1 - at0 ts k := by
  unfold roomAt
  exact (le_roomF.mp (Int.le_refl _)).1
theorem Tk.set {k : Nat} {v : Int} (T : Tk ls ts) (hv : 0 ≤ v) (hk : k < ls.length) : Tk ls (ts.set k v) := by
  refine ⟨by rw [List.length_set, T.len], fun i hi => ?_⟩
  rw [at0_set _ _ _ _ (by rw [T.len]; exact hk)]
  split
  · exact hv
  · exact T.pos i hi
noncomputable def bestG (ls : List Lot) (os : List Ot) (t : Int) : List Nat → List Int → List Int
  | [], ts => ts
  | k :: r, ts => bestG ls os t r (ts.set k (roomAt ls os t ts k))
noncomputable def zer (n : Nat) : List Int := (List.range n).map fun _ => 0
noncomputable def best (ls : List Lot) (os : List Ot) (t : Int) : List Int := bestG ls os t (dutyL ls) (zer ls.length)
theorem zer_len (n : Nat) : (zer n).length = n := by simp [zer]
theorem zer_at (n i : Nat) : at0 (zer n) i = 0 := by
  unfold at0 zer
  rw [List.getD_eq_getElem?_getD, List.getElem?_map]
  by_cases h : i < n
  · rw [List.getElem?_range h]; rfl
  · rw [List.getElem?_eq_none (by simpa using h)]; rfl
end
end Mm
namespace Mm
open PySem L2 Fx
variable [Tabz]
abbrev ctL (ls : List Lot) (i : Nat) : Int := (ls.getD i (0, 0, 0)).2.1
structure Bi (ls : List Lot) (os : List Ot) (t : Int) (ts : List Int) : Prop where
  tk : Tk ls ts
  le : ∀ i, i < ls.length → at0 ts i ≤ ctL ls i
  fit : fitB ls os t ts
section
variable {ls : List Lot} {os : List Ot} {t : Int} {ts : List Int}
theorem Bi.zero (O : Okk ls os t) (hg : ∀ l ∈ ls, GoodL l) : Bi ls os t (zer ls.length) := by
  refine ⟨⟨zer_len _, fun i _ => by rw [zer_at]; exact Int.le_refl _⟩, fun i hi => ?_, fun p _ => ?_⟩
  · rw [zer_at]
    have := (hg _ (List.mem_of_getElem? (i := i) (show ls[i]? = some (ls.getD i (0, 0, 0)) by simp [hi]))).c1
    show 0 ≤ (ls.getD i (0, 0, 0)).2.1
    omega
  · unfold spr inS
    rw [S_zero fun i _ => by rw [zer_at]; split <;> rfl]
    have := outAg_nonneg (t := t) (f := p.1) (l := p.2) O.co
    omega
theorem Bi.step {k : Nat} (B : Bi ls os t ts) (hk : k < ls.length) (h0 : at0 ts k = 0) : Bi ls os t (ts.set k (roomAt ls os t ts k)) := by
  have hc := B.le k hk
  have hr : 0 ≤ roomAt ls os t ts k := room_nonneg B.fit (by have : (ls.getD k (0, 0, 0)).2.1 = ctL ls k := rfl; omega)
  have hr2 : roomAt ls os t ts k ≤ ctL ls k := by
    have := room_le (ls := ls) (os := os) (t := t) (ts := ts) (k := k)
    rw [h0] at this
    have e : ctL ls k = (ls.getD k (0, 0, 0)).2.1 := rfl
    omega
  refine ⟨B.tk.set hr hk, fun i hi => ?_, ?_⟩
  · rw [at0_set _ _ _ _ (by rw [B.tk.len]; exact hk)]
    split
    · rename_i e; rw [← e]; exact hr2
    · exact B.le i hi
  · have := (fit_more (os := os) (t := t) (m := roomAt ls os t ts k) B.tk hk B.fit room_le).mpr (Int.le_refl _)
    rw [h0, Int.zero_add] at this
    exact this
theorem okTk_of : ∀ {ls : List Lot} {ts : List Int}, ts.length = ls.length → (∀ i, i < ls.length → 0 ≤ at0 ts i ∧ at0 ts i ≤ ctL ls i) → okTk ls ts = true
  | [], [], _, _ => rfl
  | l :: ls, t :: ts, hl, h => by
    have h0 := h 0 (by simp)
    unfold okTk
    rw [Bool.and_eq_true]
    refine ⟨decide_eq_true h0, okTk_of (by simpa using hl) fun i hi => ?_⟩
    exact h (i + 1) (by simpa using hi)
  | [], _ :: _, hl, _ => by cases hl
  | _ :: _, [], hl, _ => by cases hl
theorem Bi.ok (B : Bi ls os t ts) : okTk ls ts = true := okTk_of B.tk.len fun i hi => ⟨B.tk.pos i hi, B.le i hi⟩
end
end Mm
namespace Mm
open PySem L2 Fx
variable [Tabz]
end Mm
namespace Mm
open PySem L2 Fx
variable [Tabz]
theorem dealG_len (dy : Nat → Int) (ot : Nat → Ot) (t : Int) (o : List Nat) : ∀ (p : List Nat) (left : List Int), (dealG dy ot t o p left).2.length ≤ p.length * o.length
  | [], left => by simp [dealG]
  | j :: p, left => by
    have h1 := (give_len dy (ot j).1 t o left (ot j).2).2
    have h2 := dealG_len dy ot t o p (give dy (ot j).1 t o left (ot j).2).1
    unfold dealG
    simp only [List.length_append, List.length_map, List.length_cons]
    rw [Nat.add_mul, Nat.one_mul]
    omega
theorem dealT_len {ls : List Lot} {os : List Ot} {t : Int} {ts : List Int} (h1 : ls.length ≤ 62) (h2 : os.length ≤ 62) : (dealT ls os t ts).length ≤ 4000 := by
  have h := dealG_len (dyL ls) (otO os) t (ageL ls) (ageO os) ts
  unfold dealT
  rw [List.length_map]
  rw [ageL_len, ageO_len] at h
  have : os.length * ls.length ≤ 62 * 62 := Nat.mul_le_mul h2 h1
  show (dealG (dyL ls) (otO os) t (ageL ls) (ageO os) ts).2.length ≤ 4000
  omega
theorem gd_list {n : Nat} {ds : List PyData} (h1 : ds.length ≤ 100000) (h2 : ds.all (gd n) = true) : gd (n + 1) (.list ds) = true := by
  show (small ds.length && ds.all (gd n)) = true
  rw [Bool.and_eq_true]
  exact ⟨small_of h1, h2⟩
end Mm
namespace Mm
open PySem L2 Fx
variable [Tabz]
end Mm
namespace Mm
open PySem L2 Fx
variable [Tabz]
end Mm
namespace Mm
open PySem L2 Fx
variable [Tabz]
def heldL (ps : List Ot) (w d : Int) : List Int := (ps.filter fun p => decide (d - w ≤ p.1 ∧ p.1 ≤ d)).map fun p => p.2
def held (ps : List Ot) (w d : Int) : Int := (heldL ps w d).sum
end Mm
namespace Mm
open PySem L2 Fx
variable [Tabz]
end Mm
namespace Mm
open PySem L2 Fx
variable [Tabz]
end Mm
namespace Mm
open PySem L2 Fx
variable [Tabz]
end Mm
namespace Mm
open PySem L2 Fx
variable [Tabz]
end Mm
namespace Mm
open PySem L2 Fx
variable [Tabz]
end Mm
namespace Mm
open PySem L2 Fx
open Classical in
noncomputable def iv (p : Prop) (x : Int) : Int := if p then x else 0
def sumM {α : Type} (xs : List α) (g : α → Int) : Int := (xs.map g).sum
section
variable {ls : List Lot} {os : List Ot} {t : Int} {ts : List Int}
noncomputable def sumA (ls : List Lot) (ts : List Int) (A : Nat → Prop) : Int := S (List.range ls.length) fun i => iv (A i) (at0 ts i)
noncomputable def cov (ls : List Lot) (os : List Ot) (t : Int) (A : Nat → Prop) : Int := sumM os fun o => iv (∃ i, i < ls.length ∧ A i ∧ dyL ls i ≤ o.1 ∧ o.1 ≤ dyL ls i + t) o.2
variable [Tabz]
end
end Mm
namespace Mm
open PySem L2 Fx
noncomputable def ctA (ls : List Lot) (A : Nat → Prop) : Int := S (List.range ls.length) fun i => iv (A i) (ctL ls i)
noncomputable def cutV (ls : List Lot) (os : List Ot) (t : Int) (U A : Nat → Prop) : Int := cov ls os t A + ctA ls fun i => ¬ A i ∧ U i
section
variable {ls : List Lot} {os : List Ot} {t : Int} {ts : List Int}
variable [Tabz]
noncomputable abbrev rk (ls : List Lot) (os : List Ot) (t d m : Int) (U : Nat → Prop) : Int := sumA ls (best ls (os ++ [(d, m)]) t) U
variable {d : Int}
end
end Mm
namespace Mm
open PySem L2 Fx
variable [Tabz]
section
variable {ls : List Lot} {os : List Ot} {t d u : Int} {ts : List Int}
abbrev wi (ls : List Lot) (U : Nat → Prop) : Nat → Prop := fun i => U i ∨ i = ls.length
end
end Mm
namespace Mm
open PySem L2 Fx
variable [Tabz]
abbrev Pr := Int × Int
end Mm
namespace Mm
open PySem L2 Fx
variable [Tabz]
end Mm
namespace Mm
open PySem L2 Fx
variable [Tabz]
end Mm
namespace Mm
open PySem L2 Fx
variable [Tabz]
def encPs (l : List Pr) : PyData := .tuple (l.map encP)
def encPl (l : List Pr) : PyData := .list (l.map encP)
abbrev kR (p hd : List PyData) : Tr := .nd (.ins "Kinds") [.ow p, .ow hd]
abbrev kRD (p hd : List PyData) : PyData := instD "Kinds" [.list p, .list hd]
theorem mkL0 : mkL [] = some [] := rfl
theorem t_at0 (t : Tr) : t.at [] = some t := by cases t <;> rfl
theorem t_at1 {k : Nk} {ts : List Tr} {n : Nat} {q : List Nat} : (Tr.nd k ts).at (n :: q) = (match ts[n]? with
    | some t => t.at q
    | none => none) := rfl
theorem t_put0 (t s : Tr) : t.put [] s = s := by cases t <;> rfl
theorem t_put1 {k : Nk} {ts : List Tr} {n : Nat} {q : List Nat} {s : Tr} : (Tr.nd k ts).put (n :: q) s = (match ts[n]? with
    | some t => .nd k (ts.set n (t.put q s))
    | none => .nd k ts) := rfl
section
variable {p hd : List PyData}
theorem Kinds_many_eq : F_Kinds_many [.l (kR p hd)] = .ok (.fz (.int p.length)) [.l (kR p hd)] := by
  simp [F_Kinds_many, g_Kinds_many, stT, t_at0, t_at1, t_put0, t_put1, List.filterMap_cons, List.filterMap_nil, mkT, mkL, small, Fx.sc]
theorem Kinds_need_kind_eq (n : Int) : F_Kinds_need_kind [.l (kR p hd), .d (.int n)] = if n < 1 ∨ (p.length : Int) < n then .exc "NoKind" [.l (kR p hd), .d (.int n)] else .ok (.fz .none) [.l (kR p hd), .d (.int n)] := by
  by_cases h1 : n < 1
  · simp [F_Kinds_need_kind, g_Kinds_need_kind, stT, t_at0, t_at1, t_put0, t_put1, List.filterMap_cons, List.filterMap_nil, mkT, mkL, small, Fx.sc, h1]
  · by_cases h2 : (p.length : Int) < n <;> simp [F_Kinds_need_kind, g_Kinds_need_kind, stT, t_at0, t_at1, t_put0, t_put1, List.filterMap_cons, List.filterMap_nil, mkT, mkL, small, Fx.sc, h1, h2]
theorem Kinds_need_room_eq : F_Kinds_need_room [.l (kR p hd)] = if 12 ≤ p.length then .exc "Full" [.l (kR p hd)] else .ok (.fz .none) [.l (kR p hd)] := by
  by_cases h : 12 ≤ p.length
  · have h' : (12 : Int) ≤ p.length := by omega
    simp [F_Kinds_need_room, g_Kinds_need_room, stT, t_at0, t_at1, t_put0, t_put1, List.filterMap_cons, List.filterMap_nil, mkT, mkL, small, Fx.sc, h, h']
  · have h' : ¬ (12 : Int) ≤ p.length := by omega
    simp [F_Kinds_need_room, g_Kinds_need_room, stT, t_at0, t_at1, t_put0, t_put1, List.filterMap_cons, List.filterMap_nil, mkT, mkL, small, Fx.sc, h, h']
theorem Kinds_init_eq : F_Kinds___init__ [.o (.nd (.ins "Kinds") [])] = .ok (.fz .none) [.o (kR [] [])] := by
  simp [F_Kinds___init__, g_Kinds___init__, stT, t_at0, t_at1, t_put0, t_put1, List.filterMap_cons, List.filterMap_nil, mkT, mkL, small, Fx.sc, mkL0]
theorem Kinds_put_eq (x y : PyData) (hp : p.length ≤ 1000) (hh : hd.length ≤ 1000) : F_Kinds_put [.o (kR p hd), .d x, .d y] = .ok (.fz (.int (p.length + 1))) [.o (kR (p ++ [x]) (hd ++ [y])), .d x, .d y] := by
  simp [F_Kinds_put, g_Kinds_put, stT, t_at0, t_at1, t_put0, t_put1, List.filterMap_cons, List.filterMap_nil, mkT, mkL, small, Fx.sc, kAppend_of (show p.length ≤ 100000 by omega), kAppend_of (show hd.length ≤ 100000 by omega)]
theorem Kinds_twin_eq : F_Kinds_twin [.l (kR p hd)] = .ok (.tr (kR p hd)) [.l (kR p hd)] := by
  simp [F_Kinds_twin, g_Kinds_twin, stT, t_at0, t_at1, t_put0, t_put1, List.filterMap_cons, List.filterMap_nil, mkT, mkL, small, Fx.sc, Kinds_init_eq]
theorem Kinds_raw_eq (hp : p.length ≤ 1000) (hh : hd.length ≤ 1000) : F_Kinds_raw [.o (kR p hd)] = if 12 ≤ p.length then .exc "Full" [.o (kR p hd)] else .ok (.fz (.int (p.length + 1))) [.o (kR (p ++ [.tuple []]) (hd ++ [.tuple [.tuple [.int (p.length + 1), .int 1]]]))] := by
  by_cases h : 12 ≤ p.length <;> simp [F_Kinds_raw, g_Kinds_raw, stT, t_at0, t_at1, t_put0, t_put1, List.filterMap_cons, List.filterMap_nil, mkT, mkL, small, Fx.sc, Kinds_need_room_eq, Kinds_put_eq _ _ hp hh, h]
theorem at_num {α : Type} (f : α → PyData) (xs : List α) (d : α) {n : Int} (h1 : 1 ≤ n) (h2 : n ≤ (xs.length : Int)) : atI (xs.map f) (n - 1) = some (f (xs.getD (n - 1).toNat d)) := by
  have hl : (n - 1).toNat < xs.length := by omega
  refine atI_at (by omega) ?_
  rw [List.getElem?_map, List.getElem?_eq_getElem hl, List.getD_eq_getElem?_getD, List.getElem?_eq_getElem hl]
  rfl
theorem gi_ps (n : Nat) (l : List Pr) : (l.map encP).all (gi (n + 2)) = true := by
  rw [List.all_eq_true]
  intro d hd
  obtain ⟨x, _, rfl⟩ := List.mem_map.mp hd
  rfl
theorem oEQ_tn (l : List Pr) : oEQ (encPs l) (.tuple []) = some (.bool (decide (l = []))) := by
  have hs : SeqAt.shaped (encPs l) = true := gi_shaped (n := 3) (by decide) (by show (l.map encP).all (gi 2) = true; exact gi_ps 0 l)
  have hs0 : SeqAt.shaped (.tuple []) = true := gi_shaped (n := 1) (by decide) rfl
  unfold encPs at hs ⊢
  cases l with
  | nil =>
    have he := SeqAt.eqv_refl (.tuple []) (gi_ok 1 (.tuple []) rfl).1
    simp [oEQ, hs0, he]
  | cons d ds => simp only [List.map_cons] at hs; simp [oEQ, hs, hs0, PyData.eqv, PyData.eqvAll]
theorem Kinds_is_raw_eq (ps : List (List Pr)) (n : Int) : F_Kinds_is_raw [.l (kR (ps.map encPs) hd), .d (.int n)] = if n < 1 ∨ (ps.length : Int) < n then .exc "NoKind" [.l (kR (ps.map encPs) hd), .d (.int n)] else .ok (.fz (.bool (decide (ps.getD (n - 1).toNat [] = [])))) [.l (kR (ps.map encPs) hd), .d (.int n)] := by
  by_cases h : n < 1 ∨ (ps.length : Int) < n
  · simp [F_Kinds_is_raw, g_Kinds_is_raw, stT, t_at0, t_at1, t_put0, t_put1, List.filterMap_cons, List.filterMap_nil, mkT, mkL, small, Fx.sc, Kinds_need_kind_eq, h]
  · have e := at_num encPs ps [] (n := n) (by omega) (by omega)
    simp [F_Kinds_is_raw, g_Kinds_is_raw, stT, t_at0, t_at1, t_put0, t_put1, List.filterMap_cons, List.filterMap_nil, mkT, mkL, small, Fx.sc, Kinds_need_kind_eq, h, e, oEQ_tn]
theorem Kinds_parts_eq (ps : List (List Pr)) (n : Int) : F_Kinds_parts [.l (kR (ps.map encPs) hd), .d (.int n)] = if n < 1 ∨ (ps.length : Int) < n then .exc "NoKind" [.l (kR (ps.map encPs) hd), .d (.int n)] else .ok (.ow ((ps.getD (n - 1).toNat []).map encP)) [.l (kR (ps.map encPs) hd), .d (.int n)] := by
  by_cases h : n < 1 ∨ (ps.length : Int) < n
  · simp [F_Kinds_parts, g_Kinds_parts, stT, t_at0, t_at1, t_put0, t_put1, List.filterMap_cons, List.filterMap_nil, mkT, mkL, small, Fx.sc, Kinds_need_kind_eq, h]
  · have e := at_num encPs ps [] (n := n) (by omega) (by omega)
    simp [F_Kinds_parts, g_Kinds_parts, stT, t_at0, t_at1, t_put0, t_put1, List.filterMap_cons, List.filterMap_nil, mkT, mkL, small, Fx.sc, Kinds_need_kind_eq, h, e, encPs]
theorem Kinds_holds_eq (hs : List (List Pr)) (n : Int) (hl : p.length = hs.length) : F_Kinds_holds [.l (kR p (hs.map encPs)), .d (.int n)] = if n < 1 ∨ (hs.length : Int) < n then .exc "NoKind" [.l (kR p (hs.map encPs)), .d (.int n)] else .ok (.ow ((hs.getD (n - 1).toNat []).map encP)) [.l (kR p (hs.map encPs)), .d (.int n)] := by
  by_cases h : n < 1 ∨ (hs.length : Int) < n
  · simp [F_Kinds_holds, g_Kinds_holds, stT, t_at0, t_at1, t_put0, t_put1, List.filterMap_cons, List.filterMap_nil, mkT, mkL, small, Fx.sc, Kinds_need_kind_eq, h, hl]
  · have e := at_num encPs hs [] (n := n) (by omega) (by omega)
    simp [F_Kinds_holds, g_Kinds_holds, stT, t_at0, t_at1, t_put0, t_put1, List.filterMap_cons, List.filterMap_nil, mkT, mkL, small, Fx.sc, Kinds_need_kind_eq, h, hl, e, encPs]
theorem oSum_ints (ns : List Int) : asInts (dI ns) = some ns := asInts_map ns
def heldOf (l : List Pr) (r : Int) : Int := ((l.filter fun q => decide (q.1 = r)).map fun q => q.2).sum
def badP (n a : Int) (q : Pr) : Prop := q.1 ≤ a ∨ n < q.1 ∨ q.2 < 1 ∨ 100 < q.2
instance (n a : Int) (q : Pr) : Decidable (badP n a q) := by unfold badP; infer_instance
def goParts (n : Int) : Int → List Pr → Option Int
  | a, [] => some a
  | a, q :: qs => if badP n a q then none else goParts n q.1 qs
def errParts (n : Int) (qs : List Pr) : Bool := match goParts n 0 qs with
  | some a => decide (a = 0)
  | none => true
theorem parts_turn (a : Int) (q : Pr) (s1 : Sl) : b_Kinds_need_parts_1 [.lk (kR p hd), s1, .fz (.int a), .fz (.int q.1), .fz (.int q.2)] = if badP p.length a q then .exc "BadParts" [.lk (kR p hd), s1, .fz (.int a), .fz (.int q.1), .fz (.int q.2)] else .nx [.lk (kR p hd), s1, .fz (.int q.1), .fz (.int q.1), .fz (.int q.2)] := by
  unfold badP
  by_cases h1 : q.1 ≤ a
  · simp [b_Kinds_need_parts_1, stT, t_at0, t_at1, t_put0, t_put1, List.filterMap_cons, List.filterMap_nil, mkT, mkL, small, Fx.sc, h1]
  · by_cases h2 : (p.length : Int) < q.1
    · simp [b_Kinds_need_parts_1, stT, t_at0, t_at1, t_put0, t_put1, List.filterMap_cons, List.filterMap_nil, mkT, mkL, small, Fx.sc, h1, h2]
    · by_cases h3 : q.2 < 1
      · simp [b_Kinds_need_parts_1, stT, t_at0, t_at1, t_put0, t_put1, List.filterMap_cons, List.filterMap_nil, mkT, mkL, small, Fx.sc, h1, h2, h3]
      · by_cases h4 : 100 < q.2 <;> simp [b_Kinds_need_parts_1, stT, t_at0, t_at1, t_put0, t_put1, List.filterMap_cons, List.filterMap_nil, mkT, mkL, small, Fx.sc, h1, h2, h3, h4]
theorem parts_loop (s1 : Sl) : ∀ (qs : List Pr) (a : Int) (s3 s4 : Sl), ∃ a' s3' s4', forE (gTp (gsCons (gSet 3) (gsCons (gSet 4) gsNil))) b_Kinds_need_parts_1 (qs.map encP) [.lk (kR p hd), s1, .fz (.int a), s3, s4] = match goParts p.length a qs with
    | some x => .nx [.lk (kR p hd), s1, .fz (.int x), s3', s4']
    | none => .exc "BadParts" [.lk (kR p hd), s1, a', s3', s4']
  | [], a, s3, s4 => ⟨.un, s3, s4, rfl⟩
  | q :: qs, a, s3, s4 => by
    rw [List.map_cons]
    unfold forE goParts
    have e : gTp (gsCons (gSet 3) (gsCons (gSet 4) gsNil)) (encP q) [.lk (kR p hd), s1, .fz (.int a), s3, s4] = some [.lk (kR p hd), s1, .fz (.int a), .fz (.int q.1), .fz (.int q.2)] := rfl
    simp only [e, parts_turn]
    by_cases h : badP p.length a q
    · rw [if_pos h, if_pos h]; exact ⟨_, _, _, rfl⟩
    · rw [if_neg h, if_neg h]; exact parts_loop s1 qs _ _ _
theorem Kinds_need_parts_eq (qs : List Pr) : F_Kinds_need_parts [.l (kR p hd), .l (.ow (qs.map encP))] = if errParts p.length qs = true then .exc "BadParts" [.l (kR p hd), .l (.ow (qs.map encP))] else .ok (.fz .none) [.l (kR p hd), .l (.ow (qs.map encP))] := by
  obtain ⟨a, s3, s4, e⟩ := parts_loop (p := p) (hd := hd) (.lk (.ow (qs.map encP))) qs 0 .un .un
  have e2 : sFor (fItP (plN 1)) (gTp (gsCons (gSet 3) (gsCons (gSet 4) gsNil))) b_Kinds_need_parts_1 [.lk (kR p hd), .lk (.ow (qs.map encP)), .fz (.int 0), .un, .un] = _ := (sFor_eq (by simp [stT, t_at0, t_at1, t_put0, t_put1, List.filterMap_cons, List.filterMap_nil, mkT, mkL, small, Fx.sc])).trans e
  unfold errParts
  cases h : goParts p.length 0 qs with
  | none => rw [h] at e2; simp [F_Kinds_need_parts, g_Kinds_need_parts, stT, t_at0, t_at1, t_put0, t_put1, List.filterMap_cons, List.filterMap_nil, mkT, mkL, small, Fx.sc, e2]
  | some x =>
    rw [h] at e2
    by_cases hx : x = 0 <;> simp [F_Kinds_need_parts, g_Kinds_need_parts, stT, t_at0, t_at1, t_put0, t_put1, List.filterMap_cons, List.filterMap_nil, mkT, mkL, small, Fx.sc, e2, oEQ, hx]
def lookP (m : List Pr) (r : Int) : Option Int := match m with
  | [] => none
  | q :: m => if q.1 = r then some q.2 else lookP m r
def putP' (m : List Pr) (r x : Int) : List Pr := if r ∈ m.map (·.1) then m.map (fun q => if q.1 = r then (q.1, x) else q) else m ++ [(r, x)]
def addP (m : List Pr) (r x : Int) : List Pr := putP' m r ((lookP m r).getD 0 + x)
abbrev dkT (m : List Pr) : Tr := .dk (m.map fun q => Sum.inl q.1) (m.map fun q => PyData.int q.2)
theorem lkK_P (r : Int) : ∀ m : List Pr, lkK (m.map fun q => (Sum.inl q.1 : Key)) (m.map fun q => PyData.int q.2) (Sum.inl r) = (lookP m r).map PyData.int
  | [] => rfl
  | q :: m => by
    simp only [List.map_cons, lkK, lookP]
    by_cases h : q.1 = r
    · simp [h]
    · simp [h, lkK_P r m]
theorem mem_inl (r : Int) (m : List Pr) : (Sum.inl r : Key) ∈ (m.map fun q => (Sum.inl q.1 : Key)) ↔ r ∈ m.map (·.1) := by
  simp [List.mem_map]
theorem rep_P (r x : Int) : ∀ m : List Pr, repK (m.map fun q => (Sum.inl q.1 : Key)) (m.map fun q => PyData.int q.2) (Sum.inl r) (PyData.int x) = (m.map fun q => if q.1 = r then (q.1, x) else q).map fun q => PyData.int q.2
  | [] => rfl
  | q :: m => by
    have ih := rep_P r x m
    unfold repK at ih ⊢
    simp only [List.map_cons, List.zipWith_cons_cons, ih]
    by_cases h : q.1 = r <;> simp [h]
theorem keys_rep (r x : Int) : ∀ m : List Pr, (m.map fun q => if q.1 = r then (q.1, x) else q).map (fun q => (Sum.inl q.1 : Key)) = m.map fun q => (Sum.inl q.1 : Key)
  | [] => rfl
  | q :: m => by
    simp only [List.map_cons, keys_rep r x m]
    by_cases h : q.1 = r <;> simp [h]
theorem ptK_P (m : List Pr) (r x : Int) : ptK (m.map fun q => (Sum.inl q.1 : Key)) (m.map fun q => PyData.int q.2) (Sum.inl r) (PyData.int x) = ((putP' m r x).map (fun q => (Sum.inl q.1 : Key)), (putP' m r x).map fun q => PyData.int q.2) := by
  unfold ptK putP'
  by_cases h : r ∈ m.map (·.1)
  · rw [if_pos ((mem_inl r m).mpr h), if_pos h, rep_P, keys_rep]
  · rw [if_neg (fun z => h ((mem_inl r m).mp z)), if_neg h, List.map_append, List.map_append]
    rfl
def addL (n : Int) : List Pr → List Pr → List Pr
  | m, [] => m
  | m, q :: l => addL n (addP m q.1 (q.2 * n)) l
def addAll (hs : List (List Pr)) : List Pr → List Pr → List Pr
  | m, [] => m
  | m, q :: qs => addAll hs (addL q.2 m (hs.getD (q.1 - 1).toNat [])) qs
noncomputable def heldBy (hs : List (List Pr)) (qs : List Pr) : List Pr := (sortI ((addAll hs [] qs).map (·.1))).map fun r => (r, (lookP (addAll hs [] qs) r).getD 0)
theorem hold_turn (s0 s1 s3 : Sl) (m : List Pr) (n : Int) (q : Pr) (hm : m.length ≤ 1000) (hq : q.2.natAbs < 2 ^ 64) : b_Kinds_held_by_1 [s0, s1, .tr (dkT m), s3, .fz (.int n), .fz (.int q.1), .fz (.int q.2)] = .nx [s0, s1, .tr (dkT (addP m q.1 (q.2 * n))), s3, .fz (.int n), .fz (.int q.1), .fz (.int q.2)] := by
  have hc : cMul q.2 n = true := by unfold cMul; exact decide_eq_true (.inl hq)
  have e := lkK_P q.1 m
  have e2 := ptK_P m q.1 ((lookP m q.1).getD 0 + q.2 * n)
  have e3 : ((lookP m q.1).map PyData.int).getD (.int 0) = .int ((lookP m q.1).getD 0) := by cases lookP m q.1 <;> rfl
  simp [b_Kinds_held_by_1, unkD, e, e3, hc, e2, small, show m.length ≤ 100000 by omega, addP]
theorem putP'_len (m : List Pr) (r x : Int) : (putP' m r x).length ≤ m.length + 1 := by
  unfold putP'
  split <;> simp
theorem addL_len (n : Int) : ∀ (l m : List Pr), (addL n m l).length ≤ m.length + l.length
  | [], m => by simp [addL]
  | q :: l, m => by
    have h1 := addL_len n l (addP m q.1 (q.2 * n))
    have h2 := putP'_len m q.1 ((lookP m q.1).getD 0 + q.2 * n)
    unfold addL
    unfold addP at h1 ⊢
    simp only [List.length_cons]
    omega
theorem hold_inner (s0 s1 s3 : Sl) (n : Int) : ∀ (l m : List Pr) (s5 s6 : Sl), m.length + l.length ≤ 1000 → (∀ q ∈ l, q.2.natAbs < 2 ^ 64) → ∃ s5' s6', forE (gTp (gsCons (gSet 5) (gsCons (gSet 6) gsNil))) b_Kinds_held_by_1 (l.map encP) [s0, s1, .tr (dkT m), s3, .fz (.int n), s5, s6] = .nx [s0, s1, .tr (dkT (addL n m l)), s3, .fz (.int n), s5', s6']
  | [], m, s5, s6, _, _ => ⟨s5, s6, rfl⟩
  | q :: l, m, s5, s6, hm, hq => by
    rw [List.map_cons]
    unfold forE addL
    have e : gTp (gsCons (gSet 5) (gsCons (gSet 6) gsNil)) (encP q) [s0, s1, .tr (dkT m), s3, .fz (.int n), s5, s6] = some [s0, s1, .tr (dkT m), s3, .fz (.int n), .fz (.int q.1), .fz (.int q.2)] := rfl
    simp only [List.length_cons] at hm
    have h2 := putP'_len m q.1 ((lookP m q.1).getD 0 + q.2 * n)
    simp only [e, hold_turn s0 s1 s3 m n q (by omega) (hq q List.mem_cons_self)]
    exact hold_inner s0 s1 s3 n l _ _ _ (by unfold addP; omega) fun x hx => hq x (List.mem_cons_of_mem _ hx)
structure HdOk (hs : List (List Pr)) : Prop where
  few : hs.length ≤ 12
  len : ∀ l ∈ hs, l.length ≤ 12
  num : ∀ l ∈ hs, ∀ q ∈ l, 1 ≤ q.1 ∧ q.1 ≤ (hs.length : Int) ∧ 1 ≤ q.2 ∧ q.2 ≤ 10000
  nd : ∀ l ∈ hs, (l.map (·.1)).Nodup
  ne : ∀ l ∈ hs, l ≠ []
theorem HdOk.at {hs : List (List Pr)} (h : HdOk hs) (n : Int) : (hs.getD (n - 1).toNat []).length ≤ 12 ∧ (∀ q ∈ hs.getD (n - 1).toNat [], 1 ≤ q.1 ∧ q.1 ≤ (hs.length : Int) ∧ 1 ≤ q.2 ∧ q.2 ≤ 10000) ∧ ((hs.getD (n - 1).toNat []).map (·.1)).Nodup := by
  by_cases hl : (n - 1).toNat < hs.length
  · have e : hs.getD (n - 1).toNat [] = hs[(n - 1).toNat] := by rw [List.getD_eq_getElem?_getD, List.getElem?_eq_getElem hl]; rfl
    have m := List.getElem_mem hl
    rw [e]
    exact ⟨h.len _ m, h.num _ m, h.nd _ m⟩
  · have e : hs.getD (n - 1).toNat [] = [] := by rw [List.getD_eq_getElem?_getD, List.getElem?_eq_none (by omega)]; rfl
    rw [e]
    exact ⟨Nat.zero_le _, (fun q z => absurd z List.not_mem_nil), List.nodup_nil⟩
theorem hold_outer {hs : List (List Pr)} (H : HdOk hs) (s1 : Sl) : ∀ (qs m : List Pr) (s3 s4 s5 s6 : Sl), m.length + 12 * qs.length ≤ 900 → (∀ q ∈ qs, 1 ≤ q.1 ∧ q.1 ≤ (hs.length : Int)) → ∃ s3' s4' s5' s6', forE (gTp (gsCons (gSet 3) (gsCons (gSet 4) gsNil))) b_Kinds_held_by_2 (qs.map encP) [.lk (kR p (hs.map encPs)), s1, .tr (dkT m), s3, s4, s5, s6] = .nx [.lk (kR p (hs.map encPs)), s1, .tr (dkT (addAll hs m qs)), s3', s4', s5', s6']
  | [], m, s3, s4, s5, s6, _, _ => ⟨s3, s4, s5, s6, rfl⟩
  | q :: qs, m, s3, s4, s5, s6, hm, hq => by
    rw [List.map_cons]
    unfold forE addAll
    have e : gTp (gsCons (gSet 3) (gsCons (gSet 4) gsNil)) (encP q) [.lk (kR p (hs.map encPs)), s1, .tr (dkT m), s3, s4, s5, s6] = some [.lk (kR p (hs.map encPs)), s1, .tr (dkT m), .fz (.int q.1), .fz (.int q.2), s5, s6] := rfl
    simp only [List.length_cons] at hm
    obtain ⟨a1, a2, _⟩ := H.at q.1
    obtain ⟨h1, h2⟩ := hq q List.mem_cons_self
    have ea := at_num encPs hs [] h1 h2
    have hlen := addL_len q.2 (hs.getD (q.1 - 1).toNat []) m
    obtain ⟨s5', s6', e2⟩ := hold_inner (.lk (kR p (hs.map encPs))) s1 (.fz (.int q.1)) q.2 (hs.getD (q.1 - 1).toNat []) m s5 s6 (by omega) fun x hx => by have := a2 x hx; omega
    generalize hs.getD (q.1 - 1).toNat [] = l at *
    have e3 : b_Kinds_held_by_2 [.lk (kR p (hs.map encPs)), s1, .tr (dkT m), .fz (.int q.1), .fz (.int q.2), s5, s6] = .nx [.lk (kR p (hs.map encPs)), s1, .tr (dkT (addL q.2 m l)), .fz (.int q.1), .fz (.int q.2), s5', s6'] := by
      unfold b_Kinds_held_by_2
      refine (sFor_eq (ds := l.map encP) ?_).trans e2
      simp [stT, t_at0, t_at1, t_put0, t_put1, List.filterMap_cons, List.filterMap_nil, mkT, mkL, small, Fx.sc, ea, encPs]
    simp only [e, e3]
    exact hold_outer H s1 qs _ _ _ _ _ (by omega) fun x hx => hq x (List.mem_cons_of_mem _ hx)
theorem put_keys (m : List Pr) (r x : Int) (h : (m.map (·.1)).Nodup) : ((putP' m r x).map (·.1)).Nodup ∧ ∀ k, k ∈ (putP' m r x).map (·.1) ↔ k = r ∨ k ∈ m.map (·.1) := by
  unfold putP'
  by_cases hr : r ∈ m.map (·.1)
  · have e : (m.map fun q => if q.1 = r then (q.1, x) else q).map (·.1) = m.map (·.1) := by
      rw [List.map_map]
      refine List.map_congr_left fun q _ => ?_
      by_cases hq : q.1 = r <;> simp [hq]
    rw [if_pos hr, e]
    exact ⟨h, fun k => ⟨.inr, fun z => z.elim (fun y => y ▸ hr) id⟩⟩
  · rw [if_neg hr, List.map_append]
    refine ⟨List.nodup_append.mpr ⟨h, by simp, fun a ha b hb => ?_⟩, fun k => ?_⟩
    · simp only [List.map_cons, List.map_nil, List.mem_singleton] at hb
      subst hb
      exact fun z => hr (z ▸ ha)
    · simp only [List.mem_append, List.map_cons, List.map_nil, List.mem_singleton]
      exact or_comm
theorem addL_keys (n : Int) : ∀ (l m : List Pr), (m.map (·.1)).Nodup → ((addL n m l).map (·.1)).Nodup ∧ ∀ k, k ∈ (addL n m l).map (·.1) ↔ k ∈ l.map (·.1) ∨ k ∈ m.map (·.1)
  | [], m, h => ⟨h, fun k => by simp [addL]⟩
  | q :: l, m, h => by
    obtain ⟨h1, h2⟩ := put_keys m q.1 ((lookP m q.1).getD 0 + q.2 * n) h
    obtain ⟨h3, h4⟩ := addL_keys n l _ h1
    refine ⟨h3, fun k => ?_⟩
    rw [show addL n m (q :: l) = addL n (putP' m q.1 ((lookP m q.1).getD 0 + q.2 * n)) l from rfl, h4, h2, List.map_cons, List.mem_cons]
    constructor
    · rintro (z | z | z)
      · exact .inl (.inr z)
      · exact .inl (.inl z)
      · exact .inr z
    · rintro ((z | z) | z)
      · exact .inr (.inl z)
      · exact .inl z
      · exact .inr (.inr z)
theorem addAll_keys (hs : List (List Pr)) : ∀ (qs m : List Pr), (m.map (·.1)).Nodup → ((addAll hs m qs).map (·.1)).Nodup ∧ ∀ k, k ∈ (addAll hs m qs).map (·.1) → k ∈ m.map (·.1) ∨ ∃ q ∈ qs, k ∈ (hs.getD (q.1 - 1).toNat []).map (·.1)
  | [], m, h => ⟨h, fun k z => .inl z⟩
  | q :: qs, m, h => by
    obtain ⟨h1, h2⟩ := addL_keys q.2 (hs.getD (q.1 - 1).toNat []) m h
    obtain ⟨h3, h4⟩ := addAll_keys hs qs _ h1
    refine ⟨h3, fun k z => ?_⟩
    rcases h4 k z with y | ⟨x, hx, y⟩
    · rcases (h2 k).mp y with w | w
      · exact .inr ⟨q, List.mem_cons_self, w⟩
      · exact .inl w
    · exact .inr ⟨x, List.mem_cons_of_mem _ hx, y⟩
theorem nd_bound : ∀ (N : Nat) (l : List Int), l.Nodup → (∀ k ∈ l, 1 ≤ k ∧ k ≤ (N : Int)) → l.length ≤ N := fun N l nd h => by
  have h1 : ∀ k ∈ l, k ∈ (List.range N).map (fun i : Nat => ((i : Int) + 1)) := fun k hk => by
    obtain ⟨a, b⟩ := h k hk
    exact List.mem_map.mpr ⟨(k - 1).toNat, List.mem_range.mpr (by omega), by omega⟩
  have h2 := nd_sub l _ nd h1
  simpa using h2
theorem addAll_few {hs : List (List Pr)} (H : HdOk hs) (qs : List Pr) : (addAll hs [] qs).length ≤ 12 ∧ ((addAll hs [] qs).map (·.1)).Nodup ∧ ∀ k ∈ (addAll hs [] qs).map (·.1), 1 ≤ k ∧ k ≤ (hs.length : Int) := by
  obtain ⟨h1, h2⟩ := addAll_keys hs qs [] List.nodup_nil
  have h3 : ∀ k ∈ (addAll hs [] qs).map (·.1), 1 ≤ k ∧ k ≤ (hs.length : Int) := fun k hk => by
    rcases h2 k hk with z | ⟨q, _, z⟩
    · simp at z
    · obtain ⟨x, hx, rfl⟩ := List.mem_map.mp z
      obtain ⟨a, b, _⟩ := (H.at q.1).2.1 x hx
      exact ⟨a, b⟩
  have h4 := nd_bound hs.length _ h1 h3
  rw [List.length_map] at h4
  exact ⟨by have := H.few; omega, h1, h3⟩
theorem keysI_inl (m : List Pr) : keysI (m.map fun q => (Sum.inl q.1 : Key)) = some (m.map (·.1)) := by
  induction m with
  | nil => rfl
  | cons q m ih => simp [keysI, ih]
theorem lookP_mem {m : List Pr} {r : Int} (h : r ∈ m.map (·.1)) : ∃ x, lookP m r = some x ∧ (r, x) ∈ m := by
  induction m with
  | nil => simp at h
  | cons q m ih =>
    unfold lookP
    by_cases hq : q.1 = r
    · exact ⟨q.2, by rw [if_pos hq], by rw [← hq]; exact List.mem_cons_self⟩
    · rw [if_neg hq]
      rw [List.map_cons, List.mem_cons] at h
      obtain ⟨x, h1, h2⟩ := ih (h.elim (fun z => absurd z.symm hq) id)
      exact ⟨x, h1, List.mem_cons_of_mem _ h2⟩
theorem held_q (s0 s1 s3 s4 s5 s6 : Sl) (m : List Pr) (hm : m.length ≤ 12) : q_Kinds_held_by_1 [s0, s1, .tr (dkT m), s3, s4, s5, s6] = .ok (((sortI (m.map (·.1))).map fun r => (r, (lookP m r).getD 0)).map encP, [s0, s1, .tr (dkT m), s3, s4, keepFz (some s5), s6]) := by
  unfold q_Kinds_held_by_1
  have hp : (sortI (m.map (·.1))).length = m.length := by rw [(sortI_perm _).length_eq, List.length_map]
  have hfi : fItL (fLst (fSortD 2)) [s0, s1, .tr (dkT m), s3, s4, s5, s6] = .ok ((sortI (m.map (·.1))).map PyData.int, [s0, s1, .tr (dkT m), s3, s4, s5, s6]) := by
    simp [keysI_inl, show m.length < 64 by omega]
  rw [lc_all (sortI (m.map (·.1))) PyData.int (fun r => encP (r, (lookP m r).getD 0)) hfi (by omega) fun r hr => ⟨[s0, s1, .tr (dkT m), s3, s4, .fz (.int r), s6], rfl, [s0, s1, .tr (dkT m), s3, s4, .fz (.int r), s6], ?_, rfl⟩]
  · rw [List.map_map]; rfl
  · obtain ⟨x, hx, _⟩ := lookP_mem ((sortI_perm _).mem_iff.mp hr)
    have e := lkK_P r m
    simp [unkD, e, hx, mkT, small, encP]
theorem Kinds_held_by_eq {hs : List (List Pr)} (H : HdOk hs) (qs : List Pr) (hl : qs.length ≤ 70) (hq : ∀ q ∈ qs, 1 ≤ q.1 ∧ q.1 ≤ (hs.length : Int)) : F_Kinds_held_by [.l (kR p (hs.map encPs)), .l (.ow (qs.map encP))] = .ok (.fz (encPs (heldBy hs qs))) [.l (kR p (hs.map encPs)), .l (.ow (qs.map encP))] := by
  obtain ⟨s3, s4, s5, s6, e⟩ := hold_outer (p := p) H (.lk (.ow (qs.map encP))) qs [] .un .un .un .un (by simp; omega) hq
  have e2 : sFor (fItP (plN 1)) (gTp (gsCons (gSet 3) (gsCons (gSet 4) gsNil))) b_Kinds_held_by_2 [.lk (kR p (hs.map encPs)), .lk (.ow (qs.map encP)), .tr (.dk [] []), .un, .un, .un, .un] = _ := (sFor_eq (by simp [stT, t_at0, t_at1, t_put0, t_put1, List.filterMap_cons, List.filterMap_nil, mkT, mkL, small, Fx.sc])).trans e
  obtain ⟨f1, _, _⟩ := addAll_few H qs
  have e3 := held_q (.lk (kR p (hs.map encPs))) (.lk (.ow (qs.map encP))) s3 s4 s5 s6 (addAll hs [] qs) f1
  change q_Kinds_held_by_1 _ = .ok ((heldBy hs qs).map encP, _) at e3
  unfold encPs at *
  generalize (heldBy hs qs).map encP = r at *
  generalize addAll hs [] qs = m at *
  simp [F_Kinds_held_by, g_Kinds_held_by, stT, t_at0, t_at1, t_put0, t_put1, List.filterMap_cons, List.filterMap_nil, mkT, mkL, small, Fx.sc, e2, e3]
theorem tooM_q (s0 s1 : Sl) (l : List Pr) (s5 s6 : Sl) (hl : l.length ≤ 1000) : q_Kinds_made_1 [s0, s1, .fz (encPs l), .un, .un, s5, s6] = .ok ((l.map fun q => decide (10000 < q.2)).map PyData.bool, [s0, s1, .fz (encPs l), .un, .un, s5, s6]) := by
  unfold q_Kinds_made_1
  rw [lc_all l encP (fun q => PyData.bool (decide (10000 < q.2))) (ρ := [s0, s1, .fz (encPs l), .un, .un, s5, s6]) (by simp [encPs]) (by omega) fun q _ => ⟨[s0, s1, .fz (encPs l), .fz (.int q.1), .fz (.int q.2), s5, s6], rfl, [s0, s1, .fz (encPs l), .fz (.int q.1), .fz (.int q.2), s5, s6], by simp, rfl⟩, List.map_map]
  rfl
theorem made_q (s0 s2 : Sl) (l : List Pr) (hl : l.length ≤ 1000) : q_Kinds_made_2 [s0, .lk (.ow (l.map encP)), s2, .un, .un, .un, .un] = .ok (l.map encP, [s0, .lk (.ow (l.map encP)), s2, .un, .un, .un, .un]) := by
  unfold q_Kinds_made_2
  rw [lc_all l encP encP (ρ := [s0, .lk (.ow (l.map encP)), s2, .un, .un, .un, .un]) (by simp [stT, t_at0, t_at1, t_put0, t_put1, List.filterMap_cons, List.filterMap_nil, mkT, mkL, small, Fx.sc]) (by omega) fun q _ => ⟨[s0, .lk (.ow (l.map encP)), s2, .un, .un, .fz (.int q.1), .fz (.int q.2)], rfl, [s0, .lk (.ow (l.map encP)), s2, .un, .un, .fz (.int q.1), .fz (.int q.2)], by simp [stT, t_at0, t_at1, t_put0, t_put1, List.filterMap_cons, List.filterMap_nil, mkT, mkL, small, Fx.sc, encP], rfl⟩]
  rfl
noncomputable def tooM (hs : List (List Pr)) (qs : List Pr) : Bool := (heldBy hs qs).any fun q => decide (10000 < q.2)
noncomputable def errMade (hs : List (List Pr)) (qs : List Pr) : Option Str := if errParts hs.length qs = true then some "BadParts" else if tooM hs qs = true then some "TooMuch" else if 12 ≤ hs.length then some "Full" else none
theorem goParts_ok (n : Int) : ∀ (qs : List Pr) (a x : Int), 0 ≤ a → goParts n a qs = some x → ∀ q ∈ qs, 1 ≤ q.1 ∧ q.1 ≤ n ∧ 1 ≤ q.2 ∧ q.2 ≤ 100
  | [], _, _, _, _, q, z => absurd z List.not_mem_nil
  | p :: qs, a, x, ha, h, q, hq => by
    unfold goParts at h
    split at h
    · cases h
    · rename_i hb
      unfold badP at hb
      rcases List.mem_cons.mp hq with e | e
      · subst e; omega
      · exact goParts_ok n qs p.1 x (by omega) h q e
theorem errParts_ok {n : Int} {qs : List Pr} (h : ¬ errParts n qs = true) : ∀ q ∈ qs, 1 ≤ q.1 ∧ q.1 ≤ n ∧ 1 ≤ q.2 ∧ q.2 ≤ 100 := by
  unfold errParts at h
  cases e : goParts n 0 qs with
  | none => rw [e] at h; exact absurd rfl h
  | some x => exact goParts_ok n qs 0 x (by omega) e
theorem heldBy_len {hs : List (List Pr)} (H : HdOk hs) (qs : List Pr) : (heldBy hs qs).length ≤ 12 := by
  unfold heldBy
  rw [List.length_map, (sortI_perm _).length_eq, List.length_map]
  exact (addAll_few H qs).1
theorem Kinds_made_eq {ps hs : List (List Pr)} (H : HdOk hs) (hl2 : ps.length = hs.length) (qs : List Pr) (hl : qs.length ≤ 70) : F_Kinds_made [.o (kR (ps.map encPs) (hs.map encPs)), .l (.ow (qs.map encP))] = match errMade hs qs with
    | some c => .exc c [.o (kR (ps.map encPs) (hs.map encPs)), .l (.ow (qs.map encP))]
    | none => .ok (.fz (.int (hs.length + 1))) [.o (kR ((ps ++ [qs]).map encPs) ((hs ++ [heldBy hs qs]).map encPs)), .l (.ow (qs.map encP))] := by
  have f1 := H.few
  have e1 := Kinds_need_parts_eq (p := ps.map encPs) (hd := hs.map encPs) qs
  rw [List.length_map, hl2] at e1
  have e2 := Kinds_need_room_eq (p := ps.map encPs) (hd := hs.map encPs)
  rw [List.length_map, hl2] at e2
  unfold errMade
  by_cases h1 : errParts hs.length qs = true
  · rw [if_pos h1] at e1
    simp [F_Kinds_made, g_Kinds_made, stT, t_at0, t_at1, t_put0, t_put1, List.filterMap_cons, List.filterMap_nil, mkT, mkL, small, Fx.sc, e1, h1]
  · rw [if_neg h1] at e1
    have e3 := Kinds_held_by_eq (p := ps.map encPs) H qs hl fun q hq => ⟨(errParts_ok h1 q hq).1, (errParts_ok h1 q hq).2.1⟩
    have e4 := tooM_q (.tr (kR (ps.map encPs) (hs.map encPs))) (.lk (.ow (qs.map encP))) (heldBy hs qs) .un .un (by have := heldBy_len H qs; omega)
    have e5 := made_q (.tr (kR (ps.map encPs) (hs.map encPs))) (.fz (encPs (heldBy hs qs))) qs (by omega)
    have e6 := asBools_map ((heldBy hs qs).map fun q => decide (10000 < q.2))
    have e7 : ((heldBy hs qs).map fun q => decide (10000 < q.2)).any id = tooM hs qs := by
      unfold tooM
      rw [List.any_map]
      rfl
    have e8 := Kinds_put_eq (p := ps.map encPs) (hd := hs.map encPs) (encPs qs) (encPs (heldBy hs qs)) (by rw [List.length_map]; omega) (by rw [List.length_map]; omega)
    rw [List.length_map, hl2] at e8
    rw [List.map_append, List.map_append]
    change F_Kinds_put [_, .d (.tuple (qs.map encP)), _] = .ok _ [_, .d (.tuple (qs.map encP)), _] at e8
    show _ = (match (if errParts hs.length qs = true then some ("BadParts" : Str) else if tooM hs qs = true then some "TooMuch" else if 12 ≤ hs.length then some "Full" else none) with
      | some c => OT.exc c _
      | none => OT.ok _ [.o (kR (ps.map encPs ++ [PyData.tuple (qs.map encP)]) (hs.map encPs ++ [encPs (heldBy hs qs)])), _])
    generalize ((heldBy hs qs).map fun q => decide (10000 < q.2)) = bs at *
    generalize (heldBy hs qs) = hb at *
    generalize tooM hs qs = tm at *
    generalize ps.map encPs = pp at *
    generalize hs.map encPs = hh at *
    generalize encPs hb = he at *
    cases tm with
    | true => simp [F_Kinds_made, g_Kinds_made, stT, t_at0, t_at1, t_put0, t_put1, List.filterMap_cons, List.filterMap_nil, mkT, mkL, small, Fx.sc, e1, h1, e3, e4, e6, e7]
    | false =>
      by_cases h3 : 12 ≤ hs.length
      · rw [if_pos h3] at e2
        simp [F_Kinds_made, g_Kinds_made, stT, t_at0, t_at1, t_put0, t_put1, List.filterMap_cons, List.filterMap_nil, mkT, mkL, small, Fx.sc, e1, h1, e3, e4, e6, e7, e2, h3]
      · rw [if_neg h3] at e2
        simp [F_Kinds_made, g_Kinds_made, stT, t_at0, t_at1, t_put0, t_put1, List.filterMap_cons, List.filterMap_nil, mkT, mkL, small, Fx.sc, e1, h1, e3, e4, e6, e7, e2, h3, e5, e8]
        rfl
end
end Mm
namespace Mm
open PySem L2 Fx
variable [Tabz]
theorem eqI (a b : Int) : oEQ (.int a) (.int b) = some (.bool (decide (a = b))) := rfl
def Pn (s : Sl) : Prop := ∀ kf i, killS kf i s = s
theorem pn_un : Pn .un := fun _ _ => rfl
theorem pn_fz {d : PyData} : Pn (.fz d) := fun _ _ => rfl
theorem pn_ow {d : List PyData} : Pn (.ow d) := fun _ _ => rfl
theorem b_hold : b_l_holding_1 = b_Kinds_held_by_1 := rfl
theorem l_hold_outer {hs : List (List Pr)} (H : HdOk hs) (s1 : Sl) : ∀ (qs m : List Pr) (s3 s4 s5 s6 : Sl), m.length + 12 * qs.length ≤ 900 → (∀ q ∈ qs, 1 ≤ q.1 ∧ q.1 ≤ (hs.length : Int)) → ∃ s3' s4' s5' s6', forE (gTp (gsCons (gSet 3) (gsCons (gSet 4) gsNil))) b_l_holding_2 (qs.map encP) [.lk (.ow (hs.map encPl)), s1, .tr (dkT m), s3, s4, s5, s6] = .nx [.lk (.ow (hs.map encPl)), s1, .tr (dkT (addAll hs m qs)), s3', s4', s5', s6']
  | [], m, s3, s4, s5, s6, _, _ => ⟨s3, s4, s5, s6, rfl⟩
  | q :: qs, m, s3, s4, s5, s6, hm, hq => by
    rw [List.map_cons]
    unfold forE addAll
    have e : gTp (gsCons (gSet 3) (gsCons (gSet 4) gsNil)) (encP q) [.lk (.ow (hs.map encPl)), s1, .tr (dkT m), s3, s4, s5, s6] = some [.lk (.ow (hs.map encPl)), s1, .tr (dkT m), .fz (.int q.1), .fz (.int q.2), s5, s6] := rfl
    simp only [List.length_cons] at hm
    obtain ⟨a1, a2, _⟩ := H.at q.1
    obtain ⟨h1, h2⟩ := hq q List.mem_cons_self
    have ea := at_num encPl hs [] h1 h2
    have hlen := addL_len q.2 (hs.getD (q.1 - 1).toNat []) m
    obtain ⟨s5', s6', e2⟩ := hold_inner (.lk (.ow (hs.map encPl))) s1 (.fz (.int q.1)) q.2 (hs.getD (q.1 - 1).toNat []) m s5 s6 (by omega) fun x hx => by have := a2 x hx; omega
    generalize hs.getD (q.1 - 1).toNat [] = l at *
    have e3 : b_l_holding_2 [.lk (.ow (hs.map encPl)), s1, .tr (dkT m), .fz (.int q.1), .fz (.int q.2), s5, s6] = .nx [.lk (.ow (hs.map encPl)), s1, .tr (dkT (addL q.2 m l)), .fz (.int q.1), .fz (.int q.2), s5', s6'] := by
      unfold b_l_holding_2
      rw [b_hold]
      refine (sFor_eq (ds := l.map encP) ?_).trans e2
      simp [stT, t_at0, t_at1, t_put0, t_put1, List.filterMap_cons, List.filterMap_nil, mkT, mkL, small, Fx.sc, ea, encPl]
    simp only [e, e3]
    exact l_hold_outer H s1 qs _ _ _ _ _ (by omega) fun x hx => hq x (List.mem_cons_of_mem _ hx)
theorem q_hold : q_l_holding_1 = q_Kinds_held_by_1 := rfl
theorem F_l_holding_eq {hs : List (List Pr)} (H : HdOk hs) (qs : List Pr) (hl : qs.length ≤ 70) (hq : ∀ q ∈ qs, 1 ≤ q.1 ∧ q.1 ≤ (hs.length : Int)) : F_l_holding [.l (.ow (hs.map encPl)), .d (encPl qs)] = .ok (.ow ((heldBy hs qs).map encP)) [.l (.ow (hs.map encPl)), .d (encPl qs)] := by
  obtain ⟨s3, s4, s5, s6, e⟩ := l_hold_outer H (.fz (encPl qs)) qs [] .un .un .un .un (by simp; omega) hq
  have e2 : sFor (fItL (fVar 1)) (gTp (gsCons (gSet 3) (gsCons (gSet 4) gsNil))) b_l_holding_2 [.lk (.ow (hs.map encPl)), .fz (encPl qs), .tr (.dk [] []), .un, .un, .un, .un] = _ := (sFor_eq (by simp [encPl])).trans e
  obtain ⟨f1, _, _⟩ := addAll_few H qs
  have e3 := held_q (.lk (.ow (hs.map encPl))) (.fz (encPl qs)) s3 s4 s5 s6 (addAll hs [] qs) f1
  rw [← q_hold] at e3
  change q_l_holding_1 _ = .ok ((heldBy hs qs).map encP, _) at e3
  generalize (heldBy hs qs).map encP = r at *
  generalize addAll hs [] qs = m at *
  generalize encPl qs = d at *
  simp [F_l_holding, g_l_holding, stT, t_at0, t_at1, t_put0, t_put1, List.filterMap_cons, List.filterMap_nil, mkT, mkL, small, Fx.sc, e2, e3]
structure DrP (many most : Int) (qs : List Pr) : Prop where
  few : qs.length ≤ 3
  up : (qs.map (·.1)).Pairwise (· < ·)
  num : ∀ q ∈ qs, 1 ≤ q.1 ∧ q.1 ≤ many ∧ 1 ≤ q.2 ∧ q.2 ≤ most
theorem parts_ok {io : List PyData} {many most : Int} (hd : Dw io) (hm : 1 ≤ most) (hm2 : most ≤ 1000) : ∃ (qs : List Pr) (io' : List PyData), F_l_parts io [.int many, .int most] = .ok (.ow (qs.map encP), io') ∧ Dw io' ∧ DrP many most qs := by
  obtain ⟨n, io1, e1, d1, a1, b1⟩ := pick_ok (m := 3) hd (by decide) (by decide)
  obtain ⟨ρ', ef, io3, qs, k, s5, rfl, d3, hl, hk, hup, hnum⟩ := forE_inv (g := gSet 5) (s := b_l_parts_1) (fun j ρ => ∃ (io : List PyData) (qs : List Pr) (k : Int) (s5 : Sl), ρ = [.ow io, .fz (.int many), .fz (.int most), .ow (qs.map encP), .fz (.int k), s5] ∧ Dw io ∧ qs.length ≤ j ∧ 0 ≤ k ∧ (qs.map (·.1)).Pairwise (· < ·) ∧ ∀ q ∈ qs, 1 ≤ q.1 ∧ q.1 ≤ many ∧ 1 ≤ q.2 ∧ q.2 ≤ most ∧ q.1 ≤ k) (rng 0 (1 + n).toNat) 0
    [.ow io1, .fz (.int many), .fz (.int most), .ow [], .fz (.int 0), .un] ⟨io1, [], 0, _, rfl, d1, Nat.le_refl _, by decide, .nil, fun l h => absurd h List.not_mem_nil⟩ (by
      rintro j y ρ hy ⟨io, qs, k, s5, rfl, d, hl, hk, hup, hnum⟩
      obtain ⟨hj, rfl⟩ := rng_get hy
      obtain ⟨x1, i1, p1, q1, l1, u1⟩ := pick_ok (m := 3) d (by decide) (by decide)
      by_cases hc : k + 1 + x1 ≤ many
      · obtain ⟨x2, i2, p2, q2, l2, u2⟩ := pick_ok (m := most) q1 (by omega) (by omega)
        refine ⟨_, [.ow i2, .fz (.int many), .fz (.int most), .ow ((qs ++ [(k + 1 + x1, 1 + x2)]).map encP), .fz (.int (k + 1 + x1)), .fz (.int (0 + j))], rfl, .inl ?_, i2, qs ++ [(k + 1 + x1, 1 + x2)], _, _, rfl, q2, by simp; omega, by omega, ?_, ?_⟩
        · have hk2 : kAppend (.tuple [.int (k + 1 + x1), .int (1 + x2)]) (qs.map encP) = some (qs.map encP ++ [.tuple [.int (k + 1 + x1), .int (1 + x2)]]) := kAppend_of (by rw [List.length_map]; omega)
          simp [b_l_parts_1, p1, hc, p2, mkT, small, hk2, encP]
        · rw [List.map_append, List.pairwise_append]
          refine ⟨hup, by simp, fun a ha b hb => ?_⟩
          simp only [List.map_cons, List.map_nil, List.mem_singleton] at hb
          obtain ⟨q, hq, rfl⟩ := List.mem_map.mp ha
          have := (hnum q hq).2.2.2.2
          omega
        · intro q h
          rw [List.mem_append, List.mem_singleton] at h
          rcases h with h | rfl
          · have := hnum q h; omega
          · dsimp; omega
      · refine ⟨_, [.ow i1, .fz (.int many), .fz (.int most), .ow (qs.map encP), .fz (.int (k + 1 + x1)), .fz (.int (0 + j))], rfl, .inl ?_, i1, qs, _, _, rfl, q1, by omega, by omega, hup, fun q h => by have := hnum q h; omega⟩
        simp [b_l_parts_1, p1, hc])
  refine ⟨qs, io3, ?_, d3, ⟨by rw [rng_len] at hl; omega, hup, fun q h => by have := hnum q h; omega⟩⟩
  show toOutI (g_l_parts _) = _
  have e3 : sFor (fAB oRng1 (fCons (fOp oAdd (.e (ret (.int 1))) (.e (fCallI 0 F_l_pick (fCons (ret (.int 3)) fNil)))) fNil)) (gSet 5) b_l_parts_1 [.ow io, .fz (.int many), .fz (.int most), .ow [], .fz (.int 0), .un] = _ := (sFor_eq (by simp [e1, oRng1_of (show 0 ≤ 1 + n by omega) (by omega)])).trans ef
  simp [g_l_parts, mkL0, e3]
theorem goParts_up (n : Int) : ∀ (qs : List Pr) (a : Int), (∀ q ∈ qs, a < q.1 ∧ q.1 ≤ n ∧ 1 ≤ q.2 ∧ q.2 ≤ 100) → (qs.map (·.1)).Pairwise (· < ·) → ∃ x, goParts n a qs = some x ∧ (qs ≠ [] → a < x)
  | [], a, _, _ => ⟨a, rfl, fun z => absurd rfl z⟩
  | q :: qs, a, h, up => by
    obtain ⟨h1, h2, h3, h4⟩ := h q List.mem_cons_self
    rw [List.map_cons, List.pairwise_cons] at up
    obtain ⟨x, e, hx⟩ := goParts_up n qs q.1 (fun r hr => ⟨up.1 _ (List.mem_map.mpr ⟨r, hr, rfl⟩), (h r (List.mem_cons_of_mem _ hr)).2⟩) up.2
    refine ⟨x, ?_, fun _ => ?_⟩
    · unfold goParts
      rw [if_neg (by unfold badP; omega), e]
    · by_cases hq : qs = []
      · subst hq; cases e; exact h1
      · have := hx hq; omega
theorem drP_ok {many most : Int} {qs : List Pr} (h : DrP many most qs) (hm : most ≤ 100) (hq : qs ≠ []) : ¬ errParts many qs = true := by
  obtain ⟨x, e, hx⟩ := goParts_up many qs 0 (fun q hq => by have := h.num q hq; omega) h.up
  unfold errParts
  rw [e]
  have := hx hq
  simp only [decide_eq_true_eq]
  omega
theorem heldBy_nd {hs : List (List Pr)} (H : HdOk hs) (qs : List Pr) : ((heldBy hs qs).map (·.1)).Nodup := by
  unfold heldBy
  rw [List.map_map]
  have e : (Prod.fst ∘ fun r : Int => ((r, (lookP (addAll hs [] qs) r).getD 0) : Pr)) = id := rfl
  rw [e, List.map_id]
  exact (sortI_perm _).nodup_iff.mpr (addAll_few H qs).2.1
theorem add_pos (m : List Pr) (r x : Int) (hm : ∀ q ∈ m, 1 ≤ q.2) (hx : 1 ≤ x) : ∀ q ∈ addP m r x, 1 ≤ q.2 := by
  have hv : 1 ≤ (lookP m r).getD 0 + x := by
    by_cases h : r ∈ m.map (·.1)
    · obtain ⟨y, e, hy⟩ := lookP_mem h
      have := hm _ hy
      rw [e]; simp at this ⊢; omega
    · have : lookP m r = none := by
        clear hm
        induction m with
        | nil => rfl
        | cons q m ih =>
          rw [List.map_cons, List.mem_cons] at h
          unfold lookP
          rw [if_neg fun z => h (.inl z.symm)]
          exact ih fun z => h (.inr z)
      rw [this]; simpa using hx
  intro q hq
  unfold addP putP' at hq
  split at hq
  · obtain ⟨y, hy, rfl⟩ := List.mem_map.mp hq
    split
    · exact hv
    · exact hm y hy
  · rcases List.mem_append.mp hq with h | h
    · exact hm q h
    · rw [List.mem_singleton] at h; subst h; exact hv
theorem addL_pos (n : Int) (hn : 1 ≤ n) : ∀ (l m : List Pr), (∀ q ∈ m, 1 ≤ q.2) → (∀ q ∈ l, 1 ≤ q.2) → ∀ q ∈ addL n m l, 1 ≤ q.2
  | [], m, hm, _ => hm
  | x :: l, m, hm, hl => addL_pos n hn l _ (add_pos m x.1 (x.2 * n) hm (by
      have := hl x List.mem_cons_self
      have h1 : 1 * 1 ≤ x.2 * n := Int.mul_le_mul this hn (by decide) (by omega)
      omega)) fun q hq => hl q (List.mem_cons_of_mem _ hq)
theorem addAll_pos {hs : List (List Pr)} (H : HdOk hs) : ∀ (qs m : List Pr), (∀ q ∈ m, 1 ≤ q.2) → (∀ q ∈ qs, 1 ≤ q.2) → ∀ q ∈ addAll hs m qs, 1 ≤ q.2
  | [], m, hm, _ => hm
  | x :: qs, m, hm, hq => addAll_pos H qs _ (addL_pos x.2 (hq x List.mem_cons_self) _ m hm fun q h => ((H.at x.1).2.1 q h).2.2.1) fun q h => hq q (List.mem_cons_of_mem _ h)
theorem heldBy_num {hs : List (List Pr)} (H : HdOk hs) (qs : List Pr) (hq : ∀ q ∈ qs, 1 ≤ q.2) (ht : ¬ tooM hs qs = true) : ∀ q ∈ heldBy hs qs, 1 ≤ q.1 ∧ q.1 ≤ (hs.length : Int) ∧ 1 ≤ q.2 ∧ q.2 ≤ 10000 := by
  intro q h
  have h4 : q.2 ≤ 10000 := by
    unfold tooM at ht
    simp only [List.any_eq_true, decide_eq_true_eq, not_exists, not_and] at ht
    have := ht q h
    omega
  unfold heldBy at h
  obtain ⟨r, hr, rfl⟩ := List.mem_map.mp h
  have hr2 := (sortI_perm _).mem_iff.mp hr
  obtain ⟨a, b⟩ := (addAll_few H qs).2.2 r hr2
  obtain ⟨x, ex, hx⟩ := lookP_mem hr2
  have := addAll_pos H qs [] (fun q z => absurd z List.not_mem_nil) hq _ hx
  dsimp only at h4 ⊢
  rw [ex] at h4 ⊢
  simp at this h4 ⊢
  omega
theorem addAll_mono (hs : List (List Pr)) : ∀ (qs m : List Pr), (m.map (·.1)).Nodup → ∀ k ∈ m.map (·.1), k ∈ (addAll hs m qs).map (·.1)
  | [], m, _, k, h => h
  | q :: qs, m, hn, k, h => by
    obtain ⟨h1, h2⟩ := addL_keys q.2 (hs.getD (q.1 - 1).toNat []) m hn
    exact addAll_mono hs qs _ h1 k ((h2 k).mpr (.inr h))
theorem heldBy_ne {hs : List (List Pr)} (H : HdOk hs) {qs : List Pr} (hq : qs ≠ []) (hb : ∀ q ∈ qs, 1 ≤ q.1 ∧ q.1 ≤ (hs.length : Int)) : heldBy hs qs ≠ [] := by
  cases qs with
  | nil => exact absurd rfl hq
  | cons q qs =>
    obtain ⟨a, b⟩ := hb q List.mem_cons_self
    have hl : (q.1 - 1).toNat < hs.length := by omega
    have e : hs.getD (q.1 - 1).toNat [] = hs[(q.1 - 1).toNat] := by rw [List.getD_eq_getElem?_getD, List.getElem?_eq_getElem hl]; rfl
    have hne := H.ne _ (List.getElem_mem hl)
    rw [← e] at hne
    obtain ⟨x, l, el⟩ := List.exists_cons_of_ne_nil hne
    obtain ⟨h1, h2⟩ := addL_keys q.2 (hs.getD (q.1 - 1).toNat []) [] List.nodup_nil
    have h3 := addAll_mono hs qs _ h1 x.1 ((h2 x.1).mpr (.inl (by rw [el]; simp)))
    intro z
    unfold heldBy at z
    rw [List.map_eq_nil_iff] at z
    have := (sortI_perm ((addAll hs [] (q :: qs)).map (·.1))).mem_iff.mpr h3
    rw [z] at this
    exact absurd this List.not_mem_nil
theorem errParts_ne {n : Int} {qs : List Pr} (h : ¬ errParts n qs = true) : qs ≠ [] := fun z => h (by subst z; rfl)
theorem HdOk.snoc {hs : List (List Pr)} (H : HdOk hs) {l : List Pr} (h5 : l ≠ []) (h1 : hs.length < 12) (h2 : l.length ≤ 12) (h3 : ∀ q ∈ l, 1 ≤ q.1 ∧ q.1 ≤ (hs.length : Int) + 1 ∧ 1 ≤ q.2 ∧ q.2 ≤ 10000) (h4 : (l.map (·.1)).Nodup) : HdOk (hs ++ [l]) := by
  have hl : (hs ++ [l]).length = hs.length + 1 := by simp
  refine ⟨by omega, fun x hx => ?_, fun x hx q hq => ?_, fun x hx => ?_, fun x hx => (List.mem_append.mp hx).elim (H.ne x) fun h => by rw [List.mem_singleton] at h; subst h; exact h5⟩
  · rcases List.mem_append.mp hx with h | h
    · exact H.len x h
    · rw [List.mem_singleton] at h; subst h; exact h2
  · rcases List.mem_append.mp hx with h | h
    · have := H.num x h q hq; omega
    · rw [List.mem_singleton] at h; subst h; have := h3 q hq; omega
  · rcases List.mem_append.mp hx with h | h
    · exact H.nd x h
    · rw [List.mem_singleton] at h; subst h; exact h4
theorem HdOk.nil : HdOk [] := ⟨by decide, (fun x z => absurd z List.not_mem_nil), (fun x z => absurd z List.not_mem_nil), (fun x z => absurd z List.not_mem_nil), (fun x z => absurd z List.not_mem_nil)⟩
theorem HdOk.raw {hs : List (List Pr)} (H : HdOk hs) (h1 : hs.length < 12) : HdOk (hs ++ [[((hs.length : Int) + 1, 1)]]) := H.snoc (by simp) h1 (by simp) (fun q hq => by rw [List.mem_singleton] at hq; subst hq; dsimp; omega) (by simp)
theorem errMade_ok {hs : List (List Pr)} (H : HdOk hs) {qs : List Pr} (h : errMade hs qs = none) : HdOk (hs ++ [heldBy hs qs]) := by
  unfold errMade at h
  split at h
  · cases h
  · rename_i h1
    split at h
    · cases h
    · rename_i h2
      split at h
      · cases h
      · rename_i h3
        exact H.snoc (heldBy_ne H (errParts_ne h1) fun q hq => ⟨(errParts_ok h1 q hq).1, (errParts_ok h1 q hq).2.1⟩) (by omega) (heldBy_len H qs) (fun q hq => by have := heldBy_num H qs (fun q hq => (errParts_ok h1 q hq).2.2.1) h2 q hq; omega) (heldBy_nd H qs)
end Mm
namespace Mm
open PySem L2 Fx
variable [Tabz]
abbrev hR (t l s : Int) (p hd lo ou cl pa fu : List PyData) : Tr := .nd (.ins "House") [.fz (.int t), .fz (.int l), .fz (.int s), kR p hd, .ow lo, .ow ou, .ow cl, .ow pa, .ow fu]
abbrev hRD (t l s : Int) (p hd lo ou cl pa fu : List PyData) : PyData := instD "House" [.int t, .int l, .int s, kRD p hd, .list lo, .list ou, .list cl, .list pa, .list fu]
abbrev stR (p hd lo ou cl : List PyData) : PyData := .tuple [kRD p hd, .list lo, .list ou, .list cl]
section
variable {t l s : Int} {p hd lo ou cl pa fu : List PyData}
theorem unfr_hRD : unfr (hRD t l s p hd lo ou cl pa fu) = some (hR t l s p hd lo ou cl pa fu) := by simp
end
end Mm
namespace Mm
open PySem L2 Fx
variable [Tabz]
structure LotR where
  k : Int
  d : Int
  c : Int
  u : Int
  s : Bool
structure OutR where
  k : Int
  d : Int
  c : Int
  s : Bool
structure ClR where
  k : Int
  d : Int
  pd : Int
  w : Int
  s : Bool
  ts : List Lot
instance : Inhabited LotR := ⟨⟨0, 0, 0, 0, false⟩⟩
instance : Inhabited OutR := ⟨⟨0, 0, 0, false⟩⟩
instance : Inhabited ClR := ⟨⟨0, 0, 0, 0, false, []⟩⟩
def encLR (r : LotR) : PyData := .tuple [.int r.k, .int r.d, .int r.c, .int r.u, .bool r.s]
def encOR (r : OutR) : PyData := .tuple [.int r.k, .int r.d, .int r.c, .bool r.s]
def encTs (ts : List Lot) : PyData := .tuple (ts.map encL)
def encCR (r : ClR) : PyData := .tuple [.int r.k, .int r.d, .int r.pd, .int r.w, .bool r.s, encTs r.ts]
def cntLot (ts : List Lot) (n : Int) : Int := ((ts.filter fun x => decide (x.1 = n)).map fun x => x.2.2).sum
def cntOut (ts : List Lot) (n : Int) : Int := ((ts.filter fun x => decide (x.2.1 = n)).map fun x => x.2.2).sum
def clmLot : List ClR → Int → Int
  | [], _ => 0
  | c :: cs, n => (if c.s = true then cntLot c.ts n else 0) + clmLot cs n
def clmOut : List ClR → Int → Int → Int
  | [], _, _ => 0
  | c :: cs, n, r => (if c.s = true ∧ c.k = r then cntOut c.ts n else 0) + clmOut cs n r
section
variable {t l s : Int} {p hd lo ou cl pa fu : List PyData}
def errRaw (ps : List (List Pr)) (n : Int) : Option Str := if n < 1 ∨ (ps.length : Int) < n then some "NoKind" else if ps.getD (n - 1).toNat [] = [] then none else some "NotRaw"
def errQ (ps : List (List Pr)) (n d : Int) : Option Str := match errRaw ps n with
  | some c => some c
  | none => if d < 1 ∨ 999 < d then some "BadDay" else none
end
end Mm
namespace Mm
open PySem L2 Fx
variable [Tabz]
theorem give_mem (dy : Nat → Int) (e t : Int) : ∀ (o : List Nat) (left : List Int) (c : Int), ∀ x ∈ (give dy e t o left c).2, x.1 ∈ o ∧ 0 < x.2
  | [], _, _, x, h => by cases h
  | i :: r, left, c, x, h => by
    unfold give at h
    split at h
    · rename_i hc
      rcases List.mem_cons.mp h with rfl | h
      · exact ⟨List.mem_cons_self, hc.2⟩
      · obtain ⟨a, b⟩ := give_mem dy e t r _ _ x h
        exact ⟨List.mem_cons_of_mem _ a, b⟩
    · obtain ⟨a, b⟩ := give_mem dy e t r _ _ x h
      exact ⟨List.mem_cons_of_mem _ a, b⟩
theorem dealG_mem (dy : Nat → Int) (ot : Nat → Ot) (t : Int) (o : List Nat) : ∀ (p : List Nat) (left : List Int), ∀ x ∈ (dealG dy ot t o p left).2, x.1 ∈ o ∧ x.2.1 ∈ p ∧ 0 < x.2.2
  | [], _, x, h => by cases h
  | j :: r, left, x, h => by
    unfold dealG at h
    rcases List.mem_append.mp h with h | h
    · obtain ⟨y, hy, rfl⟩ := List.mem_map.mp h
      obtain ⟨a, b⟩ := give_mem dy _ t o left _ y hy
      exact ⟨a, List.mem_cons_self, b⟩
    · obtain ⟨a, b, c⟩ := dealG_mem dy ot t o r _ x h
      exact ⟨a, List.mem_cons_of_mem _ b, c⟩
theorem dealT_mem {ls : List Lot} {os : List Ot} {t : Int} {ts : List Int} {x : Lot} (h : x ∈ dealT ls os t ts) : (0 ≤ x.1 ∧ x.1 < (ls.length : Int)) ∧ (0 ≤ x.2.1 ∧ x.2.1 < (os.length : Int)) ∧ 0 < x.2.2 := by
  unfold dealT at h
  obtain ⟨y, hy, rfl⟩ := List.mem_map.mp h
  obtain ⟨a, b, c⟩ := dealG_mem _ _ _ _ _ _ y hy
  have a1 := List.mem_range.mp ((byK_perm _ _).mem_iff.mp a)
  have b1 := List.mem_range.mp ((byK_perm _ _).mem_iff.mp b)
  refine ⟨⟨?_, ?_⟩, ⟨?_, ?_⟩, c⟩ <;> (simp only [triL]; omega)
theorem zip_get {α : Type} [Inhabited α] {xs : List α} {x : α × Nat} (h : x ∈ xs.zipIdx) : x.2 < xs.length ∧ xs.getD x.2 default = x.1 := by
  have e := List.mem_zipIdx_iff_getElem?.mp h
  have hl := (List.getElem?_eq_some_iff.mp e).1
  exact ⟨hl, by rw [List.getD_eq_getElem?_getD, e]; rfl⟩
theorem zipIdx_len {α : Type} (xs : List α) : xs.zipIdx.length = xs.length := List.length_zipIdx ..
def isLot (k : Int) (r : LotR) : Bool := decide (r.k = k) && r.s
def isOut (hs : List (List Pr)) (k : Int) (r : OutR) : Bool := r.s && decide (0 < heldOf (hs.getD (r.k - 1).toNat []) k)
end Mm
namespace Mm
open PySem L2 Fx
variable [Tabz]
def smL (cs : List ClR) (x : LotR × Nat) : Int := x.1.c - clmLot cs ((x.2 : Int) + 1)
def okD (cs : List ClR) (d : Int) (x : LotR × Nat) : Bool := decide (x.1.d ≤ d) && decide (0 < smL cs x)
def rowL (cs : List ClR) (x : LotR × Nat) : Int × Lot := ((x.2 : Int) + 1, (x.1.d, smL cs x, x.1.u))
def leftL (ls : List LotR) (cs : List ClR) (k d : Int) : List (Int × Lot) := (ls.zipIdx.filter fun x => okD cs d x && isLot k x.1).map (rowL cs)
def smO (hs : List (List Pr)) (cs : List ClR) (k : Int) (x : OutR × Nat) : Int := x.1.c * heldOf (hs.getD (x.1.k - 1).toNat []) k - clmOut cs ((x.2 : Int) + 1) k
def okO (hs : List (List Pr)) (cs : List ClR) (k d lim : Int) (x : OutR × Nat) : Bool := decide (d - lim ≤ x.1.d) && (decide (x.1.d ≤ d) && decide (0 < smO hs cs k x))
def rowO (hs : List (List Pr)) (cs : List ClR) (k : Int) (x : OutR × Nat) : Int × Ot := ((x.2 : Int) + 1, (x.1.d, smO hs cs k x))
def leftO (hs : List (List Pr)) (os : List OutR) (cs : List ClR) (k d lim : Int) : List (Int × Ot) := (os.zipIdx.filter fun x => okO hs cs k d lim x && isOut hs k x.1).map (rowO hs cs k)
structure BkOk (hs : List (List Pr)) (ls : List LotR) (os : List OutR) (cs : List ClR) : Prop where
  hd : HdOk hs
  nl : ls.length ≤ 30
  no : os.length ≤ 30
  nc : cs.length ≤ 30
  ct : ∀ c ∈ cs, c.ts.length ≤ 10000
  ok : ∀ r ∈ os, 1 ≤ r.k ∧ r.k ≤ (hs.length : Int) ∧ 1 ≤ r.d ∧ r.d ≤ 999 ∧ 1 ≤ r.c ∧ r.c ≤ 1000000
  lk : ∀ r ∈ ls, 1 ≤ r.k ∧ r.k ≤ (hs.length : Int) ∧ 1 ≤ r.d ∧ r.d ≤ 999 ∧ 1 ≤ r.c ∧ r.c ≤ 1000000 ∧ 1 ≤ r.u ∧ r.u ≤ 1000000
  cp : ∀ c ∈ cs, ∀ x ∈ c.ts, 1 ≤ x.2.2 ∧ 1 ≤ x.1 ∧ x.1 ≤ (ls.length : Int) ∧ (ls.getD (x.1 - 1).toNat default).k = c.k
end Mm
namespace Mm
open PySem L2 Fx
variable [Tabz]
def mineL (r : List (Int × Lot)) : List Lot := r.map (·.2)
def mineO (r : List (Int × Ot)) : List Ot := r.map (·.2)
noncomputable def bestOf (t : Int) (r : List (Int × Lot)) (o : List (Int × Ot)) : List Int := best (mineL r) (mineO o) t
noncomputable def dueOf (t : Int) (r : List (Int × Lot)) (o : List (Int × Ot)) : List Lot := (dealT (mineL r) (mineO o) t (bestOf t r o)).map fun x => ((r.getD x.1.toNat default).1, (o.getD x.2.1.toNat default).1, x.2.2)
noncomputable def refOf (t : Int) (r : List (Int × Lot)) (o : List (Int × Ot)) : Int := val (mineL r) (bestOf t r o)
theorem sum_nn {xs : List Int} (h : ∀ x ∈ xs, 0 ≤ x) : 0 ≤ xs.sum := by
  induction xs with
  | nil => exact Int.le_refl _
  | cons x xs ih =>
    rw [List.sum_cons]
    have := h x List.mem_cons_self
    have := ih fun y hy => h y (List.mem_cons_of_mem _ hy)
    omega
theorem clmLot_nn {cs : List ClR} (h : ∀ c ∈ cs, ∀ x ∈ c.ts, 1 ≤ x.2.2) (n : Int) : 0 ≤ clmLot cs n := by
  induction cs with
  | nil => exact Int.le_refl _
  | cons c cs ih =>
    unfold clmLot
    have i := ih fun c' hc => h c' (List.mem_cons_of_mem _ hc)
    have : 0 ≤ cntLot c.ts n := by
      unfold cntLot
      refine sum_nn fun x hx => ?_
      obtain ⟨y, hy, rfl⟩ := List.mem_map.mp hx
      have := h c List.mem_cons_self y (List.mem_filter.mp hy).1
      omega
    split <;> omega
theorem clmOut_nn {cs : List ClR} (h : ∀ c ∈ cs, ∀ x ∈ c.ts, 1 ≤ x.2.2) (n r : Int) : 0 ≤ clmOut cs n r := by
  induction cs with
  | nil => exact Int.le_refl _
  | cons c cs ih =>
    unfold clmOut
    have i := ih fun c' hc => h c' (List.mem_cons_of_mem _ hc)
    have : 0 ≤ cntOut c.ts n := by
      unfold cntOut
      refine sum_nn fun x hx => ?_
      obtain ⟨y, hy, rfl⟩ := List.mem_map.mp hx
      have := h c List.mem_cons_self y (List.mem_filter.mp hy).1
      omega
    split <;> omega
theorem heldOf_look (l : List Pr) (r : Int) (h : (l.map (·.1)).Nodup) : heldOf l r = (lookP l r).getD 0 := by
  induction l with
  | nil => rfl
  | cons q l ih =>
    rw [List.map_cons, List.nodup_cons] at h
    unfold heldOf lookP
    by_cases hq : q.1 = r
    · have hn : (l.filter fun q => decide (q.1 = r)) = [] := by
        rw [List.filter_eq_nil_iff]
        intro x hx hc
        exact h.1 (List.mem_map.mpr ⟨x, hx, by rw [of_decide_eq_true hc, hq]⟩)
      rw [List.filter_cons, if_pos (decide_eq_true hq), hn, if_pos hq]
      simp
    · rw [List.filter_cons, if_neg (by simpa using hq), if_neg hq]
      exact ih h.2
theorem lookP_key {l : List Pr} {r x : Int} (e : lookP l r = some x) : r ∈ l.map (·.1) := by
  induction l with
  | nil => cases e
  | cons q l ih =>
    unfold lookP at e
    split at e
    · rename_i hq; rw [List.map_cons, hq]; exact List.mem_cons_self
    · rw [List.map_cons]; exact List.mem_cons_of_mem _ (ih e)
theorem heldOf_le {hs : List (List Pr)} (H : HdOk hs) (n r : Int) : 0 ≤ heldOf (hs.getD (n - 1).toNat []) r ∧ heldOf (hs.getD (n - 1).toNat []) r ≤ 10000 := by
  obtain ⟨_, h2, h3⟩ := H.at n
  rw [heldOf_look _ _ h3]
  cases e : lookP (hs.getD (n - 1).toNat []) r with
  | none => exact ⟨by decide, by decide⟩
  | some x =>
    have hm := lookP_key e
    obtain ⟨y, e2, hy⟩ := lookP_mem hm
    rw [e] at e2; cases e2
    have := h2 _ hy
    simp at this ⊢
    omega
theorem leftL_good {hs : List (List Pr)} {ls : List LotR} {os : List OutR} {cs : List ClR} (B : BkOk hs ls os cs) (k d : Int) : (leftL ls cs k d).length ≤ 30 ∧ ∀ r ∈ leftL ls cs k d, GoodL r.2 ∧ r.2.2.1 ≤ 1000000 ∧ 1 ≤ r.1 ∧ r.1 ≤ (ls.length : Int) ∧ (ls.getD (r.1 - 1).toNat default).k = k ∧ (ls.getD (r.1 - 1).toNat default).u = r.2.2.2 := by
  refine ⟨?_, fun r hr => ?_⟩
  · unfold leftL
    rw [List.length_map]
    exact Nat.le_trans (List.length_filter_le _ _) (by rw [zipIdx_len]; exact B.nl)
  · unfold leftL at hr
    obtain ⟨x, hx, rfl⟩ := List.mem_map.mp hr
    obtain ⟨hx1, hx2⟩ := List.mem_filter.mp hx
    obtain ⟨z1, z2⟩ := zip_get hx1
    have hm := B.lk x.1 (List.mem_of_getElem? (List.mem_zipIdx_iff_getElem?.mp hx1))
    have hn := clmLot_nn (fun c hc x hx => (B.cp c hc x hx).1) ((x.2 : Int) + 1)
    simp only [okD, isLot, Bool.and_eq_true, decide_eq_true_eq] at hx2
    unfold rowL
    have e : ((x.2 : Int) + 1 - 1).toNat = x.2 := by omega
    dsimp only
    rw [e, z2]
    unfold smL at hx2 ⊢
    refine ⟨⟨?_, ?_, ?_, ?_, ?_, ?_⟩, ?_, ?_, ?_, hx2.2.1, rfl⟩ <;> (try dsimp only) <;> omega
theorem leftO_good {hs : List (List Pr)} {ls : List LotR} {os : List OutR} {cs : List ClR} (B : BkOk hs ls os cs) (k d lim : Int) : (leftO hs os cs k d lim).length ≤ 30 ∧ ∀ r ∈ leftO hs os cs k d lim, GoodO r.2 ∧ 1 ≤ r.1 ∧ r.1 ≤ (os.length : Int) := by
  refine ⟨?_, fun r hr => ?_⟩
  · unfold leftO
    rw [List.length_map]
    exact Nat.le_trans (List.length_filter_le _ _) (by rw [zipIdx_len]; exact B.no)
  · unfold leftO at hr
    obtain ⟨x, hx, rfl⟩ := List.mem_map.mp hr
    obtain ⟨hx1, hx2⟩ := List.mem_filter.mp hx
    obtain ⟨z1, z2⟩ := zip_get hx1
    have hm := B.ok x.1 (List.mem_of_getElem? (List.mem_zipIdx_iff_getElem?.mp hx1))
    have hn := clmOut_nn (fun c hc x hx => (B.cp c hc x hx).1) ((x.2 : Int) + 1) k
    have hh := heldOf_le B.hd x.1.k k
    simp only [okO, Bool.and_eq_true, decide_eq_true_eq] at hx2
    unfold rowO
    dsimp only
    unfold smO at hx2 ⊢
    have hmul : x.1.c * heldOf (hs.getD (x.1.k - 1).toNat []) k ≤ 1000000 * 10000 := Int.mul_le_mul (by omega) hh.2 hh.1 (by decide)
    refine ⟨⟨?_, ?_, ?_, ?_⟩, ?_, ?_⟩ <;> (try dsimp only) <;> omega
end Mm
namespace Mm
open PySem L2 Fx
variable [Tabz]
inductive Deed where
  | raw
  | made (qs : List Pr)
  | come (k d c u : Int)
  | go (k d c : Int)
  | sl (n : Int)
  | so (n : Int)
  | lay (k d : Int)
  | cb (n : Int)
def encD : Deed → PyData
  | .raw => .tuple [.str "raw"]
  | .made qs => .tuple [.str "made", encPs qs]
  | .come k d c u => .tuple [.str "come", .int k, .int d, .int c, .int u]
  | .go k d c => .tuple [.str "go", .int k, .int d, .int c]
  | .sl n => .tuple [.str "strike_lot", .int n]
  | .so n => .tuple [.str "strike_out", .int n]
  | .lay k d => .tuple [.str "lay", .int k, .int d]
  | .cb n => .tuple [.str "call_back", .int n]
section
variable {t l s : Int} {p hd lo ou cl pa fu : List PyData}
def errCome (ps : List (List Pr)) (nl : Nat) (k d c u : Int) : Option Str := match errRaw ps k with
  | some e => some e
  | none => if d < 1 ∨ 999 < d then some "BadDay" else if c < 1 ∨ 1000000 < c then some "BadCount" else if u < 1 ∨ 1000000 < u then some "BadDuty" else if 30 ≤ nl then some "Full" else none
def errGo (nk : Nat) (no : Nat) (k d c : Int) : Option Str := if k < 1 ∨ (nk : Int) < k then some "NoKind" else if d < 1 ∨ 999 < d then some "BadDay" else if c < 1 ∨ 1000000 < c then some "BadCount" else if 30 ≤ no then some "Full" else none
def errSl (ls : List LotR) (cs : List ClR) (n : Int) : Option Str := if n < 1 ∨ (ls.length : Int) < n then some "NoLot" else if (ls.getD (n - 1).toNat default).s = false then some "Struck" else if 0 < clmLot cs n then some "Claimed" else none
def offL (r : LotR) : LotR := ⟨r.k, r.d, r.c, r.u, false⟩
def offO (r : OutR) : OutR := ⟨r.k, r.d, r.c, false⟩
def offC (r : ClR) : ClR := ⟨r.k, r.d, r.pd, r.w, false, r.ts⟩
def errCb (cs : List ClR) (n : Int) : Option Str := if n < 1 ∨ (cs.length : Int) < n then some "NoClaim" else if (cs.getD (n - 1).toNat default).s = false then some "Called" else none
def errSo (hs : List (List Pr)) (os : List OutR) (cs : List ClR) (n : Int) : Option Str := if n < 1 ∨ (os.length : Int) < n then some "NoOut" else if (os.getD (n - 1).toNat default).s = false then some "Struck" else if ((hs.getD ((os.getD (n - 1).toNat default).k - 1).toNat []).any fun q => decide (0 < clmOut cs n q.1)) = true then some "Claimed" else none
end
end Mm
namespace Mm
open PySem L2 Fx
variable [Tabz]
section
variable {t l s : Int} {lo ou cl pa fu : List PyData}
noncomputable def dueB (hs : List (List Pr)) (ls : List LotR) (os : List OutR) (cs : List ClR) (t l k d : Int) : List Lot := dueOf t (leftL ls cs k d) (leftO hs os cs k d l)
noncomputable def refB (hs : List (List Pr)) (ls : List LotR) (os : List OutR) (cs : List ClR) (t l k d : Int) : Int := refOf t (leftL ls cs k d) (leftO hs os cs k d l)
noncomputable def errLay (ps hs : List (List Pr)) (ls : List LotR) (os : List OutR) (cs : List ClR) (t l k d : Int) : Option Str := match errQ ps k d with
  | some e => some e
  | none => if dueB hs ls os cs t l k d = [] then some "NothingDue" else if 30 ≤ cs.length then some "Full" else none
noncomputable def newCl (hs : List (List Pr)) (ls : List LotR) (os : List OutR) (cs : List ClR) (t l s k d : Int) : ClR := ⟨k, d, refB hs ls os cs t l k d * s / 100, refB hs ls os cs t l k d, true, dueB hs ls os cs t l k d⟩
end
structure Bk where
  ps : List (List Pr)
  hs : List (List Pr)
  ls : List LotR
  os : List OutR
  cs : List ClR
def bk0 : Bk := ⟨[], [], [], [], []⟩
def Bk.st (b : Bk) : PyData := stR (b.ps.map encPs) (b.hs.map encPs) (b.ls.map encLR) (b.os.map encOR) (b.cs.map encCR)
def Bk.tr (t l s : Int) (b : Bk) (pa fu : List PyData) : Tr := hR t l s (b.ps.map encPs) (b.hs.map encPs) (b.ls.map encLR) (b.os.map encOR) (b.cs.map encCR) pa fu
structure Bk.Ok (b : Bk) : Prop where
  bk : BkOk b.hs b.ls b.os b.cs
  len : b.ps.length = b.hs.length
  few : ∀ q ∈ b.ps, q.length ≤ 70
noncomputable def errDd (t l : Int) (b : Bk) : Deed → Option Str
  | .raw => if 12 ≤ b.ps.length then some "Full" else none
  | .made qs => errMade b.hs qs
  | .come k d c u => errCome b.ps b.ls.length k d c u
  | .go k d c => errGo b.ps.length b.os.length k d c
  | .sl n => errSl b.ls b.cs n
  | .so n => errSo b.hs b.os b.cs n
  | .lay k d => errLay b.ps b.hs b.ls b.os b.cs t l k d
  | .cb n => errCb b.cs n
noncomputable def effD (t l s : Int) (b : Bk) : Deed → Bk
  | .raw => ⟨b.ps ++ [[]], b.hs ++ [[((b.hs.length : Int) + 1, 1)]], b.ls, b.os, b.cs⟩
  | .made qs => ⟨b.ps ++ [qs], b.hs ++ [heldBy b.hs qs], b.ls, b.os, b.cs⟩
  | .come k d c u => ⟨b.ps, b.hs, b.ls ++ [⟨k, d, c, u, true⟩], b.os, b.cs⟩
  | .go k d c => ⟨b.ps, b.hs, b.ls, b.os ++ [⟨k, d, c, true⟩], b.cs⟩
  | .sl n => ⟨b.ps, b.hs, b.ls.set (n - 1).toNat (offL (b.ls.getD (n - 1).toNat default)), b.os, b.cs⟩
  | .so n => ⟨b.ps, b.hs, b.ls, b.os.set (n - 1).toNat (offO (b.os.getD (n - 1).toNat default)), b.cs⟩
  | .lay k d => ⟨b.ps, b.hs, b.ls, b.os, b.cs ++ [newCl b.hs b.ls b.os b.cs t l s k d]⟩
  | .cb n => ⟨b.ps, b.hs, b.ls, b.os, b.cs.set (n - 1).toNat (offC (b.cs.getD (n - 1).toNat default))⟩
def Deed.small : Deed → Prop
  | .made qs => qs.length ≤ 70
  | _ => True
end Mm
namespace Mm
open PySem L2 Fx
variable [Tabz]
def mK : List Key := [.inr "terms", .inr "held", .inr "raws", .inr "lots", .inr "outs", .inr "claims", .inr "deeds"]
abbrev mR (te : PyData) (h r lo ou cl de : List PyData) : Tr := .nd (.dct mK) [.fz te, .ow h, .ow r, .ow lo, .ow ou, .ow cl, .ow de]
theorem pk0 : posK (.inr "terms") mK = some 0 := by decide +kernel
theorem pk1 : posK (.inr "held") mK = some 1 := by decide +kernel
end Mm
namespace Mm
open PySem L2 Fx
variable [Tabz]
def Bk.rw (b : Bk) : List PyData := b.ps.map fun q => .bool (decide (q = []))
def teD (t l s : Int) : PyData := .tuple [.int t, .int l, .int s]
theorem max_any (l : List Pr) (hl : l ≠ []) : ∃ x, maxI (l.map (·.2)) = some x ∧ decide (10000 < x) = l.any fun q => decide (10000 < q.2) := by
  cases l with
  | nil => exact absurd rfl hl
  | cons q l =>
    obtain ⟨h1, h2⟩ := foldMax (l.map (·.2)) q.2
    refine ⟨_, rfl, ?_⟩
    generalize (l.map (·.2)).foldl (fun a b => if b > a then b else a) q.2 = x at *
    rw [← List.map_cons (f := fun q : Pr => q.2)] at h1 h2
    by_cases hx : 10000 < x
    · rw [decide_eq_true hx]
      obtain ⟨y, hy, rfl⟩ := List.mem_map.mp h1
      exact (List.any_eq_true.mpr ⟨y, hy, decide_eq_true hx⟩).symm
    · rw [decide_eq_false hx]
      symm
      rw [List.any_eq_false]
      intro y hy
      have := h2 _ (List.mem_map.mpr ⟨y, hy, rfl⟩)
      simp only [decide_eq_true_eq]
      omega
end Mm
namespace Mm
open PySem L2 Fx
variable [Tabz]
end Mm
namespace Mm
open PySem L2 Fx
variable [Tabz]
end Mm
namespace Mm
open PySem L2 Fx
variable [Tabz]
theorem due_facts {hs : List (List Pr)} {ls : List LotR} {os : List OutR} {cs : List ClR} (B : BkOk hs ls os cs) (t l k d : Int) : (dueB hs ls os cs t l k d).length ≤ 4000 ∧ ∀ x ∈ dueB hs ls os cs t l k d, 1 ≤ x.2.2 ∧ 1 ≤ x.1 ∧ x.1 ≤ (ls.length : Int) ∧ (ls.getD (x.1 - 1).toNat default).k = k := by
  obtain ⟨g1, g2⟩ := leftL_good B k d
  obtain ⟨g3, g4⟩ := leftO_good B k d l
  unfold dueB dueOf
  generalize leftL ls cs k d = r at *
  generalize leftO hs os cs k d l = o at *
  have n1 : (mineL r).length = r.length := by unfold mineL; rw [List.length_map]
  have n2 : (mineO o).length = o.length := by unfold mineO; rw [List.length_map]
  refine ⟨?_, fun y hy => ?_⟩
  · rw [List.length_map]
    exact dealT_len (by omega) (by omega)
  · obtain ⟨x, hx, rfl⟩ := List.mem_map.mp hy
    obtain ⟨⟨a1, a2⟩, _, a3⟩ := dealT_mem hx
    have hxl : x.1.toNat < r.length := by omega
    have hm : r.getD x.1.toNat default ∈ r := by
      rw [List.getD_eq_getElem?_getD, List.getElem?_eq_getElem hxl]
      exact List.getElem_mem hxl
    obtain ⟨_, _, c1, c2, c3, _⟩ := g2 _ hm
    exact ⟨by dsimp only; omega, c1, c2, c3⟩
end Mm
namespace Mm
open PySem L2 Fx
variable [Tabz]
theorem BkOk.more {hs hs' : List (List Pr)} {ls : List LotR} {os : List OutR} {cs : List ClR} (B : BkOk hs ls os cs) (H : HdOk hs') (h : hs.length ≤ hs'.length) : BkOk hs' ls os cs :=
  ⟨H, B.nl, B.no, B.nc, B.ct, fun r hr => by have := B.ok r hr; omega, fun r hr => by have := B.lk r hr; omega, B.cp⟩
theorem getD_app {α : Type} (xs ys : List α) (d : α) {i : Nat} (h : i < xs.length) : (xs ++ ys).getD i d = xs.getD i d := by
  rw [List.getD_eq_getElem?_getD, List.getD_eq_getElem?_getD, List.getElem?_append_left h]
theorem BkOk.lot {hs : List (List Pr)} {ls : List LotR} {os : List OutR} {cs : List ClR} (B : BkOk hs ls os cs) {r : LotR} (hn : ls.length < 30) (h : 1 ≤ r.k ∧ r.k ≤ (hs.length : Int) ∧ 1 ≤ r.d ∧ r.d ≤ 999 ∧ 1 ≤ r.c ∧ r.c ≤ 1000000 ∧ 1 ≤ r.u ∧ r.u ≤ 1000000) : BkOk hs (ls ++ [r]) os cs :=
  ⟨B.hd, by simp; omega, B.no, B.nc, B.ct, B.ok, fun x hx => (List.mem_append.mp hx).elim (B.lk x) fun z => by rw [List.mem_singleton] at z; rw [z]; exact h, fun c hc x hx => by
    obtain ⟨a1, a2, a3, a4⟩ := B.cp c hc x hx
    refine ⟨a1, a2, by simp; omega, ?_⟩
    rw [getD_app _ _ _ (by omega)]
    exact a4⟩
theorem BkOk.out {hs : List (List Pr)} {ls : List LotR} {os : List OutR} {cs : List ClR} (B : BkOk hs ls os cs) {r : OutR} (hn : os.length < 30) (h : 1 ≤ r.k ∧ r.k ≤ (hs.length : Int) ∧ 1 ≤ r.d ∧ r.d ≤ 999 ∧ 1 ≤ r.c ∧ r.c ≤ 1000000) : BkOk hs ls (os ++ [r]) cs :=
  ⟨B.hd, B.nl, by simp; omega, B.nc, B.ct, fun x hx => (List.mem_append.mp hx).elim (B.ok x) fun z => by rw [List.mem_singleton] at z; rw [z]; exact h, B.lk, B.cp⟩
theorem BkOk.clm {hs : List (List Pr)} {ls : List LotR} {os : List OutR} {cs : List ClR} (B : BkOk hs ls os cs) {r : ClR} (hn : cs.length < 30) (h1 : r.ts.length ≤ 10000) (h2 : ∀ x ∈ r.ts, 1 ≤ x.2.2 ∧ 1 ≤ x.1 ∧ x.1 ≤ (ls.length : Int) ∧ (ls.getD (x.1 - 1).toNat default).k = r.k) : BkOk hs ls os (cs ++ [r]) :=
  ⟨B.hd, B.nl, B.no, by simp; omega, fun x hx => (List.mem_append.mp hx).elim (B.ct x) fun z => by rw [List.mem_singleton] at z; rw [z]; exact h1, B.ok, B.lk, fun x hx => (List.mem_append.mp hx).elim (B.cp x) fun z => by rw [List.mem_singleton] at z; rw [z]; exact h2⟩
theorem getD_mem {α : Type} (xs : List α) (d : α) {i : Nat} (h : i < xs.length) : xs.getD i d ∈ xs := by
  rw [List.getD_eq_getElem?_getD, List.getElem?_eq_getElem h]
  exact List.getElem_mem h
theorem getD_set {α : Type} (xs : List α) (d : α) (i j : Nat) (v : α) : (xs.set i v).getD j d = if i = j ∧ j < xs.length then v else xs.getD j d := by
  rw [List.getD_eq_getElem?_getD, List.getD_eq_getElem?_getD, List.getElem?_set]
  by_cases h : i = j
  · subst h
    by_cases hl : i < xs.length
    · simp [hl]
    · simp [hl]
  · simp [h]
theorem BkOk.offL {hs : List (List Pr)} {ls : List LotR} {os : List OutR} {cs : List ClR} (B : BkOk hs ls os cs) {i : Nat} (hi : i < ls.length) : BkOk hs (ls.set i (offL (ls.getD i default))) os cs :=
  ⟨B.hd, by rw [List.length_set]; exact B.nl, B.no, B.nc, B.ct, B.ok, fun x hx => by
    rcases List.mem_or_eq_of_mem_set hx with h | h
    · exact B.lk x h
    · rw [h]; have z := B.lk _ (getD_mem ls default hi); exact z, fun c hc x hx => by
    obtain ⟨a1, a2, a3, a4⟩ := B.cp c hc x hx
    refine ⟨a1, a2, by rw [List.length_set]; exact a3, ?_⟩
    rw [getD_set]
    split
    · rename_i h
      rw [← a4, ← h.1]
      rfl
    · exact a4⟩
theorem BkOk.offO {hs : List (List Pr)} {ls : List LotR} {os : List OutR} {cs : List ClR} (B : BkOk hs ls os cs) {i : Nat} (hi : i < os.length) : BkOk hs ls (os.set i (offO (os.getD i default))) cs :=
  ⟨B.hd, B.nl, by rw [List.length_set]; exact B.no, B.nc, B.ct, fun x hx => by
    rcases List.mem_or_eq_of_mem_set hx with h | h
    · exact B.ok x h
    · rw [h]; have z := B.ok _ (getD_mem os default hi); exact z, B.lk, B.cp⟩
theorem BkOk.offC {hs : List (List Pr)} {ls : List LotR} {os : List OutR} {cs : List ClR} (B : BkOk hs ls os cs) {i : Nat} (hi : i < cs.length) : BkOk hs ls os (cs.set i (offC (cs.getD i default))) :=
  ⟨B.hd, B.nl, B.no, by rw [List.length_set]; exact B.nc, fun x hx => by
    rcases List.mem_or_eq_of_mem_set hx with h | h
    · exact B.ct x h
    · rw [h]; have z := B.ct _ (getD_mem cs default hi); exact z, B.ok, B.lk, fun x hx => by
    rcases List.mem_or_eq_of_mem_set hx with h | h
    · exact B.cp x h
    · rw [h]; have z := B.cp _ (getD_mem cs default hi); exact z⟩
theorem errRaw_none {ps : List (List Pr)} {k : Int} (h : errRaw ps k = none) : 1 ≤ k ∧ k ≤ (ps.length : Int) := by
  unfold errRaw at h
  split at h
  · cases h
  · omega
theorem effD_ok {t l s : Int} {b : Bk} (O : b.Ok) {d : Deed} (hd : d.small) (h : errDd t l b d = none) : (effD t l s b d).Ok := by
  have B := O.bk
  have f2 := O.len
  cases d with
  | raw =>
    simp only [errDd] at h
    have hn : ¬ 12 ≤ b.ps.length := fun z => by rw [if_pos z] at h; cases h
    refine ⟨B.more (B.hd.raw (by omega)) (by simp only [effD, List.length_append]; omega), by simp [effD, f2], fun q hq => ?_⟩
    rcases List.mem_append.mp hq with z | z
    · exact O.few q z
    · rw [List.mem_singleton] at z; subst z; exact Nat.zero_le _
  | made qs =>
    refine ⟨B.more (errMade_ok B.hd h) (by simp only [effD, List.length_append]; omega), by simp [effD, f2], fun q hq => ?_⟩
    rcases List.mem_append.mp hq with z | z
    · exact O.few q z
    · rw [List.mem_singleton] at z; subst z; exact hd
  | come k d c u =>
    simp only [errDd] at h
    unfold errCome at h
    cases h0 : errRaw b.ps k with
    | some e => rw [h0] at h; cases h
    | none =>
      rw [h0] at h
      dsimp only at h
      have hk := errRaw_none h0
      by_cases h1 : d < 1 ∨ 999 < d
      · rw [if_pos h1] at h; cases h
      · rw [if_neg h1] at h
        by_cases h2 : c < 1 ∨ 1000000 < c
        · rw [if_pos h2] at h; cases h
        · rw [if_neg h2] at h
          by_cases h3 : u < 1 ∨ 1000000 < u
          · rw [if_pos h3] at h; cases h
          · rw [if_neg h3] at h
            by_cases h4 : 30 ≤ b.ls.length
            · rw [if_pos h4] at h; cases h
            · exact ⟨B.lot (by omega) (by dsimp only; omega), f2, O.few⟩
  | go k d c =>
    simp only [errDd] at h
    unfold errGo at h
    by_cases h0 : k < 1 ∨ (b.ps.length : Int) < k
    · rw [if_pos h0] at h; cases h
    · rw [if_neg h0] at h
      by_cases h1 : d < 1 ∨ 999 < d
      · rw [if_pos h1] at h; cases h
      · rw [if_neg h1] at h
        by_cases h2 : c < 1 ∨ 1000000 < c
        · rw [if_pos h2] at h; cases h
        · rw [if_neg h2] at h
          by_cases h4 : 30 ≤ b.os.length
          · rw [if_pos h4] at h; cases h
          · exact ⟨B.out (by omega) (by dsimp only; omega), f2, O.few⟩
  | sl n =>
    simp only [errDd] at h
    unfold errSl at h
    by_cases h0 : n < 1 ∨ (b.ls.length : Int) < n
    · rw [if_pos h0] at h; cases h
    · exact ⟨B.offL (by omega), f2, O.few⟩
  | so n =>
    simp only [errDd] at h
    unfold errSo at h
    by_cases h0 : n < 1 ∨ (b.os.length : Int) < n
    · rw [if_pos h0] at h; cases h
    · exact ⟨B.offO (by omega), f2, O.few⟩
  | cb n =>
    simp only [errDd] at h
    unfold errCb at h
    by_cases h0 : n < 1 ∨ (b.cs.length : Int) < n
    · rw [if_pos h0] at h; cases h
    · exact ⟨B.offC (by omega), f2, O.few⟩
  | lay k d =>
    simp only [errDd] at h
    unfold errLay at h
    cases h0 : errQ b.ps k d with
    | some e => rw [h0] at h; cases h
    | none =>
      rw [h0] at h
      dsimp only at h
      obtain ⟨g1, g2⟩ := due_facts B t l k d
      by_cases h1 : dueB b.hs b.ls b.os b.cs t l k d = []
      · rw [if_pos h1] at h; cases h
      · rw [if_neg h1] at h
        by_cases h2 : 30 ≤ b.cs.length
        · rw [if_pos h2] at h; cases h
        · exact ⟨B.clm (by omega) (by show (dueB b.hs b.ls b.os b.cs t l k d).length ≤ 10000; omega) g2, f2, O.few⟩
theorem bk0_ok : bk0.Ok := ⟨⟨HdOk.nil, by decide, by decide, by decide, (fun _ z => nomatch z), (fun _ z => nomatch z), (fun _ z => nomatch z), (fun _ z => nomatch z)⟩, rfl, (fun _ z => nomatch z)⟩
end Mm
namespace Mm
open PySem L2 Fx
variable [Tabz]
section
variable {t l s : Int} {de pa fu : List PyData}
theorem gd_pl (n : Nat) (l : List Pr) (h : l.length ≤ 100000) : gd (n + 3) (.list (l.map encP)) = true := gd_list (by rw [List.length_map]; exact h) (by
  rw [List.all_map]
  exact List.all_eq_true.mpr fun _ _ => rfl)
def Fu (s : Sl) : Prop := s = .un ∨ ∃ d, s = .fz d
theorem Fu.pn {s : Sl} (h : Fu s) : Pn s := by
  rcases h with rfl | ⟨d, rfl⟩
  · exact pn_un
  · exact pn_fz
theorem Fu.kp {s : Sl} (h : Fu s) : keepFz (some s) = s := by
  rcases h with rfl | ⟨d, rfl⟩ <;> rfl
theorem Fu.fz {d : PyData} : Fu (.fz d) := .inr ⟨d, rfl⟩
end
end Mm
namespace Mm
open PySem L2 Fx
variable [Tabz]
theorem u0 : unkD (.str "terms") = some (Sum.inr ("terms" : Str) : Key) := rfl
theorem u1 : unkD (.str "held") = some (Sum.inr ("held" : Str) : Key) := rfl
theorem u2 : unkD (.str "raws") = some (Sum.inr ("raws" : Str) : Key) := rfl
end Mm
namespace Mm
open PySem L2 Fx
variable [Tabz]
end Mm
namespace Mm
open PySem L2 Fx
variable [Tabz]
structure Tm where
  t : Int
  l : Int
  s : Int
  t0 : 0 ≤ t
  t1 : t ≤ 400
  l0 : 0 ≤ l
  l1 : l ≤ 400
  s0 : 1 ≤ s
  s1 : s ≤ 100
structure GB where
  b : Bk
  ok : b.Ok
abbrev SD := {d : Deed // d.small}
def GB0 : GB := ⟨bk0, bk0_ok⟩
noncomputable def err (q : Tm) (B : GB) (d : SD) : Option Str := errDd q.t q.l B.b d.1
noncomputable def eff (q : Tm) (B : GB) (d : SD) : GB := if h : errDd q.t q.l B.b d.1 = none then ⟨effD q.t q.l q.s B.b d.1, effD_ok B.ok d.2 h⟩ else B
theorem eff_b {q : Tm} {B : GB} {d : SD} (h : err q B d = none) : (eff q B d).b = effD q.t q.l q.s B.b d.1 := by
  unfold eff
  have h' : errDd q.t q.l B.b d.1 = none := h
  rw [dif_pos h']
structure HS where
  b : GB
  pa : List (SD × GB)
  fu : List (SD × GB)
noncomputable def HS.dod (q : Tm) (S : HS) (d : SD) : HS := ⟨eff q S.b d, S.pa ++ [(d, S.b)], []⟩
def HS.ds (S : HS) : List SD := S.pa.map (·.1)
def enD (d : SD) : PyData := encD d.1
def enP (x : SD × GB) : PyData := .tuple [enD x.1, x.2.b.st]
def teQ (q : Tm) : PyData := teD q.t q.l q.s
def hT (q : Tm) (S : HS) : Tr := S.b.b.tr q.t q.l q.s (S.pa.map enP) (S.fu.map enP)
def hTD (q : Tm) (S : HS) : PyData := hRD q.t q.l q.s (S.b.b.ps.map encPs) (S.b.b.hs.map encPs) (S.b.b.ls.map encLR) (S.b.b.os.map encOR) (S.b.b.cs.map encCR) (S.pa.map enP) (S.fu.map enP)
def mT (q : Tm) (B : GB) (ds : List SD) : Tr := mR (teQ q) (B.b.hs.map encPl) B.b.rw (B.b.ls.map encLR) (B.b.os.map encOR) (B.b.cs.map encCR) (ds.map enD)
section
variable {q : Tm} {S : HS} {B : GB} {ds : List SD} {d : SD}
theorem unfr_hTD : unfr (hTD q S) = some (hT q S) := by unfold hT hTD Bk.tr; exact unfr_hRD
@[simp ↓ 2000] theorem toSl_hT : toSl (hT q S) = .tr (hT q S) := rfl
@[simp ↓ 2000] theorem toSl_mT : toSl (mT q B ds) = .tr (mT q B ds) := rfl
@[simp ↓ 2000] theorem isIns_o0 {ρ : Rho} : isIns "House" (.os 0) (.tr (hT q S) :: ρ) = true := rfl
@[simp ↓ 2000] theorem isIns_l0 {ρ : Rho} : isIns "House" (.ls 0) (.tr (hT q S) :: ρ) = true := rfl
@[simp ↓ 2000] theorem isIns_k0 {ρ : Rho} : isIns "House" (.ls 0) (.lk (hT q S) :: ρ) = true := rfl
@[simp ↓ 2000] theorem isIns_f0 {ρ : Rho} : isIns "House" (.ls 0) (.fz (hTD q S) :: ρ) = true := by
  have e := unfr_hTD (q := q) (S := S)
  unfold isIns
  generalize hTD q S = D at *
  simp [arOf, e]
  unfold hT Bk.tr
  rfl
@[simp ↓ 2000] theorem isIns_o1 {a0 : Sl} {ρ : Rho} : isIns "House" (.os 1) (a0 :: .tr (hT q S) :: ρ) = true := rfl
@[simp ↓ 2000] theorem isIns_l1 {a0 : Sl} {ρ : Rho} : isIns "House" (.ls 1) (a0 :: .tr (hT q S) :: ρ) = true := rfl
@[simp ↓ 2000] theorem isIns_k1 {a0 : Sl} {ρ : Rho} : isIns "House" (.ls 1) (a0 :: .lk (hT q S) :: ρ) = true := rfl
@[simp ↓ 2000] theorem isIns_f1 {a0 : Sl} {ρ : Rho} : isIns "House" (.ls 1) (a0 :: .fz (hTD q S) :: ρ) = true := by
  have e := unfr_hTD (q := q) (S := S)
  unfold isIns
  generalize hTD q S = D at *
  simp [arOf, e]
  unfold hT Bk.tr
  rfl
@[simp ↓ 2000] theorem isIns_o2 {a0 a1 : Sl} {ρ : Rho} : isIns "House" (.os 2) (a0 :: a1 :: .tr (hT q S) :: ρ) = true := rfl
@[simp ↓ 2000] theorem isIns_l2 {a0 a1 : Sl} {ρ : Rho} : isIns "House" (.ls 2) (a0 :: a1 :: .tr (hT q S) :: ρ) = true := rfl
@[simp ↓ 2000] theorem isIns_k2 {a0 a1 : Sl} {ρ : Rho} : isIns "House" (.ls 2) (a0 :: a1 :: .lk (hT q S) :: ρ) = true := rfl
@[simp ↓ 2000] theorem isIns_f2 {a0 a1 : Sl} {ρ : Rho} : isIns "House" (.ls 2) (a0 :: a1 :: .fz (hTD q S) :: ρ) = true := by
  have e := unfr_hTD (q := q) (S := S)
  unfold isIns
  generalize hTD q S = D at *
  simp [arOf, e]
  unfold hT Bk.tr
  rfl
@[simp ↓ 2000] theorem isIns_o3 {a0 a1 a2 : Sl} {ρ : Rho} : isIns "House" (.os 3) (a0 :: a1 :: a2 :: .tr (hT q S) :: ρ) = true := rfl
@[simp ↓ 2000] theorem isIns_l3 {a0 a1 a2 : Sl} {ρ : Rho} : isIns "House" (.ls 3) (a0 :: a1 :: a2 :: .tr (hT q S) :: ρ) = true := rfl
@[simp ↓ 2000] theorem isIns_k3 {a0 a1 a2 : Sl} {ρ : Rho} : isIns "House" (.ls 3) (a0 :: a1 :: a2 :: .lk (hT q S) :: ρ) = true := rfl
@[simp ↓ 2000] theorem isIns_f3 {a0 a1 a2 : Sl} {ρ : Rho} : isIns "House" (.ls 3) (a0 :: a1 :: a2 :: .fz (hTD q S) :: ρ) = true := by
  have e := unfr_hTD (q := q) (S := S)
  unfold isIns
  generalize hTD q S = D at *
  simp [arOf, e]
  unfold hT Bk.tr
  rfl
@[simp ↓ 2000] theorem isIns_o4 {a0 a1 a2 a3 : Sl} {ρ : Rho} : isIns "House" (.os 4) (a0 :: a1 :: a2 :: a3 :: .tr (hT q S) :: ρ) = true := rfl
@[simp ↓ 2000] theorem isIns_l4 {a0 a1 a2 a3 : Sl} {ρ : Rho} : isIns "House" (.ls 4) (a0 :: a1 :: a2 :: a3 :: .tr (hT q S) :: ρ) = true := rfl
@[simp ↓ 2000] theorem isIns_k4 {a0 a1 a2 a3 : Sl} {ρ : Rho} : isIns "House" (.ls 4) (a0 :: a1 :: a2 :: a3 :: .lk (hT q S) :: ρ) = true := rfl
@[simp ↓ 2000] theorem isIns_f4 {a0 a1 a2 a3 : Sl} {ρ : Rho} : isIns "House" (.ls 4) (a0 :: a1 :: a2 :: a3 :: .fz (hTD q S) :: ρ) = true := by
  have e := unfr_hTD (q := q) (S := S)
  unfold isIns
  generalize hTD q S = D at *
  simp [arOf, e]
  unfold hT Bk.tr
  rfl
@[simp ↓ 2000] theorem isIns_o5 {a0 a1 a2 a3 a4 : Sl} {ρ : Rho} : isIns "House" (.os 5) (a0 :: a1 :: a2 :: a3 :: a4 :: .tr (hT q S) :: ρ) = true := rfl
@[simp ↓ 2000] theorem isIns_l5 {a0 a1 a2 a3 a4 : Sl} {ρ : Rho} : isIns "House" (.ls 5) (a0 :: a1 :: a2 :: a3 :: a4 :: .tr (hT q S) :: ρ) = true := rfl
@[simp ↓ 2000] theorem isIns_k5 {a0 a1 a2 a3 a4 : Sl} {ρ : Rho} : isIns "House" (.ls 5) (a0 :: a1 :: a2 :: a3 :: a4 :: .lk (hT q S) :: ρ) = true := rfl
@[simp ↓ 2000] theorem isIns_f5 {a0 a1 a2 a3 a4 : Sl} {ρ : Rho} : isIns "House" (.ls 5) (a0 :: a1 :: a2 :: a3 :: a4 :: .fz (hTD q S) :: ρ) = true := by
  have e := unfr_hTD (q := q) (S := S)
  unfold isIns
  generalize hTD q S = D at *
  simp [arOf, e]
  unfold hT Bk.tr
  rfl
@[simp ↓ 2000] theorem isIns_o6 {a0 a1 a2 a3 a4 a5 : Sl} {ρ : Rho} : isIns "House" (.os 6) (a0 :: a1 :: a2 :: a3 :: a4 :: a5 :: .tr (hT q S) :: ρ) = true := rfl
@[simp ↓ 2000] theorem isIns_l6 {a0 a1 a2 a3 a4 a5 : Sl} {ρ : Rho} : isIns "House" (.ls 6) (a0 :: a1 :: a2 :: a3 :: a4 :: a5 :: .tr (hT q S) :: ρ) = true := rfl
@[simp ↓ 2000] theorem isIns_k6 {a0 a1 a2 a3 a4 a5 : Sl} {ρ : Rho} : isIns "House" (.ls 6) (a0 :: a1 :: a2 :: a3 :: a4 :: a5 :: .lk (hT q S) :: ρ) = true := rfl
@[simp ↓ 2000] theorem isIns_f6 {a0 a1 a2 a3 a4 a5 : Sl} {ρ : Rho} : isIns "House" (.ls 6) (a0 :: a1 :: a2 :: a3 :: a4 :: a5 :: .fz (hTD q S) :: ρ) = true := by
  have e := unfr_hTD (q := q) (S := S)
  unfold isIns
  generalize hTD q S = D at *
  simp [arOf, e]
  unfold hT Bk.tr
  rfl
@[simp ↓ 2000] theorem isIns_o7 {a0 a1 a2 a3 a4 a5 a6 : Sl} {ρ : Rho} : isIns "House" (.os 7) (a0 :: a1 :: a2 :: a3 :: a4 :: a5 :: a6 :: .tr (hT q S) :: ρ) = true := rfl
@[simp ↓ 2000] theorem isIns_l7 {a0 a1 a2 a3 a4 a5 a6 : Sl} {ρ : Rho} : isIns "House" (.ls 7) (a0 :: a1 :: a2 :: a3 :: a4 :: a5 :: a6 :: .tr (hT q S) :: ρ) = true := rfl
@[simp ↓ 2000] theorem isIns_k7 {a0 a1 a2 a3 a4 a5 a6 : Sl} {ρ : Rho} : isIns "House" (.ls 7) (a0 :: a1 :: a2 :: a3 :: a4 :: a5 :: a6 :: .lk (hT q S) :: ρ) = true := rfl
@[simp ↓ 2000] theorem isIns_f7 {a0 a1 a2 a3 a4 a5 a6 : Sl} {ρ : Rho} : isIns "House" (.ls 7) (a0 :: a1 :: a2 :: a3 :: a4 :: a5 :: a6 :: .fz (hTD q S) :: ρ) = true := by
  have e := unfr_hTD (q := q) (S := S)
  unfold isIns
  generalize hTD q S = D at *
  simp [arOf, e]
  unfold hT Bk.tr
  rfl
@[simp ↓ 2000] theorem isIns_o8 {a0 a1 a2 a3 a4 a5 a6 a7 : Sl} {ρ : Rho} : isIns "House" (.os 8) (a0 :: a1 :: a2 :: a3 :: a4 :: a5 :: a6 :: a7 :: .tr (hT q S) :: ρ) = true := rfl
@[simp ↓ 2000] theorem isIns_l8 {a0 a1 a2 a3 a4 a5 a6 a7 : Sl} {ρ : Rho} : isIns "House" (.ls 8) (a0 :: a1 :: a2 :: a3 :: a4 :: a5 :: a6 :: a7 :: .tr (hT q S) :: ρ) = true := rfl
@[simp ↓ 2000] theorem isIns_k8 {a0 a1 a2 a3 a4 a5 a6 a7 : Sl} {ρ : Rho} : isIns "House" (.ls 8) (a0 :: a1 :: a2 :: a3 :: a4 :: a5 :: a6 :: a7 :: .lk (hT q S) :: ρ) = true := rfl
@[simp ↓ 2000] theorem isIns_f8 {a0 a1 a2 a3 a4 a5 a6 a7 : Sl} {ρ : Rho} : isIns "House" (.ls 8) (a0 :: a1 :: a2 :: a3 :: a4 :: a5 :: a6 :: a7 :: .fz (hTD q S) :: ρ) = true := by
  have e := unfr_hTD (q := q) (S := S)
  unfold isIns
  generalize hTD q S = D at *
  simp [arOf, e]
  unfold hT Bk.tr
  rfl
@[simp ↓ 2000] theorem te0 : oIx (teQ q) (.int 0) = some (.int q.t) := rfl
@[simp ↓ 2000] theorem te1 : oIx (teQ q) (.int 1) = some (.int q.l) := rfl
@[simp ↓ 2000] theorem te2 : oIx (teQ q) (.int 2) = some (.int q.s) := rfl
inductive Hist (q : Tm) : List (SD × GB) → GB → Prop
  | nil : Hist q [] GB0
  | snoc {pa : List (SD × GB)} {b : GB} {d : SD} : Hist q pa b → err q b d = none → Hist q (pa ++ [(d, b)]) (eff q b d)
theorem dod_b (q : Tm) (S : HS) (d : SD) : (S.dod q d).b = eff q S.b d := rfl
theorem dod_pa (q : Tm) (S : HS) (d : SD) : (S.dod q d).pa = S.pa ++ [(d, S.b)] := rfl
theorem dod_fu (q : Tm) (S : HS) (d : SD) : (S.dod q d).fu = [] := rfl
theorem dod_len (q : Tm) (S : HS) (d : SD) : (S.dod q d).pa.length = S.pa.length + 1 := by rw [dod_pa, List.length_append]; rfl
end
end Mm
namespace Mm
open PySem L2 Fx
variable [Tabz]
end Mm
namespace Mm
open PySem L2 Fx
variable [Tabz]
noncomputable def HS.tr (q : Tm) (S : HS) (d : SD) : HS := if err q S.b d = none then S.dod q d else S
structure Okh (q : Tm) (n : Nat) (S : HS) : Prop where
  hist : Hist q S.pa S.b
  fu : S.fu = []
  len : S.pa.length ≤ n
  raw1 : ∃ ps, S.b.b.ps = [] :: ps
theorem eff_ps (q : Tm) (B : GB) (d : SD) (h : err q B d = none) : ∃ x, (eff q B d).b.ps = B.b.ps ++ x := by
  rw [eff_b h]
  obtain ⟨d, sm⟩ := d
  cases d with
  | raw => exact ⟨[[]], rfl⟩
  | made qs => exact ⟨[qs], rfl⟩
  | _ => exact ⟨[], (List.append_nil _).symm⟩
theorem Okh.dod {q : Tm} {n : Nat} {S : HS} (I : Okh q n S) {d : SD} (h : err q S.b d = none) : Okh q (n + 1) (S.dod q d) := ⟨I.hist.snoc h, rfl, by rw [dod_len]; have := I.len; omega, by
  obtain ⟨ps, e⟩ := I.raw1
  obtain ⟨x, ex⟩ := eff_ps q S.b d h
  exact ⟨ps ++ x, by rw [dod_b, ex, e]; rfl⟩⟩
theorem Okh.mono {q : Tm} {n m : Nat} {S : HS} (I : Okh q n S) (h : n ≤ m) : Okh q m S := ⟨I.hist, I.fu, Nat.le_trans I.len h, I.raw1⟩
theorem Okh.tr {q : Tm} {n : Nat} {S : HS} (I : Okh q n S) (d : SD) : Okh q (n + 1) (S.tr q d) := by
  unfold HS.tr
  by_cases h : err q S.b d = none
  · rw [if_pos h]; exact I.dod h
  · rw [if_neg h]; exact I.mono (Nat.le_succ n)
end Mm
namespace Mm
open PySem L2 Fx
variable [Tabz]
section
variable {q : Tm} {S : HS} {B : GB} {ds : List SD} {k d : Int}
theorem rng1 (n : Nat) (h : n ≤ 1000) : oRng1 [.int (n : Int)] = some (rng 0 n) := by
  have z := oRng1_of (j := (n : Int)) (by omega) (by omega)
  rwa [Int.toNat_natCast] at z
end
end Mm
namespace Mm
open PySem L2 Fx
variable [Tabz]
inductive Fut (q : Tm) : GB → List (SD × GB) → Prop
  | nil {b : GB} : Fut q b []
  | cons {b : GB} {d : SD} {r : List (SD × GB)} : err q b d = none → Fut q (eff q b d) r → Fut q b ((d, eff q b d) :: r)
structure Okf (q : Tm) (n : Nat) (S : HS) : Prop where
  hist : Hist q S.pa S.b
  fut : Fut q S.b S.fu.reverse
  len : S.pa.length + S.fu.length ≤ n
theorem Okf.dod {q : Tm} {n : Nat} {S : HS} (I : Okf q n S) {d : SD} (h : err q S.b d = none) : Okf q (n + 1) (S.dod q d) := ⟨I.hist.snoc h, .nil, by
  have := I.len
  rw [dod_len, dod_fu]
  show S.pa.length + 1 + 0 ≤ _
  omega⟩
theorem Okf.mono {q : Tm} {n m : Nat} {S : HS} (I : Okf q n S) (h : n ≤ m) : Okf q m S := ⟨I.hist, I.fut, Nat.le_trans I.len h⟩
section
variable {q : Tm} {S : HS} {B : GB} {ds : List SD}
@[simp ↓ 2000] theorem rdm0t {R : Rho} : fRd (plK (plN 0) (ret (.str "terms"))) (.tr (mT q B ds) :: R) = .ok (teQ q, .tr (mT q B ds) :: R) := by unfold mT; simp [stT, t_at0, t_at1, t_put0, t_put1, List.filterMap_cons, List.filterMap_nil, mkT, mkL, small, Fx.sc, pk0, u0]
@[simp ↓ 2000] theorem rdm0l {R : Rho} : fRd (plK (plN 0) (ret (.str "terms"))) (.lk (mT q B ds) :: R) = .ok (teQ q, .lk (mT q B ds) :: R) := by unfold mT; simp [stT, t_at0, t_at1, t_put0, t_put1, List.filterMap_cons, List.filterMap_nil, mkT, mkL, small, Fx.sc, pk0, u0]
@[simp ↓ 2000] theorem rdm1t {a : Sl} {R : Rho} : fRd (plK (plN 1) (ret (.str "terms"))) (a :: .tr (mT q B ds) :: R) = .ok (teQ q, a :: .tr (mT q B ds) :: R) := by unfold mT; simp [stT, t_at0, t_at1, t_put0, t_put1, List.filterMap_cons, List.filterMap_nil, mkT, mkL, small, Fx.sc, pk0, u0]
inductive Fw (q : Tm) : GB → List (SD × GB) → GB → Prop
  | nil {b : GB} : Fw q b [] b
  | cons {b B : GB} {d : SD} {r : List (SD × GB)} : err q b d = none → Fw q (eff q b d) r B → Fw q b ((d, b) :: r) B
theorem Fw.snoc {q : Tm} {b c : GB} {d : SD} : ∀ {xs : List (SD × GB)}, Fw q b xs c → err q c d = none → Fw q b (xs ++ [(d, c)]) (eff q c d) := by
  intro xs h
  induction h with
  | nil => exact fun h => .cons h .nil
  | cons h1 _ ih => exact fun h => .cons h1 (ih h)
end
end Mm
namespace K34
open PySem L2 Fx Mm
variable [Tabz]
structure KB where
  ps : List (List Pr)
  hs : List (List Pr)
  H : HdOk hs
  hl : ps.length = hs.length
  few : ∀ l ∈ ps, l.length ≤ 3
def KB.t (K : KB) : Tr := kR (K.ps.map encPs) (K.hs.map encPs)
def rowD (p h : List Pr) : PyData := .tuple [.bool (decide (p = [])), .list (p.map encP), .list (h.map encP)]
def rowsD (ps hs : List (List Pr)) : List PyData := (List.range ps.length).map fun i => rowD (ps.getD i []) (hs.getD i [])
def KB.rows (K : KB) : List PyData := rowsD K.ps K.hs
def KB.lk (K : KB) : PyData := .list K.rows
theorem rows_len (K : KB) : K.rows.length = K.ps.length := by unfold KB.rows rowsD; rw [List.length_map, List.length_range]
theorem rows_snoc {ps hs : List (List Pr)} (hl : ps.length = hs.length) (p h : List Pr) : rowsD (ps ++ [p]) (hs ++ [h]) = rowsD ps hs ++ [rowD p h] := by
  unfold rowsD
  rw [List.length_append, List.length_singleton, List.range_succ, List.map_append, List.map_singleton]
  congr 1
  · refine List.map_congr_left fun i hi => ?_
    have hi := List.mem_range.mp hi
    congr 1
    · simp [List.getD, List.getElem?_append_left hi]
    · simp [List.getD, List.getElem?_append_left (show i < hs.length by omega)]
  · congr 2
    · simp [List.getD]
    · rw [hl]; simp [List.getD]
theorem gd_lk (K : KB) : gd 7 K.lk = true := by
  have f := K.H.few
  have hl := K.hl
  unfold KB.lk
  refine gd_list (n := 6) (by rw [rows_len]; omega) ?_
  unfold KB.rows rowsD
  rw [List.all_map]
  refine List.all_eq_true.mpr fun i hi => ?_
  have hi := List.mem_range.mp hi
  have m1 : K.ps.getD i [] ∈ K.ps := by rw [show K.ps.getD i [] = K.ps[i]'hi by simp [List.getD, List.getElem?_eq_getElem hi]]; exact List.getElem_mem hi
  have m2 : K.hs.getD i [] ∈ K.hs := by rw [show K.hs.getD i [] = K.hs[i]'(by omega) by simp [List.getD, List.getElem?_eq_getElem (show i < K.hs.length by omega)]]; exact List.getElem_mem (by omega)
  have a1 : gd 5 (.list ((K.ps.getD i []).map encP)) = true := gd_pl 2 _ (by have := K.few _ m1; omega)
  have a2 : gd 5 (.list ((K.hs.getD i []).map encP)) = true := gd_pl 2 _ (by have := K.H.len _ m2; omega)
  show gd 6 (rowD (K.ps.getD i []) (K.hs.getD i [])) = true
  show (decide _ && ([PyData.bool (decide (K.ps.getD i [] = [])), .list ((K.ps.getD i []).map encP), .list ((K.hs.getD i []).map encP)].all (gd 5))) = true
  simp only [List.all_cons, List.all_nil, a1, a2]
  rfl
theorem look_q (K : KB) (s1 : Sl) : q_l_look_1 [.lk K.t, .fz (.list (rng 1 K.ps.length)), .un] = .ok (K.rows, [.lk K.t, .fz (.list (rng 1 K.ps.length)), .un]) := by
  have f := K.H.few
  have hl := K.hl
  unfold q_l_look_1 KB.rows rowsD
  rw [lc_all (List.range K.ps.length) (fun i => PyData.int (1 + (i : Int))) (fun i => rowD (K.ps.getD i []) (K.hs.getD i [])) (ρ := [.lk K.t, .fz (.list (rng 1 K.ps.length)), .un]) (by
      show fItL (fVar 1) [.lk K.t, .fz (.list (rng 1 K.ps.length)), .un] = .ok (rng 1 K.ps.length, _)
      simp) (by rw [List.length_range]; omega) fun i hi => ⟨[.lk K.t, .fz (.list (rng 1 K.ps.length)), .fz (.int (1 + (i : Int)))], rfl, [.lk K.t, .fz (.list (rng 1 K.ps.length)), .fz (.int (1 + (i : Int)))], by
      have hi := List.mem_range.mp hi
      have e1 := Kinds_is_raw_eq (hd := K.hs.map encPs) K.ps (1 + (i : Int))
      have e2 := Kinds_parts_eq (hd := K.hs.map encPs) K.ps (1 + (i : Int))
      have e3 := Kinds_holds_eq (p := K.ps.map encPs) K.hs (1 + (i : Int)) (by rw [List.length_map]; exact hl)
      have ei : (1 + (i : Int) - 1).toNat = i := by omega
      rw [if_neg (by omega), ei] at e1 e2 e3
      unfold KB.t rowD
      generalize rng 1 K.ps.length = rr at *
      generalize (K.ps.getD i []).map encP = x1 at *
      generalize (K.hs.getD i []).map encP = x2 at *
      generalize K.ps.map encPs = pp at *
      generalize K.hs.map encPs = hh at *
      generalize (1 + (i : Int)) = ii at *
      simp [stT, t_at0, t_at1, t_put0, t_put1, List.filterMap_cons, List.filterMap_nil, mkT, mkL, small, Fx.sc, e1, e2, e3], rfl⟩]
  rfl
theorem look_n (K : KB) : F_l_look [.l K.t] = .ok (.ow K.rows) [.l K.t] := by
  have f := K.H.few
  have hl := K.hl
  have e1 := Kinds_many_eq (p := K.ps.map encPs) (hd := K.hs.map encPs)
  rw [List.length_map] at e1
  change F_Kinds_many [.l K.t] = _ at e1
  have e2 := look_q K .un
  have e3 : oLr2 (.int 1) (.int ((K.ps.length : Int) + 1)) = some (rng 1 K.ps.length) := by
    show (if (0 : Int) ≤ 1 ∧ (1 : Int) ≤ 100000 ∧ 0 ≤ (K.ps.length : Int) + 1 ∧ (K.ps.length : Int) + 1 ≤ 100000 then some (rng 1 ((K.ps.length : Int) + 1 - 1).toNat) else none) = _
    rw [if_pos (by omega)]
    congr 2
    omega
  have eh : ∃ x, K.t = .nd (.ins "Kinds") x := ⟨_, rfl⟩
  generalize rng 1 K.ps.length = rr at *
  generalize K.rows = rw1 at *
  generalize K.t = t at *
  obtain ⟨x, rfl⟩ := eh
  simp [F_l_look, g_l_look, stT, t_at0, t_at1, t_put0, t_put1, List.filterMap_cons, List.filterMap_nil, mkT, mkL, small, Fx.sc, e1, e2, e3]
theorem eq_nil (l : List Pr) : oEQ (encPl l) (.list []) = some (.bool (decide (l = []))) := by
  have hs : SeqAt.shaped (encPl l) = true := gi_shaped (n := 3) (by decide) (by show (l.map encP).all (gi 2) = true; exact gi_ps 0 l)
  have hs0 : SeqAt.shaped (.list []) = true := gi_shaped (n := 1) (by decide) rfl
  unfold encPl at hs ⊢
  cases l with
  | nil => rfl
  | cons d ds => simp only [List.map_cons] at hs ⊢; simp [oEQ, hs, hs0, PyData.eqv, PyData.eqvAll]
theorem max_any (l : List Pr) (hl : l ≠ []) : ∃ x, maxI (l.map (·.2)) = some x ∧ decide (10000 < x) = l.any fun q => decide (10000 < q.2) := by
  cases l with
  | nil => exact absurd rfl hl
  | cons q l =>
    obtain ⟨h1, h2⟩ := foldMax (l.map (·.2)) q.2
    refine ⟨_, rfl, ?_⟩
    generalize (l.map (·.2)).foldl (fun a b => if b > a then b else a) q.2 = x at *
    rw [← List.map_cons (f := fun q : Pr => q.2)] at h1 h2
    by_cases hx : 10000 < x
    · rw [decide_eq_true hx]
      obtain ⟨y, hy, rfl⟩ := List.mem_map.mp h1
      exact (List.any_eq_true.mpr ⟨y, hy, decide_eq_true hx⟩).symm
    · rw [decide_eq_false hx]
      symm
      rw [List.any_eq_false]
      intro y hy
      have := h2 _ (List.mem_map.mpr ⟨y, hy, rfl⟩)
      simp only [decide_eq_true_eq]
      omega
theorem held_q (K : KB) (s0 s1 : Sl) (s3 s5 s6 s7 s8 : Sl) : q_l_more_1 [s0, s1, .fz K.lk, s3, .un, s5, s6, s7, s8] = .ok (K.hs.map encPl, [s0, s1, .fz K.lk, s3, .un, s5, s6, s7, s8]) := by
  have f := K.H.few
  have hl := K.hl
  have e : K.hs.map encPl = (List.range K.ps.length).map fun i => encPl (K.hs.getD i []) := by
    apply List.ext_getElem
    · simp [hl]
    · intro i h1 h2
      simp at h1
      simp [List.getD, List.getElem?_eq_getElem h1]
  unfold q_l_more_1
  rw [e]
  unfold KB.lk KB.rows rowsD
  rw [lc_all (List.range K.ps.length) (fun i => rowD (K.ps.getD i []) (K.hs.getD i [])) (fun i => encPl (K.hs.getD i [])) (ρ := [s0, s1, .fz (.list ((List.range K.ps.length).map fun i => rowD (K.ps.getD i []) (K.hs.getD i []))), s3, .un, s5, s6, s7, s8]) (by simp) (by rw [List.length_range]; omega) fun i hi => ⟨[s0, s1, .fz (.list ((List.range K.ps.length).map fun i => rowD (K.ps.getD i []) (K.hs.getD i []))), s3, .fz (rowD (K.ps.getD i []) (K.hs.getD i [])), s5, s6, s7, s8], rfl, [s0, s1, .fz (.list ((List.range K.ps.length).map fun i => rowD (K.ps.getD i []) (K.hs.getD i []))), s3, .fz (rowD (K.ps.getD i []) (K.hs.getD i [])), s5, s6, s7, s8], by
    generalize ((List.range K.ps.length).map fun i => rowD (K.ps.getD i []) (K.hs.getD i [])) = rr at *
    have i2 : atI [PyData.bool (decide (K.ps.getD i [] = [])), .list ((K.ps.getD i []).map encP), .list ((K.hs.getD i []).map encP)] 2 = some (.list ((K.hs.getD i []).map encP)) := rfl
    unfold rowD encPl
    generalize decide (K.ps.getD i [] = []) = b0 at *
    generalize (K.ps.getD i []).map encP = x1 at *
    generalize (K.hs.getD i []).map encP = x2 at *
    simp [i2], rfl⟩]
  rfl
theorem some_q (l : List Pr) (hl : l.length ≤ 1000) (s0 s1 s2 s3 s4 s5 : Sl) : q_l_more_2 [s0, s1, s2, s3, s4, s5, .fz (encPl l), .un, .un] = .ok (dI (l.map (·.2)), [s0, s1, s2, s3, s4, s5, .fz (encPl l), .un, .un]) := by
  unfold q_l_more_2
  rw [lc_all l encP (fun q => PyData.int q.2) (ρ := [s0, s1, s2, s3, s4, s5, .fz (encPl l), .un, .un]) (by simp [encPl]) (by omega) fun q _ => ⟨[s0, s1, s2, s3, s4, s5, .fz (encPl l), .fz (.int q.1), .fz (.int q.2)], rfl, [s0, s1, s2, s3, s4, s5, .fz (encPl l), .fz (.int q.1), .fz (.int q.2)], by simp, rfl⟩]
  unfold dI
  rw [List.map_map]
  rfl
theorem seq_ret {s t : Rho → Fl} {ρ ρ1 : Rho} {r : Rt} (h : s ρ = .ret r ρ1) : sSeq s t ρ = .ret r ρ1 := by
  unfold sSeq
  rw [h]
theorem out_more {K K' : KB} {io io' : List PyData} {r : Rt} {h3 : Sl} {ρ' : Rho} (g : g_l_more [.ow io, .tr K.t, .fz K.lk, .un, .un, .un, .un, .un, .un] = .ret r (.ow io' :: .tr K'.t :: .fz K.lk :: h3 :: ρ')) (hr : (∃ xs, r = .ow xs) ∨ ∃ d, r = .fz d := by first | exact .inl ⟨_, rfl⟩ | exact .inr ⟨_, rfl⟩) : F_l_more [.o (.ow io), .o K.t, .d K.lk] = .ok r [.o (.ow io'), .o K'.t, .d K.lk] := by
  have e1 : ∃ x, K.t = .nd (.ins "Kinds") x := ⟨_, rfl⟩
  have e2 : ∃ x, K'.t = .nd (.ins "Kinds") x := ⟨_, rfl⟩
  generalize K.lk = kl at *
  generalize K.t = t at *
  generalize K'.t = t' at *
  obtain ⟨x, rfl⟩ := e1
  obtain ⟨x', rfl⟩ := e2
  rcases hr with ⟨xs, rfl⟩ | ⟨d, rfl⟩ <;> simp [F_l_more, stT, t_at0, t_at1, t_put0, t_put1, List.filterMap_cons, List.filterMap_nil, mkT, mkL, small, Fx.sc, g]
theorem more_n (K : KB) (hlt : K.ps.length < 12) {io : List PyData} (dw : Dw io) : ∃ (io' : List PyData) (K' : KB) (r : Rt), (r = .ow K'.rows ∨ r = .fz K'.lk) ∧ Dw io' ∧ K'.ps.length ≤ K.ps.length + 1 ∧ F_l_more [.o (.ow io), .o K.t, .d K.lk] = .ok r [.o (.ow io'), .o K'.t, .d K.lk] := by
  have H := K.H
  have hl := K.hl
  have f1 := H.few
  have h0 := held_q K
  obtain ⟨qs, io1, p1, d1, dp⟩ := parts_ok (many := (K.ps.length : Int)) (most := 9) dw (by decide) (by decide)
  have hq : ∀ q ∈ qs, 1 ≤ q.1 ∧ q.1 ≤ (K.hs.length : Int) := fun q h => by have := dp.num q h; omega
  have fl := dp.few
  have e1 := F_l_holding_eq H qs (by omega) hq
  have er := Kinds_raw_eq (p := K.ps.map encPs) (hd := K.hs.map encPs) (by rw [List.length_map]; omega) (by rw [List.length_map]; omega)
  rw [List.length_map, if_neg (by omega)] at er
  have em := Kinds_made_eq H hl qs (by omega)
  have q0 := eq_nil qs
  have sq := some_q (heldBy K.hs qs) (by have := heldBy_len H qs; omega)
  have hps0 : ∀ l ∈ K.ps ++ [[]], l.length ≤ 3 := fun l h => (List.mem_append.mp h).elim (K.few l) fun z => by rw [List.mem_singleton] at z; subst z; exact Nat.zero_le _
  let KR : KB := ⟨K.ps ++ [[]], K.hs ++ [[((K.hs.length : Int) + 1, 1)]], H.raw (by omega), by simp [hl], hps0⟩
  have er' : F_Kinds_raw [.o K.t] = .ok (.fz (.int ((K.ps.length : Int) + 1))) [.o KR.t] := by
    rw [hl] at er
    rw [hl]
    have : KR.t = kR ((K.ps.map encPs) ++ [.tuple []]) ((K.hs.map encPs) ++ [.tuple [.tuple [.int ((K.hs.length : Int) + 1), .int 1]]]) := by
      show kR ((K.ps ++ [[]]).map encPs) ((K.hs ++ [[((K.hs.length : Int) + 1, 1)]]).map encPs) = _
      rw [List.map_append, List.map_append]
      rfl
    rw [this]
    exact er
  have rR : KR.rows = K.rows ++ [.tuple [.bool true, .list [], .list [.tuple [.int ((K.ps.length : Int) + 1), .int 1]]]] := by
    show rowsD (K.ps ++ [[]]) (K.hs ++ [[((K.hs.length : Int) + 1, 1)]]) = _
    rw [rows_snoc hl, hl]
    rfl
  have sm : small ((K.rows).length + 1) = true := small_of (by rw [rows_len]; omega)
  have lr := rows_len K
  have hb : K.ps.length ≤ 99999 := by omega
  -- a raw kind
  have rawE : ∀ (io2 : List PyData) (s3 s5 : Sl), Fu s5 → Pn s3 → (sSeq (sDrop (fR (fMeth "Kinds" F_Kinds_raw (.os 1) [])))
    (sRetT (nL (fOpL oCat (.v 2) (.e (fLst (fLs (fCons (fTup (fCons (ret (.bool true)) (fCons (fLst (fLs fNil)) (fCons (fLst (fLs (fCons (fTup (fCons (fOp oAdd (.e (fCB oLen [(.v 2)])) (.e (ret (.int 1)))) (fCons (ret (.int 1)) fNil))) fNil))) fNil)))) fNil)))))))) [.ow io2, .tr K.t, .fz K.lk, s3, .un, s5, .un, .un, .un] = .ret (.ow KR.rows) [.ow io2, .tr KR.t, .fz K.lk, s3, .un, s5, .un, .un, .un] := by
    intro io2 s3 s5 h5 h3
    have eh : ∃ x, K.t = .nd (.ins "Kinds") x := ⟨_, rfl⟩
    rw [rR]
    unfold KB.lk
    generalize KR.t = tR at *
    generalize K.rows = rw1 at *
    generalize K.t = t at *
    obtain ⟨x, rfl⟩ := eh
    simp [stT, t_at0, t_at1, t_put0, t_put1, List.filterMap_cons, List.filterMap_nil, mkT, mkL, small, Fx.sc, er', lr, hb, h5.pn _ _, h3 _ _]
  have hp3 : Pn (.ow (K.hs.map encPl)) := pn_ow
  have st1 : (sSetL 3 q_l_more_1) [.ow io, .tr K.t, .fz K.lk, .un, .un, .un, .un, .un, .un] = .nx [.ow io, .tr K.t, .fz K.lk, .ow (K.hs.map encPl), .un, .un, .un, .un, .un] := by
    have := h0 (.ow io) (.tr K.t) .un .un .un .un .un
    generalize K.hs.map encPl = hh at *
    simp [this]
  have st2 : (sSet 5 (fCallI 0 F_l_parts (fCons (fCB oLen [(.v 2)]) (fCons (ret (.int 9)) fNil)))) [.ow io, .tr K.t, .fz K.lk, .ow (K.hs.map encPl), .un, .un, .un, .un, .un] = .nx [.ow io1, .tr K.t, .fz K.lk, .ow (K.hs.map encPl), .un, .fz (encPl qs), .un, .un, .un] := by
    unfold KB.lk encPl
    generalize K.rows = rw1 at *
    generalize K.hs.map (fun l => PyData.list (l.map encP)) = hh at *
    simp [lr, p1]
  by_cases hn : qs = []
  · refine ⟨io1, KR, .ow KR.rows, .inl rfl, d1, by show (K.ps ++ [[]]).length ≤ _; simp, ?_⟩
    have r := rawE io1 (.ow (K.hs.map encPl)) (.fz (encPl qs)) Fu.fz hp3
    have st3 : (sIf (tOrM (fB (fOp oEQ (.v 5) (.e (fLst (fLs fNil))))) (fB (fOp oEQ (.e (fCallI 0 F_l_pick (fCons (ret (.int 2)) fNil))) (.e (ret (.int 0)))))) (sSeq (sDrop (fR (fMeth "Kinds" F_Kinds_raw (.os 1) [])))
    (sRetT (nL (fOpL oCat (.v 2) (.e (fLst (fLs (fCons (fTup (fCons (ret (.bool true)) (fCons (fLst (fLs fNil)) (fCons (fLst (fLs (fCons (fTup (fCons (fOp oAdd (.e (fCB oLen [(.v 2)])) (.e (ret (.int 1)))) (fCons (ret (.int 1)) fNil))) fNil))) fNil)))) fNil)))))))) sNil) [.ow io1, .tr K.t, .fz K.lk, .ow (K.hs.map encPl), .un, .fz (encPl qs), .un, .un, .un] = .ret (.ow KR.rows) [.ow io1, .tr KR.t, .fz K.lk, .ow (K.hs.map encPl), .un, .fz (encPl qs), .un, .un, .un] := by
      rw [← r]
      have q0' : oEQ (encPl qs) (.list []) = some (.bool true) := by rw [q0, decide_eq_true hn]
      clear r st1 st2 h0
      generalize K.hs.map encPl = hh at *
      generalize encPl qs = qe at *
      simp only [sIf, sBnd, tOrM, fB, fOp]
      simp [q0', mkL0]
    have g : g_l_more [.ow io, .tr K.t, .fz K.lk, .un, .un, .un, .un, .un, .un] = .ret (.ow KR.rows) [.ow io1, .tr KR.t, .fz K.lk, .ow (K.hs.map encPl), .un, .fz (encPl qs), .un, .un, .un] := by
      unfold g_l_more
      rw [seq_nx st1, seq_nx st2]
      show sSeq _ _ _ = _
      rw [seq_ret st3]
    exact out_more (ρ' := [.un, .fz (encPl qs), .un, .un, .un]) (h3 := .ow (K.hs.map encPl)) g
  · obtain ⟨x2, io2, p2, d2, l2, g2⟩ := pick_ok (m := 2) d1 (by decide) (by decide)
    have q0' : oEQ (encPl qs) (.list []) = some (.bool false) := by rw [q0, decide_eq_false hn]
    by_cases hx : x2 = 0
    · refine ⟨io2, KR, .ow KR.rows, .inl rfl, d2, by show (K.ps ++ [[]]).length ≤ _; simp, ?_⟩
      have r := rawE io2 (.ow (K.hs.map encPl)) (.fz (encPl qs)) Fu.fz hp3
      have st3 : (sIf (tOrM (fB (fOp oEQ (.v 5) (.e (fLst (fLs fNil))))) (fB (fOp oEQ (.e (fCallI 0 F_l_pick (fCons (ret (.int 2)) fNil))) (.e (ret (.int 0)))))) (sSeq (sDrop (fR (fMeth "Kinds" F_Kinds_raw (.os 1) [])))
    (sRetT (nL (fOpL oCat (.v 2) (.e (fLst (fLs (fCons (fTup (fCons (ret (.bool true)) (fCons (fLst (fLs fNil)) (fCons (fLst (fLs (fCons (fTup (fCons (fOp oAdd (.e (fCB oLen [(.v 2)])) (.e (ret (.int 1)))) (fCons (ret (.int 1)) fNil))) fNil))) fNil)))) fNil)))))))) sNil) [.ow io1, .tr K.t, .fz K.lk, .ow (K.hs.map encPl), .un, .fz (encPl qs), .un, .un, .un] = .ret (.ow KR.rows) [.ow io2, .tr KR.t, .fz K.lk, .ow (K.hs.map encPl), .un, .fz (encPl qs), .un, .un, .un] := by
        rw [← r]
        clear r st1 st2 h0
        generalize K.hs.map encPl = hh at *
        generalize encPl qs = qe at *
        simp only [sIf, sBnd, tOrM, fB, fOp]
        simp [q0', mkL0, p2, eqI, hx]
      refine out_more (ρ' := [.un, .fz (encPl qs), .un, .un, .un]) (h3 := .ow (K.hs.map encPl)) ?_
      unfold g_l_more
      rw [seq_nx st1, seq_nx st2]
      exact seq_ret st3
    · have st3 : (sIf (tOrM (fB (fOp oEQ (.v 5) (.e (fLst (fLs fNil))))) (fB (fOp oEQ (.e (fCallI 0 F_l_pick (fCons (ret (.int 2)) fNil))) (.e (ret (.int 0)))))) (sSeq (sDrop (fR (fMeth "Kinds" F_Kinds_raw (.os 1) [])))
    (sRetT (nL (fOpL oCat (.v 2) (.e (fLst (fLs (fCons (fTup (fCons (ret (.bool true)) (fCons (fLst (fLs fNil)) (fCons (fLst (fLs (fCons (fTup (fCons (fOp oAdd (.e (fCB oLen [(.v 2)])) (.e (ret (.int 1)))) (fCons (ret (.int 1)) fNil))) fNil))) fNil)))) fNil)))))))) sNil) [.ow io1, .tr K.t, .fz K.lk, .ow (K.hs.map encPl), .un, .fz (encPl qs), .un, .un, .un] = .nx [.ow io2, .tr K.t, .fz K.lk, .ow (K.hs.map encPl), .un, .fz (encPl qs), .un, .un, .un] := by
        clear st1 st2 h0
        generalize K.hs.map encPl = hh at *
        generalize encPl qs = qe at *
        simp only [sIf, sBnd, tOrM, fB, fOp]
        simp [q0', mkL0, p2, eqI, hx]
      have st4 : (sSet 6 (fLst (lR (fCallT F_l_holding [(.ls 3), (.e (fVar 5))])))) [.ow io2, .tr K.t, .fz K.lk, .ow (K.hs.map encPl), .un, .fz (encPl qs), .un, .un, .un] = .nx [.ow io2, .tr K.t, .fz K.lk, .ow (K.hs.map encPl), .un, .fz (encPl qs), .fz (encPl (heldBy K.hs qs)), .un, .un] := by
        change _ = OT.ok (Rt.ow ((heldBy K.hs qs).map encP)) _ at e1
        rw [show encPl (heldBy K.hs qs) = PyData.list ((heldBy K.hs qs).map encP) from rfl]
        generalize (heldBy K.hs qs).map encP = hb at *
        generalize encPl qs = qe at *
        generalize K.hs.map encPl = hl at *
        simp [stT, t_at0, t_at1, t_put0, t_put1, List.filterMap_cons, List.filterMap_nil, mkT, mkL, small, Fx.sc, e1]
      obtain ⟨mx, emx, hmx⟩ := max_any (heldBy K.hs qs) (heldBy_ne H hn hq)
      have q1' := sq (.ow io2) (.tr K.t) (.fz K.lk) (.ow (K.hs.map encPl)) .un (.fz (encPl qs))
      have am := oSum_ints ((heldBy K.hs qs).map (·.2))
      have tst : ∀ (A : Rho → Fl), (sIf (fB (fOp oGt (.e (fCB oMaxL [(.e (fLst q_l_more_2))])) (.e (ret (.int 10000))))) A sNil) [.ow io2, .tr K.t, .fz K.lk, .ow (K.hs.map encPl), .un, .fz (encPl qs), .fz (encPl (heldBy K.hs qs)), .un, .un] = if tooM K.hs qs = true then A [.ow io2, .tr K.t, .fz K.lk, .ow (K.hs.map encPl), .un, .fz (encPl qs), .fz (encPl (heldBy K.hs qs)), .un, .un] else .nx [.ow io2, .tr K.t, .fz K.lk, .ow (K.hs.map encPl), .un, .fz (encPl qs), .fz (encPl (heldBy K.hs qs)), .un, .un] := by
        intro A
        unfold tooM
        rw [← hmx]
        clear st1 st2 st3 st4 h0
        generalize (heldBy K.hs qs).map (·.2) = ms at *
        generalize encPl qs = qe at *
        generalize encPl (heldBy K.hs qs) = he at *
        generalize K.hs.map encPl = hl at *
        by_cases hh : 10000 < mx
        · simp [q1', am, emx, hh]
        · simp [q1', am, emx, hh]
      cases ht : tooM K.hs qs with
      | true =>
        refine ⟨io2, K, .fz K.lk, .inr rfl, d2, by omega, out_more (ρ' := [.un, .fz (encPl qs), .fz (encPl (heldBy K.hs qs)), .un, .un]) (h3 := .ow (K.hs.map encPl)) ?_⟩
        unfold g_l_more
        rw [seq_nx st1, seq_nx st2, seq_nx st3, seq_nx st4]
        refine seq_ret ?_
        rw [tst, ht, if_pos rfl]
        simp
      | false =>
        have hme : errMade K.hs qs = none := by
          unfold errMade
          rw [if_neg (by rw [← hl]; exact drP_ok dp (by decide) hn), if_neg (by rw [ht]; decide), if_neg (by omega)]
        have hpsM : ∀ l ∈ K.ps ++ [qs], l.length ≤ 3 := fun l h => (List.mem_append.mp h).elim (K.few l) fun z => by rw [List.mem_singleton] at z; subst z; exact fl
        let KM : KB := ⟨K.ps ++ [qs], K.hs ++ [heldBy K.hs qs], errMade_ok H hme, by simp [hl], hpsM⟩
        rw [hme] at em
        dsimp only at em
        have rM : KM.rows = K.rows ++ [.tuple [.bool false, encPl qs, encPl (heldBy K.hs qs)]] := by
          show rowsD (K.ps ++ [qs]) (K.hs ++ [heldBy K.hs qs]) = _
          rw [rows_snoc hl]
          show _ = K.rows ++ _
          congr 1
          unfold rowD
          rw [decide_eq_false hn]
          rfl
        refine ⟨io2, KM, .ow KM.rows, .inl rfl, d2, by show (K.ps ++ [qs]).length ≤ _; simp, out_more (ρ' := [.un, .fz (encPl qs), .fz (encPl (heldBy K.hs qs)), .un, .un]) (h3 := .ow (K.hs.map encPl)) ?_⟩
        unfold g_l_more
        rw [seq_nx st1, seq_nx st2, seq_nx st3, seq_nx st4]
        rw [seq_nx ((tst (sRetG 2)).trans (by rw [ht]; exact if_neg (fun z => nomatch z)))]
        rw [rM]
        have eh : ∃ x, K.t = .nd (.ins "Kinds") x := ⟨_, rfl⟩
        have em' : F_Kinds_made [.o K.t, .l (.ow (qs.map encP))] = .ok (.fz (.int ((K.hs.length : Int) + 1))) [.o KM.t, .l (.ow (qs.map encP))] := by
          exact em
        have eq1 : encPl qs = .list (qs.map encP) := rfl
        clear st1 st2 st3 st4 h0 tst q1' em
        rw [eq1]
        unfold KB.lk
        generalize KM.t = tM at *
        generalize K.rows = rw1 at *
        generalize K.hs.map encPl = hh at *
        generalize encPl (heldBy K.hs qs) = he at *
        generalize qs.map encP = ql at *
        generalize K.t = t at *
        obtain ⟨x, rfl⟩ := eh
        simp [stT, t_at0, t_at1, t_put0, t_put1, List.filterMap_cons, List.filterMap_nil, mkT, mkL, small, Fx.sc, em', lr, hb]
def fr (io : List PyData) (Ks : List KB) (s4 s5 s6 : Sl) : Rho := [.un, .ow io, .tr (.nd .lst (Ks.map KB.t)), .ow (Ks.map KB.lk), s4, s5, s6]
def Pa6 (s : Sl) : Prop := s = .un ∨ ∃ i, s = .pa 2 [i]
theorem Pa6.kill {s : Sl} (h : Pa6 s) (f : List Nat → Bool) (i : Nat) : Pa6 (killS f i s) := by
  rcases h with rfl | ⟨j, rfl⟩
  · exact .inl rfl
  · show Pa6 (if 2 = i ∧ f [j] = false then .un else .pa 2 [j])
    by_cases z : 2 = i ∧ f [j] = false
    · rw [if_pos z]; exact .inl rfl
    · rw [if_neg z]; exact .inr ⟨j, rfl⟩
theorem ixl {n i : Nat} (h : i < n) : ixN n (i : Int) = some i := by rw [ixN_in (by omega) (by omega)]; rfl
theorem step_at {Ks : List KB} {i : Nat} {K : KB} (hi : Ks[i]? = some K) (hlt2 : K.ps.length < 12) {io : List PyData} (dw : Dw io) (ix fb : M PyData) {s4 s5 s6 : Sl} (h4 : Fu s4) (h5 : Fu s5) (h6 : Pa6 s6) (hix : ∀ A B C E, ix [.un, A, B, C, s4, s5, E] = .ok (.int (i : Int), [.un, A, B, C, s4, s5, E])) (hfb : ∀ A B bs E d, atI bs (i : Int) = some d → fb [.un, A, B, .ow bs, s4, s5, E] = .ok (d, [.un, A, B, .ow bs, s4, s5, E])) : ∃ (io' : List PyData) (K' : KB) (s6' : Sl), Dw io' ∧ K'.ps.length ≤ K.ps.length + 1 ∧ Pa6 s6' ∧ (sSetIx 3 (fR (fCallT F_l_more [(.os 1), (.op (plI (plN 2) ix)), (.e fb)])) ix) (fr io Ks s4 s5 s6) = .nx (fr io' (Ks.set i K') s4 s5 s6') := by
  obtain ⟨io', K', r, hr, dw', l', e⟩ := more_n K hlt2 dw
  refine ⟨io', K', killS (kPre [i]) 2 s6, dw', l', h6.kill _ _, ?_⟩
  have hlt : i < Ks.length := (List.getElem?_eq_some_iff.mp hi).1
  have a1 : atI (Ks.map KB.lk) (i : Int) = some K.lk := at_map KB.lk hi
  have t1 : (Ks.map KB.t)[i]? = some K.t := by rw [List.getElem?_map, hi]; rfl
  have x1 : ixN (Ks.map KB.t).length (i : Int) = some i := ixl (by rw [List.length_map]; exact hlt)
  have k1 : kSet K'.lk (.int i) (Ks.map KB.lk) = some ((Ks.map KB.lk).set i K'.lk) := kSet_in (by omega) (by rw [List.length_map]; omega)
  have at1 : (Tr.nd .lst (Ks.map KB.t)).at [i] = some K.t := by unfold Tr.at; rw [t1]; rfl
  have pt1 : (Tr.nd .lst (Ks.map KB.t)).put [i] K'.t = .nd .lst ((Ks.map KB.t).set i K'.t) := by unfold Tr.put; rw [t1]; rfl
  have tt : (Tr.nd .lst (Ks.map KB.t)).at [] = some (.nd .lst (Ks.map KB.t)) := rfl
  have lk' : PyData.list K'.rows = K'.lk := rfl
  have eh : ∃ x, K.t = .nd (.ins "Kinds") x := ⟨_, rfl⟩
  have eh' : ∃ x, K'.t = .nd (.ins "Kinds") x := ⟨_, rfl⟩
  unfold fr
  rw [List.map_set, List.map_set]
  rw [← lk'] at k1 ⊢
  generalize Ks.map KB.t = ts at *
  generalize Ks.map KB.lk = bs at *
  generalize K'.rows = rw' at *
  generalize K'.lk = kl' at *
  subst lk'
  generalize K.lk = kl at *
  generalize K.t = t at *
  generalize K'.t = t' at *
  obtain ⟨x, rfl⟩ := eh
  obtain ⟨x', rfl⟩ := eh'
  have fb1 := fun A B E => hfb A B bs E kl a1
  rcases hr with rfl | rfl <;> simp [stT, t_at0, t_at1, t_put0, t_put1, List.filterMap_cons, List.filterMap_nil, mkT, mkL, small, Fx.sc, e, x1, k1, at1, pt1, tt, sMut, mutO, isOw, hix, fb1, h4.pn _ _, h5.pn _ _]
theorem el_look {Ks : List KB} {i : Nat} {K : KB} (hi : Ks[i]? = some K) (io : List PyData) (s4 s5 : Sl) : (fLst (lR (fCallT F_l_look [(.lp (plN 6))]))) (fr io Ks s4 s5 (.pa 2 [i])) = .ok (K.lk, fr io Ks s4 s5 (.pa 2 [i])) := by
  have e := look_n K
  have t1 : (Ks.map KB.t)[i]? = some K.t := by rw [List.getElem?_map, hi]; rfl
  have at1 : (Tr.nd .lst (Ks.map KB.t)).at [i] = some K.t := by unfold Tr.at; rw [t1]; rfl
  unfold fr KB.lk
  generalize Ks.map KB.t = ts at *
  generalize Ks.map (fun K : KB => PyData.list K.rows) = bs at *
  generalize K.rows = rw1 at *
  generalize K.t = t at *
  simp [stT, t_at0, t_at1, t_put0, t_put1, List.filterMap_cons, List.filterMap_nil, mkT, mkL, small, Fx.sc, e, at1]
theorem lc_look {Ks : List KB} (io : List PyData) {s4 s5 : Sl} (h4 : Fu s4) (h5 : Fu s5) : ∀ (m i f : Nat) (s6 : Sl), i + m = Ks.length → m < f → ∃ s6', lcC (len1 2) (bnd1 6 2) (fLst (lR (fCallT F_l_look [(.lp (plN 6))]))) [6] f i (fr io Ks s4 s5 s6) = .ok ((Ks.drop i).map KB.lk, fr io Ks s4 s5 s6')
  | 0, i, f, s6, hi, hf => by
    obtain ⟨f, rfl⟩ : ∃ k, f = k + 1 := ⟨f - 1, by omega⟩
    refine ⟨s6, ?_⟩
    have hc : len1 2 (wipeR (fr io Ks s4 s5 s6) [6]) = some Ks.length := by
      show some (Ks.map KB.t).length = _
      rw [List.length_map]
    unfold lcC
    rw [hc]
    dsimp only
    rw [if_neg (by omega), List.drop_of_length_le (by omega)]
    rfl
  | m + 1, i, f, s6, hi, hf => by
    obtain ⟨f, rfl⟩ : ∃ k, f = k + 1 := ⟨f - 1, by omega⟩
    have hlt : i < Ks.length := by omega
    have hS : Ks[i]? = some (Ks[i]'hlt) := List.getElem?_eq_getElem hlt
    obtain ⟨s6', e⟩ := lc_look (Ks := Ks) io h4 h5 m (i + 1) f (.pa 2 [i]) (by omega) (by omega)
    refine ⟨s6', ?_⟩
    have hc : len1 2 (wipeR (fr io Ks s4 s5 s6) [6]) = some Ks.length := by
      show some (Ks.map KB.t).length = _
      rw [List.length_map]
    have hb : bnd1 6 2 i (wipeR (fr io Ks s4 s5 s6) [6]) = some (fr io Ks s4 s5 (.pa 2 [i])) := by
      have w : wipeR (fr io Ks s4 s5 s6) [6] = fr io Ks s4 s5 .un := rfl
      rw [w]
      unfold fr
      simp [bnd1, h4.pn _ _, h5.pn _ _]
    have el := el_look hS io s4 s5
    unfold lcC
    rw [hc]
    dsimp only
    rw [if_pos hlt, hb]
    dsimp only
    rw [el]
    dsimp only
    rw [e, List.drop_eq_getElem_cons hlt, List.map_cons]
theorem all_look {Ks : List KB} (hl : Ks.length ≤ 100) (io : List PyData) {s4 s5 s6 : Sl} (h4 : Fu s4) (h5 : Fu s5) : fLcC (len1 2) (bnd1 6 2) (fLst (lR (fCallT F_l_look [(.lp (plN 6))]))) [6] (fr io Ks s4 s5 s6) = .ok (Ks.map KB.lk, fr io Ks s4 s5 (keepFz (some s6))) := by
  obtain ⟨s6', e⟩ := lc_look (Ks := Ks) io h4 h5 Ks.length 0 1000 s6 (by omega) (by omega)
  unfold fLcC
  have hc : (len1 2 (fr io Ks s4 s5 s6)).isSome = true := rfl
  rw [if_pos hc, e]
  rfl
theorem same_lk {Ks : List KB} (hl : Ks.length ≤ 100) : F_l_same [.list (Ks.map KB.lk), .list (Ks.map KB.lk)] = .ok (.fz (.bool true)) := F_same_refl (gd_list (n := 7) (by rw [List.length_map]; omega) (by
  rw [List.all_map]
  refine List.all_eq_true.mpr fun K _ => ?_
  exact gd_lk K))
def K0 : KB := ⟨[], [], HdOk.nil, rfl, fun _ z => absurd z List.not_mem_nil⟩
theorem law_math (ns : List Int) (_ : ns.length ≤ 63) : ∃ ρ', g_law (stLaw 7 ns) = .ret (.fz (.bool true)) ρ' := by
  obtain ⟨x1, io1, e1, d1, l1, g1⟩ := pick_ok (m := 8) (dw_cells ns) (by decide) (by decide)
  have ei := Kinds_init_eq
  obtain ⟨ρ', ef, hi⟩ := forE_inv (g := gSet 4) (s := b_law_1) (fun j ρ => j ≤ x1.toNat → ∃ io K s4 s6, Dw io ∧ K.ps.length ≤ j ∧ Fu s4 ∧ Pa6 s6 ∧ ρ = fr io [K] s4 .un s6) (rng 0 x1.toNat) 0 (fr io1 [K0] .un .un .un) (fun _ => ⟨io1, K0, .un, .un, d1, Nat.le_refl _, .inl rfl, .inl rfl, rfl⟩) (by
    rintro j y ρ hy hi
    obtain ⟨hj, rfl⟩ := rng_get hy
    obtain ⟨io, K, s4, s6, dw, hk, h4, h6, rfl⟩ := hi (by omega)
    rw [Nat.zero_add] at hk ⊢
    obtain ⟨io', K', s6', dw', hk', h6', e⟩ := step_at (Ks := [K]) (i := 0) rfl (by omega) dw (Fx.ret (.int 0)) (fOp oIx (.v 3) (.e (Fx.ret (.int 0)))) (s4 := .fz (.int (0 + (j : Int)))) (s5 := .un) Fu.fz (.inl rfl) h6 (fun _ _ _ _ => rfl) (fun _ _ _ _ _ h => by
      have h : atI _ 0 = _ := h
      simp [h])
    exact ⟨_, _, rfl, .inl e, fun _ => ⟨io', K', _, s6', dw', by omega, Fu.fz, h6', rfl⟩⟩)
  rw [rng_len, Nat.zero_add] at hi
  obtain ⟨io2, K, s4, s6, d2, hk, h4, h6, rfl⟩ := hi (by omega)
  clear hi
  have hk7 : K.ps.length ≤ 7 := Nat.le_trans hk (by omega)
  have r1 := rng1 x1.toNat (by omega)
  rw [Int.toNat_of_nonneg l1] at r1
  have tw : F_Kinds_twin [.l K.t] = .ok (.tr K.t) [.l K.t] := Kinds_twin_eq
  obtain ⟨x2, io3, e3, d3, l3, g3⟩ := pick_ok (m := 5) d2 (by decide) (by decide)
  have x2b : x2.toNat ≤ 4 := by omega
  obtain ⟨ρ2, ef2, hi2⟩ := forE_inv (g := gSet 4) (s := b_law_2) (fun j ρ => j ≤ x2.toNat → ∃ io Ks s4 s5 s6, Dw io ∧ (∀ K ∈ Ks, K.ps.length ≤ 7 + j) ∧ Ks.length = 3 ∧ Fu s4 ∧ Fu s5 ∧ Pa6 s6 ∧ ρ = fr io Ks s4 s5 s6) (rng 0 x2.toNat) 0 (fr io3 [K, K, K] s4 .un .un) (fun _ => ⟨io3, [K, K, K], s4, .un, .un, d3, fun T hT => by
      have : T = K := by simpa using hT
      rw [this]
      exact hk7, rfl, h4, .inl rfl, .inl rfl, rfl⟩) (by
    rintro j y ρ hy hi
    obtain ⟨hj, rfl⟩ := rng_get hy
    obtain ⟨io, Ks, s4, s5, s6, dw, hK, hl, h4, h5, h6, rfl⟩ := hi (by omega)
    rw [Nat.zero_add] at hK ⊢
    obtain ⟨x3, io4, e4, d4, l4, g4⟩ := pick_ok (m := 3) dw (by decide) (by decide)
    have hx : x3.toNat < Ks.length := by omega
    have cx : ((x3.toNat : Nat) : Int) = x3 := Int.toNat_of_nonneg l4
    have hS : Ks[x3.toNat]? = some (Ks[x3.toNat]'hx) := List.getElem?_eq_getElem hx
    have hb := hK _ (List.getElem_mem hx)
    obtain ⟨io', K', s6', dw', hk', h6', e⟩ := step_at hS (Nat.lt_of_le_of_lt hb (Nat.lt_of_lt_of_le (Nat.add_lt_add_left hj 7) (Nat.le_trans (Nat.add_le_add_left x2b 7) (by decide)))) d4 (fVar 5) (fOp oIx (.v 3) (.v 5)) (s4 := .fz (.int (0 + (j : Int)))) (s5 := .fz (.int (x3.toNat : Int))) Fu.fz Fu.fz h6 (fun _ _ _ _ => rfl) (fun _ _ _ _ _ h => by
      generalize (x3.toNat : Int) = xi at *
      simp [h])
    have al := all_look (Ks := Ks.set x3.toNat K') (by rw [List.length_set]; omega) io' (s4 := .fz (.int (0 + (j : Int)))) (s5 := .fz (.int (x3.toNat : Int))) (s6 := s6') Fu.fz Fu.fz
    have sl := same_lk (Ks := Ks.set x3.toNat K') (by rw [List.length_set]; omega)
    have k6 : keepFz (some s6') = .un := by rcases h6' with rfl | ⟨i, rfl⟩ <;> rfl
    rw [k6] at al
    refine ⟨fr io Ks (.fz (.int (0 + (j : Int)))) s5 s6, fr io' (Ks.set x3.toNat K') (.fz (.int (0 + (j : Int)))) (.fz (.int (x3.toNat : Int))) .un, rfl, .inl ?_, fun _ => ⟨io', Ks.set x3.toNat K', _, _, .un, dw', fun T hT => ?_, by rw [List.length_set]; exact hl, Fu.fz, Fu.fz, .inl rfl, rfl⟩⟩
    · unfold b_law_2
      rw [seq_nx (ρ1 := fr io4 Ks (.fz (.int (0 + (j : Int)))) (.fz (.int (x3.toNat : Int))) s6) (by
        rw [cx]
        unfold fr
        generalize Ks.map KB.t = ts at *
        generalize Ks.map KB.lk = bs at *
        simp [e4, h5.pn _ _])]
      rw [seq_nx e]
      have aq : q_law_2 (fr io' (Ks.set x3.toNat K') (.fz (.int (0 + (j : Int)))) (.fz (.int (x3.toNat : Int))) s6') = _ := al
      unfold fr at aq ⊢
      clear e al
      generalize (Ks.set x3.toNat K').map KB.t = ts at *
      generalize (Ks.set x3.toNat K').map KB.lk = bs at *
      generalize PyData.int (x3.toNat : Int) = p5 at *
      generalize PyData.int (0 + (j : Int)) = p4 at *
      simp [aq, sl, Fx.sc]
    · rcases List.mem_or_eq_of_mem_set hT with h | h
      · exact Nat.le_trans (hK T h) (Nat.le_succ _)
      · rw [h]; exact Nat.le_trans hk' (Nat.succ_le_succ hb))
  rw [rng_len, Nat.zero_add] at hi2
  obtain ⟨io4, Ks, s4', s5', s6', d4, hK, hl, h4', h5', h6', rfl⟩ := hi2 (by omega)
  have r2 := rng1 x2.toNat (by omega)
  rw [Int.toNat_of_nonneg l3] at r2
  have al := all_look (Ks := Ks) (by omega) io4 h4' h5' (s6 := s6')
  have sl := same_lk (Ks := Ks) (by omega)
  have k6 : keepFz (some s6') = .un := by rcases h6' with rfl | ⟨i, rfl⟩ <;> rfl
  rw [k6] at al
  have aq : q_law_3 (fr io4 Ks s4' s5' s6') = _ := al
  refine ⟨fr io4 Ks s4' s5' .un, ?_⟩
  unfold g_law
  rw [show (stLaw 7 ns : Rho) = [.un, .ow (cells ns), .un, .un, .un, .un, .un] from rfl]
  rw [seq_nx (ρ1 := [.un, .ow (cells ns), .tr (.nd .lst [kR [] []]), .un, .un, .un, .un]) (by simp [stT, t_at0, t_at1, t_put0, t_put1, List.filterMap_cons, List.filterMap_nil, mkT, mkL, small, Fx.sc, ei])]
  rw [seq_nx (ρ1 := fr (cells ns) [K0] .un .un .un) (by
    have : KB.lk K0 = .list [] := rfl
    unfold fr
    rw [List.map_singleton, List.map_singleton, this]
    simp [stT, t_at0, t_at1, t_put0, t_put1, List.filterMap_cons, List.filterMap_nil, mkT, mkL, small, Fx.sc]
    rfl)]
  rw [seq_nx ((sFor_eq (ds := rng 0 x1.toNat) (ρ1 := fr io1 [K0] .un .un .un) (by
    unfold fr
    simp [e1, r1])).trans ef)]
  have eh : ∃ x, K.t = .nd (.ins "Kinds") x := ⟨_, rfl⟩
  rw [seq_nx (ρ1 := [.un, .ow io2, .tr (.nd .lst [K.t, K.t]), .ow [K.lk], s4, .un, killS (kPre []) 2 s6]) (by
    unfold fr
    rw [List.map_singleton, List.map_singleton]
    have x0 : ixN 1 0 = some 0 := rfl
    generalize K.lk = kl at *
    generalize K.t = t at *
    obtain ⟨x, rfl⟩ := eh
    simp [stT, t_at0, t_at1, t_put0, t_put1, List.filterMap_cons, List.filterMap_nil, mkT, mkL, small, Fx.sc, tw, x0, h4.pn _ _])]
  rw [seq_nx (ρ1 := [.un, .ow io2, .tr (.nd .lst [K.t, K.t, K.t]), .ow [K.lk], s4, .un, killS (kPre []) 2 (killS (kPre []) 2 s6)]) (by
    have x0 : ixN 2 1 = some 1 := rfl
    generalize K.lk = kl at *
    generalize K.t = t at *
    obtain ⟨x, rfl⟩ := eh
    simp [stT, t_at0, t_at1, t_put0, t_put1, List.filterMap_cons, List.filterMap_nil, mkT, mkL, small, Fx.sc, tw, x0, h4.pn _ _])]
  have k7 : killS (kPre []) 2 (killS (kPre []) 2 s6) = .un := by rcases h6 with rfl | ⟨i, rfl⟩ <;> rfl
  rw [k7]
  rw [seq_nx (ρ1 := fr io2 [K, K, K] s4 .un .un) (by
    have q1 : q_law_1 [.un, .ow io2, .tr (.nd .lst [K.t, K.t, K.t]), .ow [K.lk], s4, .un, .un] = .ok ([K.lk, K.lk, K.lk], [.un, .ow io2, .tr (.nd .lst [K.t, K.t, K.t]), .ow [K.lk], keepFz (some s4), .un, .un]) := by
      have a0 : atI [PyData.list K.rows] 0 = some (.list K.rows) := rfl
      have l0 : K.rows.length ≤ 100000 := by have := K.H.few; have := K.hl; rw [rows_len]; omega
      unfold q_law_1 KB.lk
      rw [lc_all (List.range 3) (fun i => PyData.int (i : Int)) (fun _ => PyData.list K.rows) (ρ := [.un, .ow io2, .tr (.nd .lst [K.t, K.t, K.t]), .ow [.list K.rows], s4, .un, .un]) (by
        have r3 : oRng1 [.int 3] = some ((List.range 3).map fun (i : Nat) => PyData.int (i : Int)) := rfl
        simp [r3]) (by decide) fun i hi => ⟨[.un, .ow io2, .tr (.nd .lst [K.t, K.t, K.t]), .ow [.list K.rows], .fz (.int (i : Int)), .un, .un], rfl, [.un, .ow io2, .tr (.nd .lst [K.t, K.t, K.t]), .ow [.list K.rows], .fz (.int (i : Int)), .un, .un], by
          generalize K.rows = rw1 at *
          generalize K.t = t at *
          simp [a0, l0], rfl⟩]
      rfl
    have k4 : keepFz (some s4) = s4 := h4.kp
    rw [k4] at q1
    unfold fr
    show _ = Fl.nx [_, _, .tr (.nd .lst [K.t, K.t, K.t]), .ow [K.lk, K.lk, K.lk], _, _, _]
    generalize K.lk = kl at *
    generalize K.t = t at *
    simp [q1])]
  rw [seq_nx ((sFor_eq (ds := rng 0 x2.toNat) (ρ1 := fr io3 [K, K, K] s4 .un .un) (by
    unfold fr
    simp [e3, r2])).trans ef2)]
  unfold fr at aq ⊢
  generalize Ks.map KB.t = ts at *
  generalize Ks.map KB.lk = bs at *
  simp [aq, sl, Fx.sc]
end K34
namespace K34
open PySem L2 Fx Mm
abbrev R : PySem.W.OpenRow := PySem.W.OpenLaw.row PySem.Challenge.rw_drawback_k34_kinds_and_twins
abbrev hk : PySem.W.Hook := hookQ 5 fa fn tf
def ob (s : PySem.W.SharedT) : He.Al × Bool := obsQG 5 fa fn tf (HandSHeadRun.getT s)
theorem ob_eq (s : PySem.W.SharedT) : ob s = hk.obs s.abs := obsQG_eq (HandSHeadRun.getT_eq s)
def loose : List Str := ([("_wall" : Str), ("CustomsError" : Str), ("BadParts" : Str), ("TooMuch" : Str), ("NoKind" : Str), ("Full" : Str), ("MOST_KINDS" : Str), ("MOST_PARTS" : Str), ("MOST_HELD" : Str), ("Kinds" : Str), ("_law_pick" : Str), ("_law_parts" : Str), ("_law_holding" : Str), ("_law_begin" : Str), ("_law_same" : Str), ("_law_look" : Str), ("_law_more" : Str)] : List Str)
theorem run (w : World) : HandSHeadRun.RunEq R (PySem.W.view R.prog [20]) hk ob 4000 loose w := by
  intro os
  kernel_rfl
end K34
open PySem PySem.W PySem.Calls PyProof.Rows
set_option maxHeartbeats 0 in
theorem PySem.Challenge.cw_drawback_k34_kinds_and_twins_holds : PySem.Challenge.rw_drawback_k34_kinds_and_twins.Holds := by
  w_on; o_law
  refine HandSHeadRun.head_any (r := OpenLaw.row PySem.Challenge.rw_drawback_k34_kinds_and_twins) (q := view (OpenLaw.row PySem.Challenge.rw_drawback_k34_kinds_and_twins).prog [20]) (H := K34.hk) (ob := K34.ob) (M := 4000) (loose := K34.loose) (d := HandSHeadRun.topDef (OpenLaw.row PySem.Challenge.rw_drawback_k34_kinds_and_twins).prog 20) (kwd := []) K34.ob_eq
    (by kernel_rfl) (fun s => by kernel_rfl) K34.run (by kernel_rfl) (by kernel_rfl) (by kernel_rfl) (by rfl) (by first | assumption | decide +kernel) (by decide +kernel) ⟨rfl, rfl, rfl, rfl, rfl, by decide +kernel⟩ ?hw ?hc
  case hw => w_witness2
  case hc =>
    refine LamX.walk_ofTsE (l := PySem.Challenge.rw_drawback_k34_kinds_and_twins) (n := 63) (k := 10) (x := "_law_script") (CX := fun _ => L2.CX0) rfl (by decide) (by kernel_rfl) ⟨rfl, by decide, by decide⟩ ?F (fun _ _ _ _ _ z => z)
    intro w mg fa h Y G hmg0
    obtain ⟨K, KX, c, t⟩ := Y
    have hmg : mg ("law" : PySem.Str) = some (.ref fa) := by
      have e : (HandSHeadRun.topDef (OpenLaw.row PySem.Challenge.rw_drawback_k34_kinds_and_twins).prog 20).name = ("law" : PySem.Str) := by kernel_rfl
      rw [← e]
      exact hmg0
    have T : Fx.Top K34.fa K34.fn K mg := ⟨c, h, KX, G⟩
    have e := hmg.symm.trans (T.glo 48 (x := "law"))
    cases e
    exact ⟨K, KX, Fx.law_at c t KX G (T.def_ (x := "law") (st := K34.s_law) 20) (fun _ _ _ _ _ _ _ _ => BindsTo.of_eq rfl) (fun base T => @K34.c_law (Fx.tzOf K34.tf K) _ _ _ _ _ T) (fun ns hl => @K34.law_math ⟨[], fun _ => 0⟩ ns hl)⟩
