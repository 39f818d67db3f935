import PyProof.Rows.All
import Wide.All
import OpenK.AllK
import Wide.FinOn
import PySem.Challenge.RW_drawback_k16_papers_that_are_told
import HandS.ForMost
import HandS.ForExc
import HandS.IsInst
import HandS.Wide
import HandS.Conv
import HandS.Lambda
import HandS.Zip
import HandS.HeadHook4
import HandS.Deep
import HandS.ExcIs
import HandS.HeadHook1
import HandS.HeadWalk
import HandS.EndTab
import HandS.Head0
import HandS.Head1
import HandS.Head2
import HandS.HeadEnd
import HandS.TupAny
import HandS.More
import HandS.ExcValue
import KE.SortKeyHeap
import KE.KSortKey
import KE.KLam
import PyProof.Rows.SeqItemCall
import PyProof.Rows.CallKwBuiltin
import HandS.Style
import HandS.SortInts
import HandS.Set
import HandS.SetFor
import HandS.Strs
import HandS.Iter
import HandS.TupLe
import KE.GoesEnum
import KE.GoesMore
import HandS.SortRule
import HandS.Flow
import HandS.TupSets
import HandS.TryOnly
set_option Elab.async false
set_option linter.all false
set_option maxRecDepth 100000
set_option maxHeartbeats 8000000
namespace Fx
open PySem L2
class Tabz where
  T : List (Addr × Str)
  cA : Str → Addr
variable [Tabz]
def NT (o : HO) : Prop := ∀ ps, o ≠ .tbl ps
def NtH (H : Hp) : Prop := ∀ a ps, H a ≠ some (.tbl ps)
def Tb (H : Hp) : Prop := LamX.Tabs Tabz.T H
abbrev D := PyData
def flds (c : Str) : List Str := if c = "Kinds" then ["part_rows", "held"] else if c = "House" then ["term", "limit", "share", "goods", "lot_rows", "out_rows", "claim_rows", "past", "future"] else if c = "Desk" then ["house"] else []
def instD (c : Str) (ds : List PyData) : PyData := .dict [(.none, .str c), (.none, .tuple ds)]
inductive Nk where
  | lst | tup
  | ins (c : Str)
  | dct (ks : List Key)
inductive Tr where
  | fz (d : D)
  | ow (ds : List D)
  | dk (ks : List Key) (ds : List D)
  | dt (ks : List (List Key)) (ds : List D)
  | nd (k : Nk) (ts : List Tr)
inductive Sl where
  | un
  | fz (d : D)
  | ow (ds : List D)
  | raw (v : V)
  | tr (t : Tr)
  | lk (t : Tr)
  | pa (i : Nat) (q : List Nat)
abbrev Rho := List Sl
def kD : Key → D
  | .inl i => .int i
  | .inr x => .str x
mutual
/-- the value v is the data d, all of it tracked -/
inductive Rep (H : Hp) : V → D → Prop
  | non : Rep H .non .none
  | bl (b : Bool) : Rep H (.bl b) (.bool b)
  | int (i : Int) : Rep H (.int i) (.int i)
  | str (x : Str) : Rep H (.str x) (.str x)
  | lst {a : Addr} {xs : List V} {ds : List D} : H a = some (.lst xs) → RepA H xs ds → Rep H (.ref a) (.list ds)
  | tup {a : Addr} {xs : List V} {ds : List D} : H a = some (.tup xs) → RepA H xs ds → Rep H (.ref a) (.tuple ds)
  | ins {a dx : Addr} {c : Str} {xs : List V} {ds : List D} : H a = some (.ins (Tabz.cA c) dx ((flds c).zip xs)) → xs.length ≤ (flds c).length → RepA H xs ds → Rep H (.ref a) (instD c ds)
  | dct {a : Addr} {ks : List Key} {xs : List V} {ds : List D} : H a = some (.dK (ks.zip xs)) → ks.length = xs.length → RepA H xs ds → Rep H (.ref a) (.dict ((ks.map kD).zip ds))
inductive RepA (H : Hp) : List V → List D → Prop
  | nil : RepA H [] []
  | cons {v : V} {vs : List V} {d : D} {ds : List D} : Rep H v d → RepA H vs ds → RepA H (v :: vs) (d :: ds)
end
inductive Out (α : Type) where
  | ok (a : α)
  | exc (c : Str)
  | bad
def NodeOk (H : Hp) (p : Addr) : Nk → List V → Prop
  | .lst, vs => H p = some (.lst vs)
  | .tup, vs => H p = some (.tup vs)
  | .ins c, vs => vs.length ≤ (flds c).length ∧ ∃ dx, H p = some (.ins (Tabz.cA c) dx ((flds c).zip vs))
  | .dct ks, vs => ks.length = vs.length ∧ H p = some (.dK (ks.zip vs))
mutual
/-- the value v is the tree t, whose own objects are F -/
inductive TR (Hf H : Hp) : V → Tr → List Addr → Prop
  | fz {v : V} {d : D} : Rep Hf v d → TR Hf H v (.fz d) []
  | ow {p : Addr} {vs : List V} {ds : List D} : H p = some (.lst vs) → RepA Hf vs ds → TR Hf H (.ref p) (.ow ds) [p]
  | dk {p : Addr} {ks : List Key} {vs : List V} {ds : List D} : H p = some (.dK (ks.zip vs)) → ks.length = vs.length → RepA Hf vs ds → TR Hf H (.ref p) (.dk ks ds) [p]
  | dt {p : Addr} {ks : List (List Key)} {vs : List V} {ds : List D} : H p = some (.dT (ks.zip vs)) → ks.length = vs.length → RepA Hf vs ds → TR Hf H (.ref p) (.dt ks ds) [p]
  | nd {p : Addr} {k : Nk} {vs : List V} {ts : List Tr} {F : List Addr} : NodeOk H p k vs → TRs Hf H vs ts F → TR Hf H (.ref p) (.nd k ts) (p :: F)
inductive TRs (Hf H : Hp) : List V → List Tr → List Addr → Prop
  | nil : TRs Hf H [] [] []
  | cons {v : V} {vs : List V} {t : Tr} {ts : List Tr} {F F' : List Addr} : TR Hf H v t F → TRs Hf H vs ts F' → TRs Hf H (v :: vs) (t :: ts) (F ++ F')
end
inductive At (H : Hp) : V → Tr → List Nat → V → Tr → Prop
  | nil {v : V} {t : Tr} : At H v t [] v t
  | cons {p : Addr} {k : Nk} {vs : List V} {ts : List Tr} {n : Nat} {v w : V} {t s : Tr} {q : List Nat} : NodeOk H p k vs → vs[n]? = some v → ts[n]? = some t → At H v t q w s → At H (.ref p) (.nd k ts) (n :: q) w s
theorem NodeOk.inj {H : Hp} {p : Addr} : ∀ {k : Nk} {vs ws : List V}, NodeOk H p k vs → NodeOk H p k ws → vs = ws
  | .lst, vs, ws, h, h' => by
    have h : H p = some (.lst vs) := h
    have h' : H p = some (.lst ws) := h'
    rw [h] at h'; cases h'; rfl
  | .tup, vs, ws, h, h' => by
    have h : H p = some (.tup vs) := h
    have h' : H p = some (.tup ws) := h'
    rw [h] at h'; cases h'; rfl
  | .ins c, vs, ws, ⟨l, dx, h⟩, ⟨l', dx', h'⟩ => by
    rw [h] at h'
    simp only [Option.some.injEq, HO.ins.injEq, true_and] at h'
    have e := congrArg (List.map Prod.snd) h'.2
    rwa [List.map_snd_zip (by omega), List.map_snd_zip (by omega)] at e
  | .dct ks, vs, ws, ⟨l, h⟩, ⟨l', h'⟩ => by
    rw [h] at h'
    simp only [Option.some.injEq, HO.dK.injEq] at h'
    have e := congrArg (List.map Prod.snd) h'
    rwa [List.map_snd_zip (by omega), List.map_snd_zip (by omega)] at e
theorem NodeOk.obj {H : Hp} {p : Addr} : ∀ {k : Nk} {vs : List V}, NodeOk H p k vs → ∃ o, H p = some o ∧ NT o
  | .lst, vs, h => ⟨_, h, fun _ z => nomatch z⟩
  | .tup, vs, h => ⟨_, h, fun _ z => nomatch z⟩
  | .ins c, vs, ⟨_, dx, h⟩ => ⟨_, h, fun _ z => nomatch z⟩
  | .dct ks, vs, ⟨_, h⟩ => ⟨_, h, fun _ z => nomatch z⟩
theorem NodeOk.of {H H' : Hp} {p : Addr} (e : H' p = H p) : ∀ {k : Nk} {vs : List V}, NodeOk H p k vs → NodeOk H' p k vs
  | .lst, vs, h => (show H' p = _ from e.trans h)
  | .tup, vs, h => (show H' p = _ from e.trans h)
  | .ins c, vs, ⟨l, dx, h⟩ => ⟨l, dx, e.trans h⟩
  | .dct ks, vs, ⟨l, h⟩ => ⟨l, e.trans h⟩
mutual
theorem TR.inj {Hf Hf' H : Hp} : ∀ {v : V} {t : Tr} {F F' : List Addr}, TR Hf H v t F → TR Hf' H v t F' → F = F'
  | _, _, _, _, .fz _, .fz _ => rfl
  | _, _, _, _, .ow _ _, .ow _ _ => rfl
  | _, _, _, _, .dk _ _ _, .dk _ _ _ => rfl
  | _, _, _, _, .dt _ _ _, .dt _ _ _ => rfl
  | _, _, _, _, .nd h a, .nd h' a' => by
    have e := h.inj h'
    subst e
    rw [TRs.inj a a']
theorem TRs.inj {Hf Hf' H : Hp} : ∀ {vs : List V} {ts : List Tr} {F F' : List Addr}, TRs Hf H vs ts F → TRs Hf' H vs ts F' → F = F'
  | _, _, _, _, .nil, .nil => rfl
  | _, _, _, _, .cons h a, .cons h' a' => by rw [TR.inj h h', TRs.inj a a']
end
mutual
/-- its objects are there -/
theorem TR.obj {Hf H : Hp} : ∀ {v : V} {t : Tr} {F : List Addr}, TR Hf H v t F → ∀ a ∈ F, ∃ o, H a = some o ∧ NT o
  | _, _, _, .fz _, a, z => nomatch z
  | _, _, _, .ow h _, a, z => by
    rw [List.mem_singleton] at z; subst z
    exact ⟨_, h, fun _ y => nomatch y⟩
  | _, _, _, .dk h _ _, a, z => by
    rw [List.mem_singleton] at z; subst z
    exact ⟨_, h, fun _ y => nomatch y⟩
  | _, _, _, .dt h _ _, a, z => by
    rw [List.mem_singleton] at z; subst z
    exact ⟨_, h, fun _ y => nomatch y⟩
  | _, _, _, .nd h k, a, z => by
    rcases List.mem_cons.mp z with e | z
    · subst e; exact h.obj
    · exact TRs.obj k a z
theorem TRs.obj {Hf H : Hp} : ∀ {v : List V} {t : List Tr} {F : List Addr}, TRs Hf H v t F → ∀ a ∈ F, ∃ o, H a = some o ∧ NT o
  | _, _, _, .nil, a, z => nomatch z
  | _, _, _, .cons h k, a, z => (List.mem_append.mp z).elim (TR.obj h a) (TRs.obj k a)
end
def OwnS (H : Hp) (v : V) : Sl → Addr → Prop
  | .ow _, a => v = .ref a
  | .tr t, a => ∃ Hf F, TR Hf H v t F ∧ a ∈ F
  | _, _ => False
def OwnI (H : Hp) (σ : St) (ρ : Rho) (i : Nat) (a : Addr) : Prop := ∃ s v, ρ[i]? = some s ∧ σ[i]? = some (some v) ∧ OwnS H v s a
def OwnA (H : Hp) (σ : St) (ρ : Rho) (a : Addr) : Prop := ∃ i, OwnI H σ ρ i a
def LkA (H : Hp) (σ : St) (ρ : Rho) (a : Addr) : Prop := ∃ (i : Nat) (t : Tr) (v : V) (Hf : Hp) (F : List Addr), ρ[i]? = some (Sl.lk t) ∧ σ[i]? = some (some v) ∧ TR Hf H v t F ∧ a ∈ F
def SlOk (Hf H : Hp) : Option (Option V) → Sl → Prop
  | _, .un => True
  | some (some v), .fz d => Rep Hf v d
  | some (some w), .raw v => w = v
  | some (some (.ref p)), .ow ds => Hf p = none ∧ ∃ vs, H p = some (.lst vs) ∧ RepA Hf vs ds
  | some (some v), .tr t => ∃ F, TR Hf H v t F ∧ F.Nodup ∧ ∀ a ∈ F, Hf a = none
  | some (some v), .lk t => ∃ F, TR Hf H v t F
  | _, .pa _ _ => True
  | _, _ => False
def isTr (ρ : Rho) (i : Nat) (t : Tr) : Prop := ρ[i]? = some (.tr t) ∨ ρ[i]? = some (.lk t)
structure Rp (Hf H : Hp) (σ : St) (ρ : Rho) : Prop where
  sub : Same Hf H
  tb : Tb H
  nt : NtH Hf
  len : ρ.length ≤ σ.length
  sl : ∀ (i : Nat) (s : Sl), ρ[i]? = some s → SlOk Hf H σ[i]? s
  nd : ∀ (i j : Nat) (a : Addr), OwnI H σ ρ i a → OwnI H σ ρ j a → i = j
  lk : ∀ a, LkA H σ ρ a → ¬ OwnA H σ ρ a
  al : ∀ (j i : Nat) (q : List Nat) (t : Tr), ρ[j]? = some (.pa i q) → isTr ρ i t → ∃ v w s, σ[i]? = some (some v) ∧ σ[j]? = some (some w) ∧ At H v t q w s
def Keep (σ : St) (ρ : Rho) (H H' : Hp) : Prop := ∀ a o, H a = some o → NT o → ¬ OwnA H σ ρ a → H' a = some o
def Quiet (σ : St) (ρ : Rho) (H : Hp) (σ' : St) (ρ' : Rho) (H' : Hp) : Prop := ∀ i t, ρ[i]? = some (.tr t) → ρ'[i]? = some (.tr t) ∧ σ'[i]? = σ[i]? ∧ ∀ a, OwnI H σ ρ i a → H' a = H a
def Stay (σ : St) (ρ : Rho) (σ' : St) (ρ' : Rho) : Prop := ∀ i : Nat, (∃ t : Tr, ρ[i]? = some (Sl.lk t)) ∨ (∃ (k : Nat) (q : List Nat), ρ[i]? = some (Sl.pa k q)) → ρ'[i]? = ρ[i]? ∧ σ'[i]? = σ[i]?
structure Nxt (q : Bool) (σ : St) (ρ : Rho) (Hf H : Hp) (σ' : St) (ρ' : Rho) (Hf' H' : Hp) : Prop where
  sub : Same Hf Hf'
  keep : Keep σ ρ H H'
  os : ∀ a, OwnA H' σ' ρ' a → OwnA H σ ρ a ∨ H a = none
  ls : ∀ a, LkA H' σ' ρ' a → LkA H σ ρ a
  dom : ∀ a, H' a = none → H a = none
  fr : ∀ a, Hf a = none → Hf' a = none ∨ H a = none ∨ OwnA H σ ρ a
  qt : q = true → Quiet σ ρ H σ' ρ' H' ∧ Stay σ ρ σ' ρ'
  rp : Rp Hf' H' σ' ρ'
section
variable {q : Bool} {Hf Hf1 Hf2 H H1 H2 H' Hf' : Hp} {σ σ1 σ2 σ' : St} {ρ ρ1 ρ2 ρ' : Rho}
mutual
theorem rep_same (e : Same Hf Hf') : ∀ {v : V} {d : D}, Rep Hf v d → Rep Hf' v d
  | _, _, .non => .non
  | _, _, .bl b => .bl b
  | _, _, .int i => .int i
  | _, _, .str x => .str x
  | _, _, .lst h a => .lst (e _ _ h) (repA_same e a)
  | _, _, .tup h a => .tup (e _ _ h) (repA_same e a)
  | _, _, .ins h l a => .ins (e _ _ h) l (repA_same e a)
  | _, _, .dct h l a => .dct (e _ _ h) l (repA_same e a)
theorem repA_same (e : Same Hf Hf') : ∀ {v : List V} {d : List D}, RepA Hf v d → RepA Hf' v d
  | _, _, .nil => .nil
  | _, _, .cons h a => .cons (rep_same e h) (repA_same e a)
end
mutual
theorem TR.mono (e : Same Hf Hf') : ∀ {v : V} {t : Tr} {F : List Addr}, TR Hf H v t F → (∀ a ∈ F, H' a = H a) → TR Hf' H' v t F
  | _, _, _, .fz r, _ => .fz (rep_same e r)
  | _, _, _, .ow h r, k => .ow ((k _ (List.mem_singleton.mpr rfl)).trans h) (repA_same e r)
  | _, _, _, .dk h l r, k => .dk ((k _ (List.mem_singleton.mpr rfl)).trans h) l (repA_same e r)
  | _, _, _, .dt h l r, k => .dt ((k _ (List.mem_singleton.mpr rfl)).trans h) l (repA_same e r)
  | _, _, _, .nd h r, k => .nd (h.of (k _ List.mem_cons_self)) (TRs.mono e r fun a z => k a (List.mem_cons_of_mem _ z))
theorem TRs.mono (e : Same Hf Hf') : ∀ {v : List V} {t : List Tr} {F : List Addr}, TRs Hf H v t F → (∀ a ∈ F, H' a = H a) → TRs Hf' H' v t F
  | _, _, _, .nil, _ => .nil
  | _, _, _, .cons h r, k => .cons (TR.mono e h fun a z => k a (List.mem_append_left _ z)) (TRs.mono e r fun a z => k a (List.mem_append_right _ z))
end
theorem TRs.len : ∀ {vs : List V} {ts : List Tr} {F : List Addr}, TRs Hf H vs ts F → vs.length = ts.length
  | _, _, _, .nil => rfl
  | _, _, _, .cons _ r => by rw [List.length_cons, List.length_cons, r.len]
theorem TRs.get : ∀ {vs : List V} {ts : List Tr} {F : List Addr} {n : Nat} {v : V} {t : Tr}, TRs Hf H vs ts F → vs[n]? = some v → ts[n]? = some t → ∃ L M R, F = L ++ (M ++ R) ∧ TR Hf H v t M
  | _, _, _, 0, v, t, .cons (F := F) (F' := F') h r, e1, e2 => by
    simp only [List.getElem?_cons_zero, Option.some.injEq] at e1 e2
    subst e1 e2
    exact ⟨[], F, F', rfl, h⟩
  | _, _, _, n + 1, v, t, .cons (F := F) (F' := F') h r, e1, e2 => by
    simp only [List.getElem?_cons_succ] at e1 e2
    obtain ⟨L, M, R, e, z⟩ := TRs.get r e1 e2
    exact ⟨F ++ L, M, R, by rw [e, List.append_assoc], z⟩
  | _, _, _, _, _, _, .nil, e1, _ => by simp at e1
theorem TRs.set {s : Tr} : ∀ {vs : List V} {ts : List Tr} {F : List Addr} {n : Nat} {v : V} {t : Tr}, TRs Hf H vs ts F → vs[n]? = some v → ts[n]? = some t → ∃ L M R, F = L ++ (M ++ R) ∧ TR Hf H v t M ∧ ∀ {Hf' H' : Hp} {w : V} {M' : List Addr}, Same Hf Hf' → (∀ a, a ∈ L ∨ a ∈ R → H' a = H a) → TR Hf' H' w s M' → TRs Hf' H' (vs.set n w) (ts.set n s) (L ++ (M' ++ R))
  | _, _, _, 0, v, t, .cons (F := F) (F' := F') h r, e1, e2 => by
    simp only [List.getElem?_cons_zero, Option.some.injEq] at e1 e2
    subst e1 e2
    refine ⟨[], F, F', rfl, h, fun {Hf' H' w M'} e k z => ?_⟩
    rw [List.nil_append]
    exact .cons z (TRs.mono e r fun a y => k a (.inr y))
  | _, _, _, n + 1, v, t, .cons (F := F) (F' := F') h r, e1, e2 => by
    simp only [List.getElem?_cons_succ] at e1 e2
    obtain ⟨L, M, R, e, z, y⟩ := TRs.set (s := s) r e1 e2
    refine ⟨F ++ L, M, R, by rw [e, List.append_assoc], z, fun {Hf' H' w M'} e k z => ?_⟩
    rw [List.append_assoc]
    exact .cons (TR.mono e h fun a y => k a (.inl (List.mem_append_left _ y))) (y e (fun a x => k a (x.imp (fun u => List.mem_append_right _ u) id)) z)
  | _, _, _, _, _, _, .nil, e1, _ => by simp at e1
def Tr.at : Tr → List Nat → Option Tr
  | t, [] => some t
  | .nd _ ts, n :: q => match ts[n]? with
    | some t => t.at q
    | none => none
  | _, _ :: _ => none
def Tr.put : Tr → List Nat → Tr → Tr
  | _, [], s => s
  | .nd k ts, n :: q, s => match ts[n]? with
    | some t => .nd k (ts.set n (t.put q s))
    | none => .nd k ts
  | t, _ :: _, _ => t
theorem set_same {α : Type} : ∀ {l : List α} {n : Nat} {x : α}, l[n]? = some x → l.set n x = l
  | _ :: _, 0, _, h => by simp at h; subst h; rfl
  | _ :: l, n + 1, _, h => by simp only [List.getElem?_cons_succ] at h; rw [List.set_cons_succ, set_same h]
  | [], _, _, h => by simp at h
theorem TR.focus {s s' : Tr} : ∀ {qs : List Nat} {v : V} {t : Tr} {F : List Addr}, TR Hf H v t F → t.at qs = some s → ∃ w L M R, At H v t qs w s ∧ F = L ++ (M ++ R) ∧ TR Hf H w s M ∧ ∀ {Hf' H' : Hp} {M' : List Addr}, Same Hf Hf' → (∀ a, a ∈ L ∨ a ∈ R → H' a = H a) → TR Hf' H' w s' M' → TR Hf' H' v (t.put qs s') (L ++ (M' ++ R))
  | [], v, t, F, h, e => by
    cases t <;> (simp only [Tr.at, Option.some.injEq] at e; subst e; exact ⟨v, [], F, [], .nil, by simp, h, fun e k z => by simpa [Tr.put] using z⟩)
  | n :: qs, _, _, _, .nd (p := p) (k := k) (vs := vs) (ts := ts) (F := F) hn r, e => by
    simp only [Tr.at] at e
    cases e1 : ts[n]? with
    | none => rw [e1] at e; cases e
    | some t1 =>
      rw [e1] at e
      have hlen : vs.length = ts.length := by
        exact r.len
      obtain ⟨v1, e2⟩ : ∃ v1, vs[n]? = some v1 := by
        have : n < ts.length := (List.getElem?_eq_some_iff.mp e1).1
        exact ⟨vs[n], List.getElem?_eq_getElem (by omega)⟩
      obtain ⟨L, M, R, eF, h1, st⟩ := TRs.set (s := t1.put qs s') r e2 e1
      obtain ⟨w, L1, M1, R1, a1, eM, h2, st2⟩ := TR.focus (s' := s') (qs := qs) h1 e
      refine ⟨w, p :: (L ++ L1), M1, R1 ++ R, .cons hn e2 e1 a1, by rw [eF, eM]; simp [List.append_assoc], h2, fun {Hf' H' M'} es kp z => ?_⟩
      have z2 := st2 es (fun a y => kp a (y.imp (fun u => List.mem_cons_of_mem _ (List.mem_append_right _ u)) (fun u => List.mem_append_left _ u))) z
      have z3 := st es (fun a y => kp a (y.imp (fun u => List.mem_cons_of_mem _ (List.mem_append_left _ u)) (fun u => List.mem_append_right _ u))) z2
      rw [set_same e2] at z3
      have z4 := TR.nd (k := k) (hn.of (kp p (.inl List.mem_cons_self))) z3
      simp only [Tr.put, e1]
      have el : p :: (L ++ L1) ++ (M' ++ (R1 ++ R)) = p :: (L ++ (L1 ++ (M' ++ R1) ++ R)) := by simp [List.append_assoc]
      rw [el]
      exact z4
  | _ :: _, _, _, _, .fz _, e => by simp [Tr.at] at e
  | _ :: _, _, _, _, .ow _ _, e => by simp [Tr.at] at e
  | _ :: _, _, _, _, .dk _ _ _, e => by simp [Tr.at] at e
  | _ :: _, _, _, _, .dt _ _ _, e => by simp [Tr.at] at e
theorem At.inj {v w w' : V} {t s s' : Tr} {qs : List Nat} (h : At H v t qs w s) (h' : At H v t qs w' s') : w = w' ∧ s = s' := by
  induction h with
  | nil => cases h'; exact ⟨rfl, rfl⟩
  | cons a b c d ih =>
    cases h' with
    | cons a' b' c' d' =>
      have e := a.inj a'
      subst e
      rw [b] at b'; cases b'
      rw [c] at c'; cases c'
      exact ih d'
theorem At.at {v w : V} {t s : Tr} {qs : List Nat} (h : At H v t qs w s) : t.at qs = some s := by
  induction h with
  | nil => cases ‹Tr› <;> rfl
  | cons a b c d ih => simp only [Tr.at, c]; exact ih
theorem At.mono {v w : V} {t s : Tr} {qs : List Nat} (h : At H v t qs w s) : ∀ {Hf : Hp} {F : List Addr}, TR Hf H v t F → (∀ a ∈ F, H' a = H a) → At H' v t qs w s := by
  induction h with
  | nil => intros; exact .nil
  | @cons p k vs ts n v w t s q a b c d ih =>
    intro Hf F r e
    cases r with
    | nd a' r' =>
      have ev := a.inj a'
      subst ev
      obtain ⟨L, M, R, eF, z⟩ := TRs.get r' b c
      refine .cons (a.of (e p List.mem_cons_self)) b c (ih z fun x y => e x (List.mem_cons_of_mem _ ?_))
      rw [eF]
      exact List.mem_append_right _ (List.mem_append_left _ y)
theorem TR.atv {v w : V} {t s : Tr} {qs : List Nat} {F : List Addr} (r : TR Hf H v t F) (h : At H v t qs w s) : ∃ M, TR Hf H w s M ∧ ∀ a ∈ M, a ∈ F := by
  obtain ⟨w', L, M, R, h', e, z, _⟩ := r.focus (s' := .fz .none) h.at
  obtain ⟨e1, _⟩ := h.inj h'
  subst e1
  exact ⟨M, z, fun a y => by rw [e]; exact List.mem_append_right _ (List.mem_append_left _ y)⟩
theorem slok_un {o : Option (Option V)} : SlOk Hf H o .un := by
  cases o with
  | none => trivial
  | some o => cases o <;> trivial
theorem slok_pa {o : Option (Option V)} {i : Nat} {qs : List Nat} : SlOk Hf H o (.pa i qs) := by
  match o with
  | none => trivial
  | some none => trivial
  | some (some v) => cases v <;> trivial
theorem slok_fz {v : V} {d : D} : SlOk Hf H (some (some v)) (.fz d) ↔ Rep Hf v d := by cases v <;> exact Iff.rfl
theorem slok_fz' {o : Option (Option V)} {d : D} (h : SlOk Hf H o (.fz d)) : ∃ v, o = some (some v) ∧ Rep Hf v d := by
  match o, h with
  | some (some v), h => exact ⟨v, rfl, slok_fz.mp h⟩
  | none, h => exact h.elim
  | some none, h => exact h.elim
theorem slok_tr {v : V} {t : Tr} : SlOk Hf H (some (some v)) (.tr t) ↔ ∃ F, TR Hf H v t F ∧ F.Nodup ∧ ∀ a ∈ F, Hf a = none := by cases v <;> exact Iff.rfl
theorem slok_tr' {o : Option (Option V)} {t : Tr} (h : SlOk Hf H o (.tr t)) : ∃ v F, o = some (some v) ∧ TR Hf H v t F ∧ F.Nodup ∧ ∀ a ∈ F, Hf a = none := by
  match o, h with
  | some (some v), h =>
    obtain ⟨F, h⟩ := slok_tr.mp h
    exact ⟨v, F, rfl, h⟩
  | none, h => exact h.elim
  | some none, h => exact h.elim
theorem slok_lk {v : V} {t : Tr} : SlOk Hf H (some (some v)) (.lk t) ↔ ∃ F, TR Hf H v t F := by cases v <;> exact Iff.rfl
theorem slok_lk' {o : Option (Option V)} {t : Tr} (h : SlOk Hf H o (.lk t)) : ∃ v F, o = some (some v) ∧ TR Hf H v t F := by
  match o, h with
  | some (some v), h =>
    obtain ⟨F, h⟩ := slok_lk.mp h
    exact ⟨v, F, rfl, h⟩
  | none, h => exact h.elim
  | some none, h => exact h.elim
theorem slok_ow {o : Option (Option V)} {ds : List D} (h : SlOk Hf H o (.ow ds)) : ∃ p vs, o = some (some (.ref p)) ∧ Hf p = none ∧ H p = some (.lst vs) ∧ RepA Hf vs ds := by
  match o, h with
  | some (some (.ref p)), ⟨h1, vs, h2, h3⟩ => exact ⟨p, vs, rfl, h1, h2, h3⟩
  | none, h => exact h.elim
  | some none, h => exact h.elim
theorem slok_raw {w v : V} : SlOk Hf H (some (some w)) (.raw v) ↔ w = v := by cases w <;> exact Iff.rfl
theorem owns_ok {v : V} {s : Sl} {a : Addr} (h : SlOk Hf H (some (some v)) s) (o : OwnS H v s a) : Hf a = none ∧ ∃ u, H a = some u ∧ NT u := by
  cases s with
  | ow ds =>
    cases (show v = .ref a from o)
    obtain ⟨h1, vs, h2, _⟩ := h
    exact ⟨h1, _, h2, fun _ z => nomatch z⟩
  | tr t =>
    obtain ⟨Hf0, F0, r0, m⟩ := o
    obtain ⟨F, r, _, h2⟩ := slok_tr.mp h
    have e := r.inj r0
    subst e
    exact ⟨h2 a m, r.obj a m⟩
  | un => exact o.elim
  | fz _ => exact o.elim
  | raw _ => exact o.elim
  | lk _ => exact o.elim
  | pa _ _ => exact o.elim
theorem Rp.ownI (r : Rp Hf H σ ρ) {i : Nat} {a : Addr} (h : OwnI H σ ρ i a) : Hf a = none ∧ ∃ u, H a = some u ∧ NT u := by
  obtain ⟨s, v, e1, e2, o⟩ := h
  have q := r.sl i s e1
  rw [e2] at q
  exact owns_ok q o
theorem Rp.own (r : Rp Hf H σ ρ) {a : Addr} (h : OwnA H σ ρ a) : Hf a = none ∧ ∃ u, H a = some u ∧ NT u := r.ownI h.choose_spec
theorem Rp.lka (r : Rp Hf H σ ρ) {a : Addr} (h : LkA H σ ρ a) : ∃ u, H a = some u ∧ NT u := by
  obtain ⟨i, t, v, Hf0, F, e1, e2, z, m⟩ := h
  exact z.obj a m
theorem ownS_iff {v : V} {s : Sl} (hk : ∀ a, OwnS H v s a → H' a = H a) (hs : SlOk Hf H (some (some v)) s) (a : Addr) : OwnS H' v s a ↔ OwnS H v s a := by
  cases s with
  | tr t =>
    obtain ⟨F, r, _, _⟩ := slok_tr.mp hs
    have kk : ∀ a ∈ F, H' a = H a := fun a m => hk a ⟨Hf, F, r, m⟩
    have r' := r.mono (Same.refl _) kk
    constructor
    · rintro ⟨Hf0, F0, r0, m⟩
      have e := r'.inj r0
      subst e
      exact ⟨Hf, _, r, m⟩
    · rintro ⟨Hf0, F0, r0, m⟩
      have e := r.inj r0
      subst e
      exact ⟨Hf, _, r', m⟩
  | ow _ => exact Iff.rfl
  | un => exact Iff.rfl
  | fz _ => exact Iff.rfl
  | raw _ => exact Iff.rfl
  | lk _ => exact Iff.rfl
  | pa _ _ => exact Iff.rfl
theorem Rp.ownI_iff (r : Rp Hf H σ ρ) {i : Nat} (hk : ∀ a, OwnI H σ ρ i a → H' a = H a) (a : Addr) : OwnI H' σ ρ i a ↔ OwnI H σ ρ i a := by
  constructor
  · rintro ⟨s, v, e1, e2, o⟩
    have q := r.sl i s e1
    rw [e2] at q
    exact ⟨s, v, e1, e2, (ownS_iff (fun b z => hk b ⟨s, v, e1, e2, z⟩) q a).mp o⟩
  · rintro ⟨s, v, e1, e2, o⟩
    have q := r.sl i s e1
    rw [e2] at q
    exact ⟨s, v, e1, e2, (ownS_iff (fun b z => hk b ⟨s, v, e1, e2, z⟩) q a).mpr o⟩
theorem SlOk.mono (e : Same Hf Hf') {v : V} {s : Sl} (hk : ∀ a, OwnS H v s a → Hf' a = none ∧ H' a = H a) (hl : ∀ t F Hf0 a, s = .lk t → TR Hf0 H v t F → a ∈ F → H' a = H a) (h : SlOk Hf H (some (some v)) s) : SlOk Hf' H' (some (some v)) s := by
  cases s with
  | un => exact slok_un
  | pa _ _ => exact slok_pa
  | fz d => exact slok_fz.mpr (rep_same e (slok_fz.mp h))
  | raw w => exact slok_raw.mpr (slok_raw.mp h)
  | ow ds =>
    obtain ⟨p, vs, e1, h1, h2, h3⟩ := slok_ow h
    cases e1
    obtain ⟨g1, g2⟩ := hk p rfl
    exact ⟨g1, vs, by rw [g2]; exact h2, repA_same e h3⟩
  | tr t =>
    obtain ⟨F, r, n, _⟩ := slok_tr.mp h
    exact slok_tr.mpr ⟨F, r.mono e fun a m => (hk a ⟨Hf, F, r, m⟩).2, n, fun a m => (hk a ⟨Hf, F, r, m⟩).1⟩
  | lk t =>
    obtain ⟨F, r⟩ := slok_lk.mp h
    exact slok_lk.mpr ⟨F, r.mono e fun a m => hl t F Hf a rfl r m⟩
theorem slok_none {s : Sl} {o : Option (Option V)} (ho : ∀ v, o ≠ some (some v)) (h : SlOk Hf H o s) : SlOk Hf' H' o s := by
  match o, s, h with
  | none, .un, _ => trivial
  | none, .pa _ _, _ => trivial
  | some none, .un, _ => trivial
  | some none, .pa _ _, _ => trivial
  | some (some v), _, _ => exact absurd rfl (ho v)
theorem Rp.at_mono (r : Rp Hf H σ ρ) {i : Nat} {t s : Tr} {v w : V} {qs : List Nat} (ht : isTr ρ i t) (hv : σ[i]? = some (some v)) (hk : ∀ a, OwnI H σ ρ i a → H' a = H a) (hl : ∀ a, LkA H σ ρ a → H' a = H a) (h : At H v t qs w s) : At H' v t qs w s := by
  rcases ht with e | e
  · have z := r.sl i _ e
    rw [hv] at z
    obtain ⟨F, rr, _, _⟩ := slok_tr.mp z
    exact h.mono rr fun a m => hk a ⟨_, v, e, hv, Hf, F, rr, m⟩
  · have z := r.sl i _ e
    rw [hv] at z
    obtain ⟨F, rr⟩ := slok_lk.mp z
    exact h.mono rr fun a m => hl a ⟨i, t, v, Hf, F, e, hv, rr, m⟩
theorem Rp.lka_of (r : Rp Hf H σ ρ) (l : ∀ a, LkA H σ ρ a → H' a = H a) {a : Addr} (h1 : LkA H' σ ρ a) : LkA H σ ρ a := by
  obtain ⟨i, tt, v, Hf0, F, e1, e2, z, m⟩ := h1
  have sk := r.sl i _ e1
  rw [e2] at sk
  obtain ⟨F1, r1⟩ := slok_lk.mp sk
  have r2 : TR Hf H' v tt F1 := r1.mono (Same.refl _) fun b m => l b ⟨i, tt, v, Hf, F1, e1, e2, r1, m⟩
  have ee := r2.inj z
  subst ee
  exact ⟨i, tt, v, Hf, _, e1, e2, r1, m⟩
theorem Rp.grow (r : Rp Hf H σ ρ) (e : Same Hf Hf') (e' : Same Hf' H') (t : Tb H') (nt : NtH Hf') (o : ∀ a, OwnA H σ ρ a → Hf' a = none ∧ H' a = H a) (l : ∀ a, LkA H σ ρ a → H' a = H a) : Rp Hf' H' σ ρ := by
  have oi : ∀ i a, OwnI H' σ ρ i a ↔ OwnI H σ ρ i a := fun i a => r.ownI_iff (fun b z => (o b ⟨i, z⟩).2) a
  have oa : ∀ a, OwnA H' σ ρ a ↔ OwnA H σ ρ a := fun a => ⟨fun ⟨i, z⟩ => ⟨i, (oi i a).mp z⟩, fun ⟨i, z⟩ => ⟨i, (oi i a).mpr z⟩⟩
  refine ⟨e', t, nt, r.len, fun i s h => ?_, fun i j a h1 h2 => r.nd i j a ((oi i a).mp h1) ((oi j a).mp h2), fun a h1 h2 => ?_, fun j i qs t h1 h2 => ?_⟩
  · have z := r.sl i s h
    by_cases hv : ∃ v, σ[i]? = some (some v)
    · obtain ⟨v, hv⟩ := hv
      rw [hv] at z ⊢
      refine z.mono e (fun a q => o a ⟨i, s, v, h, hv, q⟩) fun t F Hf0 a es rr m => ?_
      subst es
      exact l a ⟨i, t, v, Hf0, F, h, hv, rr, m⟩
    · exact slok_none (fun v q => hv ⟨v, q⟩) z
  · obtain ⟨i, tt, v, Hf0, F, e1, e2, z, m⟩ := h1
    have sk := r.sl i _ e1
    rw [e2] at sk
    obtain ⟨F1, r1⟩ := slok_lk.mp sk
    have r2 : TR Hf H' v tt F1 := r1.mono (Same.refl _) fun b m => l b ⟨i, tt, v, Hf, F1, e1, e2, r1, m⟩
    have ee := r2.inj z
    subst ee
    exact r.lk a ⟨i, tt, v, Hf, _, e1, e2, r1, m⟩ ((oa a).mp h2)
  · obtain ⟨v, w, s, g1, g2, g3⟩ := r.al j i qs t h1 h2
    exact ⟨v, w, s, g1, g2, r.at_mono h2 g1 (fun a z => (o a ⟨i, z⟩).2) l g3⟩
theorem Quiet.refl : Quiet σ ρ H σ ρ H := fun i t e => ⟨e, rfl, fun _ _ => rfl⟩
theorem Stay.refl : Stay σ ρ σ ρ := fun i _ => ⟨rfl, rfl⟩
theorem Stay.trans (a : Stay σ ρ σ1 ρ1) (b : Stay σ1 ρ1 σ2 ρ2) : Stay σ ρ σ2 ρ2 := fun i h => by
  obtain ⟨e1, e2⟩ := a i h
  rw [← e1] at h
  obtain ⟨e3, e4⟩ := b i h
  exact ⟨e3.trans e1, e4.trans e2⟩
theorem Quiet.trans (a : Quiet σ ρ H σ1 ρ1 H1) (b : Quiet σ1 ρ1 H1 σ2 ρ2 H2) : Quiet σ ρ H σ2 ρ2 H2 := fun i t e => by
  obtain ⟨e1, e2, e3⟩ := a i t e
  obtain ⟨f1, f2, f3⟩ := b i t e1
  refine ⟨f1, f2.trans e2, fun x h => ?_⟩
  obtain ⟨s, v, g1, g2, g3⟩ := h
  rw [e] at g1
  cases g1
  obtain ⟨Hf0, F, r, m⟩ := g3
  have r1 : TR Hf0 H1 v t F := r.mono (Same.refl _) fun y z => e3 y ⟨_, v, e, g2, Hf0, F, r, z⟩
  exact (f3 x ⟨_, v, e1, e2.trans g2, Hf0, F, r1, m⟩).trans (e3 x ⟨_, v, e, g2, Hf0, F, r, m⟩)
theorem Nxt.refl (r : Rp Hf H σ ρ) : Nxt q σ ρ Hf H σ ρ Hf H := ⟨Same.refl _, fun _ _ h _ _ => h, fun _ h => .inl h, fun _ h => h, fun _ h => h, fun _ h => .inl h, fun _ => ⟨.refl, .refl⟩, r⟩
theorem Nxt.trans (a : Nxt q σ ρ Hf H σ1 ρ1 Hf1 H1) (b : Nxt q σ1 ρ1 Hf1 H1 σ2 ρ2 Hf2 H2) : Nxt q σ ρ Hf H σ2 ρ2 Hf2 H2 where
  sub := a.sub.trans b.sub
  keep := fun x o h t n => b.keep x o (a.keep x o h t n) t fun z => (a.os x z).elim n fun q => by rw [h] at q; cases q
  os := fun x z => (b.os x z).elim (a.os x) fun q => .inr (a.dom x q)
  ls := fun x h => a.ls x (b.ls x h)
  dom := fun x h => a.dom x (b.dom x h)
  fr := fun x h => (a.fr x h).elim (fun h1 => (b.fr x h1).elim .inl fun q => .inr (q.elim (fun z => .inl (a.dom x z)) fun z => (a.os x z).elim .inr .inl)) .inr
  qt := fun hq => ⟨.trans (a.qt hq).1 (b.qt hq).1, .trans (a.qt hq).2 (b.qt hq).2⟩
  rp := b.rp
theorem Nxt.any (a : Nxt q σ ρ Hf H σ1 ρ1 Hf1 H1) : Nxt false σ ρ Hf H σ1 ρ1 Hf1 H1 := ⟨a.sub, a.keep, a.os, a.ls, a.dom, a.fr, (fun z => nomatch z), a.rp⟩
theorem same_new {p : Addr} {o : HO} (h : H p = none) : Same H (upd H p o) := fun b x e => by
  rw [upd_ne (ne_of_none e h)]
  exact e
theorem same_upd2 {p : Addr} {o : HO} (e : Same Hf H) : Same (upd Hf p o) (upd H p o) := fun b x h => by
  by_cases q : b = p
  · subst q
    rw [upd_same] at h ⊢
    exact h
  · rw [upd_ne q] at h ⊢
    exact e _ _ h
theorem NtH.upd {p : Addr} {o : HO} (n : NtH Hf) (h : NT o) : NtH (upd Hf p o) := fun a ps z => by
  by_cases q : a = p
  · rw [q, upd_same] at z
    exact h ps (Option.some.inj z)
  · rw [upd_ne q] at z
    exact n a ps z
theorem Tb.upd {p : Addr} {o : HO} (t : Tb H) (h : H p = none) : Tb (L2.upd H p o) := LamX.Tabs.ext t fun b x e => by
  rw [upd_ne (ne_of_none e h)]
  exact e
theorem NT.lst {xs : List V} : NT (.lst xs) := fun _ z => by cases z
theorem NT.tup {xs : List V} : NT (.tup xs) := fun _ z => by cases z
theorem Tb.setO {p : Addr} {o o' : HO} (t : Tb H) (h : H p = some o) (ho : NT o) (hx : ∀ φ, o ≠ .ext φ) : Tb (L2.upd H p o') := fun x hx' => by
  obtain ⟨ps, a1, a2, a3⟩ := t x hx'
  have n1 : x.1 ≠ p := fun z => by rw [z, h] at a1; exact ho ps (Option.some.inj a1)
  refine ⟨ps, by rw [upd_ne n1]; exact a1, a2, fun pos cv hc => ?_⟩
  obtain ⟨c, e1, e2⟩ := a3 pos cv hc
  refine ⟨c, e1, ?_⟩
  have n2 : c ≠ p := fun z => by
    rw [z, h] at e2
    unfold LamX.CodeO at e2
    exact hx _ (Option.some.inj e2)
  rw [upd_ne n2]
  exact e2
theorem Tb.set {p : Addr} {vs ws : List V} (t : Tb H) (h : H p = some (.lst vs)) : Tb (L2.upd H p (.lst ws)) := t.setO h NT.lst fun _ z => nomatch z
theorem Rp.liv (r : Rp Hf H σ ρ) {a : Addr} (h : OwnA H σ ρ a ∨ LkA H σ ρ a) : ∃ u, H a = some u ∧ NT u := h.elim (fun z => (r.own z).2) r.lka
theorem Rp.new (r : Rp Hf H σ ρ) {p : Addr} {o : HO} (h : H p = none) (ho : NT o := by first | exact NT.lst | exact NT.tup) : Nxt q σ ρ Hf H σ ρ (upd Hf p o) (upd H p o) := by
  have hf : Hf p = none := r.sub.free h
  have ne : ∀ a, OwnA H σ ρ a ∨ LkA H σ ρ a → a ≠ p := fun a z => by
    obtain ⟨u, hu, _⟩ := r.liv z
    exact ne_of_none hu h
  have rg : Rp (upd Hf p o) (upd H p o) σ ρ := r.grow (same_new hf) (same_upd2 r.sub) (r.tb.upd h) (r.nt.upd ho) (fun a z => ⟨by rw [upd_ne (ne a (.inl z))]; exact (r.own z).1, upd_ne (ne a (.inl z))⟩) fun a z => upd_ne (ne a (.inr z))
  refine ⟨same_new hf, fun a x e _ _ => same_new h a x e, fun a ⟨i, z⟩ => .inl ⟨i, (r.ownI_iff (fun b y => upd_ne (ne b (.inl ⟨i, y⟩))) a).mp z⟩, fun a z => r.lka_of (fun b y => upd_ne (ne b (.inr y))) z, fun a => (same_new h).free, fun a z => by
    by_cases q : a = p
    · exact .inr (.inl (q ▸ h))
    · exact .inl (by rw [upd_ne q]; exact z), fun _ => ⟨fun i t e => ⟨e, rfl, fun a z => upd_ne (ne a (.inl ⟨i, z⟩))⟩, .refl⟩, rg⟩
theorem Rp.newO (r : Rp Hf H σ ρ) {p : Addr} {o : HO} (h : H p = none) : Nxt q σ ρ Hf H σ ρ Hf (upd H p o) := by
  have ne : ∀ a, OwnA H σ ρ a ∨ LkA H σ ρ a → a ≠ p := fun a z => by
    obtain ⟨u, hu, _⟩ := r.liv z
    exact ne_of_none hu h
  refine ⟨Same.refl _, fun a x e _ _ => same_new h a x e, fun a ⟨i, z⟩ => .inl ⟨i, (r.ownI_iff (fun b y => upd_ne (ne b (.inl ⟨i, y⟩))) a).mp z⟩, fun a z => r.lka_of (fun b y => upd_ne (ne b (.inr y))) z, fun a => (same_new h).free, fun _ z => .inl z, fun _ => ⟨fun i t e => ⟨e, rfl, fun a z => upd_ne (ne a (.inl ⟨i, z⟩))⟩, .refl⟩, r.grow (Same.refl _) (r.sub.trans (same_new h)) (r.tb.upd h) r.nt (fun a z => ⟨(r.own z).1, upd_ne (ne a (.inl z))⟩) fun a z => upd_ne (ne a (.inr z))⟩
def Hless : Sl → Prop
  | .un => True
  | .fz _ => True
  | .raw _ => True
  | _ => False
theorem Rp.weak (r : Rp Hf H σ ρ) (hl : ρ'.length ≤ σ'.length) (h : ∀ (j : Nat) (s : Sl), ρ'[j]? = some s → (ρ[j]? = some s ∧ σ'[j]? = σ[j]?) ∨ (Hless s ∧ SlOk Hf H σ'[j]? s)) : Nxt false σ ρ Hf H σ' ρ' Hf H := by
  have oi : ∀ i a, OwnI H σ' ρ' i a → OwnI H σ ρ i a := fun i a ⟨s, v, e1, e2, o⟩ => by
    rcases h i s e1 with ⟨g1, g2⟩ | ⟨g1, _⟩
    · exact ⟨s, v, g1, g2 ▸ e2, o⟩
    · cases s <;> first | exact o.elim | exact g1.elim
  have oa : ∀ a, OwnA H σ' ρ' a → OwnA H σ ρ a := fun a ⟨i, z⟩ => ⟨i, oi i a z⟩
  have tr : ∀ i t, isTr ρ' i t → isTr ρ i t ∧ σ'[i]? = σ[i]? := fun i t z => by
    rcases z with e | e
    · rcases h i _ e with ⟨g1, g2⟩ | ⟨g1, _⟩
      · exact ⟨.inl g1, g2⟩
      · exact g1.elim
    · rcases h i _ e with ⟨g1, g2⟩ | ⟨g1, _⟩
      · exact ⟨.inr g1, g2⟩
      · exact g1.elim
  have lkk : ∀ a, LkA H σ' ρ' a → LkA H σ ρ a := fun a ⟨i, t, v, Hf0, F, e1, e2, z, m⟩ => by
    rcases h i _ e1 with ⟨g1, g2⟩ | ⟨g1, _⟩
    · exact ⟨i, t, v, Hf0, F, g1, g2 ▸ e2, z, m⟩
    · exact g1.elim
  refine ⟨Same.refl _, fun _ _ h _ _ => h, fun a z => .inl (oa a z), lkk, fun _ h => h, fun _ h => .inl h, (fun z => nomatch z), r.sub, r.tb, r.nt, hl, fun i s e => ?_, fun i j a h1 h2 => r.nd i j a (oi i a h1) (oi j a h2), fun a ⟨i, t, v, Hf0, F, e1, e2, z, m⟩ h2 => ?_, fun j i qs t h1 h2 => ?_⟩
  · rcases h i s e with ⟨g1, g2⟩ | ⟨_, g⟩
    · rw [g2]; exact r.sl i s g1
    · exact g
  · obtain ⟨g1, g2⟩ := tr i t (.inr e1)
    rcases h i _ e1 with ⟨g1, g2⟩ | ⟨g1, _⟩
    · exact r.lk a ⟨i, t, v, Hf0, F, g1, g2 ▸ e2, z, m⟩ (oa a h2)
    · exact g1.elim
  · obtain ⟨g1, g2⟩ := tr i t h2
    rcases h j _ h1 with ⟨k1, k2⟩ | ⟨k1, _⟩
    · obtain ⟨v, w, s, a1, a2, a3⟩ := r.al j i qs t k1 g1
      exact ⟨v, w, s, g2.trans a1, k2.trans a2, a3⟩
    · exact k1.elim
theorem Rp.chgsF (r : Rp Hf H σ ρ) (I : Nat → Prop) (Fl : Addr → Prop) (hFl : ∀ a, Fl a → ¬ OwnA H σ ρ a ∧ ¬ LkA H σ ρ a) (hl : ρ'.length ≤ σ.length) (sub : Same Hf Hf') (sub' : Same Hf' H') (tb : Tb H') (nt : NtH Hf')
    (keep : ∀ a o, H a = some o → NT o → (∀ i, I i → ¬ OwnI H σ ρ i a) → H' a = some o) (dom : ∀ a, H' a = none → H a = none) (fr : ∀ a, Hf a = none → Hf' a = none ∨ H a = none ∨ ∃ i, I i ∧ OwnI H σ ρ i a)
    (same : ∀ (j : Nat) (s : Sl), ¬ I j → ρ'[j]? = some s → ρ[j]? = some s ∨ s = .un) (nlk : ∀ (i : Nat) (s : Sl), I i → ρ'[i]? = some s → (∀ t, s ≠ .lk t) ∧ ∀ k qs, s ≠ .pa k qs)
    (al : ∀ (j i : Nat) (qs : List Nat) (t : Tr), ρ'[j]? = some (.pa i qs) → isTr ρ' i t → I i → ∃ v w s, σ[i]? = some (some v) ∧ σ[j]? = some (some w) ∧ At H' v t qs w s)
    (ok : ∀ (i : Nat) (s : Sl), I i → ρ'[i]? = some s → SlOk Hf' H' σ[i]? s) (own : ∀ i a, I i → OwnI H' σ ρ' i a → (∃ k, I k ∧ OwnI H σ ρ k a) ∨ H a = none ∨ Fl a)
    (nd : ∀ i j a, I i → I j → OwnI H' σ ρ' i a → OwnI H' σ ρ' j a → i = j) : Rp Hf' H' σ ρ' ∧ (∀ a, OwnA H' σ ρ' a → OwnA H σ ρ a ∨ H a = none ∨ Fl a) ∧ (∀ a, LkA H' σ ρ' a → LkA H σ ρ a) ∧ ∀ j a, ¬ I j → OwnI H σ ρ j a → H' a = H a := by
  have ko : ∀ j a, ¬ I j → OwnI H σ ρ j a → H' a = H a := fun j a hj z => by
    obtain ⟨u, hu, tu⟩ := (r.ownI z).2
    rw [hu]
    exact keep a u hu tu fun i hi w => hj (r.nd i j a w z ▸ hi)
  have kl : ∀ a, LkA H σ ρ a → H' a = H a := fun a z => by
    obtain ⟨u, hu, tu⟩ := r.lka z
    rw [hu]
    exact keep a u hu tu fun i _ w => r.lk a z ⟨i, w⟩
  have oj : ∀ j a, ¬ I j → OwnI H' σ ρ' j a → OwnI H σ ρ j a := fun j a hj ⟨s, v, e1, e2, o⟩ => by
    rcases same j s hj e1 with e | e
    · exact (r.ownI_iff (fun b z => ko j b hj z) a).mp ⟨s, v, e, e2, o⟩
    · subst e; exact o.elim
  have oa : ∀ a, OwnA H' σ ρ' a → OwnA H σ ρ a ∨ H a = none ∨ Fl a := fun a ⟨j, z⟩ => by
    by_cases hj : I j
    · exact (own j a hj z).imp (fun ⟨k, _, w⟩ => ⟨k, w⟩) id
    · exact .inl ⟨j, oj j a hj z⟩
  have tri : ∀ i t, ¬ I i → isTr ρ' i t → isTr ρ i t := fun i t hi z => by
    rcases z with e | e
    · rcases same i _ hi e with e | e
      · exact .inl e
      · cases e
    · rcases same i _ hi e with e | e
      · exact .inr e
      · cases e
  have lkk : ∀ a, LkA H' σ ρ' a → LkA H σ ρ a := fun a ⟨i, t, v, Hf0, F, e1, e2, z, m⟩ => by
    have hi : ¬ I i := fun y => (nlk i _ y e1).1 t rfl
    rcases same i _ hi e1 with e | e
    · exact r.lka_of kl ⟨i, t, v, Hf0, F, e, e2, z, m⟩
    · cases e
  refine ⟨⟨sub', tb, nt, hl, fun i s e => ?_, fun i j a h1 h2 => ?_, fun a ⟨i, t, v, Hf0, F, e1, e2, z, m⟩ h2 => ?_, fun j i qs t h1 h2 => ?_⟩, oa, lkk, ko⟩
  · by_cases hi : I i
    · exact ok i s hi e
    · rcases same i s hi e with e | e
      · have z := r.sl i s e
        by_cases hv : ∃ v, σ[i]? = some (some v)
        · obtain ⟨v, hv⟩ := hv
          rw [hv] at z ⊢
          refine z.mono sub (fun a w => ?_) fun t F Hf0 a es rr m => ?_
          · have w' : OwnI H σ ρ i a := ⟨s, v, e, hv, w⟩
            refine ⟨(fr a (r.ownI w').1).elim id fun y => y.elim (fun y => ?_) fun ⟨k, hk, y⟩ => ?_, ko i a hi w'⟩
            · obtain ⟨u, hu, _⟩ := (r.ownI w').2
              rw [hu] at y; cases y
            · exact absurd (r.nd k i a y w' ▸ hk) hi
          · subst es
            exact kl a ⟨i, t, v, Hf0, F, e, hv, rr, m⟩
        · exact slok_none (fun v q => hv ⟨v, q⟩) z
      · subst e; exact slok_un
  · by_cases hi : I i
    · by_cases hj : I j
      · exact nd i j a hi hj h1 h2
      · have z2 := oj j a hj h2
        rcases own i a hi h1 with ⟨k, hk, z⟩ | z | z
        · exact absurd (r.nd k j a z z2 ▸ hk) hj
        rotate_left
        · exact absurd ⟨j, z2⟩ (hFl a z).1
        · obtain ⟨u, hu, _⟩ := (r.ownI z2).2
          rw [hu] at z; cases z
    · have z1 := oj i a hi h1
      by_cases hj : I j
      · rcases own j a hj h2 with ⟨k, hk, z⟩ | z | z
        · exact absurd (r.nd k i a z z1 ▸ hk) hi
        rotate_left
        · exact absurd ⟨i, z1⟩ (hFl a z).1
        · obtain ⟨u, hu, _⟩ := (r.ownI z1).2
          rw [hu] at z; cases z
      · exact r.nd i j a z1 (oj j a hj h2)
  · have hi : ¬ I i := fun y => (nlk i _ y e1).1 t rfl
    rcases same i _ hi e1 with e | e
    · have sk := r.sl i _ e
      rw [e2] at sk
      obtain ⟨F1, r1⟩ := slok_lk.mp sk
      have r2 : TR Hf H' v t F1 := r1.mono (Same.refl _) fun b m => kl b ⟨i, t, v, Hf, F1, e, e2, r1, m⟩
      have ee := r2.inj z
      subst ee
      have la : LkA H σ ρ a := ⟨i, t, v, Hf, _, e, e2, r1, m⟩
      rcases oa a h2 with y | y | y
      · exact r.lk a la y
      rotate_left
      · exact (hFl a y).2 la
      · obtain ⟨u, hu, _⟩ := r.lka la
        rw [hu] at y; cases y
    · cases e
  · by_cases hi : I i
    · exact al j i qs t h1 h2 hi
    · have hj : ¬ I j := fun y => (nlk j _ y h1).2 i qs rfl
      rcases same j _ hj h1 with e | e
      · have ti := tri i t hi h2
        obtain ⟨v, w, s, g1, g2, g3⟩ := r.al j i qs t e ti
        exact ⟨v, w, s, g1, g2, r.at_mono ti g1 (fun a z => ko i a hi z) kl g3⟩
      · cases e
theorem Rp.chgs (r : Rp Hf H σ ρ) (I : Nat → Prop) (hl : ρ'.length ≤ σ.length) (sub : Same Hf Hf') (sub' : Same Hf' H') (tb : Tb H') (nt : NtH Hf')
    (keep : ∀ a o, H a = some o → NT o → (∀ i, I i → ¬ OwnI H σ ρ i a) → H' a = some o) (dom : ∀ a, H' a = none → H a = none) (fr : ∀ a, Hf a = none → Hf' a = none ∨ H a = none ∨ ∃ i, I i ∧ OwnI H σ ρ i a)
    (same : ∀ (j : Nat) (s : Sl), ¬ I j → ρ'[j]? = some s → ρ[j]? = some s ∨ s = .un) (nlk : ∀ (i : Nat) (s : Sl), I i → ρ'[i]? = some s → (∀ t, s ≠ .lk t) ∧ ∀ k qs, s ≠ .pa k qs)
    (al : ∀ (j i : Nat) (qs : List Nat) (t : Tr), ρ'[j]? = some (.pa i qs) → isTr ρ' i t → I i → ∃ v w s, σ[i]? = some (some v) ∧ σ[j]? = some (some w) ∧ At H' v t qs w s)
    (ok : ∀ (i : Nat) (s : Sl), I i → ρ'[i]? = some s → SlOk Hf' H' σ[i]? s) (own : ∀ i a, I i → OwnI H' σ ρ' i a → (∃ k, I k ∧ OwnI H σ ρ k a) ∨ H a = none)
    (nd : ∀ i j a, I i → I j → OwnI H' σ ρ' i a → OwnI H' σ ρ' j a → i = j)
    (qt : q = true → (∀ (i : Nat) (s : Sl), I i → ρ[i]? = some s → (∀ t, s ≠ .tr t) ∧ (∀ t, s ≠ .lk t) ∧ ∀ k qs, s ≠ .pa k qs) ∧ ∀ j : Nat, ¬ I j → ρ'[j]? = ρ[j]?) : Nxt q σ ρ Hf H σ ρ' Hf' H' := by
  obtain ⟨rp', oa, lkk, ko⟩ := r.chgsF I (fun _ => False) (fun _ z => z.elim) hl sub sub' tb nt keep dom fr same nlk al ok (fun i a hi z => (own i a hi z).imp id .inl) nd
  refine ⟨sub, fun a o h t n => keep a o h t fun i _ z => n ⟨i, z⟩, fun a z => (oa a z).imp id fun y => y.elim id False.elim, lkk, dom, fun a z => (fr a z).imp id fun w => w.imp id fun ⟨i, _, y⟩ => ⟨i, y⟩, fun hq => ?_, rp'⟩
  obtain ⟨q1, q2⟩ := qt hq
  refine ⟨fun i t e => ?_, fun i h => ?_⟩
  · have hi : ¬ I i := fun z => (q1 i _ z e).1 t rfl
    exact ⟨(q2 i hi).trans e, rfl, fun a z => ko i a hi z⟩
  · have hi : ¬ I i := fun z => by
      rcases h with ⟨t, e⟩ | ⟨k, qs, e⟩
      · exact (q1 i _ z e).2.1 t rfl
      · exact (q1 i _ z e).2.2 k qs rfl
    exact ⟨q2 i hi, rfl⟩
end
end Fx
namespace Fx
open PySem L2
variable [Tabz]
section
variable {q : Bool} {Hf Hf' H H' : Hp} {σ σ' : St} {ρ ρ' : Rho}
theorem Nxt.qto (a : Nxt true σ ρ Hf H σ' ρ' Hf' H') : Nxt q σ ρ Hf H σ' ρ' Hf' H' := ⟨a.sub, a.keep, a.os, a.ls, a.dom, a.fr, fun _ => a.qt rfl, a.rp⟩
theorem ownI_ow {i : Nat} {ds : List D} {p : Addr} (hi : ρ[i]? = some (.ow ds)) (hp : σ[i]? = some (some (.ref p))) {a : Addr} : OwnI H σ ρ i a ↔ a = p := by
  constructor
  · rintro ⟨s, v, e1, e2, o⟩
    rw [hi] at e1; cases e1
    rw [hp] at e2; cases e2
    cases (show V.ref p = .ref a from o)
    rfl
  · rintro rfl
    exact ⟨_, _, hi, hp, rfl⟩
def Fre (H : Hp) (σ : St) (ρ : Rho) (p : Addr) : Prop := H p = none ∨ OwnA H σ ρ p
theorem Fre.back {Hf1 H1 : Hp} {σ1 : St} {ρ1 : Rho} (n : Nxt q σ ρ Hf H σ1 ρ1 Hf1 H1) {p : Addr} (h : Fre H1 σ1 ρ1 p) : Fre H σ ρ p := h.elim (fun z => .inl (n.dom p z)) fun z => (n.os p z).elim .inr .inl
theorem Fre.notLk (r : Rp Hf H σ ρ) {p : Addr} (h : Fre H σ ρ p) : ¬ LkA H σ ρ p := fun z => h.elim (fun y => by
  obtain ⟨o, ho, _⟩ := r.lka z
  rw [y] at ho; cases ho) (r.lk p z)
theorem Rp.chgO (r : Rp Hf H σ ρ) {i : Nat} {ds : List D} {p : Addr} {s' : Sl} (hi : ρ[i]? = some (.ow ds)) (hp : σ[i]? = some (some (.ref p))) (hs : Hless s' ∨ ∃ es, s' = .ow es) (sub : Same Hf Hf') (sub' : Same Hf' H') (tb : Tb H') (nt : NtH Hf')
    (keep : ∀ a o, H a = some o → NT o → a ≠ p → H' a = some o) (dom : ∀ a, H' a = none → H a = none) (fr : ∀ a, Hf a = none → Hf' a = none ∨ H a = none ∨ a = p) (ok : SlOk Hf' H' (some (some (.ref p))) s') : Nxt q σ ρ Hf H σ (ρ.set i s') Hf' H' := by
  have hlt : i < ρ.length := (List.getElem?_eq_some_iff.mp hi).1
  have gi : (ρ.set i s')[i]? = some s' := by rw [List.getElem?_set, if_pos rfl, if_pos hlt]
  have gj : ∀ j, j ≠ i → (ρ.set i s')[j]? = ρ[j]? := fun j n => by rw [List.getElem?_set, if_neg fun z => n z.symm]
  have ow' : ∀ a, OwnI H' σ (ρ.set i s') i a → a = p := fun a ⟨s, v, e1, e2, o⟩ => by
    rw [gi] at e1; cases e1
    rw [hp] at e2; cases e2
    rcases hs with h | ⟨es, rfl⟩
    · cases s' <;> first | exact o.elim | exact h.elim
    · cases (show V.ref p = .ref a from o); rfl
  refine r.chgs (· = i) (by rw [List.length_set]; exact r.len) sub sub' tb nt (fun a o h t n => keep a o h t fun z => n i rfl ((ownI_ow hi hp).mpr z)) dom (fun a z => (fr a z).imp id fun w => w.imp id fun y => ⟨i, rfl, (ownI_ow hi hp).mpr y⟩) (fun j s n e => .inl (by rw [← gj j n]; exact e)) ?_ ?_ ?_ ?_ ?_ ?_
  · rintro _ s rfl e
    rw [gi] at e; cases e
    rcases hs with h | ⟨es, rfl⟩
    · constructor
      · rintro t rfl; exact h.elim
      · rintro k qs rfl; exact h.elim
    · exact ⟨(fun _ z => nomatch z), (fun _ _ z => nomatch z)⟩
  · rintro j _ qs t h1 h2 rfl
    rcases h2 with e | e
    · rw [gi] at e; cases e
      rcases hs with h | ⟨es, h⟩
      · exact h.elim
      · cases h
    · rw [gi] at e; cases e
      rcases hs with h | ⟨es, h⟩
      · exact h.elim
      · cases h
  · rintro _ s rfl e
    rw [gi] at e; cases e
    rw [hp]; exact ok
  · rintro _ a rfl z
    exact .inl ⟨_, rfl, (ownI_ow hi hp).mpr (ow' a z)⟩
  · rintro _ _ a rfl rfl _ _; rfl
  · intro _
    refine ⟨?_, fun j n => gj j n⟩
    rintro _ s rfl e
    rw [hi] at e; cases e
    exact ⟨(fun _ z => nomatch z), (fun _ z => nomatch z), (fun _ _ z => nomatch z)⟩
end
section
variable {α β γ δ : Type}
inductive Res (α : Type) where
  | ok (p : α × Rho)
  | exc (c : Str) (ρ : Rho)
  | bad
abbrev M (α : Type) := Rho → Res α
@[simp] def bnd (f : M α) (k : α → M γ) : M γ := fun ρ => match f ρ with
  | .ok (a, ρ1) => k a ρ1
  | .exc c ρ1 => .exc c ρ1
  | .bad => .bad
@[simp] def ret (a : α) : M α := fun ρ => .ok (a, ρ)
@[simp] def opt (o : Option α) : M α := fun ρ => match o with
  | some a => .ok (a, ρ)
  | none => .bad
structure Gx where
  W : WX
  cA : Str → Addr
  q : Bool
abbrev qG (G : Gx) : Gx := ⟨G.W, G.cA, true⟩
def AfG (G : Gx) (R : Hp → β → α → Prop) (σ : St) (ρ : Rho) (Hf H : Hp) (Q : β → Hp → Prop) : Res α → Prop
  | .ok (a, ρ') => ∀ x Hf' H', Nxt G.q σ ρ Hf H σ ρ' Hf' H' → R Hf' x a → Q x H'
  | .exc c ρ' => ∀ Hf' H', Nxt G.q σ ρ Hf H σ ρ' Hf' H' → G.W (.ref (G.cA c)) none σ H'
  | .bad => False
def tG (G : Gx) (R : Hp → β → α → Prop) (f : M α) : St → Hp → (β → Hp → Prop) → Prop := fun σ H Q =>
  ∃ Hf ρ, Rp Hf H σ ρ ∧ AfG G R σ ρ Hf H Q (f ρ)
variable {G : Gx} {R : Hp → β → α → Prop} {R1 : Hp → δ → γ → Prop} {σ : St} {ρ ρ1 : Rho} {Hf H Hf1 H1 : Hp} {Q Q' : β → Hp → Prop} {f : M α} {g : M γ} {k : γ → M α}
theorem AfG.mono (h : ∀ x H, Q x H → Q' x H) : ∀ {o : Res α}, AfG G R σ ρ Hf H Q o → AfG G R σ ρ Hf H Q' o
  | .ok (a, ρ'), q => fun x Hf' H' n r => h x H' (q x Hf' H' n r)
  | .exc c ρ', q => q
  | .bad, q => q
theorem tG.mono (h : ∀ x H, Q x H → Q' x H) (t : tG G R f σ H Q) : tG G R f σ H Q' := by
  obtain ⟨Hf, ρ, rp, q⟩ := t
  exact ⟨Hf, ρ, rp, q.mono h⟩
theorem AfG.later (n : Nxt G.q σ ρ Hf H σ ρ1 Hf1 H1) : ∀ {o : Res α}, AfG G R σ ρ Hf H Q o → AfG G R σ ρ1 Hf1 H1 Q o
  | .ok (a, ρ'), q => fun x Hf' H' n' r => q x Hf' H' (n.trans n') r
  | .exc c ρ', q => fun Hf' H' n' => q Hf' H' (n.trans n')
  | .bad, q => q
theorem step (rp : Rp Hf H σ ρ) (af : AfG G R σ ρ Hf H Q (bnd g k ρ)) :
    tG G R1 g σ H fun y H1 => ∃ b Hf1 ρ1, Nxt G.q σ ρ Hf H σ ρ1 Hf1 H1 ∧ R1 Hf1 y b ∧ AfG G R σ ρ1 Hf1 H1 Q (k b ρ1) := by
  refine ⟨Hf, ρ, rp, ?_⟩
  unfold bnd at af
  cases e : g ρ with
  | ok p =>
    obtain ⟨b, ρ1⟩ := p
    rw [e] at af
    exact fun x Hf1 H1 n r => ⟨b, Hf1, ρ1, n, r, af.later n⟩
  | exc c ρ1 => rw [e] at af; exact af
  | bad => rw [e] at af; exact af
theorem fin {a : α} (rp : Rp Hf H σ ρ) (af : AfG G R σ ρ Hf H Q (ret a ρ)) {x : β} (r : R Hf x a) : Q x H := af x Hf H (.refl rp) r
theorem finO {o : Option α} (rp : Rp Hf H σ ρ) (af : AfG G R σ ρ Hf H Q (opt o ρ)) : ∃ a, o = some a ∧ ∀ x, R Hf x a → Q x H := by
  cases o with
  | none => exact af.elim
  | some a => exact ⟨a, rfl, fun x r => af x Hf H (.refl rp) r⟩
end
abbrev tE (G : Gx) (f : M D) : TE := tG G Rep f
abbrev tT (G : Gx) (f : M Bool) : TT := tG G (fun _ b c => b = c) f
abbrev tA (G : Gx) (f : M (List D)) : TA := tG G RepA f
section
variable {X : Cx} {G : Gx} {e a b : Expr} {es : List Expr} {f g : M D} {pos : Pos}
theorem _root_.L2.PE.imp {t t' : TE} (h : PE X e t) (i : ∀ σ H Q, t' σ H Q → t σ H Q) : PE X e t' := ⟨fun pins s σ H Q I q => h.run pins s σ H Q I (i _ _ _ q)⟩
theorem _root_.L2.PT.imp {t t' : TT} (h : PT X e t) (i : ∀ σ H Q, t' σ H Q → t σ H Q) : PT X e t' := ⟨fun pins s σ H Q I q => h.run pins s σ H Q I (i _ _ _ q)⟩
theorem _root_.L2.PA.imp {t t' : TA} (h : PA X es t) (i : ∀ σ H Q, t' σ H Q → t σ H Q) : PA X es t' := ⟨fun ps pins s σ H Q I q => h.run ps pins s σ H Q I (i _ _ _ q)⟩
theorem _root_.L2.PS.imp {st : Stmt} {t t' : TS} (h : PS X st t) (i : ∀ D σ H, t' D σ H → t D σ H) : PS X st t' := ⟨fun pins s σ H D I q => h.run pins s σ H D I (i _ _ _ q)⟩
theorem _root_.L2.PSs.imp {st : List Stmt} {t t' : TS} (h : PSs X st t) (i : ∀ D σ H, t' D σ H → t D σ H) : PSs X st t' := ⟨fun pins s σ H D I q => h.run pins s σ H D I (i _ _ _ q)⟩
@[simp] def fVar (i : Nat) : M D := fun ρ => match ρ[i]? with
  | some (.fz d) => .ok (d, ρ)
  | some (.ow ds) => .ok (.list ds, ρ.set i (.fz (.list ds)))
  | _ => .bad
theorem Rp.freeze {q : Bool} {Hf H : Hp} {σ : St} {ρ : Rho} (r : Rp Hf H σ ρ) {i : Nat} {ds : List D} (h : ρ[i]? = some (.ow ds)) :
    ∃ p Hf', σ[i]? = some (some (.ref p)) ∧ Nxt q σ ρ Hf H σ (ρ.set i (.fz (.list ds))) Hf' H ∧ Rep Hf' (.ref p) (.list ds) := by
  obtain ⟨p, vs, e, h1, h2, h3⟩ := slok_ow (r.sl i _ h)
  have e1 : Same Hf (upd Hf p (.lst vs)) := same_new h1
  have e2 : Same (upd Hf p (.lst vs)) H := fun b x q => by
    by_cases z : b = p
    · subst z
      rw [upd_same] at q
      rw [h2]
      exact q
    · rw [upd_ne z] at q
      exact r.sub _ _ q
  have dp : Rep (upd Hf p (.lst vs)) (.ref p) (.list ds) := .lst upd_same (repA_same e1 h3)
  refine ⟨p, _, e, r.chgO h e (.inl True.intro) e1 e2 r.tb (r.nt.upd NT.lst) (fun a o h _ _ => h) (fun _ h => h) (fun a z => ?_) (slok_fz.mpr dp), dp⟩
  by_cases q : a = p
  · exact .inr (.inr q)
  · exact .inl (by rw [upd_ne q]; exact z)
theorem fe_var (i : Nat) {x : Str} (hN : X.N[i]? = some x := by rfl) (hv : Vis X.env.scope x := by first | exact Or.inl rfl | exact Or.inr (Or.inl rfl) | exact Or.inr (Or.inr rfl)) (hd : (x == ("__debug__" : Str)) = false := by decide)
    (hcd : (x == ("__classdict__" : Str)) = false := by decide) : PE X (.Name x pos) (tE G (fVar i)) := by
  refine (pe_var hN hv hd hcd).imp fun σ H Q ⟨Hf, ρ, rp, af⟩ => ?_
  unfold fVar at af
  cases e : ρ[i]? with
  | none => rw [e] at af; exact af.elim
  | some s =>
    rw [e] at af
    cases s with
    | un => exact af.elim
    | raw v => exact af.elim
    | tr v => exact af.elim
    | lk v => exact af.elim
    | pa _ _ => exact af.elim
    | fz d =>
      obtain ⟨v, hv, q⟩ := slok_fz' (rp.sl i _ e)
      exact ⟨v, hv, af v Hf H (.refl rp) q⟩
    | ow ds =>
      obtain ⟨p, Hf', h1, n, q⟩ := rp.freeze e
      exact ⟨.ref p, h1, af _ _ _ n q⟩
def sc : D → Option V
  | .none => some .non
  | .bool b => some (.bl b)
  | .int i => some (.int i)
  | .str x => some (.str x)
  | _ => none
theorem rep_sc {H : Hp} {d : D} {v : V} (h : sc d = some v) : Rep H v d := by
  cases d <;> simp only [sc, Option.some.injEq, reduceCtorEq] at h <;> subst h <;> constructor
theorem sc_rep {H : Hp} {d : D} {v w : V} (h : sc d = some v) (q : Rep H w d) : w = v := by
  cases d <;> simp only [sc, Option.some.injEq, reduceCtorEq] at h <;> subst h <;> cases q <;> rfl
theorem fe_c {d : D} {v : V} (h : PE X e (tC v)) (hs : sc d = some v) : PE X e (tE G (ret d)) :=
  h.imp fun σ H Q ⟨Hf, ρ, rp, af⟩ => fin rp af (rep_sc hs)
theorem fe_int {i : Int} {j : Nat} : PE X (.Constant (.int i) j pos) (tE G (ret (.int i))) := fe_c pe_int rfl
theorem fe_bool {x : Bool} {j : Nat} : PE X (.Constant (.bool x) j pos) (tE G (ret (.bool x))) := fe_c pe_bl rfl
theorem fe_globI {x : Str} {i : Int} {t : Tok} (hg : Gl X x) (hm : X.mg x = some (.int i t)) (hd : (x == ("__debug__" : Str)) = false := by decide) : PE X (.Name x pos) (tE G (ret (.int i))) := fe_c (pe_glob (v := .int i) hg hm ⟨_, rfl⟩ hd) rfl
@[simp] def lkD : Tr → Option D
  | .ow ds => some (.list ds)
  | .fz d => some d
  | _ => none
abbrev Pth := Nat × List Nat
@[simp] def trAt (p : Pth) (ρ : Rho) : Option Tr := match ρ[p.1]? with
  | some (.tr t) => t.at p.2
  | some (.lk t) => t.at p.2
  | _ => none
@[simp] def look (i : Nat) (ρ : Rho) : Option D := match ρ[i]? with
  | some (.fz d) => some d
  | some (.ow ds) => some (.list ds)
  | some (.lk t) => lkD t
  | some (.pa k qs) => (trAt (k, qs) ρ).bind lkD
  | _ => none
def AtV (H : Hp) (σ : St) (ρ : Rho) (p : Pth) (v : V) (s : Tr) : Prop := ∃ u t, σ[p.1]? = some (some u) ∧ isTr ρ p.1 t ∧ At H u t p.2 v s
theorem trAt_is {p : Pth} {ρ : Rho} {s : Tr} (h : trAt p ρ = some s) : ∃ t, isTr ρ p.1 t ∧ t.at p.2 = some s := by
  unfold trAt at h
  split at h
  · rename_i t e; exact ⟨t, .inl e, h⟩
  · rename_i t e; exact ⟨t, .inr e, h⟩
  · cases h
theorem Rp.tree {Hf H : Hp} {σ : St} {ρ : Rho} (r : Rp Hf H σ ρ) {i : Nat} {t : Tr} (h : isTr ρ i t) : ∃ v F, σ[i]? = some (some v) ∧ TR Hf H v t F := by
  rcases h with e | e
  · obtain ⟨v, F, e1, r1, _⟩ := slok_tr' (r.sl i _ e); exact ⟨v, F, e1, r1⟩
  · obtain ⟨v, F, e1, r1⟩ := slok_lk' (r.sl i _ e); exact ⟨v, F, e1, r1⟩
theorem AtV.trAt {H : Hp} {σ : St} {ρ : Rho} {p : Pth} {v : V} {s : Tr} (h : AtV H σ ρ p v s) : trAt p ρ = some s := by
  obtain ⟨u, t, e1, e2, a⟩ := h
  unfold Fx.trAt
  rcases e2 with e | e <;> (rw [e]; exact a.at)
theorem AtV.tr {Hf H : Hp} {σ : St} {ρ : Rho} (r : Rp Hf H σ ρ) {p : Pth} {v : V} {s : Tr} (h : AtV H σ ρ p v s) : ∃ M, TR Hf H v s M := by
  obtain ⟨u, t, e1, e2, a⟩ := h
  obtain ⟨u', F, e3, r1⟩ := r.tree e2
  rw [e1] at e3; cases e3
  obtain ⟨M, z, _⟩ := r1.atv a
  exact ⟨M, z⟩
theorem AtV.inj {H : Hp} {σ : St} {ρ : Rho} {p : Pth} {v w : V} {s s' : Tr} (h : AtV H σ ρ p v s) (h' : AtV H σ ρ p w s') : v = w ∧ s = s' := by
  have es : s = s' := by
    have a := h.trAt
    rw [h'.trAt] at a
    exact (Option.some.inj a).symm
  subst es
  obtain ⟨u, t, e1, e2, a⟩ := h
  obtain ⟨u', t', e1', e2', a'⟩ := h'
  rw [e1] at e1'; cases e1'
  have et : t = t' := by
    rcases e2 with e | e <;> rcases e2' with e' | e' <;> (rw [e] at e'; cases e'; try rfl)
  subst et
  exact ⟨(a.inj a').1, rfl⟩
theorem AtV.keep {Hf H Hf' H' : Hp} {σ σ' : St} {ρ ρ' : Rho} (r : Rp Hf H σ ρ) (n : Nxt true σ ρ Hf H σ' ρ' Hf' H') {p : Pth} {v : V} {s : Tr} (h : AtV H σ ρ p v s) : AtV H' σ' ρ' p v s := by
  obtain ⟨u, t, e1, e2, a⟩ := h
  obtain ⟨q1, q2⟩ := n.qt rfl
  rcases e2 with e | e
  · obtain ⟨g1, g2, g3⟩ := q1 _ t e
    refine ⟨u, t, g2.trans e1, .inl g1, r.at_mono (.inl e) e1 g3 (fun b z => ?_) a⟩
    obtain ⟨o, ho, to⟩ := r.lka z
    rw [ho]; exact n.keep b o ho to (r.lk b z)
  · obtain ⟨g1, g2⟩ := q2 _ (.inl ⟨t, e⟩)
    refine ⟨u, t, g2.trans e1, .inr (g1.trans e), r.at_mono (.inr e) e1 (fun b z => ?_) (fun b z => ?_) a⟩
    · obtain ⟨s, v, g3, _, o⟩ := z
      rw [e] at g3; cases g3
      exact o.elim
    · obtain ⟨o, ho, to⟩ := r.lka z
      rw [ho]; exact n.keep b o ho to (r.lk b z)
def R1 (Hf H : Hp) (v : V) (d : D) : Prop := Rep Hf v d ∨ ∃ p vs ds, v = .ref p ∧ d = .list ds ∧ H p = some (.lst vs) ∧ RepA Hf vs ds
section
variable {Hf H : Hp} {v : V} {d : D} {ds : List D} {σ : St} {ρ : Rho}
theorem R1.lst (sm : Same Hf H) (h : R1 Hf H v (.list ds)) : ∃ p vs, v = .ref p ∧ H p = some (.lst vs) ∧ RepA Hf vs ds := by
  rcases h with h | ⟨p, vs, es, e1, e2, h1, h2⟩
  · cases h with
    | lst h1 h2 => exact ⟨_, _, rfl, sm _ _ h1, h2⟩
  · cases e2
    exact ⟨p, vs, e1, h1, h2⟩
theorem R1.rep (h : R1 Hf H v d) (hn : ∀ ds, d ≠ .list ds) : Rep Hf v d := h.elim id fun ⟨_, _, ds, _, e, _⟩ => absurd e (hn ds)
theorem R1.tup (sm : Same Hf H) (h : R1 Hf H v (.tuple ds)) : ∃ p vs, v = .ref p ∧ H p = some (.tup vs) ∧ RepA Hf vs ds := by
  have q := h.rep fun _ z => nomatch z
  cases q with
  | tup h1 h2 => exact ⟨_, _, rfl, sm _ _ h1, h2⟩
theorem R1.int {i : Int} (h : R1 Hf H v (.int i)) : v = .int i := by
  have q := h.rep fun _ z => nomatch z
  cases q
  rfl
theorem R1.str {i : Str} (h : R1 Hf H v (.str i)) : v = .str i := by
  have q := h.rep fun _ z => nomatch z
  cases q
  rfl
theorem R1.bool {i : Bool} (h : R1 Hf H v (.bool i)) : v = .bl i := by
  have q := h.rep fun _ z => nomatch z
  cases q
  rfl
theorem R1.non (h : R1 Hf H v .none) : v = .non := by
  have q := h.rep fun _ z => nomatch z
  cases q
  rfl
theorem R1.full (sm : Same Hf H) (h : R1 Hf H v d) : Rep H v d := by
  rcases h with h | ⟨p, vs, ds, rfl, rfl, h1, h2⟩
  · exact rep_same sm h
  · exact .lst h1 (repA_same sm h2)
theorem lkD_R1 {M : List Addr} {s : Tr} (h : TR Hf H v s M) (e : lkD s = some d) : R1 Hf H v d := by
  cases h with
  | fz r => cases e; exact .inl r
  | ow h1 h2 => cases e; exact .inr ⟨_, _, _, rfl, rfl, h1, h2⟩
  | dk _ _ _ => cases e
  | dt _ _ _ => cases e
  | nd _ _ => cases e
theorem look_R1 {i : Nat} (rp : Rp Hf H σ ρ) (h : look i ρ = some d) : ∃ v, σ[i]? = some (some v) ∧ R1 Hf H v d := by
  unfold look at h
  cases e : ρ[i]? with
  | none => rw [e] at h; cases h
  | some s =>
    rw [e] at h
    cases s with
    | un => cases h
    | raw v => cases h
    | tr t => cases h
    | fz d' =>
      cases h
      obtain ⟨v, h1, h2⟩ := slok_fz' (rp.sl i _ e)
      exact ⟨v, h1, .inl h2⟩
    | ow ds =>
      cases h
      obtain ⟨p, vs, h1, h2, h3, h4⟩ := slok_ow (rp.sl i _ e)
      exact ⟨_, h1, .inr ⟨p, vs, ds, rfl, rfl, h3, h4⟩⟩
    | lk t =>
      obtain ⟨v, F, h1, h2⟩ := slok_lk' (rp.sl i _ e)
      exact ⟨v, h1, lkD_R1 h2 h⟩
    | pa k qs =>
      dsimp only at h
      cases e1 : trAt (k, qs) ρ with
      | none => rw [e1] at h; cases h
      | some s =>
        rw [e1] at h
        obtain ⟨t, h1, h2⟩ := trAt_is e1
        obtain ⟨v, w, s', g1, g2, g3⟩ := rp.al i k qs t e h1
        have av : AtV H σ ρ (k, qs) w s' := ⟨v, t, g1, h1, g3⟩
        have es : s' = s := by
          have a := av.trAt
          rw [e1] at a
          exact (Option.some.inj a).symm
        subst es
        obtain ⟨M, z⟩ := av.tr rp
        exact ⟨w, g2, lkD_R1 z h⟩
end
def AfP (G : Gx) (σ : St) (ρ : Rho) (Hf H : Hp) (Q : VK) : Res Pth → Prop
  | .ok (p, ρ') => ∀ v s Hf' H', Nxt G.q σ ρ Hf H σ ρ' Hf' H' → AtV H' σ ρ' p v s → Q v H'
  | .exc c ρ' => ∀ Hf' H', Nxt G.q σ ρ Hf H σ ρ' Hf' H' → G.W (.ref (G.cA c)) none σ H'
  | .bad => False
def tPl (G : Gx) (f : M Pth) : TE := fun σ H Q => ∃ Hf ρ, Rp Hf H σ ρ ∧ AfP G σ ρ Hf H Q (f ρ)
theorem tPl.mono {f : M Pth} {σ : St} {H : Hp} {Q Q' : VK} (h : ∀ x H, Q x H → Q' x H) (t : tPl G f σ H Q) : tPl G f σ H Q' := by
  obtain ⟨Hf, ρ, rp, q⟩ := t
  refine ⟨Hf, ρ, rp, ?_⟩
  cases e : f ρ with
  | ok x => obtain ⟨ds, ρ'⟩ := x; rw [e] at q; exact fun v s Hf' H' n a => h _ _ (q v s Hf' H' n a)
  | exc c ρ' => rw [e] at q; exact q
  | bad => rw [e] at q; exact q
inductive Opd where
  | e (f : M D)
  | v (i : Nat)
  | p (f : M Pth)
@[simp] def lookP (p : Pth) : M D := fun ρ => match (trAt p ρ).bind lkD with
  | some d => .ok (d, ρ)
  | none => .bad
@[simp] def Opd.go : Opd → M D
  | .e f => f
  | .v i => fun ρ => match look i ρ with
    | some d => .ok (d, ρ)
    | none => .bad
  | .p f => fun ρ => bnd f lookP ρ
@[simp] def Opd.at : Opd → D → Rho → Option D
  | .e _, d, _ => some d
  | .v i, _, ρ => look i ρ
  | .p _, d, _ => some d
def Opd.t (G : Gx) : Opd → TE
  | .e f => tE G f
  | .v i => tVar i
  | .p f => tPl G f
def Opd.r : Opd → St → Rho → Hp → Hp → V → D → Prop
  | .e _, _, _, Hf, _, x, d => Rep Hf x d
  | .v i, σ, _, _, _, x, _ => σ[i]? = some (some x)
  | .p _, σ, ρ, _, H, x, d => ∃ p s, AtV H σ ρ p x s ∧ lkD s = some d
def Opd.qok (G : Gx) : Opd → Prop
  | .p _ => G.q = true
  | _ => True
section
variable {α β : Type} {R : Hp → β → α → Prop} {σ : St} {ρ ρ1 ρ2 : Rho} {Hf H Hf1 H1 Hf2 H2 : Hp} {Q : β → Hp → Prop} {A B : Opd}
theorem Opd.keep (hq : A.qok G) (rp : Rp Hf1 H1 σ ρ1) (n : Nxt G.q σ ρ1 Hf1 H1 σ ρ2 Hf2 H2) {v : V} {d : D} (h : A.r σ ρ1 Hf1 H1 v d) : A.r σ ρ2 Hf2 H2 v d := by
  cases A with
  | e f => exact rep_same n.sub h
  | v i => exact h
  | p f =>
    obtain ⟨p, s, a, e⟩ := h
    have hq' : G.q = true := hq
    rw [hq'] at n
    exact ⟨p, s, a.keep rp n, e⟩
theorem Opd.end (rp : Rp Hf H σ ρ) {v : V} {d x : D} (h : A.r σ ρ Hf H v d) (e : A.at d ρ = some x) : R1 Hf H v x := by
  cases A with
  | e f => cases e; exact .inl h
  | v i =>
    obtain ⟨w, h1, h2⟩ := look_R1 rp e
    have h' : σ[i]? = some (some v) := h
    rw [h1] at h'
    cases h'
    exact h2
  | p f =>
    cases e
    obtain ⟨p, s, a, e⟩ := h
    obtain ⟨M, z⟩ := a.tr rp
    exact lkD_R1 z e
theorem stepO {k : D → M α} (rp : Rp Hf H σ ρ) (af : AfG G R σ ρ Hf H Q (bnd A.go k ρ)) :
    A.t G σ H fun y H1 => ∃ b Hf1 ρ1, Nxt G.q σ ρ Hf H σ ρ1 Hf1 H1 ∧ A.r σ ρ1 Hf1 H1 y b ∧ AfG G R σ ρ1 Hf1 H1 Q (k b ρ1) := by
  cases A with
  | e f => exact step rp af
  | v i =>
    unfold bnd Opd.go at af
    dsimp only at af
    cases e : look i ρ with
    | none => rw [e] at af; exact af.elim
    | some d =>
      rw [e] at af
      obtain ⟨v, h1, _⟩ := look_R1 rp e
      exact ⟨v, h1, d, Hf, ρ, .refl rp, h1, af⟩
  | p f =>
    refine ⟨Hf, ρ, rp, ?_⟩
    unfold bnd Opd.go bnd at af
    dsimp only at af
    cases e : f ρ with
    | ok x =>
      obtain ⟨p, ρ1⟩ := x
      rw [e] at af
      dsimp only at af
      intro v s Hf1 H1 n a
      unfold lookP at af
      cases e2 : (trAt p ρ1).bind lkD with
      | none => rw [e2] at af; exact af.elim
      | some d =>
        rw [e2] at af
        rw [a.trAt] at e2
        exact ⟨d, Hf1, ρ1, n, ⟨p, s, a, e2⟩, af.later n⟩
    | exc c ρ1 => rw [e] at af; exact af
    | bad => rw [e] at af; exact af
theorem Opd.run {Q Q' : VK} (t : A.t G σ H Q) (h : ∀ x H, Q x H → Q' x H) : A.t G σ H Q' := by
  cases A with
  | e f => exact tG.mono h t
  | v i => exact ⟨t.choose, t.choose_spec.1, h _ _ t.choose_spec.2⟩
  | p f => exact tPl.mono h t
end
@[simp] def fin2 {α : Type} (A B : Opd) (a b : D) (k : D → D → Option α) : M α := fun ρ => match A.at a ρ with
  | some x => (match B.at b ρ with
    | some y => opt (k x y) ρ
    | none => .bad)
  | none => .bad
@[simp] def fOp (o : D → D → Option D) (A B : Opd) : M D := fun ρ => (bnd A.go fun a => bnd B.go fun b => fin2 A B a b o) ρ
def RdO (r : R2) (o : D → D → Option D) : Prop := ∀ (Hf H : Hp) (x y : V) (a b d : D), Same Hf H → R1 Hf H x a → R1 Hf H y b → o a b = some d → ∃ v, Rep Hf v d ∧ ∀ Q : VK, Q v H → r x y H Q
theorem fin2_some {α β : Type} {R : Hp → β → α → Prop} {σ : St} {ρ : Rho} {Hf H : Hp} {Q : β → Hp → Prop} {A B : Opd} {a b : D} {k : D → D → Option α} (af : AfG G R σ ρ Hf H Q (fin2 A B a b k ρ)) : ∃ x y, A.at a ρ = some x ∧ B.at b ρ = some y ∧ AfG G R σ ρ Hf H Q (opt (k x y) ρ) := by
  unfold fin2 at af
  cases e1 : A.at a ρ with
  | none => rw [e1] at af; exact af.elim
  | some x =>
    rw [e1] at af
    cases e2 : B.at b ρ with
    | none => simp only [e2] at af; exact False.elim af
    | some y =>
      simp only [e2] at af
      exact ⟨x, y, rfl, rfl, af⟩
variable {A B : Opd}
theorem rd_op {r : R2} {o : D → D → Option D} (hqa : A.qok G) (hr : RdO r o) (σ : St) (H : Hp) (Q : VK) (h : tE G (fOp o A B) σ H Q) : tOp r (A.t G) (B.t G) σ H Q := by
  obtain ⟨Hf, ρ, rp, af⟩ := h
  refine Opd.run (stepO rp af) fun x H1 ⟨a, Hf1, ρ1, n1, ra, af1⟩ => Opd.run (stepO n1.rp af1) fun y H2 ⟨b, Hf2, ρ2, n2, rb, af2⟩ => ?_
  obtain ⟨a', b', ea, eb, af3⟩ := fin2_some af2
  obtain ⟨d, e, k⟩ := finO n2.rp af3
  obtain ⟨v, dv, hq⟩ := hr Hf2 H2 x y a' b' d n2.rp.sub (Opd.end n2.rp (Opd.keep hqa n1.rp n2 ra) ea) (Opd.end n2.rp rb eb) e
  exact hq Q (k v dv)
theorem fe_op {r : R2} {o : D → D → Option D} {op : Operator} (ho : OpR X (binaryOp op) r) (hr : RdO r o) (ha : PE X a (A.t G)) (hb : PE X b (B.t G)) (hqa : A.qok G := by first | exact True.intro | rfl) : PE X (.BinOp a op b pos) (tE G (fOp o A B)) :=
  (pe_op ho ha hb).imp (rd_op hqa hr)
theorem fe_cmp {r : R2} {o : D → D → Option D} {op : CmpOp} (ho : OpR X (compareOp op) r) (hr : RdO r o) (ha : PE X a (A.t G)) (hb : PE X b (B.t G)) (hm : behindInMarks op b = false) (hqa : A.qok G := by first | exact True.intro | rfl) : PE X (.Compare a [op] [b] pos) (tE G (fOp o A B)) :=
  (pe_cmpR ho ha hb hm).imp (rd_op hqa hr)
@[simp] def oI (C : Int → Int → Bool) (g : Int → Int → D) : D → D → Option D
  | .int i, .int j => if C i j then some (g i j) else none
  | _, _ => none
@[simp] def oI0 (g : Int → Int → D) : D → D → Option D
  | .int i, .int j => some (g i j)
  | _, _ => none
theorem rd_I0 {g : Int → Int → D} {gv : Int → Int → V} (h : ∀ i j, sc (g i j) = some (gv i j)) : RdO (rI0 gv) (oI0 g) := by
  intro Hf H x y a b d _ ha hb e
  cases a <;> cases b <;> simp only [oI0, reduceCtorEq, Option.some.injEq] at e
  subst e
  exact ⟨_, rep_sc (h _ _), fun Q q => ⟨_, _, ha.int, hb.int, q⟩⟩
theorem rd_I {C : Int → Int → Bool} {C' : Int → Int → Prop} {g : Int → Int → D} {gv : Int → Int → V} (hC : ∀ i j, C i j = true → C' i j) (h : ∀ i j, sc (g i j) = some (gv i j)) : RdO (rI C' gv) (oI C g) := by
  intro Hf H x y a b d _ ha hb e
  cases a <;> cases b <;> simp only [oI, reduceCtorEq] at e
  split at e
  · rename_i hc
    cases e
    exact ⟨_, rep_sc (h _ _), fun Q q => ⟨_, _, ha.int, hb.int, hC _ _ hc, q⟩⟩
  · cases e
abbrev oAdd := oI0 fun i j => .int (i + j)
abbrev oSub := oI0 fun i j => .int (i - j)
def cMul (i j : Int) : Bool := decide (i.natAbs < 2 ^ 64 ∨ j.natAbs < 2 ^ 64)
abbrev oMul := oI cMul fun i j => .int (i * j)
def cDiv (i j : Int) : Bool := decide (0 < j ∧ j.natAbs.log2 < 9000)
abbrev oDiv := oI cDiv fun i j => .int (i / j)
def cMod (i j : Int) : Bool := decide (0 < j)
abbrev oMod := oI cMod fun i j => .int (i % j)
def cPow (i j : Int) : Bool := decide (0 ≤ j ∧ j ≤ 1000000 ∧ i.natAbs < 2 ^ 64)
abbrev oPow := oI cPow fun i j => .int (i ^ j.toNat)
abbrev oLt := oI0 fun i j => .bool (decide (i < j))
abbrev oLe := oI0 fun i j => .bool (decide (i ≤ j))
abbrev oGt := oI0 fun i j => .bool (decide (j < i))
abbrev oGe := oI0 fun i j => .bool (decide (j ≤ i))
theorem rd_add : RdO (rI0 fun i j => .int (i + j)) oAdd := rd_I0 fun _ _ => rfl
theorem rd_sub : RdO (rI0 fun i j => .int (i - j)) oSub := rd_I0 fun _ _ => rfl
theorem rd_lt : RdO (rI0 fun i j => .bl (decide (i < j))) oLt := rd_I0 fun _ _ => rfl
theorem rd_le : RdO (rI0 fun i j => .bl (decide (i ≤ j))) oLe := rd_I0 fun _ _ => rfl
theorem rd_gt : RdO (rI0 fun i j => .bl (decide (j < i))) oGt := rd_I0 fun _ _ => rfl
theorem rd_ge : RdO (rI0 fun i j => .bl (decide (j ≤ i))) oGe := rd_I0 fun _ _ => rfl
theorem fe_add (ha : PE X a (A.t G)) (hb : PE X b (B.t G)) (hqa : A.qok G := by first | exact True.intro | rfl) : PE X (.BinOp a .Add b pos) (tE G (fOp oAdd A B)) := fe_op op_add rd_add ha hb hqa
theorem fe_sub (ha : PE X a (A.t G)) (hb : PE X b (B.t G)) (hqa : A.qok G := by first | exact True.intro | rfl) : PE X (.BinOp a .Sub b pos) (tE G (fOp oSub A B)) := fe_op op_sub rd_sub ha hb hqa
theorem fe_mul (ha : PE X a (A.t G)) (hb : PE X b (B.t G)) (hqa : A.qok G := by first | exact True.intro | rfl) : PE X (.BinOp a .Mult b pos) (tE G (fOp oMul A B)) := fe_op op_mul (rd_I (fun _ _ h => by unfold cMul at h; have q := of_decide_eq_true h; exact q.imp (fun z => ⟨by omega, by omega⟩) (fun z => ⟨by omega, by omega⟩)) fun _ _ => rfl) ha hb hqa
theorem fe_div (ha : PE X a (A.t G)) (hb : PE X b (B.t G)) (hqa : A.qok G := by first | exact True.intro | rfl) : PE X (.BinOp a .FloorDiv b pos) (tE G (fOp oDiv A B)) := fe_op op_fdivW (rd_I (fun _ _ h => by unfold cDiv at h; have q := of_decide_eq_true h; exact q) fun _ _ => rfl) ha hb hqa
theorem fe_mod (ha : PE X a (A.t G)) (hb : PE X b (B.t G)) (hqa : A.qok G := by first | exact True.intro | rfl) : PE X (.BinOp a .Mod b pos) (tE G (fOp oMod A B)) := fe_op op_mod (rd_I (fun _ _ h => of_decide_eq_true h) fun _ _ => rfl) ha hb hqa
theorem fe_pow (ha : PE X a (A.t G)) (hb : PE X b (B.t G)) (hqa : A.qok G := by first | exact True.intro | rfl) : PE X (.BinOp a .Pow b pos) (tE G (fOp oPow A B)) := fe_op op_pow (rd_I (fun _ _ h => by unfold cPow at h; have q := of_decide_eq_true h; exact q) fun _ _ => rfl) ha hb hqa
def oEq : D → D → Option D
  | .int i, .int j => some (.bool (decide (i = j)))
  | .str i, .str j => some (.bool (decide (i = j)))
  | .bool i, .bool j => some (.bool (decide (i = j)))
  | _, _ => none
def oNe : D → D → Option D
  | .int i, .int j => some (.bool (!decide (i = j)))
  | .str i, .str j => some (.bool (!decide (i = j)))
  | .bool i, .bool j => some (.bool (!decide (i = j)))
  | _, _ => none
theorem dec_congr {p q : Prop} [Decidable p] [Decidable q] (h : p ↔ q) : decide p = decide q := by
  by_cases hp : p
  · rw [decide_eq_true hp, decide_eq_true (h.mp hp)]
  · rw [decide_eq_false hp, decide_eq_false fun z => hp (h.mpr z)]
theorem rd_eq : RdO rEq oEq := by
  intro Hf H x y a b d _ ha hb e
  cases a <;> cases b <;> simp only [oEq, reduceCtorEq, Option.some.injEq] at e <;> subst e
  · cases ha.bool; cases hb.bool; exact ⟨_, .bl _, fun Q q => ⟨rfl, by rw [dec_congr ⟨V.bl.inj, congrArg V.bl⟩]; exact q⟩⟩
  · cases ha.int; cases hb.int; exact ⟨_, .bl _, fun Q q => ⟨rfl, by rw [dec_congr ⟨V.int.inj, congrArg V.int⟩]; exact q⟩⟩
  · cases ha.str; cases hb.str; exact ⟨_, .bl _, fun Q q => ⟨rfl, by rw [dec_congr ⟨V.str.inj, congrArg V.str⟩]; exact q⟩⟩
theorem rd_ne : RdO rNe oNe := by
  intro Hf H x y a b d _ ha hb e
  cases a <;> cases b <;> simp only [oNe, reduceCtorEq, Option.some.injEq] at e <;> subst e
  · cases ha.bool; cases hb.bool; exact ⟨_, .bl _, fun Q q => ⟨rfl, by rw [dec_congr ⟨V.bl.inj, congrArg V.bl⟩]; exact q⟩⟩
  · cases ha.int; cases hb.int; exact ⟨_, .bl _, fun Q q => ⟨rfl, by rw [dec_congr ⟨V.int.inj, congrArg V.int⟩]; exact q⟩⟩
  · cases ha.str; cases hb.str; exact ⟨_, .bl _, fun Q q => ⟨rfl, by rw [dec_congr ⟨V.str.inj, congrArg V.str⟩]; exact q⟩⟩
theorem fe_q (h : PE X e (tE (qG G) f)) : PE X e (tE G f) := h.imp fun σ H Q ⟨Hf, ρ, rp, af⟩ => ⟨Hf, ρ, rp, by
  cases e1 : f ρ with
  | ok x => obtain ⟨d, ρ1⟩ := x; rw [e1] at af; exact fun v Hf' H' n r => af v Hf' H' (Nxt.qto n) r
  | exc c ρ1 => rw [e1] at af; exact fun Hf' H' n => af Hf' H' (Nxt.qto n)
  | bad => rw [e1] at af; exact af⟩
end
end Fx
namespace Fx
open PySem L2
variable [Tabz]
section
variable {X : Cx} {G : Gx} {e a b : Expr} {es : List Expr} {f g : M D} {fs : M (List D)} {pos : Pos}
@[simp] def asB : D → Option Bool
  | .bool b => some b
  | _ => none
@[simp] def fB (f : M D) : M Bool := fun ρ => (bnd f fun d => opt (asB d)) ρ
theorem asB_eq {d : D} {c : Bool} (h : asB d = some c) : d = .bool c := by
  cases d <;> simp only [asB, reduceCtorEq, Option.some.injEq] at h
  rw [h]
theorem rep_bool {H : Hp} {v : V} {c : Bool} (h : Rep H v (.bool c)) : v = .bl c := by cases h; rfl
theorem rep_int {H : Hp} {v : V} {c : Int} (h : Rep H v (.int c)) : v = .int c := by cases h; rfl
theorem rd_B (σ : St) (H : Hp) (Q : Bool → Hp → Prop) (h : tT G (fB f) σ H Q) : tE G f σ H fun x H1 => ∃ c, x = .bl c ∧ Q c H1 := by
  obtain ⟨Hf, ρ, rp, af⟩ := h
  refine (step rp af).mono fun x H1 ⟨d, Hf1, ρ1, n1, ra, af1⟩ => ?_
  obtain ⟨c, e, k⟩ := finO n1.rp af1
  rw [asB_eq e] at ra
  exact ⟨c, rep_bool ra, k c rfl⟩
theorem ft_val (h : PE X e (tE G f)) (he : ∀ whole, isTrue e X.env whole = (do let v ← whole; standAt e.pos; holding [v] (truthy v)) := by intro _; rfl) : PT X e (tT G (fB f)) :=
  (pt_val h he).imp fun σ H Q h => rd_B σ H Q h
variable {A B : Opd}
theorem ft_cmp {op : CmpOp} {r : R2} {o : D → D → Option D} (ho : OpR X (compareOp op) r) (hr : RdO r o) (ha : PE X a (A.t G)) (hb : PE X b (B.t G)) (hm : behindInMarks op b = false) (hqa : A.qok G := by first | exact True.intro | rfl) : PT X (.Compare a [op] [b] pos) (tT G (fB (fOp o A B))) :=
  (pt_cmpR ho ha hb hm).imp fun σ H Q h => rd_op hqa (fun _ _ _ _ _ _ _ h1 h2 h3 h4 => hr _ _ _ _ _ _ _ h1 h2 h3 h4) σ H _ (rd_B σ H Q h)
@[simp] def tAndM (f g : M Bool) : M Bool := fun ρ => (bnd f fun c => if c = true then g else ret false) ρ
@[simp] def tOrM (f g : M Bool) : M Bool := fun ρ => (bnd f fun c => if c = true then ret true else g) ρ
@[simp] def tNotM (f : M Bool) : M Bool := fun ρ => (bnd f fun c => ret (!c)) ρ
variable {p q : M Bool} {rest : List Expr}
theorem fw_and1 (ha : PT X a (tT G p)) : PW X (.BoolOp .And [a] pos) (tT G p) := pw_and1 ha
theorem fw_or1 (ha : PT X a (tT G p)) : PW X (.BoolOp .Or [a] pos) (tT G p) := pw_or1 ha
theorem _root_.L2.PW.imp {t t' : TT} (h : PW X e t) (i : ∀ σ H Q, t' σ H Q → t σ H Q) : PW X e t' := ⟨fun w pins s σ H Q I q => h.run w pins s σ H Q I (i _ _ _ q)⟩
theorem fw_and (ha : PT X a (tT G p)) (hb : PW X (.BoolOp .And (b :: rest) pos) (tT G q)) : PW X (.BoolOp .And (a :: b :: rest) pos) (tT G (tAndM p q)) := by
  refine (pw_and ha hb).imp fun σ H Q ⟨Hf, ρ, rp, af⟩ => ?_
  refine (step rp af).mono fun x H1 ⟨d, Hf1, ρ1, n1, ra, af1⟩ => ?_
  subst ra
  cases x with
  | true => exact ⟨Hf1, ρ1, n1.rp, af1⟩
  | false => exact fin n1.rp af1 rfl
theorem fw_or (ha : PT X a (tT G p)) (hb : PW X (.BoolOp .Or (b :: rest) pos) (tT G q)) : PW X (.BoolOp .Or (a :: b :: rest) pos) (tT G (tOrM p q)) := by
  refine (pw_or ha hb).imp fun σ H Q ⟨Hf, ρ, rp, af⟩ => ?_
  refine (step rp af).mono fun x H1 ⟨d, Hf1, ρ1, n1, ra, af1⟩ => ?_
  subst ra
  cases x with
  | false => exact ⟨Hf1, ρ1, n1.rp, af1⟩
  | true => exact fin n1.rp af1 rfl
theorem ft_not (ha : PT X a (tT G p)) : PT X (.UnaryOp .Not a pos) (tT G (tNotM p)) := by
  refine (pt_not ha).imp fun σ H Q ⟨Hf, ρ, rp, af⟩ => ?_
  refine (step rp af).mono fun x H1 ⟨d, Hf1, ρ1, n1, ra, af1⟩ => ?_
  subst ra
  exact fin n1.rp af1 rfl
@[simp] def vAnd (f g : M D) : M D := fun ρ => (bnd f fun d => bnd (opt (asB d)) fun c => if c = true then g else ret (.bool false)) ρ
@[simp] def vOr (f g : M D) : M D := fun ρ => (bnd f fun d => bnd (opt (asB d)) fun c => if c = true then ret (.bool true) else g) ρ
@[simp] def vNot (f : M D) : M D := fun ρ => (bnd f fun d => bnd (opt (asB d)) fun c => ret (.bool (!c))) ρ
theorem optB {K : Bool → M D} {σ : St} {ρ : Rho} {Hf H : Hp} {Q : VK} {d : D} (af : AfG G Rep σ ρ Hf H Q (bnd (opt (asB d)) K ρ)) : ∃ c, d = .bool c ∧ AfG G Rep σ ρ Hf H Q (K c ρ) := by
  cases d <;> first | exact af.elim | exact ⟨_, rfl, af⟩
theorem fe_and (ha : PE X a (tE G f)) (hb : PE X (.BoolOp .And (b :: rest) pos) (tE G g)) : PE X (.BoolOp .And (a :: b :: rest) pos) (tE G (vAnd f g)) := by
  refine (pe_and ha hb).imp fun σ H Q ⟨Hf, ρ, rp, af⟩ => ?_
  refine (step rp af).mono fun x H1 ⟨d, Hf1, ρ1, n1, ra, af1⟩ => ?_
  obtain ⟨c, rfl, af2⟩ := optB af1
  refine ⟨c, rep_bool ra, ?_⟩
  cases c with
  | true => exact ⟨Hf1, ρ1, n1.rp, af2⟩
  | false => exact fin n1.rp af2 (.bl false)
theorem fe_one {op : BoolOp} (h : PE X a (tE G f)) : PE X (.BoolOp op [a] pos) (tE G f) := pe_one h
@[simp] def fIf (p : M Bool) (f g : M D) : M D := fun ρ => (bnd p fun c => if c = true then f else g) ρ
@[simp] def fin1 {α : Type} (A : Opd) (a : D) (k : D → Option α) : M α := fun ρ => match A.at a ρ with
  | some x => opt (k x) ρ
  | none => .bad
theorem fin1_some {α β : Type} {R : Hp → β → α → Prop} {σ : St} {ρ : Rho} {Hf H : Hp} {Q : β → Hp → Prop} {a : D} {k : D → Option α} (af : AfG G R σ ρ Hf H Q (fin1 A a k ρ)) : ∃ x, A.at a ρ = some x ∧ AfG G R σ ρ Hf H Q (opt (k x) ρ) := by
  unfold fin1 at af
  cases e1 : A.at a ρ with
  | none => rw [e1] at af; exact af.elim
  | some x => rw [e1] at af; exact ⟨x, rfl, af⟩
@[simp] def fUn (o : D → Option D) (A : Opd) : M D := fun ρ => (bnd A.go fun a => fin1 A a o) ρ
def RdU (r : V → Hp → VK → Prop) (o : D → Option D) : Prop := ∀ (Hf H : Hp) (x : V) (a d : D), Same Hf H → R1 Hf H x a → o a = some d → ∃ v, Rep Hf v d ∧ ∀ Q : VK, Q v H → r x H Q
theorem rd_un {r : V → Hp → VK → Prop} {o : D → Option D} (hr : RdU r o) (σ : St) (H : Hp) (Q : VK) (h : tE G (fUn o A) σ H Q) : A.t G σ H fun x H1 => r x H1 Q := by
  obtain ⟨Hf, ρ, rp, af⟩ := h
  refine Opd.run (stepO rp af) fun x H1 ⟨a, Hf1, ρ1, n1, ra, af1⟩ => ?_
  obtain ⟨a', ea, af2⟩ := fin1_some af1
  obtain ⟨d, e, k⟩ := finO n1.rp af2
  obtain ⟨v, dv, hq⟩ := hr Hf1 H1 x a' d n1.rp.sub (Opd.end n1.rp ra ea) e
  exact hq Q (k v dv)
@[simp] def isN : D → Bool
  | .none => true
  | _ => false
@[simp] def oIsN (d : D) : Option D := some (.bool (isN d))
@[simp] def oNotN (d : D) : Option D := some (.bool (!isN d))
theorem r1_isN {Hf H : Hp} {x : V} {d : D} (h : R1 Hf H x d) : decide (x = .non) = isN d := by
  rcases h with h | ⟨p, vs, ds, rfl, rfl, _⟩
  · cases h <;> rfl
  · rfl
theorem rd_isN : RdU (fun x H Q => Q (.bl (decide (x = V.non))) H) oIsN := by
  intro Hf H x a d _ ha e
  cases e
  exact ⟨_, .bl _, fun Q q => by dsimp only; rw [r1_isN ha]; exact q⟩
theorem fe_isN {j : Nat} {p1 : Pos} (ha : PE X a (A.t G)) : PE X (.Compare a [.Is] [.Constant .none j p1] pos) (tE G (fUn oIsN A)) :=
  (pe_cmpR op_isN ha pe_non (nomark _)).imp fun σ H Q h => Opd.run (rd_un rd_isN σ H Q h) fun x H1 q => ⟨rfl, q⟩
theorem ft_isN {j : Nat} {p1 : Pos} (ha : PE X a (A.t G)) : PT X (.Compare a [.Is] [.Constant .none j p1] pos) (tT G (fB (fUn oIsN A))) :=
  (pt_cmpR op_isN ha pe_non (nomark _)).imp fun σ H Q h => Opd.run (rd_un rd_isN σ H _ (rd_B σ H Q h)) fun x H1 q => ⟨rfl, q⟩
@[simp] def oNeg : D → Option D
  | .int i => some (.int (-i))
  | _ => none
theorem rd_neg : RdU (rU fun i => .int (-i)) oNeg := by
  intro Hf H x a d _ ha e
  cases a <;> simp only [oNeg, reduceCtorEq, Option.some.injEq] at e
  subst e
  exact ⟨_, .int _, fun Q q => ⟨_, ha.int, q⟩⟩
theorem fe_neg (ha : PE X a (A.t G)) : PE X (.UnaryOp .USub a pos) (tE G (fUn oNeg A)) := (pe_un un_neg ha).imp (rd_un rd_neg)
@[simp] def fNil : M (List D) := fun ρ => (ret []) ρ
@[simp] def fCons (f : M D) (fs : M (List D)) : M (List D) := fun ρ => (bnd f fun d => bnd fs fun ds => ret (d :: ds)) ρ
theorem fa_nil : PA X [] (tA G fNil) := pa_nil.imp fun σ H Q ⟨Hf, ρ, rp, af⟩ => fin rp af .nil
theorem fa_cons (ha : PE X e (tE G f)) (hr : PA X es (tA G fs)) (hs : starEach (e :: es) X.env = (false, eval e X.env) :: starEach es X.env := by rfl) : PA X (e :: es) (tA G (fCons f fs)) := by
  refine (pa_cons ha hr hs).imp fun σ H Q ⟨Hf, ρ, rp, af⟩ => ?_
  refine (step rp af).mono fun x H1 ⟨d, Hf1, ρ1, n1, ra, af1⟩ => (step n1.rp af1).mono fun y H2 ⟨ds, Hf2, ρ2, n2, rb, af2⟩ => ?_
  exact fin n2.rp af2 (.cons (rep_same n2.sub ra) rb)
theorem repA_len {H : Hp} {vs : List V} {ds : List D} (h : RepA H vs ds) : vs.length = ds.length := by
  induction ds generalizing vs with
  | nil => cases h; rfl
  | cons d ds ih => cases h with | cons _ h => simp [ih h]
def small (n : Nat) : Bool := decide (n ≤ 100000)
theorem small_le {n : Nat} (h : small n = true) : n ≤ sizeLine := Nat.le_trans (of_decide_eq_true h) (by decide)
theorem small_lt {n : Nat} (h : small n = true) : n < sizeLine := Nat.lt_of_le_of_lt (of_decide_eq_true h) (by decide)
def mkT (ds : List D) : Option D := if small ds.length then some (.tuple ds) else none
@[simp] def fTup (fs : M (List D)) : M D := fun ρ => (bnd fs fun ds => opt (mkT ds)) ρ
theorem AfG.new {α β : Type} {R : Hp → β → α → Prop} {σ : St} {ρ : Rho} {Hf H : Hp} {Q : β → Hp → Prop} {a : α} (rp : Rp Hf H σ ρ) (af : AfG G R σ ρ Hf H Q (ret a ρ)) {p : Addr} {o : HO} (hp : H p = none) {x : β} (r : R (upd Hf p o) x a) (ho : NT o := by first | exact NT.lst | exact NT.tup) : Q x (upd H p o) := af x _ _ (rp.new hp ho) r
theorem fe_tup {k : Nat} (h : PA X es (tA G fs)) : PE X (.Tuple es k pos) (tE G (fTup fs)) := by
  refine (pe_tup h).imp fun σ H Q ⟨Hf, ρ, rp, af⟩ => ?_
  refine (step rp af).mono fun x H1 ⟨ds, Hf1, ρ1, n1, ra, af1⟩ => ?_
  unfold mkT at af1
  split at af1
  · rename_i hs
    refine ⟨by rw [repA_len ra]; exact small_le hs, fun p hp => ?_⟩
    exact AfG.new (R := Rep) (a := PyData.tuple ds) n1.rp af1 hp (Rep.tup upd_same (repA_same (same_new (n1.rp.sub.free hp)) ra))
  · exact af1.elim
def AfL (G : Gx) (σ : St) (ρ : Rho) (Hf H : Hp) (Q : VK) : Res (List D) → Prop
  | .ok (ds, ρ') => ∀ p vs Hf' H', Nxt G.q σ ρ Hf H σ ρ' Hf' H' → Fre H σ ρ p → Hf' p = none → ¬ OwnA H' σ ρ' p → H' p = some (.lst vs) → RepA Hf' vs ds → Q (.ref p) H'
  | .exc c ρ' => ∀ Hf' H', Nxt G.q σ ρ Hf H σ ρ' Hf' H' → G.W (.ref (G.cA c)) none σ H'
  | .bad => False
def tL (G : Gx) (f : M (List D)) : TE := fun σ H Q => ∃ Hf ρ, Rp Hf H σ ρ ∧ AfL G σ ρ Hf H Q (f ρ)
theorem AfL.later {σ : St} {ρ ρ1 : Rho} {Hf H Hf1 H1 : Hp} {Q : VK} (n : Nxt G.q σ ρ Hf H σ ρ1 Hf1 H1) : ∀ {o : Res (List D)}, AfL G σ ρ Hf H Q o → AfL G σ ρ1 Hf1 H1 Q o
  | .ok (a, ρ'), q => fun p vs Hf' H' n' hp h1 h2 h3 r => q p vs Hf' H' (n.trans n') (hp.back n) h1 h2 h3 r
  | .exc c ρ', q => fun Hf' H' n' => q Hf' H' (n.trans n')
  | .bad, q => q
theorem stepL {α γ : Type} {R1 : Hp → α → γ → Prop} {σ : St} {ρ : Rho} {Hf H : Hp} {Q : VK} {g : M γ} {k : γ → M (List D)} (rp : Rp Hf H σ ρ) (af : AfL G σ ρ Hf H Q (bnd g k ρ)) :
    tG G R1 g σ H fun y H1 => ∃ b Hf1 ρ1, Nxt G.q σ ρ Hf H σ ρ1 Hf1 H1 ∧ R1 Hf1 y b ∧ AfL G σ ρ1 Hf1 H1 Q (k b ρ1) := by
  refine ⟨Hf, ρ, rp, ?_⟩
  unfold bnd at af
  cases e : g ρ with
  | ok p =>
    obtain ⟨b, ρ1⟩ := p
    rw [e] at af
    exact fun x Hf1 H1 n r => ⟨b, Hf1, ρ1, n, r, af.later n⟩
  | exc c ρ1 => rw [e] at af; exact af
  | bad => rw [e] at af; exact af
theorem Rp.notOwn {σ : St} {ρ : Rho} {Hf H : Hp} (rp : Rp Hf H σ ρ) {p : Addr} (hp : H p = none) : ¬ OwnA H σ ρ p := fun z => by
  obtain ⟨_, vs, h, _⟩ := rp.own z
  rw [h] at hp
  cases hp
theorem Rp.notLk {σ : St} {ρ : Rho} {Hf H : Hp} (rp : Rp Hf H σ ρ) {p : Addr} (hp : H p = none) : ¬ LkA H σ ρ p := fun z => by
  obtain ⟨vs, h, _⟩ := rp.lka z
  rw [h] at hp
  cases hp
theorem Rp.notOwnU {σ : St} {ρ : Rho} {Hf H : Hp} (rp : Rp Hf H σ ρ) {p : Addr} {o : HO} (hp : H p = none) : ¬ OwnA (upd H p o) σ ρ p := fun ⟨i, z⟩ => rp.notOwn hp ⟨i, (rp.ownI_iff (fun b y => upd_ne (fun (e : b = p) => rp.notOwn hp (by rw [← e]; exact ⟨i, y⟩))) p).mp z⟩
theorem finL {σ : St} {ρ : Rho} {Hf H : Hp} {Q : VK} {ds : List D} (rp : Rp Hf H σ ρ) (af : AfL G σ ρ Hf H Q (ret ds ρ)) {p : Addr} {vs : List V} (hp : H p = none) (r : RepA Hf vs ds) : Q (.ref p) (upd H p (.lst vs)) :=
  af p vs _ _ (rp.newO hp) (.inl hp) (rp.sub.free hp) (rp.notOwnU hp) upd_same r
@[simp] def fLst (f : M (List D)) : M D := fun ρ => (bnd f fun ds => ret (.list ds)) ρ
theorem Nxt.take {q : Bool} {σ : St} {ρ ρ0 : Rho} {Hf H Hf0 H0 : Hp} (n : Nxt q σ ρ0 Hf0 H0 σ ρ Hf H) {p : Addr} {vs : List V} {ds : List D} (h0 : Fre H0 σ ρ0 p) (hp : Hf p = none) (no : ¬ OwnA H σ ρ p) (h : H p = some (.lst vs)) (r : RepA Hf vs ds) : Nxt q σ ρ0 Hf0 H0 σ ρ (upd Hf p (.lst vs)) H ∧ Rep (upd Hf p (.lst vs)) (.ref p) (.list ds) := by
  have e1 : Same Hf (upd Hf p (.lst vs)) := same_new hp
  have rp := n.rp
  refine ⟨⟨n.sub.trans e1, n.keep, n.os, n.ls, n.dom, fun a z => (n.fr a z).elim (fun q => (by
    by_cases w : a = p
    · exact .inr (w ▸ h0)
    · exact .inl (by rw [upd_ne w]; exact q))) .inr, n.qt, rp.grow e1 (fun b x q => ?_) rp.tb (rp.nt.upd NT.lst) (fun a z => ⟨?_, rfl⟩) fun _ _ => rfl⟩, .lst upd_same (repA_same e1 r)⟩
  · by_cases z : b = p
    · subst z
      rw [upd_same] at q
      rw [h]
      exact q
    · rw [upd_ne z] at q
      exact rp.sub _ _ q
  · have ne : a ≠ p := fun q => no (q ▸ z)
    rw [upd_ne ne]
    exact (rp.own z).1
theorem fe_ofL {f : M (List D)} (h : PE X e (tL G f)) : PE X e (tE G (fLst f)) := by
  refine h.imp fun σ H Q ⟨Hf, ρ, rp, af⟩ => ⟨Hf, ρ, rp, ?_⟩
  unfold fLst bnd at af
  cases e : f ρ with
  | ok x =>
    obtain ⟨ds, ρ1⟩ := x
    rw [e] at af
    intro p vs Hf' H' n hp h1 h2 h3 r
    obtain ⟨n2, r2⟩ := n.take hp h1 h2 h3 r
    exact af _ _ _ n2 r2
  | exc c ρ1 => rw [e] at af; exact af
  | bad => rw [e] at af; exact af
def mkL (ds : List D) : Option (List D) := if small ds.length then some ds else none
@[simp] def fLs (fs : M (List D)) : M (List D) := fun ρ => (bnd fs fun ds => opt (mkL ds)) ρ
theorem fl_lst (h : PA X es (tA G fs)) : PE X (.List es pos) (tL G (fLs fs)) := by
  refine (pe_lst h).imp fun σ H Q ⟨Hf, ρ, rp, af⟩ => ?_
  refine (stepL rp af).mono fun x H1 ⟨ds, Hf1, ρ1, n1, ra, af1⟩ => ?_
  unfold mkL at af1
  split at af1
  · rename_i hs
    exact ⟨by rw [repA_len ra]; exact small_le hs, fun p hp => finL n1.rp af1 hp ra⟩
  · exact af1.elim
end
end Fx
namespace Fx
open PySem L2
variable [Tabz]
section
variable {X : Cx} {G : Gx} {e a b : Expr} {es : List Expr} {f g : M D} {fs : M (List D)} {pos : Pos} {A B : Opd}
theorem repA_get {H : Hp} : ∀ {vs : List V} {ds : List D} {j : Nat} {d : D}, RepA H vs ds → ds[j]? = some d → ∃ v, vs[j]? = some v ∧ Rep H v d
  | _, _, _, _, .nil, e => by simp at e
  | _, _, 0, _, .cons h _, e => by
    have q := Option.some.inj e
    subst q
    exact ⟨_, rfl, h⟩
  | _, _, j + 1, d, .cons _ t, e => by
    obtain ⟨v, h1, h2⟩ := repA_get (j := j) (d := d) t e
    exact ⟨v, h1, h2⟩
theorem repA_at {H : Hp} {vs : List V} {ds : List D} {i : Int} {d : D} (h : RepA H vs ds) (e : atI ds i = some d) : ∃ v, atI vs i = some v ∧ Rep H v d := by
  unfold atI at e ⊢
  rw [repA_len h]
  cases q : ixN ds.length i with
  | none => rw [q] at e; cases e
  | some j =>
    rw [q] at e
    exact repA_get (j := j) (d := d) h e
@[simp] def oIx : D → D → Option D
  | .list ds, .int i => atI ds i
  | .tuple ds, .int i => atI ds i
  | .str z, .int i => if small z.length then (atI z.cps.toList i).map fun c => .str ⟨#[c]⟩ else none
  | _, _ => none
theorem rd_ix {K : PySem.W.Frag} : RdO (rIx K) oIx := by
  intro Hf H x y a b d sm ha hb e
  cases a <;> cases b <;> simp only [oIx, reduceCtorEq] at e <;> cases hb.int
  · cases ha.str
    split at e
    · rename_i z i hs
      cases q : atI z.cps.toList i with
      | none => rw [q] at e; cases e
      | some c =>
        rw [q] at e
        cases e
        exact ⟨_, .str _, fun Q k => .inr (.inr ⟨_, _, _, rfl, rfl, small_le hs, q, k⟩)⟩
    · cases e
  · obtain ⟨p, vs, rfl, h1, h2⟩ := ha.lst sm
    obtain ⟨v, e1, r⟩ := repA_at h2 e
    exact ⟨v, r, fun Q q => .inl ⟨_, _, _, _, rfl, rfl, SqL.of h1, e1, q⟩⟩
  · obtain ⟨p, vs, rfl, h1, h2⟩ := ha.tup sm
    obtain ⟨v, e1, r⟩ := repA_at h2 e
    exact ⟨v, r, fun Q q => .inr (.inl ⟨_, _, _, _, rfl, rfl, SqT.of h1, e1, q⟩)⟩
theorem fe_ix (ha : PE X a (A.t G)) (hb : PE X b (B.t G)) (hs : PlainIx b := by exact fun _ _ => rfl) (hqa : A.qok G := by first | exact True.intro | rfl) : PE X (.Subscript a b pos) (tE G (fOp oIx A B)) := (pe_ix ix_seq ha hb hs).imp (rd_op hqa rd_ix)
@[simp] def Opd.isP : Opd → Bool
  | .e _ => false
  | .v _ => false
  | .p _ => true
@[simp] def goAll : List Opd → M (List D)
  | [] => ret []
  | A :: As => fun ρ => if (A.isP && !As.isEmpty) = true then .bad else (bnd A.go fun a => bnd (goAll As) fun as => ret (a :: as)) ρ
@[simp] def atAll : List Opd → List D → Rho → Option (List D)
  | [], [], _ => some []
  | A :: As, a :: as, ρ => (match A.at a ρ with
    | some x => (atAll As as ρ).map (x :: ·)
    | none => none)
  | _, _, _ => none
def tAll (G : Gx) : List Opd → TA
  | [] => tNil
  | A :: As => tCons (A.t G) (tAll G As)
def rAll1 : List Opd → St → Rho → Hp → Hp → List V → List D → Prop
  | [], _, _, _, _, [], [] => True
  | A :: As, σ, ρ, Hf, H, v :: vs, d :: ds => A.r σ ρ Hf H v d ∧ rAll1 As σ ρ Hf H vs ds
  | _, _, _, _, _, _, _ => False
inductive R1A (Hf H : Hp) : List V → List D → Prop
  | nil : R1A Hf H [] []
  | cons {v : V} {vs : List V} {d : D} {ds : List D} : R1 Hf H v d → R1A Hf H vs ds → R1A Hf H (v :: vs) (d :: ds)
theorem rAll1_end {σ : St} {ρ : Rho} {Hf H : Hp} (rp : Rp Hf H σ ρ) : ∀ {As : List Opd} {vs : List V} {ds xs : List D}, rAll1 As σ ρ Hf H vs ds → atAll As ds ρ = some xs → R1A Hf H vs xs
  | [], [], [], xs, _, e => by cases e; exact .nil
  | A :: As, v :: vs, d :: ds, xs, h, e => by
    unfold atAll at e
    cases e1 : A.at d ρ with
    | none => rw [e1] at e; cases e
    | some x =>
      rw [e1] at e
      dsimp only at e
      cases e2 : atAll As ds ρ with
      | none => rw [e2] at e; cases e
      | some ys =>
        rw [e2] at e
        cases e
        exact .cons (Opd.end rp h.1 e1) (rAll1_end rp h.2 e2)
theorem bnd_assoc {α β γ : Type} {f : M α} {g : α → M β} {k : β → M γ} : bnd (bnd f g) k = bnd f fun a => bnd (g a) k := by
  funext ρ
  show (match (match f ρ with
    | .ok (a, ρ1) => g a ρ1
    | .exc c ρ1 => .exc c ρ1
    | .bad => .bad) with
    | .ok (a, ρ1) => k a ρ1
    | .exc c ρ1 => .exc c ρ1
    | .bad => .bad) = _
  unfold bnd
  cases f ρ <;> rfl
theorem tAll_mono {σ : St} {Q Q' : List V → Hp → Prop} (h : ∀ x H, Q x H → Q' x H) : ∀ {As : List Opd} {H : Hp}, tAll G As σ H Q → tAll G As σ H Q'
  | [], H, t => h _ _ t
  | A :: As, H, t => Opd.run (A := A) (Q := fun x H1 => tAll G As σ H1 fun xs H2 => Q (x :: xs) H2) t fun x H1 q => tAll_mono (Q := fun xs H2 => Q (x :: xs) H2) (Q' := fun xs H2 => Q' (x :: xs) H2) (fun ys H2 w => h _ _ w) q
theorem all_run {α : Type} {σ : St} {P : Rho → Hp → Hp → Res α → Prop} (hbad : ∀ {ρ Hf H}, ¬ P ρ Hf H .bad) (hl : ∀ {ρ ρ1 Hf H Hf1 H1 o}, Nxt G.q σ ρ Hf H σ ρ1 Hf1 H1 → P ρ Hf H o → P ρ1 Hf1 H1 o)
    (he : ∀ {ρ Hf H} {A : Opd} {k : D → M α}, Rp Hf H σ ρ → P ρ Hf H (bnd A.go k ρ) → A.t G σ H fun y H1 => ∃ b Hf1 ρ1, Nxt G.q σ ρ Hf H σ ρ1 Hf1 H1 ∧ A.r σ ρ1 Hf1 H1 y b ∧ P ρ1 Hf1 H1 (k b ρ1)) :
    ∀ {As : List Opd} {ρ : Rho} {Hf H : Hp} {k : List D → M α}, Rp Hf H σ ρ → P ρ Hf H (bnd (goAll As) k ρ) → tAll G As σ H fun ys H1 => ∃ bs Hf1 ρ1, Nxt G.q σ ρ Hf H σ ρ1 Hf1 H1 ∧ rAll1 As σ ρ1 Hf1 H1 ys bs ∧ P ρ1 Hf1 H1 (k bs ρ1)
  | [], ρ, Hf, H, k, rp, af => ⟨[], Hf, ρ, .refl rp, True.intro, af⟩
  | A :: As, ρ, Hf, H, k, rp, af => by
    cases hb : (A.isP && !As.isEmpty) with
    | true =>
      have e : bnd (goAll (A :: As)) k ρ = .bad := by
        simp only [bnd, goAll, hb, if_true]
      rw [e] at af
      exact absurd af hbad
    | false =>
    have e : bnd (goAll (A :: As)) k ρ = bnd A.go (fun a => bnd (goAll As) fun as => k (a :: as)) ρ := by
      have e1 : goAll (A :: As) = bnd A.go fun a => bnd (goAll As) fun as => ret (a :: as) := by
        funext ρ
        simp only [goAll, hb, Bool.false_eq_true, if_false]
      rw [e1]
      show bnd (bnd A.go fun a => bnd (goAll As) fun as => ret (a :: as)) k ρ = _
      rw [bnd_assoc]
      congr 1
      funext a
      rw [bnd_assoc]
      rfl
    rw [e] at af
    refine Opd.run (he rp af) fun x H1 ⟨a, Hf1, ρ1, n1, ra, af1⟩ => ?_
    cases As with
    | nil => exact ⟨[a], Hf1, ρ1, n1, ⟨ra, True.intro⟩, af1⟩
    | cons B Bs =>
      have hA : A.qok G := by
        cases A with
        | e _ => exact True.intro
        | v _ => exact True.intro
        | p _ => cases hb
      refine tAll_mono ?_ (all_run (P := P) hbad hl he n1.rp af1)
      rintro ys H2 ⟨bs, Hf2, ρ2, n2, rb, af2⟩
      exact ⟨a :: bs, Hf2, ρ2, n1.trans n2, ⟨Opd.keep hA n1.rp n2 ra, rb⟩, af2⟩
theorem stepA {α β : Type} {R : Hp → β → α → Prop} {σ : St} {Q : β → Hp → Prop} {As : List Opd} {ρ : Rho} {Hf H : Hp} {k : List D → M α} (rp : Rp Hf H σ ρ) (af : AfG G R σ ρ Hf H Q (bnd (goAll As) k ρ)) :
    tAll G As σ H fun ys H1 => ∃ bs Hf1 ρ1, Nxt G.q σ ρ Hf H σ ρ1 Hf1 H1 ∧ rAll1 As σ ρ1 Hf1 H1 ys bs ∧ AfG G R σ ρ1 Hf1 H1 Q (k bs ρ1) :=
  all_run (P := fun ρ Hf H o => AfG G R σ ρ Hf H Q o) (fun z => z) (fun n q => q.later n) (fun rp q => stepO rp q) rp af
@[simp] def finA {α : Type} (As : List Opd) (as : List D) (k : List D → Option α) : M α := fun ρ => match atAll As as ρ with
  | some xs => opt (k xs) ρ
  | none => .bad
@[simp] def fCB (o : List D → Option D) (As : List Opd) : M D := fun ρ => (bnd (goAll As) fun as => finA As as o) ρ
def RdC (r : List V → Hp → VK → Prop) (o : List D → Option D) : Prop := ∀ (Hf H : Hp) (xs : List V) (as : List D) (d : D), Same Hf H → R1A Hf H xs as → o as = some d → ∃ v, Rep Hf v d ∧ ∀ Q : VK, Q v H → r xs H Q
theorem finA_some {α β : Type} {R : Hp → β → α → Prop} {σ : St} {ρ : Rho} {Hf H : Hp} {Q : β → Hp → Prop} {As : List Opd} {as : List D} {k : List D → Option α} (af : AfG G R σ ρ Hf H Q (finA As as k ρ)) : ∃ xs, atAll As as ρ = some xs ∧ AfG G R σ ρ Hf H Q (opt (k xs) ρ) := by
  unfold finA at af
  cases e1 : atAll As as ρ with
  | none => rw [e1] at af; exact af.elim
  | some x => rw [e1] at af; exact ⟨x, rfl, af⟩
variable {As : List Opd}
theorem rd_CB {r : List V → Hp → VK → Prop} {o : List D → Option D} (hr : RdC r o) (σ : St) (H : Hp) (Q : VK) (h : tE G (fCB o As) σ H Q) : tCB r (tAll G As) σ H Q := by
  obtain ⟨Hf, ρ, rp, af⟩ := h
  refine tAll_mono ?_ (stepA rp af)
  rintro xs H1 ⟨as, Hf1, ρ1, n1, ra, af1⟩
  obtain ⟨as', ea, af2⟩ := finA_some af1
  obtain ⟨d, e, k⟩ := finO n1.rp af2
  obtain ⟨v, dv, hq⟩ := hr Hf1 H1 xs as' d n1.rp.sub (rAll1_end n1.rp ra ea) e
  exact hq Q (k v dv)
theorem fe_callB {r : List V → Hp → VK → Prop} {o : List D → Option D} {x : Str} {p : Pos} {id : String} (hc : CallR X (.builtin id) r) (hr : RdC r o) (hg : Gl X x) (hm : X.mg x = none) (hv : bootBuiltins x = some (.builtin id)) (ha : PA X (e :: es) (tAll G As)) (hn : x ≠ "__name__" := by decide) (hdb : (x == ("__debug__" : Str)) = false := by decide)
    (he : starEach (e :: es) X.env = (false, eval e X.env) :: starEach es X.env := by rfl) (hpl : (backTo pos (starEach es X.env)).any (·.1) = false := by rfl) : PE X (.Call (.Name x p) (e :: es) [] pos) (tE G (fCB o As)) := (pe_callB hc hg hm hv ha hn hdb he hpl).imp (rd_CB hr)
theorem fe_callTy {r : List V → Hp → VK → Prop} {o : List D → Option D} {x : Str} {p : Pos} {T : String} (hc : CallR X (.type T) r) (hr : RdC r o) (hg : Gl X x) (hm : X.mg x = none) (hv : bootBuiltins x = some (.type T)) (ha : PA X (e :: es) (tAll G As)) (hn : x ≠ "__name__" := by decide) (hdb : (x == ("__debug__" : Str)) = false := by decide)
    (he : starEach (e :: es) X.env = (false, eval e X.env) :: starEach es X.env := by rfl) (hpl : (backTo pos (starEach es X.env)).any (·.1) = false := by rfl) : PE X (.Call (.Name x p) (e :: es) [] pos) (tE G (fCB o As)) := (pe_callTy hc hg hm hv ha hn hdb he hpl).imp (rd_CB hr)
@[simp] def oLen : List D → Option D
  | [.list ds] => some (.int ds.length)
  | [.tuple ds] => some (.int ds.length)
  | [.str z] => if small z.length then some (.int z.length) else none
  | _ => none
theorem rd_len {K : PySem.W.Frag} : RdC (fun xs H Q => ∃ x n, xs = [x] ∧ LenV K x H n ∧ Q (.int n) H) oLen := by
  intro Hf H xs as d sm ra e
  unfold oLen at e
  split at e
  · cases e
    cases ra with
    | cons h t => cases t; obtain ⟨p, vs, rfl, h1, h2⟩ := h.lst sm; exact ⟨_, .int _, fun Q q => ⟨_, _, rfl, .inl ⟨_, SqL.of h1, (repA_len h2).symm⟩, q⟩⟩
  · cases e
    cases ra with
    | cons h t => cases t; obtain ⟨p, vs, rfl, h1, h2⟩ := h.tup sm; exact ⟨_, .int _, fun Q q => ⟨_, _, rfl, .inr ⟨_, SqT.of h1, (repA_len h2).symm⟩, q⟩⟩
  · split at e
    · rename_i hs
      cases e
      cases ra with
      | cons h t => cases t; cases h.str; exact ⟨_, .int _, fun Q q => ⟨_, _, rfl, ⟨small_le hs, rfl⟩, q⟩⟩
    · cases e
  · cases e
theorem fe_len {p : Pos} (hg : Gl X "len") (hm : X.mg "len" = none) (ha : PA X [e] (tAll G As)) (he : starEach [e] X.env = (false, eval e X.env) :: starEach [] X.env := by rfl) (hpl : (backTo pos (starEach [] X.env)).any (·.1) = false := by rfl) : PE X (.Call (.Name "len" p) [e] [] pos) (tE G (fCB oLen As)) :=
  fe_callB call_len rd_len hg hm PySem.boot_len ha (by decide) (by decide) he hpl
@[simp] def oMax2 : List D → Option D
  | [.int i, .int j] => some (.int (if j > i then j else i))
  | _ => none
@[simp] def oMin2 : List D → Option D
  | [.int i, .int j] => some (.int (if j < i then j else i))
  | _ => none
theorem rd_max2 : RdC (fun xs H Q => ∃ i j, xs = [.int i, .int j] ∧ Q (.int (if j > i then j else i)) H) oMax2 := by
  intro Hf H xs as d sm ra e
  match as, ra, e with
  | [.int i, .int j], .cons h1 (.cons h2 .nil), e =>
    cases e; cases h1.int; cases h2.int
    exact ⟨_, .int _, fun Q q => ⟨_, _, rfl, q⟩⟩
theorem rd_min2 : RdC (fun xs H Q => ∃ i j, xs = [.int i, .int j] ∧ Q (.int (if j < i then j else i)) H) oMin2 := by
  intro Hf H xs as d sm ra e
  match as, ra, e with
  | [.int i, .int j], .cons h1 (.cons h2 .nil), e =>
    cases e; cases h1.int; cases h2.int
    exact ⟨_, .int _, fun Q q => ⟨_, _, rfl, q⟩⟩
def asInts : List D → Option (List Int)
  | [] => some []
  | .int i :: r => (asInts r).map (i :: ·)
  | _ => none
def asBools : List D → Option (List Bool)
  | [] => some []
  | .bool i :: r => (asBools r).map (i :: ·)
  | _ => none
theorem asInts_rep {H : Hp} : ∀ {vs : List V} {ds : List D} {ns : List Int}, RepA H vs ds → asInts ds = some ns → vs = ns.map V.int
  | _, [], _, .nil, e => by cases e; rfl
  | _, .int i :: r, ns, .cons h t, e => by
    simp only [asInts] at e
    cases q : asInts r with
    | none => rw [q] at e; cases e
    | some ms =>
      rw [q] at e
      cases e
      cases h
      rw [asInts_rep t q]
      rfl
theorem asBools_rep {H : Hp} : ∀ {vs : List V} {ds : List D} {ns : List Bool}, RepA H vs ds → asBools ds = some ns → vs = ns.map V.bl
  | _, [], _, .nil, e => by cases e; rfl
  | _, .bool i :: r, ns, .cons h t, e => by
    simp only [asBools] at e
    cases q : asBools r with
    | none => rw [q] at e; cases e
    | some ms =>
      rw [q] at e
      cases e
      cases h
      rw [asBools_rep t q]
      rfl
@[simp] def oSum : List D → Option D
  | [.list ds] => (asInts ds).map fun ns => .int ns.sum
  | _ => none
theorem rd_sum {K : PySem.W.Frag} : RdC (rSum K) oSum := by
  intro Hf H xs as d sm ra e
  match as, ra, e with
  | [.list ds], .cons h1 .nil, e =>
    simp only [oSum] at e
    cases q : asInts ds with
    | none => rw [q] at e; cases e
    | some ns =>
      rw [q] at e; cases e
      obtain ⟨p, vs, rfl, h2, h3⟩ := h1.lst sm
      exact ⟨_, .int _, fun Q k => ⟨_, ns, rfl, by rw [← asInts_rep h3 q]; exact SqL.of h2, k⟩⟩
@[simp] def oAll : List D → Option D
  | [.list ds] => (asBools ds).map fun ns => .bool (ns.all id)
  | _ => none
@[simp] def oAny : List D → Option D
  | [.list ds] => (asBools ds).map fun ns => .bool (ns.any id)
  | _ => none
theorem rd_all {K : PySem.W.Frag} : RdC (rAll K) oAll := by
  intro Hf H xs as d sm ra e
  match as, ra, e with
  | [.list ds], .cons h1 .nil, e =>
    simp only [oAll] at e
    cases q : asBools ds with
    | none => rw [q] at e; cases e
    | some ns =>
      rw [q] at e; cases e
      obtain ⟨p, vs, rfl, h2, h3⟩ := h1.lst sm
      exact ⟨_, .bl _, fun Q k => ⟨_, ns, rfl, by rw [← asBools_rep h3 q]; exact SqL.of h2, k⟩⟩
theorem rd_any {K : PySem.W.Frag} : RdC (rAny K) oAny := by
  intro Hf H xs as d sm ra e
  match as, ra, e with
  | [.list ds], .cons h1 .nil, e =>
    simp only [oAny] at e
    cases q : asBools ds with
    | none => rw [q] at e; cases e
    | some ns =>
      rw [q] at e; cases e
      obtain ⟨p, vs, rfl, h2, h3⟩ := h1.lst sm
      exact ⟨_, .bl _, fun Q k => ⟨_, ns, rfl, by rw [← asBools_rep h3 q]; exact SqL.of h2, k⟩⟩
theorem fe_max2 {p : Pos} (hc : X.calm = true) (hg : Gl X "max") (hm : X.mg "max" = none) (ha : PA X (e :: es) (tAll G As)) (he : starEach (e :: es) X.env = (false, eval e X.env) :: starEach es X.env := by rfl) (hpl : (backTo pos (starEach es X.env)).any (·.1) = false := by rfl) : PE X (.Call (.Name "max" p) (e :: es) [] pos) (tE G (fCB oMax2 As)) := fe_callB (call_max2 hc) rd_max2 hg hm (by decide +kernel) ha (by decide) (by decide) he hpl
theorem fe_min2 {p : Pos} (hc : X.calm = true) (hg : Gl X "min") (hm : X.mg "min" = none) (ha : PA X (e :: es) (tAll G As)) (he : starEach (e :: es) X.env = (false, eval e X.env) :: starEach es X.env := by rfl) (hpl : (backTo pos (starEach es X.env)).any (·.1) = false := by rfl) : PE X (.Call (.Name "min" p) (e :: es) [] pos) (tE G (fCB oMin2 As)) := fe_callB (call_min2 hc) rd_min2 hg hm (by decide +kernel) ha (by decide) (by decide) he hpl
theorem fe_sum {p : Pos} (hc : X.calm = true) (hg : Gl X "sum") (hm : X.mg "sum" = none) (ha : PA X (e :: es) (tAll G As)) (he : starEach (e :: es) X.env = (false, eval e X.env) :: starEach es X.env := by rfl) (hpl : (backTo pos (starEach es X.env)).any (·.1) = false := by rfl) : PE X (.Call (.Name "sum" p) (e :: es) [] pos) (tE G (fCB oSum As)) := fe_callB (cr_sum hc) rd_sum hg hm (by decide +kernel) ha (by decide) (by decide) he hpl
theorem fe_all {p : Pos} (hc : X.calm = true) (hg : Gl X "all") (hm : X.mg "all" = none) (ha : PA X (e :: es) (tAll G As)) (he : starEach (e :: es) X.env = (false, eval e X.env) :: starEach es X.env := by rfl) (hpl : (backTo pos (starEach es X.env)).any (·.1) = false := by rfl) : PE X (.Call (.Name "all" p) (e :: es) [] pos) (tE G (fCB oAll As)) := fe_callB (cr_all hc) rd_all hg hm (by decide +kernel) ha (by decide) (by decide) he hpl
theorem fe_any {p : Pos} (hc : X.calm = true) (hg : Gl X "any") (hm : X.mg "any" = none) (ha : PA X (e :: es) (tAll G As)) (he : starEach (e :: es) X.env = (false, eval e X.env) :: starEach es X.env := by rfl) (hpl : (backTo pos (starEach es X.env)).any (·.1) = false := by rfl) : PE X (.Call (.Name "any" p) (e :: es) [] pos) (tE G (fCB oAny As)) := fe_callB (cr_any hc) rd_any hg hm (by decide +kernel) ha (by decide) (by decide) he hpl
end
end Fx
namespace Fx
open PySem L2
variable [Tabz]
section
variable {X : Cx} {G : Gx} {e a b : Expr} {es : List Expr} {f g : M D} {fs : M (List D)} {pos : Pos} {A B : Opd} {As : List Opd}
inductive Ext (Hf H : Hp) : Hp → Hp → Prop
  | same : Ext Hf H Hf H
  | new {p : Addr} {o : HO} (h : H p = none) (ho : NT o := by first | exact NT.lst | exact NT.tup) : Ext Hf H (upd Hf p o) (upd H p o)
theorem Rp.ext {q : Bool} {σ : St} {ρ : Rho} {Hf H Hf' H' : Hp} (rp : Rp Hf H σ ρ) (x : Ext Hf H Hf' H') : Nxt q σ ρ Hf H σ ρ Hf' H' := by
  cases x with
  | same => exact .refl rp
  | new h ho => exact rp.new h ho
@[simp] def oTuple : List D → Option D
  | [.list ds] => some (.tuple ds)
  | [.tuple ds] => some (.tuple ds)
  | _ => none
theorem stepOL {σ : St} {ρ : Rho} {Hf H : Hp} {Q : VK} {k : D → M (List D)} (rp : Rp Hf H σ ρ) (af : AfL G σ ρ Hf H Q (bnd A.go k ρ)) :
    A.t G σ H fun y H1 => ∃ b Hf1 ρ1, Nxt G.q σ ρ Hf H σ ρ1 Hf1 H1 ∧ A.r σ ρ1 Hf1 H1 y b ∧ AfL G σ ρ1 Hf1 H1 Q (k b ρ1) := by
  cases A with
  | e f => exact stepL rp af
  | v i =>
    unfold bnd Opd.go at af
    dsimp only at af
    cases e : look i ρ with
    | none => rw [e] at af; exact af.elim
    | some d =>
      rw [e] at af
      obtain ⟨v, h1, _⟩ := look_R1 rp e
      exact ⟨v, h1, d, Hf, ρ, .refl rp, h1, af⟩
  | p f =>
    refine ⟨Hf, ρ, rp, ?_⟩
    unfold bnd Opd.go bnd at af
    dsimp only at af
    cases e : f ρ with
    | ok x =>
      obtain ⟨p, ρ1⟩ := x
      rw [e] at af
      dsimp only at af
      intro v s Hf1 H1 n a
      unfold lookP at af
      cases e2 : (trAt p ρ1).bind lkD with
      | none => rw [e2] at af; exact af.elim
      | some d =>
        rw [e2] at af
        rw [a.trAt] at e2
        exact ⟨d, Hf1, ρ1, n, ⟨p, s, a, e2⟩, af.later n⟩
    | exc c ρ1 => rw [e] at af; exact af
    | bad => rw [e] at af; exact af
theorem stepAL {σ : St} {Q : VK} {As : List Opd} {ρ : Rho} {Hf H : Hp} {k : List D → M (List D)} (rp : Rp Hf H σ ρ) (af : AfL G σ ρ Hf H Q (bnd (goAll As) k ρ)) :
    tAll G As σ H fun ys H1 => ∃ bs Hf1 ρ1, Nxt G.q σ ρ Hf H σ ρ1 Hf1 H1 ∧ rAll1 As σ ρ1 Hf1 H1 ys bs ∧ AfL G σ ρ1 Hf1 H1 Q (k bs ρ1) :=
  all_run (P := fun ρ Hf H o => AfL G σ ρ Hf H Q o) (fun z => z) (fun n q => q.later n) (fun rp q => stepOL rp q) rp af
theorem finOL {σ : St} {ρ : Rho} {Hf H : Hp} {Q : VK} {o : Option (List D)} (rp : Rp Hf H σ ρ) (af : AfL G σ ρ Hf H Q (opt o ρ)) : ∃ ds, o = some ds ∧ ∀ p vs, H p = none → RepA Hf vs ds → Q (.ref p) (upd H p (.lst vs)) := by
  cases o with
  | none => exact af.elim
  | some ds => exact ⟨ds, rfl, fun p vs hp r => finL rp af hp r⟩
theorem finA_someL {σ : St} {ρ : Rho} {Hf H : Hp} {Q : VK} {as : List D} {k : List D → Option (List D)} (af : AfL G σ ρ Hf H Q (finA As as k ρ)) : ∃ xs, atAll As as ρ = some xs ∧ AfL G σ ρ Hf H Q (opt (k xs) ρ) := by
  unfold finA at af
  cases e1 : atAll As as ρ with
  | none => rw [e1] at af; exact af.elim
  | some x => rw [e1] at af; exact ⟨x, rfl, af⟩
theorem fin2_someL {σ : St} {ρ : Rho} {Hf H : Hp} {Q : VK} {a b : D} {k : D → D → Option (List D)} (af : AfL G σ ρ Hf H Q (fin2 A B a b k ρ)) : ∃ x y, A.at a ρ = some x ∧ B.at b ρ = some y ∧ AfL G σ ρ Hf H Q (opt (k x y) ρ) := by
  unfold fin2 at af
  cases e1 : A.at a ρ with
  | none => rw [e1] at af; exact af.elim
  | some x =>
    rw [e1] at af
    cases e2 : B.at b ρ with
    | none => simp only [e2] at af; exact False.elim af
    | some y =>
      simp only [e2] at af
      exact ⟨x, y, rfl, rfl, af⟩
theorem fin1_someL {σ : St} {ρ : Rho} {Hf H : Hp} {Q : VK} {a : D} {k : D → Option (List D)} (af : AfL G σ ρ Hf H Q (fin1 A a k ρ)) : ∃ x, A.at a ρ = some x ∧ AfL G σ ρ Hf H Q (opt (k x) ρ) := by
  unfold fin1 at af
  cases e1 : A.at a ρ with
  | none => rw [e1] at af; exact af.elim
  | some x => rw [e1] at af; exact ⟨x, rfl, af⟩
def RdL (r : List V → Hp → VK → Prop) (o : List D → Option (List D)) : Prop := ∀ (Hf H : Hp) (xs : List V) (as : List D) (ds : List D), Same Hf H → R1A Hf H xs as → o as = some ds → ∀ Q : VK, (∀ p vs, H p = none → RepA Hf vs ds → Q (.ref p) (upd H p (.lst vs))) → r xs H Q
@[simp] def fLB (o : List D → Option (List D)) (As : List Opd) : M (List D) := fun ρ => (bnd (goAll As) fun as => finA As as o) ρ
theorem rd_LB {r : List V → Hp → VK → Prop} {o : List D → Option (List D)} (hr : RdL r o) (σ : St) (H : Hp) (Q : VK) (h : tL G (fLB o As) σ H Q) : tCB r (tAll G As) σ H Q := by
  obtain ⟨Hf, ρ, rp, af⟩ := h
  refine tAll_mono ?_ (stepAL rp af)
  rintro xs H1 ⟨as, Hf1, ρ1, n1, ra, af1⟩
  obtain ⟨as', ea, af2⟩ := finA_someL af1
  obtain ⟨ds, e, k⟩ := finOL n1.rp af2
  exact hr Hf1 H1 xs as' ds n1.rp.sub (rAll1_end n1.rp ra ea) e Q k
theorem fl_callTy {r : List V → Hp → VK → Prop} {o : List D → Option (List D)} {x : Str} {p : Pos} {T : String} (hc : CallR X (.type T) r) (hr : RdL r o) (hg : Gl X x) (hm : X.mg x = none) (hv : bootBuiltins x = some (.type T)) (ha : PA X (e :: es) (tAll G As)) (hn : x ≠ "__name__" := by decide) (hdb : (x == ("__debug__" : Str)) = false := by decide)
    (he : starEach (e :: es) X.env = (false, eval e X.env) :: starEach es X.env := by rfl) (hpl : (backTo pos (starEach es X.env)).any (·.1) = false := by rfl) : PE X (.Call (.Name x p) (e :: es) [] pos) (tL G (fLB o As)) := (pe_callTy hc hg hm hv ha hn hdb he hpl).imp (rd_LB hr)
theorem fl_callB {r : List V → Hp → VK → Prop} {o : List D → Option (List D)} {x : Str} {p : Pos} {id : String} (hc : CallR X (.builtin id) r) (hr : RdL r o) (hg : Gl X x) (hm : X.mg x = none) (hv : bootBuiltins x = some (.builtin id)) (ha : PA X (e :: es) (tAll G As)) (hn : x ≠ "__name__" := by decide) (hdb : (x == ("__debug__" : Str)) = false := by decide)
    (he : starEach (e :: es) X.env = (false, eval e X.env) :: starEach es X.env := by rfl) (hpl : (backTo pos (starEach es X.env)).any (·.1) = false := by rfl) : PE X (.Call (.Name x p) (e :: es) [] pos) (tL G (fLB o As)) := (pe_callB hc hg hm hv ha hn hdb he hpl).imp (rd_LB hr)
@[simp] def oList : List D → Option (List D)
  | [.list ds] => some ds
  | [.tuple ds] => some ds
  | _ => none
theorem rd_list {K : PySem.W.Frag} : RdL (fun xs H Q => ∃ p ys, xs = [.ref p] ∧ (SqL K H p ys ∨ SqT K H p ys) ∧ ∀ l, H l = none → Q (.ref l) (upd H l (.lst ys))) oList := by
  intro Hf H xs as ds sm ra e Q q
  match as, ra, e with
  | [.list ds], .cons h1 .nil, e =>
    cases e
    obtain ⟨p, vs, rfl, h2, h3⟩ := h1.lst sm
    exact ⟨_, _, rfl, .inl (SqL.of h2), fun l hl => q _ _ hl h3⟩
  | [.tuple ds], .cons h1 .nil, e =>
    cases e
    obtain ⟨p, vs, rfl, h2, h3⟩ := h1.tup sm
    exact ⟨_, _, rfl, .inr (SqT.of h2), fun l hl => q _ _ hl h3⟩
theorem fl_list {p : Pos} (hg : Gl X "list") (hm : X.mg "list" = none) (ha : PA X (e :: es) (tAll G As)) (he : starEach (e :: es) X.env = (false, eval e X.env) :: starEach es X.env := by rfl) (hpl : (backTo pos (starEach es X.env)).any (·.1) = false := by rfl) : PE X (.Call (.Name "list" p) (e :: es) [] pos) (tL G (fLB oList As)) := fl_callTy call_list_of rd_list hg hm (by decide +kernel) ha (by decide) (by decide) he hpl
def RdOL (r : R2) (o : D → D → Option (List D)) : Prop := ∀ (Hf H : Hp) (x y : V) (a b : D) (ds : List D), Same Hf H → R1 Hf H x a → R1 Hf H y b → o a b = some ds → ∀ Q : VK, (∀ p vs, H p = none → RepA Hf vs ds → Q (.ref p) (upd H p (.lst vs))) → r x y H Q
@[simp] def fOpL (o : D → D → Option (List D)) (A B : Opd) : M (List D) := fun ρ => (bnd A.go fun a => bnd B.go fun b => fin2 A B a b o) ρ
theorem fl_op {r : R2} {o : D → D → Option (List D)} {op : Operator} (ho : OpR X (binaryOp op) r) (hr : RdOL r o) (ha : PE X a (A.t G)) (hb : PE X b (B.t G)) (hqa : A.qok G := by first | exact True.intro | rfl) : PE X (.BinOp a op b pos) (tL G (fOpL o A B)) := by
  refine (pe_op ho ha hb).imp fun σ H Q ⟨Hf, ρ, rp, af⟩ => ?_
  refine Opd.run (stepOL rp af) fun x H1 ⟨d1, Hf1, ρ1, n1, ra, af1⟩ => Opd.run (stepOL n1.rp af1) fun y H2 ⟨d2, Hf2, ρ2, n2, rb, af2⟩ => ?_
  obtain ⟨a', b', ea, eb, af3⟩ := fin2_someL af2
  obtain ⟨ds, e, k⟩ := finOL n2.rp af3
  exact hr Hf2 H2 x y a' b' ds n2.rp.sub (Opd.end n2.rp (Opd.keep hqa n1.rp n2 ra) ea) (Opd.end n2.rp rb eb) e Q k
theorem repA_append {H : Hp} : ∀ {vs ws : List V} {ds es : List D}, RepA H vs ds → RepA H ws es → RepA H (vs ++ ws) (ds ++ es)
  | _, _, _, _, .nil, h => h
  | _, _, _, _, .cons h t, h' => .cons h (repA_append t h')
theorem repA_take {H : Hp} : ∀ {vs : List V} {ds : List D} (n : Nat), RepA H vs ds → RepA H (vs.take n) (ds.take n)
  | _, _, 0, _ => by rw [List.take_zero, List.take_zero]; exact .nil
  | _, _, n + 1, .nil => .nil
  | _, _, n + 1, .cons h t => .cons h (repA_take n t)
theorem repA_drop {H : Hp} : ∀ {vs : List V} {ds : List D} (n : Nat), RepA H vs ds → RepA H (vs.drop n) (ds.drop n)
  | _, _, 0, h => h
  | _, _, n + 1, .nil => .nil
  | _, _, n + 1, .cons h t => repA_drop n t
theorem repA_set {H : Hp} {v : V} {d : D} (r : Rep H v d) : ∀ {vs : List V} {ds : List D} (j : Nat), RepA H vs ds → RepA H (vs.set j v) (ds.set j d)
  | _, _, _, .nil => .nil
  | _, _, 0, .cons _ t => .cons r t
  | _, _, j + 1, .cons h t => .cons h (repA_set r j t)
@[simp] def oCat : D → D → Option (List D)
  | .list xs, .list ys => if small (xs.length + ys.length) then some (xs ++ ys) else none
  | _, _ => none
theorem rd_cat : RdOL rCat oCat := by
  intro Hf H x y a b ds sm ha hb e Q q
  cases a <;> cases b <;> simp only [oCat, reduceCtorEq] at e
  split at e
  · rename_i hs
    cases e
    obtain ⟨p1, vs1, rfl, h1, h2⟩ := ha.lst sm
    obtain ⟨p2, vs2, rfl, h3, h4⟩ := hb.lst sm
    exact ⟨_, _, _, _, rfl, rfl, h1, h3, by rw [repA_len h2, repA_len h4]; exact small_le hs, fun p hp => q p _ hp (repA_append h2 h4)⟩
  · cases e
theorem fl_cat (ha : PE X a (A.t G)) (hb : PE X b (B.t G)) (hqa : A.qok G := by first | exact True.intro | rfl) : PE X (.BinOp a .Add b pos) (tL G (fOpL oCat A B)) := fl_op op_cat rd_cat ha hb hqa
def oRep : D → D → Option (List D)
  | .list xs, .int k => if small (xs.length * k.toNat) && small k.natAbs then some (List.replicate k.toNat xs).flatten else none
  | _, _ => none
theorem repA_flat {H : Hp} {vs : List V} {ds : List D} (h : RepA H vs ds) : ∀ n : Nat, RepA H (List.replicate n vs).flatten (List.replicate n ds).flatten
  | 0 => .nil
  | n + 1 => by
    rw [List.replicate_succ, List.replicate_succ, List.flatten_cons, List.flatten_cons]
    exact repA_append h (repA_flat h n)
theorem rd_rep : RdOL rRep oRep := by
  intro Hf H x y a b ds sm ha hb e Q q
  cases a <;> cases b <;> simp only [oRep, reduceCtorEq] at e
  split at e
  · rename_i hs
    rw [Bool.and_eq_true] at hs
    have h2 : _ ≤ 100000 := of_decide_eq_true hs.2
    cases e
    obtain ⟨p1, vs1, rfl, h3, h4⟩ := ha.lst sm
    cases hb.int
    exact ⟨_, _, _, rfl, rfl, h3, by omega, by omega, by rw [repA_len h4]; exact small_le hs.1, fun p hp => q p _ hp (repA_flat h4 _)⟩
  · cases e
theorem fl_rep (ha : PE X a (A.t G)) (hb : PE X b (B.t G)) (hqa : A.qok G := by first | exact True.intro | rfl) : PE X (.BinOp a .Mult b pos) (tL G (fOpL oRep A B)) := fl_op op_rep rd_rep ha hb hqa
def cut {α : Type} (xs : List α) (lo hi : Option Int) : List α := (xs.drop (HT.sIx xs.length 0 lo)).take (HT.sIx xs.length xs.length hi - HT.sIx xs.length 0 lo)
theorem repA_cut {H : Hp} {vs : List V} {ds : List D} (h : RepA H vs ds) (lo hi : Option Int) : RepA H (cutV vs lo hi) (cut ds lo hi) := by
  unfold cutV cut
  rw [repA_len h]
  exact repA_take _ (repA_drop _ h)
abbrev tP (G : Gx) (f : M (Option Int)) : TO := tG G (fun _ x y => x = y) f
@[simp] def fNoP : M (Option Int) := fun ρ => (ret none) ρ
@[simp] def asI : D → Option Int
  | .int i => some i
  | _ => none
@[simp] def fP (f : M D) : M (Option Int) := fun ρ => (bnd f fun d => bnd (opt (asI d)) fun i => ret (some i)) ρ
theorem _root_.L2.PO.imp {o : Option Expr} {t t' : TO} (h : PO X o t) (i : ∀ σ H Q, t' σ H Q → t σ H Q) : PO X o t' := ⟨fun pins s σ H Q I q => h.run pins s σ H Q I (i _ _ _ q)⟩
theorem fp_none : PO X none (tP G fNoP) := po_none.imp fun σ H Q ⟨Hf, ρ, rp, af⟩ => fin rp af rfl
theorem fp_some (h : PE X e (tE G f)) : PO X (some e) (tP G (fP f)) := by
  refine (po_some h).imp fun σ H Q ⟨Hf, ρ, rp, af⟩ => ?_
  refine (step rp af).mono fun x H1 ⟨d, Hf1, ρ1, n1, ra, af1⟩ => ?_
  cases d <;> first | exact af1.elim | skip
  exact ⟨_, rep_int ra, fin n1.rp af1 rfl⟩
@[simp] def oSl (lo hi : Option Int) (d : D) : Option (List D) := match d with
  | .list ds => some (cut ds lo hi)
  | _ => none
@[simp] def fSl (A : Opd) (l h : M (Option Int)) : M (List D) := fun ρ => (bnd A.go fun a => bnd l fun lo => bnd h fun hi => fin1 A a (oSl lo hi)) ρ
variable {l h : M (Option Int)} {lo hi : Option Expr} {p2 : Pos}
theorem fl_slice (he : PE X e (A.t G)) (hl : PO X lo (tP G l)) (hh : PO X hi (tP G h)) (hqa : A.qok G := by first | exact True.intro | rfl) : PE X (.Subscript e (.Slice lo hi none p2) pos) (tL G (fSl A l h)) := by
  refine (pe_slice sl_list he hl hh).imp fun σ H Q ⟨Hf, ρ, rp, af⟩ => ?_
  refine Opd.run (stepOL rp af) fun x H1 ⟨d, Hf1, ρ1, n1, ra, af1⟩ => (stepL n1.rp af1).mono fun y H2 ⟨i, Hf2, ρ2, n2, rb, af2⟩ => (stepL n2.rp af2).mono fun z H3 ⟨j, Hf3, ρ3, n3, rc, af3⟩ => ?_
  subst rb rc
  obtain ⟨d', ed, af4⟩ := fin1_someL af3
  have rd := Opd.end n3.rp (Opd.keep hqa n1.rp (n2.trans n3) ra) ed
  obtain ⟨ds, e, k⟩ := finOL n3.rp af4
  cases d' <;> simp only [oSl, reduceCtorEq, Option.some.injEq] at e
  subst e
  obtain ⟨p, vs, rfl, h1, h2⟩ := rd.lst n3.rp.sub
  exact ⟨_, _, rfl, SqL.of h1, fun p hp => k p _ hp (repA_cut h2 _ _)⟩
def oSlT (lo hi : Option Int) (d : D) : Option D := match d with
  | .tuple ds => if HT.sIx ds.length 0 lo = 0 ∧ HT.sIx ds.length ds.length hi = ds.length then none else some (.tuple (cut ds lo hi))
  | _ => none
@[simp] def fSlT (f : M D) (l h : M (Option Int)) : M D := fun ρ => (bnd f fun d => bnd l fun lo => bnd h fun hi => opt (oSlT lo hi d)) ρ
def oSlS (lo hi : Option Int) (d : D) : Option D := match d with
  | .str z => if small z.length then some (.str (cutS z lo hi)) else none
  | _ => none
@[simp] def fSlS (f : M D) (l h : M (Option Int)) : M D := fun ρ => (bnd f fun d => bnd l fun lo => bnd h fun hi => opt (oSlS lo hi d)) ρ
end
end Fx
namespace Fx
open PySem L2
variable [Tabz]
section
variable {X : Cx} {G : Gx} {e a b : Expr} {es : List Expr} {f g : M D} {fs : M (List D)} {pos : Pos} {tg : Expr}
def IterOk (σ0 : St) (ρ0 : Rho) (Hf0 H0 : Hp) (J : It) (ds : List D) : Prop := ∀ (i : Nat) (Hf H : Hp) (σ : St) (ρ : Rho), Nxt false σ0 ρ0 Hf0 H0 σ ρ Hf H →
  (∀ d, ds[i]? = some d → J.go i H ∧ ∀ x H', J.yld i H x H' → ∃ Hf', Nxt true σ ρ Hf H σ ρ Hf' H' ∧ Rep Hf' x d) ∧ (ds.length ≤ i → J.stop i H)
def AfI (G : Gx) (σ : St) (ρ : Rho) (Hf H : Hp) (R : It → Hp → Prop) : Res (List D) → Prop
  | .ok (ds, ρ') => ∀ J Hf' H', Nxt G.q σ ρ Hf H σ ρ' Hf' H' → IterOk σ ρ' Hf' H' J ds → R J H'
  | .exc c ρ' => ∀ Hf' H', Nxt G.q σ ρ Hf H σ ρ' Hf' H' → G.W (.ref (G.cA c)) none σ H'
  | .bad => False
def tI (G : Gx) (f : M (List D)) : TI := fun σ H R => ∃ Hf ρ, Rp Hf H σ ρ ∧ AfI G σ ρ Hf H R (f ρ)
theorem AfI.later {σ : St} {ρ ρ1 : Rho} {Hf H Hf1 H1 : Hp} {R : It → Hp → Prop} (n : Nxt G.q σ ρ Hf H σ ρ1 Hf1 H1) : ∀ {o : Res (List D)}, AfI G σ ρ Hf H R o → AfI G σ ρ1 Hf1 H1 R o
  | .ok (a, ρ'), q => fun J Hf' H' n' r => q J Hf' H' (n.trans n') r
  | .exc c ρ', q => fun Hf' H' n' => q Hf' H' (n.trans n')
  | .bad, q => q
theorem stepI {α γ : Type} {R1 : Hp → α → γ → Prop} {σ : St} {ρ : Rho} {Hf H : Hp} {Q : It → Hp → Prop} {g : M γ} {k : γ → M (List D)} (rp : Rp Hf H σ ρ) (af : AfI G σ ρ Hf H Q (bnd g k ρ)) :
    tG G R1 g σ H fun y H1 => ∃ b Hf1 ρ1, Nxt G.q σ ρ Hf H σ ρ1 Hf1 H1 ∧ R1 Hf1 y b ∧ AfI G σ ρ1 Hf1 H1 Q (k b ρ1) := by
  refine ⟨Hf, ρ, rp, ?_⟩
  unfold bnd at af
  cases e : g ρ with
  | ok p =>
    obtain ⟨b, ρ1⟩ := p
    rw [e] at af
    exact fun x Hf1 H1 n r => ⟨b, Hf1, ρ1, n, r, af.later n⟩
  | exc c ρ1 => rw [e] at af; exact af
  | bad => rw [e] at af; exact af
theorem finI {σ : St} {ρ : Rho} {Hf H : Hp} {R : It → Hp → Prop} {ds : List D} {J : It} (rp : Rp Hf H σ ρ) (af : AfI G σ ρ Hf H R (ret ds ρ)) (h : IterOk σ ρ Hf H J ds) : R J H := af J Hf H (.refl rp) h
theorem tI.mono {f : M (List D)} {σ : St} {H : Hp} {R R' : It → Hp → Prop} (h : ∀ x H, R x H → R' x H) (t : tI G f σ H R) : tI G f σ H R' := by
  obtain ⟨Hf, ρ, rp, q⟩ := t
  refine ⟨Hf, ρ, rp, ?_⟩
  cases e : f ρ with
  | ok x => obtain ⟨ds, ρ'⟩ := x; rw [e] at q; exact fun J Hf' H' n r => h _ _ (q J Hf' H' n r)
  | exc c ρ' => rw [e] at q; exact q
  | bad => rw [e] at q; exact q
theorem _root_.L2.PI.imp {iter : Expr} {t t' : TI} (h : PI X tg iter t) (i : ∀ σ H R, t' σ H R → t σ H R) : PI X tg iter t' := ⟨fun pins s σ H R I q => h.run pins s σ H R I (i _ _ _ q)⟩
@[simp] def itemsL : D → Option (List D)
  | .list ds => some ds
  | _ => none
@[simp] def itemsT : D → Option (List D)
  | .tuple ds => some ds
  | _ => none
@[simp] def fItL (f : M D) : M (List D) := fun ρ => (bnd f fun d => opt (itemsL d)) ρ
@[simp] def fItT (f : M D) : M (List D) := fun ρ => (bnd f fun d => opt (itemsT d)) ρ
theorem iter_list {K : PySem.W.Frag} {σ0 : St} {ρ0 : Rho} {Hf H0 : Hp} {p : Addr} {vs : List V} {ds : List D} (h : Hf p = some (.lst vs)) (r : RepA Hf vs ds) : IterOk σ0 ρ0 Hf H0 (Itl K p) ds := by
  intro i Hf1 H σ ρ nn
  have s1 := nn.sub
  have rp := nn.rp
  have hq : SqL K H p vs := SqL.of (rp.sub _ _ (s1 _ _ h))
  refine ⟨fun d e => ?_, fun hl => ⟨vs, hq, by rw [repA_len r]; exact hl⟩⟩
  obtain ⟨v, e1, r1⟩ := repA_get r e
  refine ⟨⟨vs, v, hq, e1⟩, fun x H' ⟨eh, hx⟩ => ?_⟩
  subst eh
  have q := hx vs hq
  rw [e1] at q
  cases q
  exact ⟨Hf1, .refl rp, rep_same s1 r1⟩
theorem fi_list (h : PE X e (tE G f)) : PI X tg e (tI G (fItL f)) := by
  refine (pi_list h).imp fun σ H R ⟨Hf, ρ, rp, af⟩ => ?_
  refine (stepI rp af).mono fun x H1 ⟨d, Hf1, ρ1, n1, ra, af1⟩ => ?_
  cases ra with
  | lst h1 h2 => exact ⟨_, rfl, ⟨_, SqL.of (n1.rp.sub _ _ h1)⟩, finI n1.rp af1 (iter_list h1 h2)⟩
  | tup _ _ => exact af1.elim
  | non => exact af1.elim
  | ins _ _ _ => exact af1.elim
  | dct _ _ _ => exact af1.elim
  | bl _ => exact af1.elim
  | int _ => exact af1.elim
  | str _ => exact af1.elim
@[simp] def fAB (o : List D → Option (List D)) (fs : M (List D)) : M (List D) := fun ρ => (bnd fs fun as => opt (o as)) ρ
def rng (lo : Int) (n : Nat) : List D := (List.range n).map fun (i : Nat) => PyData.int (lo + i)
theorem iter_rng {σ0 : St} {ρ0 : Rho} {Hf H0 : Hp} {lo : Int} {n : Nat} : IterOk σ0 ρ0 Hf H0 (Itr lo n) (rng lo n) := by
  intro i Hf1 H σ ρ nn
  have s1 := nn.sub
  have rp := nn.rp
  refine ⟨fun d e => ?_, fun hl => (by simpa [rng] using hl : n ≤ i)⟩
  unfold rng at e
  rw [List.getElem?_map] at e
  cases q : (List.range n)[i]? with
  | none => rw [q] at e; cases e
  | some j =>
    rw [q] at e
    cases e
    obtain ⟨h1, h2⟩ := List.getElem?_eq_some_iff.mp q
    rw [List.length_range] at h1
    rw [List.getElem_range] at h2
    subst h2
    refine ⟨h1, fun x H' ⟨e1, e2⟩ => ?_⟩
    subst e1 e2
    exact ⟨Hf1, .refl rp, .int _⟩
def oRng1 : List D → Option (List D)
  | [.int j] => if small j.natAbs then some (rng 0 j.toNat) else none
  | _ => none
theorem fi_rng1 {p : Pos} (hg : Gl X "range") (hm : X.mg "range" = none) (ha : PA X [e] (tA G fs)) (he : starEach [e] X.env = [(false, eval e X.env)] := by rfl) : PI X tg (.Call (.Name "range" p) [e] [] pos) (tI G (fAB oRng1 fs)) := by
  refine (pi_range1 hg hm ha he).imp fun σ H R ⟨Hf, ρ, rp, af⟩ => ?_
  refine (stepI rp af).mono fun x H1 ⟨as, Hf1, ρ1, n1, ra, af1⟩ => ?_
  match as, ra, af1 with
  | [.int j], .cons h1 .nil, af1 =>
    cases h1
    cases hd : small j.natAbs with
    | true =>
      simp only [oRng1, hd] at af1
      have hs : _ ≤ 100000 := of_decide_eq_true hd
      exact ⟨j, rfl, by omega, by omega, finI n1.rp af1 iter_rng⟩
    | false =>
      simp only [oRng1, hd] at af1
      exact False.elim af1
  | [], _, af1 => exact False.elim af1
  | [.none], _, af1 => exact False.elim af1
  | [.bool _], _, af1 => exact False.elim af1
  | [.str _], _, af1 => exact False.elim af1
  | [.list _], _, af1 => exact False.elim af1
  | [.tuple _], _, af1 => exact False.elim af1
  | [.dict _], _, af1 => exact False.elim af1
  | _ :: _ :: _, _, af1 => exact False.elim (by revert af1; unfold oRng1 opt; split <;> simp_all [AfI])
def enumD (ds : List D) : List D := ds.zipIdx.map fun (p : D × Nat) => PyData.tuple [.int (p.2 : Nat), p.1]
def oEnum : List D → Option (List D)
  | [.list ds] => some (enumD ds)
  | _ => none
theorem iter_enum {K : PySem.W.Frag} {σ0 : St} {ρ0 : Rho} {Hf H0 : Hp} {p : Addr} {vs : List V} {ds : List D} (h : Hf p = some (.lst vs)) (r : RepA Hf vs ds) : IterOk σ0 ρ0 Hf H0 (Ite K p) (enumD ds) := by
  intro i Hf1 H σ ρ nn
  have s1 := nn.sub
  have rp := nn.rp
  have hq : SqL K H p vs := SqL.of (rp.sub _ _ (s1 _ _ h))
  refine ⟨fun d e => ?_, fun hl => ⟨vs, hq, by rw [repA_len r]; simpa [enumD] using hl⟩⟩
  unfold enumD at e
  rw [List.getElem?_map, List.getElem?_zipIdx] at e
  cases q : ds[i]? with
  | none => rw [q] at e; cases e
  | some d0 =>
    rw [q] at e
    cases e
    obtain ⟨v, e1, r1⟩ := repA_get r q
    refine ⟨⟨vs, v, hq, e1⟩, fun x H' ⟨T, y, ex, hT, eh, hy⟩ => ?_⟩
    subst ex eh
    have z := hy vs hq
    rw [e1] at z
    cases z
    refine ⟨_, rp.new hT, .tup upd_same (.cons ?_ (.cons (rep_same (same_new (rp.sub.free hT)) (rep_same s1 r1)) .nil))⟩
    rw [Nat.zero_add]
    exact .int _
theorem fi_enum {p tpos : Pos} {elts : List Expr} {kk : Nat} (hg : Gl X "enumerate") (hm : X.mg "enumerate" = none) (ha : PA X [e] (tA G fs)) (hs : starEach [e] X.env = [(false, eval e X.env)] := by rfl) :
    PI X (.Tuple elts kk tpos) (.Call (.Name "enumerate" p) [e] [] pos) (tI G (fAB oEnum fs)) := by
  refine (pi_enum hg hm ha hs).imp fun σ H R ⟨Hf, ρ, rp, af⟩ => ?_
  refine (stepI rp af).mono fun x H1 ⟨as, Hf1, ρ1, n1, ra, af1⟩ => ?_
  unfold oEnum at af1
  split at af1
  · cases ra with
    | cons h1 h2 => cases h2; cases h1 with
      | lst h3 h4 => exact ⟨_, _, rfl, SqL.of (n1.rp.sub _ _ h3), finI n1.rp af1 (iter_enum h3 h4)⟩
  · exact False.elim af1
def zipD (xs ys : List D) : List D := (xs.zip ys).map fun (p : D × D) => PyData.tuple [p.1, p.2]
def oZip : List D → Option (List D)
  | [.list xs, .list ys] => some (zipD xs ys)
  | [.tuple xs, .tuple ys] => some (zipD xs ys)
  | _ => none
theorem zip_get {xs ys : List D} {i : Nat} {d : D} (e : (zipD xs ys)[i]? = some d) : ∃ x y, xs[i]? = some x ∧ ys[i]? = some y ∧ d = .tuple [x, y] := by
  unfold zipD at e
  rw [List.getElem?_map] at e
  cases q : (xs.zip ys)[i]? with
  | none => rw [q] at e; cases e
  | some p =>
    rw [q] at e
    cases e
    obtain ⟨h1, h2⟩ := List.getElem?_zip_eq_some.mp q
    exact ⟨p.1, p.2, h1, h2, rfl⟩
theorem iter_zip {K : PySem.W.Frag} {σ0 : St} {ρ0 : Rho} {Hf H0 : Hp} {p q : Addr} {vs ws : List V} {xs ys : List D} (h : Hf p = some (.lst vs)) (r : RepA Hf vs xs) (h' : Hf q = some (.lst ws)) (r' : RepA Hf ws ys) : IterOk σ0 ρ0 Hf H0 (Itz K p q) (zipD xs ys) := by
  intro i Hf1 H σ ρ nn
  have s1 := nn.sub
  have rp := nn.rp
  have hq : SqL K H p vs := SqL.of (rp.sub _ _ (s1 _ _ h))
  have hq' : SqL K H q ws := SqL.of (rp.sub _ _ (s1 _ _ h'))
  refine ⟨fun d e => ?_, fun hl => ⟨vs, ws, hq, hq', by rw [repA_len r, repA_len r']; simp only [zipD, List.length_map, List.length_zip] at hl; omega⟩⟩
  obtain ⟨x, y, e1, e2, rfl⟩ := zip_get e
  obtain ⟨v, f1, r1⟩ := repA_get r e1
  obtain ⟨w, f2, r2⟩ := repA_get r' e2
  refine ⟨⟨vs, ws, v, w, hq, hq', f1, f2⟩, fun z H' ⟨T, a, b, ex, hT, eh, hy, hz⟩ => ?_⟩
  subst ex eh
  have z1 := hy vs hq
  have z2 := hz ws hq'
  rw [f1] at z1
  rw [f2] at z2
  cases z1
  cases z2
  have sn := same_new (o := .tup [v, w]) (rp.sub.free hT)
  exact ⟨_, rp.new hT, .tup upd_same (.cons (rep_same sn (rep_same s1 r1)) (.cons (rep_same sn (rep_same s1 r2)) .nil))⟩
theorem iter_zipT {K : PySem.W.Frag} {σ0 : St} {ρ0 : Rho} {Hf H0 : Hp} {p q : Addr} {vs ws : List V} {xs ys : List D} (h : Hf p = some (.tup vs)) (r : RepA Hf vs xs) (h' : Hf q = some (.tup ws)) (r' : RepA Hf ws ys) : IterOk σ0 ρ0 Hf H0 (RZ.ItzT K p q) (zipD xs ys) := by
  intro i Hf1 H σ ρ nn
  have s1 := nn.sub
  have rp := nn.rp
  have hq : SqT K H p vs := SqT.of (rp.sub _ _ (s1 _ _ h))
  have hq' : SqT K H q ws := SqT.of (rp.sub _ _ (s1 _ _ h'))
  refine ⟨fun d e => ?_, fun hl => ⟨vs, ws, hq, hq', by rw [repA_len r, repA_len r']; simp only [zipD, List.length_map, List.length_zip] at hl; omega⟩⟩
  obtain ⟨x, y, e1, e2, rfl⟩ := zip_get e
  obtain ⟨v, f1, r1⟩ := repA_get r e1
  obtain ⟨w, f2, r2⟩ := repA_get r' e2
  refine ⟨⟨vs, ws, v, w, hq, hq', f1, f2⟩, fun z H' ⟨T, a, b, ex, hT, eh, hy, hz⟩ => ?_⟩
  subst ex eh
  have z1 := hy vs hq
  have z2 := hz ws hq'
  rw [f1] at z1
  rw [f2] at z2
  cases z1
  cases z2
  have sn := same_new (o := .tup [v, w]) (rp.sub.free hT)
  exact ⟨_, rp.new hT, .tup upd_same (.cons (rep_same sn (rep_same s1 r1)) (.cons (rep_same sn (rep_same s1 r2)) .nil))⟩
theorem fi_zip {e2 : Expr} {p tpos : Pos} {elts : List Expr} {kk : Nat} (hg : Gl X "zip") (hm : X.mg "zip" = none) (ha : PA X [e, e2] (tA G fs)) (hs : starEach [e, e2] X.env = (false, eval e X.env) :: starEach [e2] X.env := by rfl) (hpl : (backTo pos (starEach [e2] X.env)).any (·.1) = false := by rfl) :
    PI X (.Tuple elts kk tpos) (.Call (.Name "zip" p) [e, e2] [] pos) (tI G (fAB oZip fs)) := by
  refine (RZ.pi_zipA hg hm ha hs hpl).imp fun σ H R ⟨Hf, ρ, rp, af⟩ => ?_
  refine (stepI rp af).mono fun x H1 ⟨as, Hf1, ρ1, n1, ra, af1⟩ => ?_
  unfold oZip at af1
  split at af1
  · cases ra with
    | cons h1 h2 => cases h2 with
      | cons h3 h4 => cases h4; cases h1 with
        | lst h5 h6 => cases h3 with
          | lst h7 h8 => exact ⟨_, _, _, _, rfl, .inl ⟨SqL.of (n1.rp.sub _ _ h5), SqL.of (n1.rp.sub _ _ h7), finI n1.rp af1 (iter_zip h5 h6 h7 h8)⟩⟩
  · cases ra with
    | cons h1 h2 => cases h2 with
      | cons h3 h4 => cases h4; cases h1 with
        | tup h5 h6 => cases h3 with
          | tup h7 h8 => exact ⟨_, _, _, _, rfl, .inr ⟨SqT.of (n1.rp.sub _ _ h5), SqT.of (n1.rp.sub _ _ h7), finI n1.rp af1 (iter_zipT h5 h6 h7 h8)⟩⟩
  · exact False.elim af1
end
end Fx
namespace Fx
open PySem L2
variable [Tabz]
theorem Rp.put {Hf H : Hp} {σ : St} {ρ : Rho} (rp : Rp Hf H σ ρ) {i : Nat} {v : V} {d : D} (r : Rep Hf v d) : Nxt false σ ρ Hf H (σ.set i (some v)) (ρ.set i (.fz d)) Hf H := by
  refine rp.weak (by rw [List.length_set, List.length_set]; exact rp.len) fun j s h => ?_
  rw [List.getElem?_set] at h
  by_cases q : i = j
  · subst q
    rw [if_pos rfl] at h
    split at h
    · rename_i hl
      cases h
      refine .inr ⟨True.intro, ?_⟩
      rw [List.getElem?_set, if_pos rfl, if_pos (Nat.lt_of_lt_of_le hl rp.len)]
      exact slok_fz.mpr r
    · cases h
  · rw [if_neg q] at h
    exact .inl ⟨h, by rw [List.getElem?_set, if_neg q]⟩
theorem Rp.store {Hf H : Hp} {σ : St} {ρ : Rho} (rp : Rp Hf H σ ρ) {i : Nat} {v : V} {s' : Sl} (ok : SlOk Hf H (some (some v)) s') (nl : (∀ t, s' ≠ .lk t) ∧ ∀ k qs, s' ≠ .pa k qs) (fresh : ∀ a, OwnS H v s' a → ¬ OwnA H σ ρ a ∧ ¬ LkA H σ ρ a) (noal : (∃ t, s' = .tr t) → ∀ (j : Nat) (qs : List Nat), ρ[j]? ≠ some (.pa i qs)) :
    Rp Hf H (σ.set i (some v)) (ρ.set i s') ∧ (∀ a, OwnA H (σ.set i (some v)) (ρ.set i s') a → OwnA H σ ρ a ∨ OwnS H v s' a) ∧ ∀ a, LkA H (σ.set i (some v)) (ρ.set i s') a → LkA H σ ρ a := by
  have gi : ∀ s, (ρ.set i s')[i]? = some s → s = s' ∧ i < ρ.length := fun s h => by
    rw [List.getElem?_set, if_pos rfl] at h
    split at h
    · rename_i hl; exact ⟨(Option.some.inj h).symm, hl⟩
    · cases h
  have gv : i < ρ.length → (σ.set i (some v))[i]? = some (some v) := fun h => by rw [List.getElem?_set, if_pos rfl, if_pos (Nat.lt_of_lt_of_le h rp.len)]
  have gj : ∀ j, j ≠ i → (ρ.set i s')[j]? = ρ[j]? := fun j n => by rw [List.getElem?_set, if_neg fun z => n z.symm]
  have gw : ∀ j, j ≠ i → (σ.set i (some v))[j]? = σ[j]? := fun j n => by rw [List.getElem?_set, if_neg fun z => n z.symm]
  have oj : ∀ j a, j ≠ i → OwnI H (σ.set i (some v)) (ρ.set i s') j a → OwnI H σ ρ j a := fun j a n ⟨s, w, e1, e2, o⟩ => ⟨s, w, gj j n ▸ e1, gw j n ▸ e2, o⟩
  have oi : ∀ a, OwnI H (σ.set i (some v)) (ρ.set i s') i a → OwnS H v s' a := fun a ⟨s, w, e1, e2, o⟩ => by
    obtain ⟨rfl, hl⟩ := gi s e1
    rw [gv hl] at e2; cases e2
    exact o
  have oa : ∀ a, OwnA H (σ.set i (some v)) (ρ.set i s') a → OwnA H σ ρ a ∨ OwnS H v s' a := fun a ⟨j, z⟩ => by
    by_cases n : j = i
    · subst n; exact .inr (oi a z)
    · exact .inl ⟨j, oj j a n z⟩
  have lkk : ∀ a, LkA H (σ.set i (some v)) (ρ.set i s') a → LkA H σ ρ a := fun a ⟨j, t, w, Hf0, F, e1, e2, z, m⟩ => by
    have n : j ≠ i := fun y => by
      subst y
      obtain ⟨e, _⟩ := gi _ e1
      exact nl.1 t e.symm
    exact ⟨j, t, w, Hf0, F, gj j n ▸ e1, gw j n ▸ e2, z, m⟩
  refine ⟨⟨rp.sub, rp.tb, rp.nt, by rw [List.length_set, List.length_set]; exact rp.len, fun j s h => ?_, fun j k a h1 h2 => ?_, fun a ha h2 => ?_, fun j k qs t h1 h2 => ?_⟩, oa, lkk⟩
  · by_cases n : j = i
    · subst n
      obtain ⟨rfl, hl⟩ := gi s h
      rw [gv hl]; exact ok
    · rw [gj j n] at h; rw [gw j n]; exact rp.sl j s h
  · by_cases n : j = i
    · subst n
      by_cases n' : k = j
      · exact n'.symm
      · exact absurd ⟨k, oj k a n' h2⟩ (fresh a (oi a h1)).1
    · by_cases n' : k = i
      · subst n'
        exact absurd ⟨j, oj j a n h1⟩ (fresh a (oi a h2)).1
      · exact rp.nd j k a (oj j a n h1) (oj k a n' h2)
  · have la := lkk a ha
    rcases oa a h2 with y | y
    · exact rp.lk a la y
    · exact (fresh a y).2 la
  · have n : j ≠ i := fun y => by
      subst y
      obtain ⟨e, _⟩ := gi _ h1
      exact nl.2 k qs e.symm
    rw [gj j n] at h1
    by_cases n' : k = i
    · subst n'
      have : ∃ t, s' = .tr t := by
        rcases h2 with e | e
        · obtain ⟨e, _⟩ := gi _ e; exact ⟨t, e.symm⟩
        · obtain ⟨e, _⟩ := gi _ e; exact absurd e.symm (nl.1 t)
      exact absurd h1 (noal this j qs)
    · have h2' : isTr ρ k t := h2.imp (fun e => gj k n' ▸ e) (fun e => gj k n' ▸ e)
      obtain ⟨x, y, s, g1, g2, g3⟩ := rp.al j k qs t h1 h2'
      exact ⟨x, y, s, (gw k n').trans g1, (gw j n).trans g2, g3⟩
theorem Nxt.putO {q : Bool} {Hf0 H0 Hf H : Hp} {σ0 σ : St} {ρ0 ρ : Rho} (n : Nxt q σ0 ρ0 Hf0 H0 σ ρ Hf H) {i : Nat} {p : Addr} {vs : List V} {ds : List D} (h0 : Fre H0 σ0 ρ0 p) (hp : Hf p = none) (no : ¬ OwnA H σ ρ p) (nk : ¬ LkA H0 σ0 ρ0 p) (h : H p = some (.lst vs)) (r : RepA Hf vs ds) :
    Nxt false σ0 ρ0 Hf0 H0 (σ.set i (some (.ref p))) (ρ.set i (.ow ds)) Hf H := by
  obtain ⟨r2, oa, lk2⟩ := n.rp.store (i := i) (v := .ref p) (s' := .ow ds) ⟨hp, vs, h, r⟩ ⟨(fun _ z => nomatch z), (fun _ _ z => nomatch z)⟩ (fun a z => by cases (show V.ref p = .ref a from z); exact ⟨no, fun y => nk (n.ls _ y)⟩) (fun ⟨_, z⟩ => nomatch z)
  refine ⟨n.sub, n.keep, fun a z => (oa a z).elim (n.os a) fun y => ?_, fun a z => n.ls a (lk2 a z), n.dom, n.fr, (fun z => nomatch z), r2⟩
  cases (show V.ref p = .ref a from y)
  exact h0.symm
theorem Rp.mut {q : Bool} {Hf H : Hp} {σ : St} {ρ : Rho} (rp : Rp Hf H σ ρ) {i : Nat} {p : Addr} {ds es : List D} {ws : List V} (hi : ρ[i]? = some (.ow ds)) (hp : σ[i]? = some (some (.ref p))) (r : RepA Hf ws es) :
    Nxt q σ ρ Hf H σ (ρ.set i (.ow es)) Hf (upd H p (.lst ws)) := by
  obtain ⟨p', vs0, e0, hf, hv0, _⟩ := slok_ow (rp.sl i _ hi)
  rw [hp] at e0; cases e0
  refine rp.chgO hi hp (.inr ⟨es, rfl⟩) (Same.refl _) (fun a o h => ?_) (rp.tb.set hv0) rp.nt (fun a o h _ n => by rw [upd_ne n]; exact h) (fun a h => ?_) (fun _ h => .inl h) ⟨hf, ws, upd_same, r⟩
  · rw [upd_ne (ne_of_none h hf)]
    exact rp.sub _ _ h
  · by_cases q : a = p
    · subst q
      rw [upd_same] at h
      cases h
    · rw [upd_ne q] at h
      exact h
section
variable {X : Cx} {G : Gx} {e a b : Expr} {es : List Expr} {f g : M D} {fs : M (List D)} {pos : Pos} {tg : Expr}
def Only (is : List Nat) (σ σ' : St) : Prop := σ'.length = σ.length ∧ ∀ j, j ∉ is → σ'[j]? = σ[j]?
theorem Only.refl (is : List Nat) (σ : St) : Only is σ σ := ⟨rfl, fun _ _ => rfl⟩
theorem Only.trans {is js : List Nat} {σ σ1 σ2 : St} (h : Only is σ σ1) (h' : Only js σ1 σ2) : Only (is ++ js) σ σ2 :=
  ⟨h'.1.trans h.1, fun j n => (h'.2 j fun z => n (List.mem_append_right _ z)).trans (h.2 j fun z => n (List.mem_append_left _ z))⟩
def tGt (is : List Nat) (g : D → Rho → Option Rho) : TG := fun v σ H Q => ∃ Hf ρ d ρ', Rp Hf H σ ρ ∧ Rep Hf v d ∧ g d ρ = some ρ' ∧ ∀ σ', Nxt false σ ρ Hf H σ' ρ' Hf H → Only is σ σ' → Q σ' H
def tGts (is : List Nat) (g : List D → Rho → Option Rho) : TGs := fun vs σ H Q => ∃ Hf ρ ds ρ', Rp Hf H σ ρ ∧ RepA Hf vs ds ∧ g ds ρ = some ρ' ∧ ∀ σ', Nxt false σ ρ Hf H σ' ρ' Hf H → Only is σ σ' → Q σ' H
theorem _root_.L2.PG.imp {t t' : TG} (h : PG X tg t) (i : ∀ v σ H Q, t' v σ H Q → t v σ H Q) : PG X tg t' := ⟨fun pins s σ H v u Q I r q => h.run pins s σ H v u Q I r (i _ _ _ _ q)⟩
theorem _root_.L2.PGs.imp {ts : List Expr} {t t' : TGs} (h : PGs X ts t) (i : ∀ v σ H Q, t' v σ H Q → t v σ H Q) : PGs X ts t' := ⟨fun pins s σ H v u Q I r q => h.run pins s σ H v u Q I r (i _ _ _ _ q)⟩
@[simp] def gSet (i : Nat) : D → Rho → Option Rho := fun d ρ => some (ρ.set i (.fz d))
theorem fg_name (i : Nat) {x : Str} (hN : X.N.Nodup) (hi : X.N[i]? = some x := by rfl) (hx : Loc X.env.scope x := by first | exact Or.inl rfl | exact Or.inr rfl) (hf : X.fn x = true ∨ X.env.scope.names.lookup x = some .local := by first | exact .inl rfl | exact .inr rfl) : PG X (.Name x pos) (tGt [i] (gSet i)) := by
  refine (pg_name hN hi hx hf).imp fun v σ H Q ⟨Hf, ρ, d, ρ', rp, r, eg, k⟩ => ?_
  cases eg
  refine k _ (rp.put r) ⟨List.length_set, fun j n => ?_⟩
  rw [List.getElem?_set, if_neg fun z => n (by rw [z]; exact List.mem_singleton.mpr rfl)]
@[simp] def gsNil : List D → Rho → Option Rho
  | [], ρ => some ρ
  | _, _ => none
@[simp] def gsCons (g : D → Rho → Option Rho) (gs : List D → Rho → Option Rho) : List D → Rho → Option Rho
  | d :: ds, ρ => (g d ρ).bind (gs ds)
  | [], _ => none
theorem fgs_nil : PGs X [] (tGts [] gsNil) := by
  refine pgs_nil.imp fun vs σ H Q ⟨Hf, ρ, ds, ρ', rp, r, eg, k⟩ => ?_
  cases r with
  | nil => cases eg; exact ⟨rfl, k _ (.refl rp) (.refl _ _)⟩
  | cons _ _ => cases eg
theorem fgs_cons {is js : List Nat} {g1 : D → Rho → Option Rho} {gs : List D → Rho → Option Rho} (h1 : PG X e (tGt is g1)) (h2 : PGs X es (tGts js gs)) (hs : (assignEach (e :: es) X.env).map (·.2) = assign e X.env :: (assignEach es X.env).map (·.2) := by rfl) : PGs X (e :: es) (tGts (is ++ js) (gsCons g1 gs)) := by
  refine (pgs_cons h1 h2 hs).imp fun vs σ H Q ⟨Hf, ρ, ds, ρ', rp, r, eg, k⟩ => ?_
  cases r with
  | nil => cases eg
  | @cons v vs d ds hv hr =>
    cases e1 : g1 d ρ with
    | none => simp only [gsCons, e1, Option.bind_none, reduceCtorEq] at eg
    | some ρ1 =>
      simp only [gsCons, e1, Option.bind_some] at eg
      exact ⟨_, _, rfl, Hf, ρ, _, ρ1, rp, hv, e1, fun σ1 n1 o1 => ⟨Hf, ρ1, ds, ρ', n1.rp, hr, eg, fun σ2 n2 o2 => k σ2 (n1.trans n2) (o1.trans o2)⟩⟩
@[simp] def gTp (gs : List D → Rho → Option Rho) : D → Rho → Option Rho
  | .tuple ds, ρ => gs ds ρ
  | _, _ => none
theorem gs_len {n : Nat} {gs : List D → Rho → Option Rho} (hn : ∀ ds ρ ρ', gs ds ρ = some ρ' → ds.length = n) {g1 : D → Rho → Option Rho} : ∀ ds ρ ρ', gsCons g1 gs ds ρ = some ρ' → ds.length = n + 1 := by
  intro ds ρ ρ' e
  cases ds with
  | nil => cases e
  | cons d ds =>
    cases e1 : g1 d ρ with
    | none => simp only [gsCons, e1, Option.bind_none, reduceCtorEq] at e
    | some ρ1 =>
      simp only [gsCons, e1, Option.bind_some] at e
      rw [List.length_cons, hn ds ρ1 ρ' e]
theorem gs_len0 : ∀ ds ρ ρ', gsNil ds ρ = some ρ' → ds.length = 0 := by
  intro ds ρ ρ' e
  cases ds with
  | nil => rfl
  | cons _ _ => cases e
theorem fg_tup {k : Nat} {is : List Nat} {gs : List D → Rho → Option Rho} {n : Nat} (hc : X.calm = true) (h : PGs X es (tGts is gs)) (hl : ∀ ds ρ ρ', gs ds ρ = some ρ' → ds.length = n) (hn : (assignEach es X.env).length = n := by rfl) (hst : (assignEach es X.env).findIdx? (·.1) = none := by rfl) : PG X (.Tuple es k pos) (tGt is (gTp gs)) := by
  refine (pg_tup hc h hn hst).imp fun v σ H Q ⟨Hf, ρ, d, ρ', rp, r, eg, k⟩ => ?_
  cases r with
  | @tup a vs ds h1 h2 => exact ⟨_, _, rfl, SqT.of (rp.sub _ _ h1), by rw [repA_len h2]; exact hl _ _ _ eg, Hf, ρ, _, ρ', rp, h2, eg, k⟩
  | lst _ _ => cases eg
  | non => cases eg
  | ins _ _ _ => cases eg
  | dct _ _ _ => cases eg
  | bl _ => cases eg
  | int _ => cases eg
  | str _ => cases eg
def wipeR (ρ : Rho) : List Nat → Rho
  | [] => ρ
  | v :: vs => (wipeR ρ vs).set v .un
theorem wipe_get (σ : St) (j : Nat) : ∀ vs : List Nat, (wipe σ vs)[j]? = if j ∈ vs then (if j < σ.length then some none else none) else σ[j]?
  | [] => by simp [wipe]
  | v :: vs => by
    unfold wipe
    rw [List.getElem?_set, wipe_length, wipe_get σ j vs]
    by_cases h : v = j
    · subst h
      simp
    · have : ¬ j = v := fun z => h z.symm
      simp [h, this]
theorem wipeR_len (ρ : Rho) : ∀ vs : List Nat, (wipeR ρ vs).length = ρ.length
  | [] => rfl
  | v :: vs => by unfold wipeR; rw [List.length_set, wipeR_len]
theorem wipeR_get (ρ : Rho) (j : Nat) : ∀ vs : List Nat, (wipeR ρ vs)[j]? = if j ∈ vs then (if j < ρ.length then some .un else none) else ρ[j]?
  | [] => by simp [wipeR]
  | v :: vs => by
    unfold wipeR
    rw [List.getElem?_set, wipeR_len, wipeR_get ρ j vs]
    by_cases h : v = j
    · subst h
      simp
    · have : ¬ j = v := fun z => h z.symm
      simp [h, this]
theorem Rp.wipe {Hf H : Hp} {σ : St} {ρ : Rho} (rp : Rp Hf H σ ρ) (vs : List Nat) : Nxt false σ ρ Hf H (wipe σ vs) (wipeR ρ vs) Hf H := by
  refine rp.weak (by rw [wipeR_len, wipe_length]; exact rp.len) fun j s h => ?_
  rw [wipeR_get] at h
  rw [wipe_get]
  by_cases q : j ∈ vs
  · rw [if_pos q] at h ⊢
    split at h
    · cases h; exact .inr ⟨True.intro, slok_un⟩
    · cases h
  · rw [if_neg q] at h ⊢
    exact .inl ⟨h, rfl⟩
theorem Only.wipe {is vs : List Nat} {σ σ' : St} (h : Only is σ σ') (hs : ∀ i ∈ is, i ∈ vs) : L2.wipe σ' vs = L2.wipe σ vs := by
  apply List.ext_getElem?
  intro j
  rw [wipe_get, wipe_get, h.1]
  by_cases q : j ∈ vs
  · rw [if_pos q, if_pos q]
  · rw [if_neg q, if_neg q]
    exact h.2 j fun z => q (hs j z)
theorem wipe_wipe (σ : St) (vs : List Nat) : L2.wipe (L2.wipe σ vs) vs = L2.wipe σ vs := by
  apply List.ext_getElem?
  intro j
  rw [wipe_get, wipe_get, wipe_length]
  by_cases q : j ∈ vs
  · rw [if_pos q, if_pos q]
  · rw [if_neg q, if_neg q]
def keepFz : Option Sl → Sl
  | some (.fz d) => .fz d
  | _ => .un
def rest (ρ2 ρ1 : Rho) : List Nat → Rho
  | [] => ρ2
  | v :: vs => (rest ρ2 ρ1 vs).set v (keepFz ρ1[v]?)
theorem rest_len (ρ2 ρ1 : Rho) : ∀ vs : List Nat, (rest ρ2 ρ1 vs).length = ρ2.length
  | [] => rfl
  | v :: vs => by unfold rest; rw [List.length_set, rest_len]
theorem rest_get (ρ2 ρ1 : Rho) (j : Nat) : ∀ vs : List Nat, (rest ρ2 ρ1 vs)[j]? = if j ∈ vs then (if j < ρ2.length then some (keepFz ρ1[j]?) else none) else ρ2[j]?
  | [] => by simp [rest]
  | v :: vs => by
    unfold rest
    rw [List.getElem?_set, rest_len, rest_get ρ2 ρ1 j vs]
    by_cases h : v = j
    · subst h
      simp
    · have : ¬ j = v := fun z => h z.symm
      simp [h, this]
theorem rest_weak {Hf1 H1 Hf H : Hp} {σ : St} {ρ1 ρ2 : Rho} {vs : List Nat} (rp : Rp Hf1 H1 σ ρ1) (sm : Same Hf1 Hf) (r : Rp Hf H (L2.wipe σ vs) (wipeR ρ2 vs)) : Nxt false (L2.wipe σ vs) (wipeR ρ2 vs) Hf H σ (rest ρ2 ρ1 vs) Hf H := by
  refine r.weak ?_ fun j s h => ?_
  · have := r.len
    rw [wipeR_len, wipe_length] at this
    rw [rest_len]
    exact this
  · rw [rest_get] at h
    by_cases q : j ∈ vs
    · rw [if_pos q] at h
      split at h
      · cases h
        refine .inr ?_
        cases e : ρ1[j]? with
        | none => exact ⟨True.intro, slok_un⟩
        | some s =>
          cases s with
          | un => exact ⟨True.intro, slok_un⟩
          | raw _ => exact ⟨True.intro, slok_un⟩
          | ow _ => exact ⟨True.intro, slok_un⟩
          | tr _ => exact ⟨True.intro, slok_un⟩
          | lk _ => exact ⟨True.intro, slok_un⟩
          | pa _ _ => exact ⟨True.intro, slok_un⟩
          | fz d =>
            obtain ⟨v, h1, h2⟩ := slok_fz' (rp.sl j _ e)
            rw [h1]
            exact ⟨True.intro, slok_fz.mpr (rep_same sm h2)⟩
      · cases h
    · rw [if_neg q] at h
      exact .inl ⟨by rw [wipeR_get, if_neg q]; exact h, by rw [wipe_get, if_neg q]⟩
theorem Nxt.rest {Hf1 H1 Hf H : Hp} {σ : St} {ρ1 ρ2 : Rho} {vs : List Nat} (rp : Rp Hf1 H1 σ ρ1) (n : Nxt false (L2.wipe σ vs) (wipeR ρ1 vs) Hf1 H1 (L2.wipe σ vs) (wipeR ρ2 vs) Hf H) : Nxt false σ ρ1 Hf1 H1 σ (rest ρ2 ρ1 vs) Hf H :=
  (rp.wipe vs).trans (n.trans (rest_weak rp n.sub n.rp))
end
end Fx
namespace Fx
open PySem L2
variable [Tabz]
section
variable {X : Cx} {G : Gx} {e a b : Expr} {es : List Expr} {f g : M D} {fs : M (List D)} {pos : Pos} {tg : Expr}
def lcE (g : D → Rho → Option Rho) (tt : M Bool) (fe : M D) (vs : List Nat) : List D → Rho → Res (List D)
  | [], ρ => .ok ([], ρ)
  | d :: ds, ρ => match g d (wipeR ρ vs) with
    | none => .bad
    | some ρ1 => match tt ρ1 with
      | .ok (true, ρ2) => (match fe ρ2 with
        | .ok (x, ρ3) => (match lcE g tt fe vs ds ρ3 with
          | .ok (xs, ρ4) => .ok (x :: xs, ρ4)
          | _ => .bad)
        | _ => .bad)
      | .ok (false, ρ2) => lcE g tt fe vs ds ρ2
      | _ => .bad
def fLc (fi : M (List D)) (g : D → Rho → Option Rho) (tt : M Bool) (fe : M D) (vs : List Nat) : M (List D) := bnd fi fun ds ρ1 => if small ds.length then (match lcE g tt fe vs ds ρ1 with
    | .ok (xs, ρ2) => .ok (xs, rest ρ2 ρ1 vs)
    | _ => .bad) else .bad
abbrev G0 (G : Gx) : Gx := ⟨fun _ _ _ _ => False, G.cA, false⟩
theorem Nxt.notLk {q : Bool} {Hf0 H0 Hf H : Hp} {σ0 σ : St} {ρ0 ρ : Rho} (n : Nxt q σ0 ρ0 Hf0 H0 σ ρ Hf H) {p : Addr} (h0 : H0 p = none) : ¬ LkA H σ ρ p := fun z => by
  obtain ⟨_, _, _, _, _, _, _, r, m⟩ := n.ls p z
  obtain ⟨o, ho, _⟩ := r.obj p m
  rw [h0] at ho; cases ho
theorem Nxt.updNew {Hf0 H0 Hf H : Hp} {σ0 σ : St} {ρ0 ρ : Rho} (n : Nxt false σ0 ρ0 Hf0 H0 σ ρ Hf H) {p : Addr} {vs ws : List V} (hv : H p = some (.lst vs)) (h0 : H0 p = none) (hp : Hf p = none) (no : ¬ OwnA H σ ρ p) : Nxt false σ0 ρ0 Hf0 H0 σ ρ Hf (upd H p (.lst ws)) ∧ ¬ OwnA (upd H p (.lst ws)) σ ρ p := by
  have ko : ∀ a, OwnA H σ ρ a → upd H p (.lst ws) a = H a := fun a z => upd_ne fun (q : a = p) => no (by rw [← q]; exact z)
  have kl : ∀ a, LkA H σ ρ a → upd H p (.lst ws) a = H a := fun a z => upd_ne fun (q : a = p) => n.notLk h0 (by rw [← q]; exact z)
  have oa : ∀ a, OwnA (upd H p (.lst ws)) σ ρ a → OwnA H σ ρ a := fun a ⟨i, z⟩ => ⟨i, (n.rp.ownI_iff (fun b y => ko b ⟨i, y⟩) a).mp z⟩
  refine ⟨⟨n.sub, fun a x h t nn => ?_, fun a z => n.os a (oa a z), fun a z => n.ls a (n.rp.lka_of kl z), fun a h => ?_, n.fr, (fun z => nomatch z), n.rp.grow (Same.refl _) (fun a x h => ?_) (n.rp.tb.set hv) n.rp.nt (fun a z => ⟨(n.rp.own z).1, ko a z⟩) kl⟩, fun z => no (oa p z)⟩
  · rw [upd_ne (ne_of_none h h0)]
    exact n.keep a x h t nn
  · by_cases q : a = p
    · exact q ▸ h0
    · rw [upd_ne q] at h
      exact n.dom a h
  · rw [upd_ne (ne_of_none h hp)]
    exact n.rp.sub _ _ h
theorem stepLI {σ : St} {ρ : Rho} {Hf H : Hp} {Q : VK} {g k : M (List D)} {kk : List D → M (List D)} (rp : Rp Hf H σ ρ) (af : AfL G σ ρ Hf H Q (bnd g kk ρ)) :
    tI G g σ H fun y H1 => ∃ b Hf1 ρ1, Nxt G.q σ ρ Hf H σ ρ1 Hf1 H1 ∧ IterOk σ ρ1 Hf1 H1 y b ∧ AfL G σ ρ1 Hf1 H1 Q (kk b ρ1) := by
  refine ⟨Hf, ρ, rp, ?_⟩
  unfold bnd at af
  cases e : g ρ with
  | ok p =>
    obtain ⟨b, ρ1⟩ := p
    rw [e] at af
    exact fun x Hf1 H1 n r => ⟨b, Hf1, ρ1, n, r, af.later n⟩
  | exc c ρ1 => rw [e] at af; exact af
  | bad => rw [e] at af; exact af
theorem lc_run {fi : M (List D)} {is vs : List Nat} {g : D → Rho → Option Rho} {tt : M Bool} {fe : M D} (hgq : G.q = false) (hs : ∀ i ∈ is, i ∈ vs) (σ : St) (H : Hp) (Q : VK) (h : tL G (fLc fi g tt fe vs) σ H Q) :
    tLc (tI G fi) (tGt is g) (tT (G0 G) tt) (tE (G0 G) fe) vs σ H Q := by
  obtain ⟨Hf, ρ, rp, af⟩ := h
  refine (stepLI (k := fi) rp af).mono fun J H1 ⟨ds, Hf1, ρ1, n1, hJ, af1⟩ => ?_
  intro D0 hD
  cases hsm : small ds.length with
  | false => simp only [hsm] at af1; exact False.elim af1
  | true =>
    simp only [hsm, if_true] at af1
    cases er : lcE g tt fe vs ds ρ1 with
    | exc c _ => rw [er] at af1; exact False.elim af1
    | bad => rw [er] at af1; exact False.elim af1
    | ok x =>
      obtain ⟨xs, ρ2⟩ := x
      rw [er] at af1
      have rp1 := n1.rp
      have hDf : Hf1 D0 = none := rp1.sub.free hD
      have w1 := rp1.wipe vs
      have noD : ¬ OwnA (upd H1 D0 (.lst [])) (L2.wipe σ vs) (wipeR ρ1 vs) D0 := w1.rp.notOwnU hD
      refine ⟨fun i m Hc => m = ds.length - i ∧ i ≤ ds.length ∧ ∃ Hfc ρc acc accv ys, Nxt false (L2.wipe σ vs) (wipeR ρ1 vs) Hf1 H1 (L2.wipe σ vs) (wipeR ρc vs) Hfc Hc ∧ Hc D0 = some (.lst accv) ∧ Hfc D0 = none ∧ ¬ OwnA Hc (L2.wipe σ vs) (wipeR ρc vs) D0 ∧
          RepA Hfc accv acc ∧ acc.length ≤ i ∧ lcE g tt fe vs (ds.drop i) ρc = .ok (ys, ρ2) ∧ acc ++ ys = xs,
        ⟨ds.length, by simp, Nat.zero_le _, Hf1, ρ1, [], [], xs, w1.rp.newO hD, upd_same, hDf, noD, .nil, Nat.le_refl _, er, rfl⟩, ?_⟩
      rintro i m Hc ⟨rfl, hi, Hfc, ρc, acc, accv, ys, n, eD, fD, oD, ra, hl, el, ex⟩
      have it := hJ i Hfc Hc (L2.wipe σ vs) (wipeR ρc vs) (w1.trans n)
      by_cases hlt : i < ds.length
      · have ed : ds[i]? = some ds[i] := List.getElem?_eq_getElem hlt
        have edr : ds.drop i = ds[i] :: ds.drop (i + 1) := List.drop_eq_getElem_cons hlt
        obtain ⟨hgo, hy⟩ := it.1 _ ed
        rw [edr] at el
        unfold lcE at el
        refine .inr ⟨hgo, fun H' => ∃ Hfc ρc acc accv ys, Nxt false (L2.wipe σ vs) (wipeR ρ1 vs) Hf1 H1 (L2.wipe σ vs) (wipeR ρc vs) Hfc H' ∧ H' D0 = some (.lst accv) ∧ Hfc D0 = none ∧ ¬ OwnA H' (L2.wipe σ vs) (wipeR ρc vs) D0 ∧
          RepA Hfc accv acc ∧ acc.length ≤ i + 1 ∧ lcE g tt fe vs (ds.drop (i + 1)) ρc = .ok (ys, ρ2) ∧ acc ++ ys = xs, fun H' q => ⟨ds.length - (i + 1), by omega, rfl, hlt, q⟩, fun x H' yx => ?_⟩
        obtain ⟨Hfy, ny, ry⟩ := hy x H' yx
        -- facts on D0 through a step
        have carry : ∀ {σ2 : St} {ρ2' : Rho} {Hf2 H2 : Hp}, Nxt false (L2.wipe σ vs) (wipeR ρc vs) Hfc Hc σ2 ρ2' Hf2 H2 → H2 D0 = some (.lst accv) ∧ Hf2 D0 = none ∧ ¬ OwnA H2 σ2 ρ2' D0 := fun nn => by
          refine ⟨nn.keep _ _ eD NT.lst oD, (nn.fr D0 fD).elim id fun q => q.elim (fun z => ?_) fun z => absurd z oD, fun z => (nn.os D0 z).elim oD fun w => ?_⟩
          · rw [eD] at z; cases z
          · rw [eD] at w; cases w
        cases eg : g ds[i] (wipeR ρc vs) with
        | none => simp only [eg, reduceCtorEq] at el
        | some ρg =>
          simp only [eg] at el
          refine ⟨Hfy, wipeR ρc vs, _, ρg, ny.rp, ry, eg, fun σ2 n2 o2 => ⟨?_, ?_⟩⟩
          · rw [o2.wipe hs, wipe_wipe]
          · have n3 := (Nxt.any ny).trans n2
            have ew : L2.wipe σ2 vs = L2.wipe σ vs := by rw [o2.wipe hs, wipe_wipe]
            refine ⟨Hfy, ρg, n3.rp, ?_⟩
            cases et : tt ρg with
            | exc c _ => simp only [et, reduceCtorEq] at el
            | bad => simp only [et, reduceCtorEq] at el
            | ok z =>
              obtain ⟨bt, ρt⟩ := z
              simp only [et] at el
              intro bb Hf4 H4 n4 eb
              subst eb
              have n5 := n3.trans n4
              cases bb with
              | false =>
                dsimp only at el
                have n6 := n5.trans (n5.rp.wipe vs)
                rw [ew] at n6
                obtain ⟨c1, c2, c3⟩ := carry n6
                exact ⟨Hf4, ρt, acc, accv, ys, n.trans n6, c1, c2, c3, repA_same n6.sub ra, by omega, el, ex⟩
              | true =>
                dsimp only at el
                refine ⟨Hf4, ρt, n5.rp, ?_⟩
                cases ee : fe ρt with
                | exc c _ => simp only [ee, reduceCtorEq] at el
                | bad => simp only [ee, reduceCtorEq] at el
                | ok z2 =>
                  obtain ⟨y, ρe⟩ := z2
                  simp only [ee] at el
                  intro v Hf7 H7 n7 rv
                  have n8 := n5.trans n7
                  obtain ⟨c1, c2, c3⟩ := carry n8
                  have n9 := n8.trans (n8.rp.wipe vs)
                  rw [ew] at n9
                  obtain ⟨d1, d2, d3⟩ := carry n9
                  refine ⟨accv, c1, ?_, ?_⟩
                  · rw [repA_len ra]
                    exact Nat.lt_of_le_of_lt hl (Nat.lt_trans hlt (small_lt hsm))
                  · cases e5 : lcE g tt fe vs (ds.drop (i + 1)) ρe with
                    | exc c _ => simp only [e5, reduceCtorEq] at el
                    | bad => simp only [e5, reduceCtorEq] at el
                    | ok z3 =>
                      obtain ⟨ys2, ρ5⟩ := z3
                      simp only [e5, Res.ok.injEq, Prod.mk.injEq] at el
                      obtain ⟨e6, e7⟩ := el
                      subst e6 e7
                      refine ⟨Hf7, ρe, acc ++ [y], accv ++ [v], ys2, ((n.trans n9).updNew d1 hD d2 d3).1, upd_same, d2, ((n.trans n9).updNew d1 hD d2 d3).2, repA_append (repA_same n9.sub ra) (.cons rv .nil), ?_, e5, ?_⟩
                      · rw [List.length_append, List.length_singleton]; omega
                      · rw [List.append_assoc]; exact ex
      · have ei : i = ds.length := by omega
        subst ei
        rw [List.drop_length] at el
        unfold lcE at el
        cases el
        rw [List.append_nil] at ex
        subst ex
        refine .inl ⟨it.2 (Nat.le_refl _), ?_⟩
        have nr := Nxt.rest rp1 n
        rw [← hgq] at nr
        refine af1 D0 accv Hfc Hc nr (.inl hD) fD (fun z => ?_) eD ra
        exact ((rest_weak rp1 n.sub n.rp).os D0 z).elim oD fun y => by rw [eD] at y; cases y
theorem fts_nil : PTs X [] (tT G (ret true)) := ⟨fun pins s σ H Q I ⟨Hf, ρ, rp, af⟩ => pts_nil.run pins s σ H Q I (fin rp af rfl)⟩
theorem fts_one {c : Expr} {p : M Bool} (h : PT X c (tT G p)) : PTs X [c] (tT G p) := pts_one h
theorem fl_lc {elt iter : Expr} {ifs : List Expr} {scope : Scope} {own : List (Str × Nat)} {fi : M (List D)} {is : List Nat} {g : D → Rho → Option Rho} {tt : M Bool} {fe : M D} (hc : X.calm = true) (hN : X.N.Nodup) (ok : BlkOk X.N X.env.scope scope own) (his : ∀ i ∈ is, i ∈ own.map (·.2)) (hi : PI X tg iter (tI G fi))
    (hg : ∀ (s : Shared) (H : Hp) (C : Addr) (cl : List (Str × Addr)) (fp : List Addr), PG (X.blk s H scope (compEnvC scope cl C X.env) fp) tg (tGt is g)) (ht : ∀ (s : Shared) (H : Hp) (C : Addr) (cl : List (Str × Addr)) (fp : List Addr), PTs (X.blk s H scope (compEnvC scope cl C X.env) fp) ifs (tT (G0 G) tt))
    (he : ∀ (s : Shared) (H : Hp) (C : Addr) (cl : List (Str × Addr)) (fp : List Addr), PE (X.blk s H scope (compEnvC scope cl C X.env) fp) elt (tE (G0 G) fe)) (hs : ∀ x, foldedSetIterable iter X.env x = pure x := by intro _; rfl) (hgq : G.q = false := by rfl) :
    PE X (.ListComp elt [⟨tg, iter, ifs, 0⟩] scope pos) (tL G (fLc fi g tt fe (own.map (·.2)))) := (pe_lc hc hN hi ok hg ht he hs).imp (lc_run hgq his)
end
end Fx
namespace Fx
open PySem L2
variable [Tabz]
inductive Rt where
  | fz (d : D)
  | ow (ds : List D)
  | tr (t : Tr)
inductive Fl where
  | nx (ρ : Rho)
  | ret (r : Rt) (ρ : Rho)
  | brk (ρ : Rho)
  | ct (ρ : Rho)
  | exc (c : Str) (ρ : Rho)
  | bad
def RtOk (pn : List Nat) (σ : St) (ρ : Rho) (H : Hp) (σ' : St) (ρ' : Rho) (Hf' H' : Hp) (v : V) : Rt → Prop
  | .fz d => Rep Hf' v d
  | .ow ds => ∃ p vs, v = .ref p ∧ Fre H σ ρ p ∧ Hf' p = none ∧ ¬ OwnA H' σ' ρ' p ∧ H' p = some (.lst vs) ∧ RepA Hf' vs ds
  | .tr t => ∃ F, TR Hf' H' v t F ∧ F.Nodup ∧ ∀ a ∈ F, Fre H σ ρ a ∧ Hf' a = none ∧ ¬ OwnA H' σ' ρ' a
def Pin (pn : List Nat) (σ σ' : St) : Prop := ∀ j ∈ pn, σ'[j]? = σ[j]?
theorem Pin.refl (pn : List Nat) (σ : St) : Pin pn σ σ := fun _ _ => rfl
theorem Pin.trans {pn : List Nat} {σ σ1 σ2 : St} (h : Pin pn σ σ1) (h' : Pin pn σ1 σ2) : Pin pn σ σ2 := fun j z => (h' j z).trans (h j z)
def AfS (G : Gx) (pn : List Nat) (σ : St) (ρ : Rho) (Hf H : Hp) (D : Ends) : Fl → Prop
  | .nx ρ' => ∀ σ' Hf' H', Nxt false σ ρ Hf H σ' ρ' Hf' H' → Pin pn σ σ' → D.nx σ' H'
  | .brk ρ' => ∀ σ' Hf' H', Nxt false σ ρ Hf H σ' ρ' Hf' H' → Pin pn σ σ' → D.bk σ' H'
  | .ct ρ' => ∀ σ' Hf' H', Nxt false σ ρ Hf H σ' ρ' Hf' H' → Pin pn σ σ' → D.ct σ' H'
  | .ret r ρ' => ∀ v σ' Hf' H', Nxt false σ ρ Hf H σ' ρ' Hf' H' → Pin pn σ σ' → RtOk pn σ ρ H σ' ρ' Hf' H' v r → D.rt v H'
  | .exc c ρ' => ∀ σ' Hf' H', Nxt false σ ρ Hf H σ' ρ' Hf' H' → Pin pn σ σ' → G.W (.ref (G.cA c)) none σ' H'
  | .bad => False
def tS (G : Gx) (pn : List Nat) (g : Rho → Fl) : TS := fun D σ H => ∃ Hf ρ, Rp Hf H σ ρ ∧ AfS G pn σ ρ Hf H D (g ρ)
section
variable {G : Gx} {pn : List Nat} {σ σ1 : St} {ρ ρ1 : Rho} {Hf H Hf1 H1 : Hp} {D : Ends}
theorem Keep.later {q : Bool} (n : Nxt q σ ρ Hf H σ1 ρ1 Hf1 H1) {H' : Hp} (k : Keep σ1 ρ1 H1 H') : Keep σ ρ H H' := fun x o h t nn => k x o (n.keep x o h t nn) t fun z => (n.os x z).elim nn fun w => by rw [h] at w; cases w
theorem AfS.later (n : Nxt false σ ρ Hf H σ1 ρ1 Hf1 H1) (pi : Pin pn σ σ1) : ∀ {o : Fl}, AfS G pn σ ρ Hf H D o → AfS G pn σ1 ρ1 Hf1 H1 D o
  | .nx _, q => fun σ' Hf' H' n' p' => q σ' Hf' H' (n.trans n') (pi.trans p')
  | .brk _, q => fun σ' Hf' H' n' p' => q σ' Hf' H' (n.trans n') (pi.trans p')
  | .ct _, q => fun σ' Hf' H' n' p' => q σ' Hf' H' (n.trans n') (pi.trans p')
  | .ret (.fz d) _, q => fun v σ' Hf' H' n' p' r => q v σ' Hf' H' (n.trans n') (pi.trans p') r
  | .ret (.ow ds) _, q => fun v σ' Hf' H' n' p' r => q v σ' Hf' H' (n.trans n') (pi.trans p') (by
      obtain ⟨p, vs, e, h1, h3⟩ := r
      exact ⟨p, vs, e, h1.back n, h3⟩)
  | .ret (.tr t) _, q => fun v σ' Hf' H' n' p' r => q v σ' Hf' H' (n.trans n') (pi.trans p') (by
      obtain ⟨F, r1, r2, r3⟩ := r
      exact ⟨F, r1, r2, fun a m => ⟨(r3 a m).1.back n, (r3 a m).2⟩⟩)
  | .exc _ _, q => fun σ' Hf' H' n' p' => q σ' Hf' H' (n.trans n') (pi.trans p')
  | .bad, q => q
end
section
variable {X : Cx} {G : Gx} {e a b : Expr} {es : List Expr} {f g : M PyData} {fs : M (List PyData)} {pos : Pos} {tg : Expr} {pn : List Nat} {st : Stmt} {sts : List Stmt} {s t : Rho → Fl}
@[simp] def sSeq (s t : Rho → Fl) : Rho → Fl := fun ρ => match s ρ with
  | .nx ρ1 => t ρ1
  | x => x
@[simp] def sNil : Rho → Fl := fun ρ => .nx ρ
theorem fss_nil : PSs X [] (tS G pn sNil) := pss_nil.imp fun D σ H ⟨Hf, ρ, rp, af⟩ => af σ Hf H (.refl rp) (.refl _ _)
theorem fss_one (h : PS X st (tS G pn s)) : PSs X [st] (tS G pn s) := pss_one h
theorem fss_cons (h1 : PS X st (tS G pn s)) (h2 : PSs X sts (tS G pn t)) : PSs X (st :: sts) (tS G pn (sSeq s t)) := by
  refine (pss_cons h1 h2).imp fun D σ H ⟨Hf, ρ, rp, af⟩ => ⟨Hf, ρ, rp, ?_⟩
  unfold sSeq at af
  cases e : s ρ with
  | nx ρ1 => rw [e] at af; exact fun σ1 Hf1 H1 n p => ⟨Hf1, ρ1, n.rp, af.later n p⟩
  | brk ρ1 => rw [e] at af; exact af
  | ct ρ1 => rw [e] at af; exact af
  | ret r ρ1 => rw [e] at af; exact af
  | exc c ρ1 => rw [e] at af; exact af
  | bad => rw [e] at af; exact af
@[simp] def sBnd {α : Type} (f : M α) (k : α → Rho → Fl) : Rho → Fl := fun ρ => match f ρ with
  | .ok (x, ρ1) => k x ρ1
  | .exc c ρ1 => .exc c ρ1
  | .bad => .bad
theorem stepS {α β : Type} {R1 : Hp → β → α → Prop} {σ : St} {ρ : Rho} {Hf H : Hp} {D : Ends} {g : M α} {k : α → Rho → Fl} (rp : Rp Hf H σ ρ) (af : AfS G pn σ ρ Hf H D (sBnd g k ρ)) :
    tG G R1 g σ H fun y H1 => ∃ b Hf1 ρ1, Nxt false σ ρ Hf H σ ρ1 Hf1 H1 ∧ R1 Hf1 y b ∧ AfS G pn σ ρ1 Hf1 H1 D (k b ρ1) := by
  refine ⟨Hf, ρ, rp, ?_⟩
  unfold sBnd at af
  cases e : g ρ with
  | ok p =>
    obtain ⟨b, ρ1⟩ := p
    rw [e] at af
    exact fun x Hf1 H1 n r => ⟨b, Hf1, ρ1, n.any, r, af.later n.any (.refl _ _)⟩
  | exc c ρ1 => rw [e] at af; exact fun Hf' H' n => af σ Hf' H' n.any (.refl _ _)
  | bad => rw [e] at af; exact af
theorem stepSL {σ : St} {ρ : Rho} {Hf H : Hp} {D : Ends} {g : M (List PyData)} {k : List PyData → Rho → Fl} (rp : Rp Hf H σ ρ) (af : AfS G pn σ ρ Hf H D (sBnd g k ρ)) :
    tL G g σ H fun y H1 => ∃ p vs ds Hf1 ρ1, y = .ref p ∧ Nxt false σ ρ Hf H σ ρ1 Hf1 H1 ∧ (Fre H σ ρ p ∧ ¬ LkA H σ ρ p) ∧ Hf1 p = none ∧ ¬ OwnA H1 σ ρ1 p ∧ H1 p = some (.lst vs) ∧ RepA Hf1 vs ds ∧ AfS G pn σ ρ Hf H D (k ds ρ1) := by
  refine ⟨Hf, ρ, rp, ?_⟩
  unfold sBnd at af
  cases e : g ρ with
  | ok p =>
    obtain ⟨b, ρ1⟩ := p
    rw [e] at af
    exact fun p vs Hf1 H1 n h1 h2 h3 h4 r => ⟨p, vs, b, Hf1, ρ1, rfl, n.any, ⟨h1, h1.notLk rp⟩, h2, h3, h4, r, af⟩
  | exc c ρ1 => rw [e] at af; exact fun Hf' H' n => af σ Hf' H' n.any (.refl _ _)
  | bad => rw [e] at af; exact af
theorem _root_.Fx.tL.mono {f : M (List PyData)} {σ : St} {H : Hp} {Q Q' : VK} (h : ∀ x H, Q x H → Q' x H) (t : tL G f σ H Q) : tL G f σ H Q' := by
  obtain ⟨Hf, ρ, rp, q⟩ := t
  refine ⟨Hf, ρ, rp, ?_⟩
  cases e : f ρ with
  | ok x => obtain ⟨ds, ρ'⟩ := x; rw [e] at q; exact fun p vs Hf' H' n h1 h2 h3 h4 r => h _ _ (q p vs Hf' H' n h1 h2 h3 h4 r)
  | exc c ρ1 => rw [e] at q; exact q
  | bad => rw [e] at q; exact q
@[simp] def sDrop (f : M PyData) : Rho → Fl := fun ρ => (sBnd f fun _ ρ => .nx ρ) ρ
theorem fs_expr (he : PE X e (tE G f)) (hs : swapsWith e none pos.line X.env = pure false := by rfl) : PS X (.Expr e pos) (tS G pn (sDrop f)) := by
  refine (ps_expr he hs).imp fun D σ H ⟨Hf, ρ, rp, af⟩ => ?_
  exact (stepS rp af).mono fun x H1 ⟨d, Hf1, ρ1, n1, ra, af1⟩ => af1 σ Hf1 H1 (.refl n1.rp) (.refl _ _)
theorem pin_set {i : Nat} {σ : St} {o : Option V} (h : i ∉ pn) : Pin pn σ (σ.set i o) := fun j z => by
  rw [List.getElem?_set, if_neg (fun (q : i = j) => h (q ▸ z))]
@[simp] def sSet (i : Nat) (f : M PyData) : Rho → Fl := fun ρ => (sBnd f fun d ρ => .nx (ρ.set i (.fz d))) ρ
theorem fs_set (i : Nat) {x : Str} {pos' : Pos} (hN : X.N.Nodup) (hpn : i ∉ pn) (he : PE X e (tE G f)) (hi : X.N[i]? = some x := by rfl) (hx : Loc X.env.scope x := by first | exact Or.inl rfl | exact Or.inr rfl) (hs : swapsWith e (some (.Name x pos')) pos.line X.env = pure false := by rfl) (hf : X.fn x = true ∨ X.env.scope.names.lookup x = some .local := by first | exact .inl rfl | exact .inr rfl) :
    PS X (.Assign [.Name x pos'] e pos) (tS G pn (sSet i f)) := by
  refine (ps_set hN hi hx he hs hf).imp fun D σ H ⟨Hf, ρ, rp, af⟩ => ?_
  exact (stepS rp af).mono fun v H1 ⟨d, Hf1, ρ1, n1, ra, af1⟩ => af1 _ Hf1 H1 (n1.rp.put ra) (pin_set hpn)
@[simp] def sSetL (i : Nat) (f : M (List PyData)) : Rho → Fl := fun ρ => (sBnd f fun ds ρ => .nx (ρ.set i (.ow ds))) ρ
theorem rd_setL {i : Nat} {f : M (List PyData)} (hpn : i ∉ pn) (D : Ends) (σ : St) (H : Hp) (h : tS G pn (sSetL i f) D σ H) : tAsg (tL G f) (gName i) D σ H := by
  obtain ⟨Hf, ρ, rp, af⟩ := h
  refine (stepSL rp af).mono fun v H1 ⟨p, vs, ds, Hf1, ρ1, ev, n1, h1, h2, h3, h4, r, af1⟩ => ?_
  subst ev
  exact af1 _ Hf1 H1 (n1.putO h1.1 h2 h3 h1.2 h4 r) (pin_set hpn)
theorem fs_setL (i : Nat) {x : Str} {pos' : Pos} {f : M (List PyData)} (hN : X.N.Nodup) (hpn : i ∉ pn) (he : PE X e (tL G f)) (hi : X.N[i]? = some x := by rfl) (hx : Loc X.env.scope x := by first | exact Or.inl rfl | exact Or.inr rfl) (hs : swapsWith e (some (.Name x pos')) pos.line X.env = pure false := by rfl) (hf : X.fn x = true ∨ X.env.scope.names.lookup x = some .local := by first | exact .inl rfl | exact .inr rfl) :
    PS X (.Assign [.Name x pos'] e pos) (tS G pn (sSetL i f)) := (ps_set hN hi hx he hs hf).imp (rd_setL hpn)
theorem fs_setLc (i : Nat) {y : Str} {py spos : Pos} {elt iter : Expr} {ifs : List Expr} {scope : Scope} {own : List (Str × Nat)} {fi : M (List PyData)} {is : List Nat} {g : PyData → Rho → Option Rho} {tt : M Bool} {fe : M PyData} (hc : X.calm = true) (hN : X.N.Nodup) (hpn : i ∉ pn) (hy : X.N[i]? = some y) (hyl : X.env.scope.names.lookup y = some .local)
    (hsw : swapsWith (.ListComp elt [⟨tg, iter, ifs, 0⟩] scope pos) (some (.Name y py)) spos.line X.env = pure true) (ok : BlkOk X.N X.env.scope scope own) (his : ∀ i ∈ is, i ∈ own.map (·.2)) (hi : PI X tg iter (tI G fi))
    (hg : ∀ (s : Shared) (H : Hp) (C : Addr) (cl : List (Str × Addr)) (fp : List Addr), PG (X.blk s H scope (compEnvC scope cl C X.env) fp) tg (tGt is g)) (ht : ∀ (s : Shared) (H : Hp) (C : Addr) (cl : List (Str × Addr)) (fp : List Addr), PTs (X.blk s H scope (compEnvC scope cl C X.env) fp) ifs (tT (G0 G) tt))
    (he : ∀ (s : Shared) (H : Hp) (C : Addr) (cl : List (Str × Addr)) (fp : List Addr), PE (X.blk s H scope (compEnvC scope cl C X.env) fp) elt (tE (G0 G) fe)) (hs : ∀ x, foldedSetIterable iter X.env x = pure x := by intro _; rfl) (hgq : G.q = false := by rfl) :
    PS X (.Assign [.Name y py] (.ListComp elt [⟨tg, iter, ifs, 0⟩] scope pos) spos) (tS G pn (sSetL i (fLc fi g tt fe (own.map (·.2))))) := by
  refine (ps_setLc hc hN hy hyl hsw hi ok hg ht he hs).imp fun D σ H h => ?_
  exact lc_run hgq his σ H _ (rd_setL hpn D σ H h)
@[simp] def sAsg (g : PyData → Rho → Option Rho) (f : M PyData) : Rho → Fl := fun ρ => (sBnd f fun d ρ => match g d ρ with
  | some ρ' => .nx ρ'
  | none => .bad) ρ
theorem pin_only {is : List Nat} {σ σ' : St} (o : Only is σ σ') (h : ∀ i ∈ is, i ∉ pn) : Pin pn σ σ' := fun j z => o.2 j fun q => h j q z
theorem fs_asg {is : List Nat} {g : PyData → Rho → Option Rho} (hpn : ∀ i ∈ is, i ∉ pn) (he : PE X e (tE G f)) (hg : PG X tg (tGt is g)) (hs : swapsWithSole [tg] e pos.line X.env = pure false := by rfl) (hw : swappedStores [tg] e X.env = pure none := by rfl)
    (h1 : (assignEach [tg] X.env).map (·.2) = [assign tg X.env] := by rfl) : PS X (.Assign [tg] e pos) (tS G pn (sAsg g f)) := by
  refine (ps_asg he hg hs hw h1).imp fun D σ H ⟨Hf, ρ, rp, af⟩ => ?_
  refine (stepS rp af).mono fun v H1 ⟨d, Hf1, ρ1, n1, ra, af1⟩ => ?_
  cases eg : g d ρ1 with
  | none => simp only [eg] at af1; exact False.elim af1
  | some ρ2 =>
    simp only [eg] at af1
    exact ⟨Hf1, ρ1, d, ρ2, n1.rp, ra, eg, fun σ' n2 o => af1 σ' Hf1 H1 n2 (pin_only o hpn)⟩
@[simp] def sRet (f : M PyData) : Rho → Fl := fun ρ => (sBnd f fun d ρ => .ret (.fz d) ρ) ρ
theorem fs_ret (he : PE X e (tE G f)) : PS X (.Return (some e) pos) (tS G pn (sRet f)) := by
  refine (ps_ret he).imp fun D σ H ⟨Hf, ρ, rp, af⟩ => ?_
  exact (stepS rp af).mono fun x H1 ⟨d, Hf1, ρ1, n1, ra, af1⟩ => af1 x σ Hf1 H1 (.refl n1.rp) (.refl _ _) ra
@[simp] def sRetL (f : M (List PyData)) : Rho → Fl := fun ρ => (sBnd f fun ds ρ => .ret (.ow ds) ρ) ρ
theorem fs_retL {f : M (List PyData)} (hpn : pn = []) (he : PE X e (tL G f)) : PS X (.Return (some e) pos) (tS G pn (sRetL f)) := by
  refine (ps_ret he).imp fun D σ H ⟨Hf, ρ, rp, af⟩ => ?_
  refine (stepSL rp af).mono fun v H1 ⟨p, vs, ds, Hf1, ρ1, ev, n1, h1, h2, h3, h4, r, af1⟩ => ?_
  subst ev
  exact af1 _ σ Hf1 H1 n1 (.refl _ _) ⟨p, vs, rfl, h1.1, h2, h3, h4, r⟩
@[simp] def io0 (ρ : Rho) : Bool := match (ρ[(0 : Nat)]? : Option Sl) with
  | some (.ow _) => true
  | _ => false
theorem io0_own {ρ : Rho} (h : io0 ρ = true) : ∃ ds, ρ[0]? = some (.ow ds) := by
  unfold io0 at h
  split at h
  · rename_i ds e; exact ⟨ds, e⟩
  · cases h
@[simp] def sRetL0 (f : M (List PyData)) : Rho → Fl := fun ρ => if io0 ρ then sRetL f ρ else .bad
@[simp] def sRetN : Rho → Fl := fun ρ => .ret (.fz .none) ρ
@[simp] def sRetV (i : Nat) : Rho → Fl := fun ρ => match ρ[i]? with
  | some (.fz d) => .ret (.fz d) ρ
  | some (.ow ds) => .ret (.ow ds) (ρ.set i .un)
  | _ => .bad
theorem Rp.drop {Hf H : Hp} {σ : St} {ρ : Rho} (rp : Rp Hf H σ ρ) (i : Nat) : Nxt false σ ρ Hf H σ (ρ.set i .un) Hf H := by
  refine rp.weak (by rw [List.length_set]; exact rp.len) fun j s h => ?_
  rw [List.getElem?_set] at h
  split at h
  · split at h
    · cases h; exact .inr ⟨True.intro, slok_un⟩
    · cases h
  · exact .inl ⟨h, rfl⟩
theorem Rp.drop_own {Hf H : Hp} {σ : St} {ρ : Rho} (rp : Rp Hf H σ ρ) {i : Nat} {a : Addr} (h : OwnI H σ ρ i a) : ¬ OwnA H σ (ρ.set i .un) a := fun ⟨j, s, v, e1, e2, o⟩ => by
  rw [List.getElem?_set] at e1
  split at e1
  · split at e1
    · cases e1; exact o.elim
    · cases e1
  · rename_i n
    exact n (rp.nd i j a h ⟨s, v, e1, e2, o⟩)
theorem fs_retV (i : Nat) {x : Str} {p1 : Pos} (hpi : pn = []) (hN : X.N[i]? = some x := by rfl) (hv : Vis X.env.scope x := by first | exact Or.inl rfl | exact Or.inr (Or.inl rfl) | exact Or.inr (Or.inr rfl)) (hd : (x == ("__debug__" : Str)) = false := by decide)
    (hcd : (x == ("__classdict__" : Str)) = false := by decide) : PS X (.Return (some (.Name x p1)) pos) (tS G pn (sRetV i)) := by
  refine (ps_ret (pe_var hN hv hd hcd)).imp fun D σ H ⟨Hf, ρ, rp, af⟩ => ?_
  unfold sRetV at af
  cases e : ρ[i]? with
  | none => rw [e] at af; exact af.elim
  | some s =>
    rw [e] at af
    cases s with
    | un => exact af.elim
    | raw _ => exact af.elim
    | tr _ => exact af.elim
    | lk _ => exact af.elim
    | pa _ _ => exact af.elim
    | fz d =>
      obtain ⟨v, hv, q⟩ := slok_fz' (rp.sl i _ e)
      exact ⟨v, hv, af v σ Hf H (.refl rp) (.refl _ _) q⟩
    | ow ds =>
      obtain ⟨p, vs, e1, h1, h2, h3⟩ := slok_ow (rp.sl i _ e)
      have oi : OwnI H σ ρ i p := (ownI_ow e e1).mpr rfl
      exact ⟨_, e1, af _ σ Hf H (rp.drop i) (.refl _ _) ⟨p, vs, rfl, .inr ⟨i, oi⟩, h1, rp.drop_own oi, h2, h3⟩⟩
@[simp] def sRetV0 (i : Nat) : Rho → Fl := fun ρ => if io0 ρ then sRetV i ρ else .bad
theorem fs_retV0 (i : Nat) {x : Str} {p1 : Pos} (hpi : pn = [0]) (hi0 : i ≠ 0) (hN : X.N[i]? = some x := by rfl) (hv : Vis X.env.scope x := by first | exact Or.inl rfl | exact Or.inr (Or.inl rfl) | exact Or.inr (Or.inr rfl)) (hd : (x == ("__debug__" : Str)) = false := by decide)
    (hcd : (x == ("__classdict__" : Str)) = false := by decide) : PS X (.Return (some (.Name x p1)) pos) (tS G pn (sRetV0 i)) := by
  refine (ps_ret (pe_var hN hv hd hcd)).imp fun D σ H ⟨Hf, ρ, rp, af⟩ => ?_
  unfold sRetV0 at af
  cases e0 : io0 ρ with
  | false => rw [e0] at af; exact False.elim af
  | true =>
    rw [e0, if_pos rfl] at af
    obtain ⟨ds0, h0⟩ := io0_own e0
    unfold sRetV at af
    cases e : ρ[i]? with
    | none => rw [e] at af; exact af.elim
    | some s =>
      rw [e] at af
      cases s with
      | un => exact af.elim
      | raw _ => exact af.elim
      | tr _ => exact af.elim
      | lk _ => exact af.elim
      | pa _ _ => exact af.elim
      | fz d =>
        obtain ⟨v, hv, q⟩ := slok_fz' (rp.sl i _ e)
        exact ⟨v, hv, af v σ Hf H (.refl rp) (.refl _ _) q⟩
      | ow ds =>
        obtain ⟨p, vs, e1, h1, h2, h3⟩ := slok_ow (rp.sl i _ e)
        have oi : OwnI H σ ρ i p := (ownI_ow e e1).mpr rfl
        exact ⟨_, e1, af _ σ Hf H (rp.drop i) (.refl _ _) ⟨p, vs, rfl, .inr ⟨i, oi⟩, h1, rp.drop_own oi, h2, h3⟩⟩
@[simp] def sIf (p : M Bool) (s t : Rho → Fl) : Rho → Fl := fun ρ => (sBnd p fun c => if c = true then s else t) ρ
theorem fs_if {c : Expr} {as bs : List Stmt} {p : M Bool} (hc : PT X c (tT G p)) (ha : PSs X as (tS G pn s)) (hb : PSs X bs (tS G pn t)) : PS X (.If c as bs pos) (tS G pn (sIf p s t)) := by
  refine (ps_if hc ha hb).imp fun D σ H ⟨Hf, ρ, rp, af⟩ => ?_
  refine (stepS rp af).mono fun x H1 ⟨d, Hf1, ρ1, n1, ra, af1⟩ => ?_
  subst ra
  cases x with
  | true => exact ⟨Hf1, ρ1, n1.rp, af1⟩
  | false => exact ⟨Hf1, ρ1, n1.rp, af1⟩
@[simp] def sBrk : Rho → Fl := fun ρ => .brk ρ
@[simp] def sCt : Rho → Fl := fun ρ => .ct ρ
def forE (g : PyData → Rho → Option Rho) (s : Rho → Fl) : List PyData → Rho → Fl
  | [], ρ => .nx ρ
  | d :: ds, ρ => match g d ρ with
    | none => .bad
    | some ρ1 => match s ρ1 with
      | .nx ρ2 => forE g s ds ρ2
      | .ct ρ2 => forE g s ds ρ2
      | .brk ρ2 => .nx ρ2
      | x => x
def sFor (fi : M (List PyData)) (g : PyData → Rho → Option Rho) (s : Rho → Fl) : Rho → Fl := sBnd fi fun ds ρ => forE g s ds ρ
theorem stepSI {σ : St} {ρ : Rho} {Hf H : Hp} {D : Ends} {g : M (List PyData)} {k : List PyData → Rho → Fl} (rp : Rp Hf H σ ρ) (af : AfS G pn σ ρ Hf H D (sBnd g k ρ)) :
    tI G g σ H fun y H1 => ∃ b Hf1 ρ1, Nxt false σ ρ Hf H σ ρ1 Hf1 H1 ∧ IterOk σ ρ1 Hf1 H1 y b ∧ AfS G pn σ ρ1 Hf1 H1 D (k b ρ1) := by
  refine ⟨Hf, ρ, rp, ?_⟩
  unfold sBnd at af
  cases e : g ρ with
  | ok p =>
    obtain ⟨b, ρ1⟩ := p
    rw [e] at af
    exact fun x Hf1 H1 n r => ⟨b, Hf1, ρ1, n.any, r, af.later n.any (.refl _ _)⟩
  | exc c ρ1 => rw [e] at af; exact fun Hf' H' n => af σ Hf' H' n.any (.refl _ _)
  | bad => rw [e] at af; exact af
theorem fs_for {iter : Expr} {fi : M (List PyData)} {is : List Nat} {g : PyData → Rho → Option Rho} (hp : PassesOwn (model X.prog X.w) X.A X.env X.xe) (hc : X.calm = true) (hpn : ∀ i ∈ is, i ∉ pn) (hi : PI X tg iter (tI G fi)) (hg : PG X tg (tGt is g)) (hb : PSs X sts (tS G pn s))
    (hs : ∀ x, foldedSetIterable iter X.env x = pure x := by intro _; rfl) : PS X (.For tg iter sts [] pos) (tS G pn (sFor fi g s)) := by
  refine (ps_for hp hc hi hg hb hs).imp fun D σ H ⟨Hf, ρ, rp, af⟩ => ?_
  refine (stepSI rp af).mono fun J H1 ⟨ds, Hf1, ρ1, n1, hJ, af1⟩ => ?_
  refine ⟨fun i m σc Hc => m = ds.length - i ∧ i ≤ ds.length ∧ ∃ Hfc ρc, Nxt false σ ρ1 Hf1 H1 σc ρc Hfc Hc ∧ AfS G pn σc ρc Hfc Hc D (forE g s (ds.drop i) ρc), ⟨ds.length, by simp, Nat.zero_le _, Hf1, ρ1, .refl n1.rp, af1⟩, ?_⟩
  rintro i m σc Hc ⟨rfl, hi, Hfc, ρc, sm, afc⟩
  have rpc := sm.rp
  have it := hJ i Hfc Hc σc ρc sm
  by_cases hlt : i < ds.length
  · have ed : ds[i]? = some ds[i] := List.getElem?_eq_getElem hlt
    have edr : ds.drop i = ds[i] :: ds.drop (i + 1) := List.drop_eq_getElem_cons hlt
    obtain ⟨hgo, hy⟩ := it.1 _ ed
    rw [edr] at afc
    unfold forE at afc
    refine .inr ⟨hgo, fun σ' H' => ∃ Hfc ρc, Nxt false σ ρ1 Hf1 H1 σ' ρc Hfc H' ∧ AfS G pn σ' ρc Hfc H' D (forE g s (ds.drop (i + 1)) ρc), fun σ' H' q => ⟨ds.length - (i + 1), by omega, rfl, hlt, q⟩, fun x H' yx => ?_⟩
    obtain ⟨Hfy, ny, ry⟩ := hy x H' yx
    cases eg : g ds[i] ρc with
    | none => simp only [eg] at afc; exact False.elim afc
    | some ρg =>
      simp only [eg] at afc
      refine ⟨Hfy, ρc, _, ρg, ny.rp, ry, eg, fun σ2 n2 o2 => ⟨Hfy, ρg, n2.rp, ?_⟩⟩
      have n3 := (Nxt.any ny).trans n2
      have p3 : Pin pn σc σ2 := pin_only o2 hpn
      cases es : s ρg with
      | nx ρ2 =>
        simp only [es] at afc
        exact fun σ' Hf' H' n4 p4 => ⟨Hf', ρ2, sm.trans (n3.trans n4), afc.later (n3.trans n4) (p3.trans p4)⟩
      | ct ρ2 =>
        simp only [es] at afc
        exact fun σ' Hf' H' n4 p4 => ⟨Hf', ρ2, sm.trans (n3.trans n4), afc.later (n3.trans n4) (p3.trans p4)⟩
      | brk ρ2 =>
        simp only [es] at afc
        exact fun σ' Hf' H' n4 p4 => afc σ' Hf' H' (n3.trans n4) (p3.trans p4)
      | ret r ρ2 =>
        simp only [es] at afc
        have q := AfS.later (D := D) n3 p3 afc
        exact q
      | exc c ρ2 =>
        simp only [es] at afc
        exact fun σ' Hf' H' n4 p4 => afc σ' Hf' H' (n3.trans n4) (p3.trans p4)
      | bad => simp only [es] at afc; exact False.elim afc
  · have ei : i = ds.length := by omega
    subst ei
    rw [List.drop_length] at afc
    unfold forE at afc
    exact .inl ⟨it.2 (Nat.le_refl _), afc σc Hfc Hc (.refl rpc) (.refl _ _)⟩
end
end Fx
namespace Fx
open PySem L2
variable [Tabz]
section
variable {X : Cx} {G : Gx} {e a b : Expr} {es : List Expr} {f g : M PyData} {fs : M (List PyData)} {pos : Pos} {tg : Expr} {pn : List Nat} {st : Stmt} {sts : List Stmt} {s t : Rho → Fl}
@[simp] def isOw (i : Nat) (ρ : Rho) : Bool := match (ρ[i]? : Option Sl) with
  | some (.ow _) => true
  | _ => false
theorem isOw_ow {i : Nat} {ρ : Rho} (h : isOw i ρ = true) : ∃ ds, ρ[i]? = some (.ow ds) := by
  unfold isOw at h
  split at h
  · rename_i ds e; exact ⟨ds, e⟩
  · cases h
@[simp] def mutO (i : Nat) (k : List PyData → Option (List PyData)) : Rho → Option Rho := fun ρ => match (ρ[i]? : Option Sl) with
  | some (.ow ds) => (k ds).map fun es => ρ.set i (.ow es)
  | _ => none
@[simp] def sMut {α : Type} (i : Nat) (f : M α) (k : α → List PyData → Option (List PyData)) : Rho → Fl := fun ρ => if isOw i ρ then sBnd f (fun x ρ1 => match mutO i (k x) ρ1 with
    | some ρ2 => .nx ρ2
    | none => .bad) ρ else .bad
theorem mutO_some {i : Nat} {k : List PyData → Option (List PyData)} {ρ ρ2 : Rho} (h : mutO i k ρ = some ρ2) : ∃ ds es, ρ[i]? = some (.ow ds) ∧ k ds = some es ∧ ρ2 = ρ.set i (.ow es) := by
  unfold mutO at h
  split at h
  · rename_i ds e
    cases q : k ds with
    | none => rw [q] at h; cases h
    | some es => rw [q] at h; cases h; exact ⟨ds, es, e, q, rfl⟩
  · cases h
def kAppend (d : PyData) (ds : List PyData) : Option (List PyData) := if small ds.length then some (ds ++ [d]) else none
theorem fs_append (i : Nat) {x : Str} {p1 ap cp : Pos} (he : PE X e (tE G f)) (hN : X.N[i]? = some x := by rfl) (hv : Vis X.env.scope x := by first | exact Or.inl rfl | exact Or.inr (Or.inl rfl) | exact Or.inr (Or.inr rfl)) (hd : (x == ("__debug__" : Str)) = false := by decide)
    (hcd : (x == ("__classdict__" : Str)) = false := by decide) (hbase : attributeBase (.Name x p1) "append" X.env (eval (.Name x p1) X.env) = eval (.Name x p1) X.env := by rfl)
    (hfew : ((backTo cp (starEach [e] X.env)).all (fun x => !x.1) && (backToKw cp (keywordEach [] X.env)).all (fun x => x.1.isSome) && decide (([e] : List Expr).length + ([] : List Keyword).length + (if ([] : List Keyword).isEmpty then 0 else 1) < 30)) = true := by rfl)
    (hline : (ap.endLine == cp.line) = true := by rfl) (hs : starEach [e] X.env = (false, eval e X.env) :: starEach [] X.env := by rfl) (hplain : (backTo cp (starEach [] X.env)).any (·.1) = false := by rfl)
    (hsw : swapsWith (.Call (.Attribute (.Name x p1) "append" ap) [e] [] cp) none pos.line X.env = pure false := by rfl) : PS X (.Expr (.Call (.Attribute (.Name x p1) "append" ap) [e] [] cp) pos) (tS G pn (sMut i f kAppend)) := by
  refine (ps_expr (pe_bm PySem.F.plainAttrs_list PySem.F.slot_list_append PySem.F.type_list_append mt_append (pe_var hN hv hd hcd) (pa_cons he pa_nil hs) hbase hfew hline hs hplain) hsw).imp fun D σ H ⟨Hf, ρ, rp, af⟩ => ?_
  unfold sMut at af
  cases e0 : isOw i ρ with
  | false => rw [e0] at af; exact False.elim af
  | true =>
    rw [e0, if_pos rfl] at af
    obtain ⟨ds0, h0⟩ := isOw_ow e0
    obtain ⟨p, vs0, s0, _, g0, _⟩ := slok_ow (rp.sl i _ h0)
    refine ⟨_, s0, .inl ⟨rfl, _, SqL.of g0⟩, (stepS rp af).mono fun v H1 ⟨d, Hf1, ρ1, n1, ra, af1⟩ => ?_⟩
    cases em : mutO i (kAppend d) ρ1 with
    | none => simp only [em] at af1; exact False.elim af1
    | some ρ2 =>
      simp only [em] at af1
      obtain ⟨ds, es, h1, h2, rfl⟩ := mutO_some em
      obtain ⟨q, vs, s1, f1, g1, r1⟩ := slok_ow (n1.rp.sl i _ h1)
      rw [s0] at s1
      cases s1
      unfold kAppend at h2
      split at h2
      · rename_i hs
        cases h2
        refine ⟨p, vs, v, rfl, rfl, g1, by rw [repA_len r1]; exact small_lt hs, ?_⟩
        exact af1 σ Hf1 _ (n1.rp.mut h1 s0 (repA_append r1 (.cons ra .nil))) (.refl _ _)
      · cases h2
def kExtend (d : PyData) (ds : List PyData) : Option (List PyData) := match d with
  | .list es => if small (ds.length + es.length) then some (ds ++ es) else none
  | _ => none
theorem fs_extend (i : Nat) {x : Str} {p1 ap cp : Pos} (he : PE X e (tE G f)) (hN : X.N[i]? = some x := by rfl) (hv : Vis X.env.scope x := by first | exact Or.inl rfl | exact Or.inr (Or.inl rfl) | exact Or.inr (Or.inr rfl)) (hd : (x == ("__debug__" : Str)) = false := by decide)
    (hcd : (x == ("__classdict__" : Str)) = false := by decide) (hbase : attributeBase (.Name x p1) "extend" X.env (eval (.Name x p1) X.env) = eval (.Name x p1) X.env := by rfl)
    (hfew : ((backTo cp (starEach [e] X.env)).all (fun x => !x.1) && (backToKw cp (keywordEach [] X.env)).all (fun x => x.1.isSome) && decide (([e] : List Expr).length + ([] : List Keyword).length + (if ([] : List Keyword).isEmpty then 0 else 1) < 30)) = true := by rfl)
    (hline : (ap.endLine == cp.line) = true := by rfl) (hs : starEach [e] X.env = (false, eval e X.env) :: starEach [] X.env := by rfl) (hplain : (backTo cp (starEach [] X.env)).any (·.1) = false := by rfl)
    (hsw : swapsWith (.Call (.Attribute (.Name x p1) "extend" ap) [e] [] cp) none pos.line X.env = pure false := by rfl) : PS X (.Expr (.Call (.Attribute (.Name x p1) "extend" ap) [e] [] cp) pos) (tS G pn (sMut i f kExtend)) := by
  refine (ps_expr (pe_bm PySem.F.plainAttrs_list PySem.F.slot_list_extend PySem.F.type_list_extend mt_extend (pe_var hN hv hd hcd) (pa_cons he pa_nil hs) hbase hfew hline hs hplain) hsw).imp fun D σ H ⟨Hf, ρ, rp, af⟩ => ?_
  unfold sMut at af
  cases e0 : isOw i ρ with
  | false => rw [e0] at af; exact False.elim af
  | true =>
    rw [e0, if_pos rfl] at af
    obtain ⟨ds0, h0⟩ := isOw_ow e0
    obtain ⟨p, vs0, s0, _, g0, _⟩ := slok_ow (rp.sl i _ h0)
    refine ⟨_, s0, .inl ⟨rfl, _, SqL.of g0⟩, (stepS rp af).mono fun v H1 ⟨d, Hf1, ρ1, n1, ra, af1⟩ => ?_⟩
    cases em : mutO i (kExtend d) ρ1 with
    | none => simp only [em] at af1; exact False.elim af1
    | some ρ2 =>
      simp only [em] at af1
      obtain ⟨ds, es, h1, h2, rfl⟩ := mutO_some em
      obtain ⟨q, vs, s1, f1, g1, r1⟩ := slok_ow (n1.rp.sl i _ h1)
      rw [s0] at s1
      cases s1
      unfold kExtend at h2
      split at h2
      · split at h2
        · rename_i hs
          cases h2
          cases ra with
          | lst h3 h4 =>
            refine ⟨p, _, vs, _, rfl, rfl, g1, n1.rp.sub _ _ h3, by rw [repA_len r1, repA_len h4]; exact small_le hs, ?_⟩
            exact af1 σ Hf1 _ (n1.rp.mut h1 s0 (repA_append r1 h4)) (.refl _ _)
        · cases h2
      · cases h2
def kSet (d j : PyData) (ds : List PyData) : Option (List PyData) := match j with
  | .int k => (ixN ds.length k).map fun n => ds.set n d
  | _ => none
@[simp] def sSetIx (i : Nat) (f g : M PyData) : Rho → Fl := fun ρ => (sBnd f fun d => sMut i g (kSet d)) ρ
theorem fs_setIx (i : Nat) {x : Str} {p1 tp : Pos} (he : PE X e (tE G f)) (hb : PE X b (tE G g)) (hN : X.N[i]? = some x := by rfl) (hv : Vis X.env.scope x := by first | exact Or.inl rfl | exact Or.inr (Or.inl rfl) | exact Or.inr (Or.inr rfl)) (hd : (x == ("__debug__" : Str)) = false := by decide)
    (hcd : (x == ("__classdict__" : Str)) = false := by decide)
    (ha : ∀ v, assign (.Subscript (.Name x p1) b tp) X.env v = (do
      let ov ← holding [v] (eval (.Name x p1) X.env)
      let iv ← holding [v, ov] (eval b X.env)
      standAt tp
      holding [v, ov, iv] (setItem ov iv v)
      release [v, ov, iv] []) := by intro _; rfl) (hs : swapsWithSole [.Subscript (.Name x p1) b tp] e pos.line X.env = pure false := by rfl) (hw : swappedStores [.Subscript (.Name x p1) b tp] e X.env = pure none := by rfl)
    (h1 : (assignEach [.Subscript (.Name x p1) b tp] X.env).map (·.2) = [assign (.Subscript (.Name x p1) b tp) X.env] := by rfl) : PS X (.Assign [.Subscript (.Name x p1) b tp] e pos) (tS G pn (sSetIx i f g)) := by
  refine (ps_asg he (pg_sub (pe_var hN hv hd hcd) hb set_list ha) hs hw h1).imp fun D σ H ⟨Hf, ρ, rp, af⟩ => ?_
  refine (stepS rp af).mono fun v H1 ⟨d, Hf1, ρ1, n1, ra, af1⟩ => ?_
  unfold sMut at af1
  cases e0 : isOw i ρ1 with
  | false => rw [e0] at af1; exact False.elim af1
  | true =>
    rw [e0, if_pos rfl] at af1
    obtain ⟨ds0, h0⟩ := isOw_ow e0
    obtain ⟨p, vs0, s0, _, g0, _⟩ := slok_ow (n1.rp.sl i _ h0)
    refine ⟨_, s0, (stepS n1.rp af1).mono fun y H2 ⟨j, Hf2, ρ2, n2, rj, af2⟩ => ?_⟩
    cases em : mutO i (kSet d j) ρ2 with
    | none => simp only [em] at af2; exact False.elim af2
    | some ρ3 =>
      simp only [em] at af2
      obtain ⟨ds, es, h1, h2, rfl⟩ := mutO_some em
      obtain ⟨q, vs, s1, f1, g1, r1⟩ := slok_ow (n2.rp.sl i _ h1)
      rw [s0] at s1
      cases s1
      cases j <;> simp only [kSet, reduceCtorEq] at h2
      rename_i k
      cases hk : ixN ds.length k with
      | none => rw [hk] at h2; cases h2
      | some n =>
        rw [hk] at h2
        cases h2
        rw [rep_int rj]
        refine ⟨p, vs, k, n, rfl, rfl, g1, by rw [repA_len r1]; exact hk, ?_⟩
        exact af2 σ Hf2 _ (n2.rp.mut h1 s0 (repA_set (rep_same n2.sub ra) n r1)) (.refl _ _)
@[simp] def sAug (i : Nat) (o : PyData → PyData → Option PyData) (f : M PyData) : Rho → Fl := fun ρ => match (ρ[i]? : Option Sl) with
  | some (.fz x) => sBnd f (fun y ρ1 => match o x y with
    | some z => .nx (ρ1.set i (.fz z))
    | none => .bad) ρ
  | _ => .bad
@[simp] def sRaise (c : Str) : Rho → Fl := fun ρ => .exc c ρ
theorem fs_raise {c m : Str} {j : Nat} {p p2 cp : Pos} {B newId initId : String} {bmB : List Value} (hc : X.calm = true) (tk : Takes X G.W) (F : ExcBaseFacts B newId initId bmB) (q : PySem.W.excIn X.K (G.cA c) bmB newId = true) (gC : X.mg c = some (.ref (G.cA c))) (kC : PySem.W.keepIn X.K (.ref (G.cA c)) = true) (r : Raises X (.ref (G.cA c))) (hg : Gl X c)
    (hdb : (c == ("__debug__" : Str)) = false := by decide) : PS X (.Raise (some (.Call (.Name c p) [.Constant (.str m) j p2] [] cp)) none pos) (tS G pn (sRaise c)) :=
  (ps_raise hc tk (pmk_own F q gC kC r hg hdb)).imp fun D σ H ⟨Hf, ρ, rp, af⟩ => af σ Hf H (.refl rp) (.refl _ _)
def RtP (H Hf' H' : Hp) (v : V) : Rt → Prop
  | .fz d => Rep Hf' v d
  | .ow ds => ∃ p vs, v = .ref p ∧ H p = none ∧ Hf' p = none ∧ H' p = some (.lst vs) ∧ RepA Hf' vs ds
  | .tr t => ∃ F, TR Hf' H' v t F ∧ F.Nodup ∧ ∀ a ∈ F, H a = none ∧ Hf' a = none
structure Sb (Hf H : Hp) : Prop where
  sm : Same Hf H
  tb : Tb H
  nt : NtH Hf
structure SmN (H H' : Hp) : Prop where
  keep : ∀ a o, H a = some o → NT o → H' a = some o
  dom : ∀ a, H' a = none → H a = none
  tb : Tb H'
theorem _root_.Fx.Rp.sb {Hf H : Hp} {σ : St} {ρ : Rho} (r : Rp Hf H σ ρ) : Sb Hf H := ⟨r.sub, r.tb, r.nt⟩
theorem Sb.later {Hf H H' : Hp} (r : Sb Hf H) (s : SmN H H') : Sb Hf H' := ⟨fun a o e => s.keep a o (r.sm a o e) fun ps z => r.nt a ps (by rw [e, z]), s.tb, r.nt⟩
def spP (cA : Str → Addr) (n : Nat) (F : List PyData → Out Rt) : Sp := fun vs H Q E => vs.length = n ∧ ∃ Hf ds, Sb Hf H ∧ RepA Hf vs ds ∧ (match F ds with
  | .ok r => ∀ v Hf' H', Same Hf Hf' → Sb Hf' H' → SmN H H' → (∀ a, Hf a = none → Hf' a = none ∨ H a = none) → RtP H Hf' H' v r → Q v H'
  | .exc c => ∀ H', SmN H H' → E (.ref (cA c)) none H'
  | .bad => False)
def spI (cA : Str → Addr) (n : Nat) (F : List PyData → List PyData → Out (Rt × List PyData)) : Sp := fun vs H Q E => vs.length = n ∧ ∃ Hf p ws us io ds, vs = .ref p :: us ∧ Sb Hf H ∧ Hf p = none ∧ H p = some (.lst ws) ∧ RepA Hf ws io ∧ RepA Hf us ds ∧ (match F io ds with
  | .ok (r, io') => ∀ v Hf' H' zs, Same Hf Hf' → Sb Hf' H' → (∀ a o, H a = some o → NT o → a ≠ p → H' a = some o) → (∀ a, H' a = none → H a = none) → (∀ a, Hf a = none → Hf' a = none ∨ H a = none) → Hf' p = none → H' p = some (.lst zs) → RepA Hf' zs io' → RtP H Hf' H' v r → Q v H'
  | .exc c => ∀ H', (∀ a o, H a = some o → NT o → a ≠ p → H' a = some o) → (∀ a, H' a = none → H a = none) → Tb H' → E (.ref (cA c)) none H'
  | .bad => False)
@[simp] def toOut : Fl → Out Rt
  | .nx _ => .ok (.fz .none)
  | .ret r _ => .ok r
  | .exc c _ => .exc c
  | _ => .bad
@[simp] def toOutI : Fl → Out (Rt × List PyData)
  | .nx ρ => (match (ρ[(0 : Nat)]? : Option Sl) with
    | some (.ow io) => .ok (.fz .none, io)
    | _ => .bad)
  | .ret r ρ => (match (ρ[(0 : Nat)]? : Option Sl) with
    | some (.ow io) => .ok (r, io)
    | _ => .bad)
  | .exc c _ => .exc c
  | _ => .bad
def st0 (N : List Str) (ds : List PyData) : Rho := ds.map Sl.fz ++ List.replicate (N.length - ds.length) Sl.un
def stI (N : List Str) (io ds : List PyData) : Rho := Sl.ow io :: (ds.map Sl.fz ++ List.replicate (N.length - (ds.length + 1)) Sl.un)
theorem st0_get {N : List Str} {ds : List PyData} {i : Nat} {sl : Sl} (h : (st0 N ds)[i]? = some sl) : (∃ d, ds[i]? = some d ∧ sl = .fz d) ∨ sl = .un := by
  unfold st0 at h
  by_cases q : i < ds.length
  · rw [List.getElem?_append_left (by simpa using q), List.getElem?_map, List.getElem?_eq_getElem q] at h
    cases h
    exact .inl ⟨_, List.getElem?_eq_getElem q, rfl⟩
  · rw [List.getElem?_append_right (by simpa using q), List.getElem?_replicate] at h
    split at h
    · cases h; exact .inr rfl
    · cases h
theorem start_get {N : List Str} {vs : List V} {i : Nat} {v : V} (h : vs[i]? = some v) : (L2.start N vs)[i]? = some (some v) := by
  unfold L2.start
  have hl : i < vs.length := (List.getElem?_eq_some_iff.mp h).1
  rw [List.getElem?_append_left (by simpa using hl), List.getElem?_map, h]
  rfl
theorem rp_less {Hf H : Hp} {σ : St} {ρ : Rho} (sm : Sb Hf H) (hl : ρ.length ≤ σ.length) (h : ∀ (i : Nat) (s : Sl), ρ[i]? = some s → Hless s ∧ SlOk Hf H σ[i]? s) : Rp Hf H σ ρ ∧ (∀ a, ¬ OwnA H σ ρ a) := by
  have no : ∀ i a, ¬ OwnI H σ ρ i a := fun i a ⟨s, v, e1, e2, o⟩ => by
    have := (h i s e1).1
    cases s <;> first | exact o.elim | exact this.elim
  refine ⟨⟨sm.sm, sm.tb, sm.nt, hl, fun i s e => (h i s e).2, fun i j a z => absurd z (no i a), fun a ⟨i, t, v, Hf0, F, e1, _⟩ => ((h i _ e1).1 : False).elim, fun j i qs t e1 _ => ((h j _ e1).1 : False).elim⟩, fun a ⟨i, z⟩ => no i a z⟩
theorem start_less {N : List Str} {vs : List V} {ds : List PyData} {Hf H : Hp} (r : RepA Hf vs ds) : (st0 N ds).length ≤ (L2.start N vs).length ∧ ∀ (i : Nat) (s : Sl), (st0 N ds)[i]? = some s → Hless s ∧ SlOk Hf H (L2.start N vs)[i]? s := by
  have hl := repA_len r
  refine ⟨by unfold st0 L2.start; simp [hl], fun i sl h => ?_⟩
  rcases st0_get h with ⟨d, e, rfl⟩ | rfl
  · obtain ⟨v, e1, r1⟩ := repA_get r e
    rw [start_get e1]
    exact ⟨True.intro, slok_fz.mpr r1⟩
  · exact ⟨True.intro, slok_un⟩
theorem rp_start {N : List Str} {vs : List V} {ds : List PyData} {Hf H : Hp} (sm : Sb Hf H) (r : RepA Hf vs ds) : Rp Hf H (L2.start N vs) (st0 N ds) := (rp_less sm (start_less (H := H) r).1 (start_less r).2).1
theorem noown_start {N : List Str} {vs : List V} {ds : List PyData} {H : Hp} {a : Addr} : ¬ OwnA H (L2.start N vs) (st0 N ds) a := fun ⟨i, s, v, h, _, o⟩ => by
  rcases st0_get h with ⟨d, _, z⟩ | z <;> (subst z; exact o.elim)
def CdIs (K : PySem.W.Frag) (f : Addr) (cdv : Value) : Prop := ∃ (oc : Value) (od : Option Addr) (fd : FuncData) (osl : Array (Option Value)), K.lookup f = some ⟨oc, od, .func fd, osl⟩ ∧ fd.code = cdv ∧ ∃ c, cdv = .ref c
theorem okC {P : Program} {w : World} {K : PySem.W.Frag} {mg : Str → Option Value} {base : Heap} {x qual : Str} {st : Stmt} {f : Addr} {fd : FuncData} {N ps : List Str} {k : Nat} {sp : Sp} (Fn : Fun K x qual st f fd) (S : FnScope N ps (defScope st)) (len : ∀ vs H Q E, sp vs H Q E → vs.length = ps.length)
    (hb : ∀ (cdv : Value), CdIs K f cdv → ∀ (A : Around) (outer : List Env) (s : Shared) (H : Hp) (vs : List V) (Q : VK) (E : XK), Room k (A.deeper (PyProof.Rows.envOfC qual (defScope st) s.heap.objs.size f cdv)) → sp vs H Q E →
      ∃ t, PSs (cxOf (L2.CX P w) P w K mg base N qual (defScope st) f cdv A outer s H E) (defBody st) t ∧ t { nx := fun _ H' => Q .non H', rt := Q } (L2.start N vs) H) : FnOk P w K mg base (L2.CX P w) (k + 1) f fd ps sp := by
  obtain ⟨oc, od, v1, v2, v3, an, cdv, v4, osl, e, lk, hcd⟩ := Fn.ex
  have ci : CdIs K f cdv := ⟨oc, od, fd, osl, lk, by rw [e], He.codeIn_ref hcd⟩
  subst e
  exact fn_of lk hcd S len fun A outer s H vs Q E hr h => hb cdv ci A outer s H vs Q E hr h
theorem fn_pureC {P : Program} {w : World} {K : PySem.W.Frag} {mg : Str → Option Value} {base : Heap} {cA : Str → Addr} {x qual : Str} {sd : Stmt} {f : Addr} {fd : FuncData} {N ps : List Str} {k : Nat} {g : Rho → Fl} (Fn : Fun K x qual sd f fd) (S : FnScope N ps (defScope sd))
    (hb : ∀ (cdv : Value), CdIs K f cdv → ∀ (A : Around) (outer : List Env) (s : Shared) (H : Hp) (E : XK), Room k (A.deeper (PyProof.Rows.envOfC qual (defScope sd) s.heap.objs.size f cdv)) → PSs (cxOf (L2.CX P w) P w K mg base N qual (defScope sd) f cdv A outer s H E) (defBody sd) (tS ⟨fun cls d _ H => E cls d H, cA, false⟩ [] g)) :
    FnOk P w K mg base (L2.CX P w) (k + 1) f fd ps (spP cA ps.length fun ds => toOut (g (st0 N ds))) := by
  refine okC Fn S (fun vs H Q E h => h.1) fun cdv ci A outer s H vs Q E hr h => ⟨_, hb cdv ci A outer s H E hr, ?_⟩
  obtain ⟨hl, Hf, ds, sm, r, h⟩ := h
  dsimp only at h
  refine ⟨Hf, st0 N ds, rp_start sm r, ?_⟩
  have keep : ∀ {σ' : St} {ρ' : Rho} {Hf' H' : Hp}, Nxt false (L2.start N vs) (st0 N ds) Hf H σ' ρ' Hf' H' → SmN H H' := fun n => ⟨fun b o e t => n.keep b o e t noown_start, n.dom, n.rp.tb⟩
  have fr : ∀ {σ' : St} {ρ' : Rho} {Hf' H' : Hp}, Nxt false (L2.start N vs) (st0 N ds) Hf H σ' ρ' Hf' H' → ∀ a, Hf a = none → Hf' a = none ∨ H a = none := fun n a z => (n.fr a z).imp id fun q => q.elim id fun w => absurd w noown_start
  cases e : g (st0 N ds) with
  | nx ρ' =>
    rw [e] at h
    exact fun σ' Hf' H' n _ => h .non Hf' H' n.sub n.rp.sb (keep n) (fr n) .non
  | ret rt ρ' =>
    rw [e] at h
    cases rt with
    | fz d => exact fun v σ' Hf' H' n _ q => h v Hf' H' n.sub n.rp.sb (keep n) (fr n) q
    | ow es => exact fun v σ' Hf' H' n _ ⟨p, us, ev, h1, h3, h4, h5, h6⟩ => h v Hf' H' n.sub n.rp.sb (keep n) (fr n) ⟨p, us, ev, h1.elim id fun z => absurd z noown_start, h3, h5, h6⟩
    | tr t => exact fun v σ' Hf' H' n _ ⟨F, h1, h2, h3⟩ => h v Hf' H' n.sub n.rp.sb (keep n) (fr n) ⟨F, h1, h2, fun a m => ⟨(h3 a m).1.elim id fun z => absurd z noown_start, (h3 a m).2.1⟩⟩
  | exc c ρ' =>
    rw [e] at h
    exact fun σ' Hf' H' n _ => h H' (keep n)
  | brk _ => rw [e] at h; exact h.elim
  | ct _ => rw [e] at h; exact h.elim
  | bad => rw [e] at h; exact h.elim
theorem fn_pure {P : Program} {w : World} {K : PySem.W.Frag} {mg : Str → Option Value} {base : Heap} {cA : Str → Addr} {x qual : Str} {sd : Stmt} {f : Addr} {fd : FuncData} {N ps : List Str} {k : Nat} {g : Rho → Fl} (Fn : Fun K x qual sd f fd) (S : FnScope N ps (defScope sd))
    (hb : ∀ (cdv : Value) (A : Around) (outer : List Env) (s : Shared) (H : Hp) (E : XK), Room k (A.deeper (PyProof.Rows.envOfC qual (defScope sd) s.heap.objs.size f cdv)) → PSs (cxOf (L2.CX P w) P w K mg base N qual (defScope sd) f cdv A outer s H E) (defBody sd) (tS ⟨fun cls d _ H => E cls d H, cA, false⟩ [] g)) :
    FnOk P w K mg base (L2.CX P w) (k + 1) f fd ps (spP cA ps.length fun ds => toOut (g (st0 N ds))) := fn_pureC Fn S fun cdv _ => hb cdv
theorem stI_get {N : List Str} {io ds : List PyData} {i : Nat} {sl : Sl} (h : (stI N io ds)[i]? = some sl) : (i = 0 ∧ sl = .ow io) ∨ (∃ j d, i = j + 1 ∧ ds[j]? = some d ∧ sl = .fz d) ∨ sl = .un := by
  unfold stI at h
  cases i with
  | zero => cases h; exact .inl ⟨rfl, rfl⟩
  | succ j =>
    rw [List.getElem?_cons_succ] at h
    by_cases q : j < ds.length
    · rw [List.getElem?_append_left (by simpa using q), List.getElem?_map, List.getElem?_eq_getElem q] at h
      cases h
      exact .inr (.inl ⟨j, _, rfl, List.getElem?_eq_getElem q, rfl⟩)
    · rw [List.getElem?_append_right (by simpa using q), List.getElem?_replicate] at h
      split at h
      · cases h; exact .inr (.inr rfl)
      · cases h
theorem own_startI {N : List Str} {us : List V} {p a : Addr} {io ds : List PyData} {H : Hp} (h : OwnA H (L2.start N (.ref p :: us)) (stI N io ds) a) : a = p := by
  obtain ⟨i, s, v, h1, h2, o⟩ := h
  rcases stI_get h1 with ⟨rfl, rfl⟩ | ⟨j, d, _, _, rfl⟩ | rfl
  · rw [start_get (v := .ref p) rfl] at h2
    cases h2
    cases (show V.ref p = .ref a from o)
    rfl
  · exact o.elim
  · exact o.elim
theorem rp_startI {N : List Str} {us : List V} {p : Addr} {ws : List V} {io ds : List PyData} {Hf H : Hp} (sm : Sb Hf H) (hp : Hf p = none) (hw : H p = some (.lst ws)) (rw' : RepA Hf ws io) (r : RepA Hf us ds) (hN : ds.length + 1 ≤ N.length) : Rp Hf H (L2.start N (.ref p :: us)) (stI N io ds) := by
  have hl := repA_len r
  have now : ∀ (i : Nat) (a : Addr), OwnI H (L2.start N (.ref p :: us)) (stI N io ds) i a → i = 0 := fun i a ⟨s, v, h, _, o⟩ => by
    rcases stI_get h with ⟨z, _⟩ | ⟨j, d, _, _, rfl⟩ | rfl
    · exact z
    · exact o.elim
    · exact o.elim
  refine ⟨sm.sm, sm.tb, sm.nt, by unfold stI L2.start; simp [hl], fun i sl h => ?_, fun i j a h1 h2 => by rw [now i a h1, now j a h2], fun a ⟨i, t, v, Hf0, F, h, _⟩ => ?_, fun j i qs t h _ => ?_⟩
  · rcases stI_get h with ⟨rfl, rfl⟩ | ⟨j, d, rfl, e, rfl⟩ | rfl
    · rw [start_get (v := .ref p) rfl]
      exact ⟨hp, ws, hw, rw'⟩
    · obtain ⟨v, e1, r1⟩ := repA_get r e
      rw [start_get (v := v) (by rw [List.getElem?_cons_succ]; exact e1)]
      exact slok_fz.mpr r1
    · exact slok_un
  · rcases stI_get h with ⟨_, z⟩ | ⟨_, d, _, _, z⟩ | z <;> cases z
  · rcases stI_get h with ⟨_, z⟩ | ⟨_, d, _, _, z⟩ | z <;> cases z
theorem fn_io {P : Program} {w : World} {K : PySem.W.Frag} {mg : Str → Option Value} {base : Heap} {cA : Str → Addr} {x qual : Str} {sd : Stmt} {f : Addr} {fd : FuncData} {N ps : List Str} {k : Nat} {g : Rho → Fl} (Fn : Fun K x qual sd f fd) (S : FnScope N ps (defScope sd))
    (hb : ∀ (cdv : Value) (A : Around) (outer : List Env) (s : Shared) (H : Hp) (E : XK), Room k (A.deeper (PyProof.Rows.envOfC qual (defScope sd) s.heap.objs.size f cdv)) → PSs (cxOf (L2.CX P w) P w K mg base N qual (defScope sd) f cdv A outer s H E) (defBody sd) (tS ⟨fun cls d _ H => E cls d H, cA, false⟩ [0] g)) :
    FnOk P w K mg base (L2.CX P w) (k + 1) f fd ps (spI cA ps.length fun io ds => toOutI (g (stI N io ds))) := by
  refine Fn.okX S (fun vs H Q E h => h.1) fun cdv A outer s H vs Q E hr h => ⟨_, hb cdv A outer s H E hr, ?_⟩
  obtain ⟨hl, Hf, p, ws, us, io, ds, rfl, sm, hp, hw, rw', r, h⟩ := h
  have hN : ds.length + 1 ≤ N.length := by
    rw [← repA_len r]
    have := congrArg List.length S.pre
    rw [List.length_take] at this
    rw [List.length_cons] at hl
    omega
  have rp := rp_startI (N := N) sm hp hw rw' r hN
  refine ⟨Hf, stI N io ds, rp, ?_⟩
  dsimp only at h
  have s0 : (L2.start N (.ref p :: us))[0]? = some (some (.ref p)) := start_get (v := .ref p) rfl
  have keep : ∀ {H' : Hp}, Keep (L2.start N (.ref p :: us)) (stI N io ds) H H' → ∀ a o, H a = some o → NT o → a ≠ p → H' a = some o := fun k b o e t ne => k b o e t fun z => ne (own_startI z)
  have fr : ∀ {σ' : St} {ρ' : Rho} {Hf' H' : Hp} {io' : List PyData}, Nxt false (L2.start N (.ref p :: us)) (stI N io ds) Hf H σ' ρ' Hf' H' → Pin [0] (L2.start N (.ref p :: us)) σ' → ρ'[0]? = some (.ow io') → (∀ a, Hf a = none → Hf' a = none ∨ H a = none) ∧ Hf' p = none ∧ ∃ zs, H' p = some (.lst zs) ∧ RepA Hf' zs io' := fun {σ' ρ' Hf' H' io'} n pi e => by
    obtain ⟨q, zs, e1, e2, e3, e4⟩ := slok_ow (n.rp.sl 0 _ e)
    rw [pi 0 (List.mem_singleton.mpr rfl), s0] at e1
    cases e1
    refine ⟨fun a z => (n.fr a z).elim .inl fun q => q.elim .inr fun w => .inl (by rw [own_startI w]; exact e2), e2, zs, e3, e4⟩
  cases e : g (stI N io ds) with
  | nx ρ' =>
    rw [e] at h
    unfold toOutI at h
    intro σ' Hf' H' n pi
    cases q : (ρ'[(0 : Nat)]? : Option Sl) with
    | none => simp only [q] at h
    | some sl =>
      cases sl with
      | un => simp only [q] at h
      | raw _ => simp only [q] at h
      | tr _ => simp only [q] at h
      | lk _ => simp only [q] at h
      | pa _ _ => simp only [q] at h
      | fz _ => simp only [q] at h
      | ow io' =>
        simp only [q] at h
        obtain ⟨f1, f2, zs, f3, f4⟩ := fr n pi q
        exact h .non Hf' H' zs n.sub n.rp.sb (keep n.keep) n.dom f1 f2 f3 f4 .non
  | ret rt ρ' =>
    rw [e] at h
    unfold toOutI at h
    intro v σ' Hf' H' n pi hq
    cases q : (ρ'[(0 : Nat)]? : Option Sl) with
    | none => simp only [q] at h
    | some sl =>
      cases sl with
      | un => simp only [q] at h
      | raw _ => simp only [q] at h
      | tr _ => simp only [q] at h
      | lk _ => simp only [q] at h
      | pa _ _ => simp only [q] at h
      | fz _ => simp only [q] at h
      | ow io' =>
        simp only [q] at h
        obtain ⟨f1, f2, zs, f3, f4⟩ := fr n pi q
        refine h v Hf' H' zs n.sub n.rp.sb (keep n.keep) n.dom f1 f2 f3 f4 ?_
        cases rt with
        | fz d => exact hq
        | ow es =>
          obtain ⟨p2, us2, ev, h1, h3, h4, h5, h6⟩ := hq
          refine ⟨p2, us2, ev, h1.elim id fun z => ?_, h3, h5, h6⟩
          have e0 := own_startI z
          subst e0
          exact absurd ⟨0, (ownI_ow q ((pi 0 (List.mem_singleton.mpr rfl)).trans s0)).mpr rfl⟩ h4
        | tr t =>
          obtain ⟨F, h1, h2, h3⟩ := hq
          refine ⟨F, h1, h2, fun a m => ⟨(h3 a m).1.elim id fun z => ?_, (h3 a m).2.1⟩⟩
          have e0 := own_startI z
          subst e0
          exact absurd ⟨0, (ownI_ow q ((pi 0 (List.mem_singleton.mpr rfl)).trans s0)).mpr rfl⟩ (h3 _ m).2.2
  | exc c ρ' =>
    rw [e] at h
    exact fun σ' Hf' H' n _ => h H' (keep n.keep) n.dom n.rp.tb
  | brk _ => rw [e] at h; exact h.elim
  | ct _ => rw [e] at h; exact h.elim
  | bad => rw [e] at h; exact h.elim
theorem spP_imp {cA : Str → Addr} {n : Nat} {F F' : List PyData → Out Rt} (h : ∀ ds, ds.length = n → F' ds ≠ .bad → F ds = F' ds) (vs : List V) (H : Hp) (Q : VK) (E : XK) (q : spP cA n F' vs H Q E) : spP cA n F vs H Q E := by
  obtain ⟨hl, Hf, ds, sm, r, q⟩ := q
  refine ⟨hl, Hf, ds, sm, r, ?_⟩
  have e : F ds = F' ds := h ds (by rw [← repA_len r]; exact hl) fun z => by rw [z] at q; exact q
  rw [e]
  exact q
theorem spI_imp {cA : Str → Addr} {n : Nat} {F F' : List PyData → List PyData → Out (Rt × List PyData)} (h : ∀ io ds, ds.length + 1 = n → F' io ds ≠ .bad → F io ds = F' io ds) (vs : List V) (H : Hp) (Q : VK) (E : XK) (q : spI cA n F' vs H Q E) : spI cA n F vs H Q E := by
  obtain ⟨hl, Hf, p, ws, us, io, ds, e1, sm, e2, e3, r1, r, q⟩ := q
  refine ⟨hl, Hf, p, ws, us, io, ds, e1, sm, e2, e3, r1, r, ?_⟩
  have e : F io ds = F' io ds := h io ds (by subst e1; rw [← repA_len r]; exact hl) fun z => by rw [z] at q; exact q
  rw [e]
  exact q
@[simp] def rtD : Rt → Option PyData
  | .fz d => some d
  | .ow ds => some (.list ds)
  | .tr _ => none
@[simp] def callM (F : List PyData → Out Rt) (ds : List PyData) : M PyData := fun ρ => match F ds with
  | .ok r => opt (rtD r) ρ
  | .exc c => .exc c ρ
  | .bad => .bad
@[simp] def fCall (F : List PyData → Out Rt) (fs : M (List PyData)) : M PyData := fun ρ => (bnd fs (callM F)) ρ
theorem nxt_call {q : Bool} {σ : St} {ρ : Rho} {Hf H Hf' H' : Hp} (rp : Rp Hf H σ ρ) (h1 : Same Hf Hf') (h2 : Sb Hf' H') (h3 : SmN H H') (h4 : ∀ a, Hf a = none → Hf' a = none ∨ H a = none) : Nxt q σ ρ Hf H σ ρ Hf' H' := by
  have kk : ∀ a, OwnA H σ ρ a ∨ LkA H σ ρ a → H' a = H a := fun a z => by
    obtain ⟨u, hu, tu⟩ := rp.liv z
    rw [hu]; exact h3.keep a u hu tu
  refine ⟨h1, fun a o h t _ => h3.keep a o h t, fun a ⟨i, z⟩ => .inl ⟨i, (rp.ownI_iff (fun b y => kk b (.inl ⟨i, y⟩)) a).mp z⟩, fun a z => rp.lka_of (fun b y => kk b (.inr y)) z, fun a z => h3.dom a z, fun a z => (h4 a z).imp id .inl, fun _ => ⟨fun i t e => ⟨e, rfl, fun a z => kk a (.inl ⟨i, z⟩)⟩, .refl⟩, rp.grow h1 h2.sm h2.tb h2.nt (fun a z => ⟨?_, kk a (.inl z)⟩) fun a z => kk a (.inr z)⟩
  obtain ⟨o1, vs, o2, _⟩ := rp.own z
  refine (h4 a o1).elim id fun q => ?_
  rw [o2] at q; cases q
theorem notOwn_call {σ : St} {ρ : Rho} {Hf H H' : Hp} (rp : Rp Hf H σ ρ) (h3 : SmN H H') {p : Addr} (hp : H p = none) : ¬ OwnA H' σ ρ p := fun ⟨i, z⟩ => by
  refine rp.notOwn hp ⟨i, (rp.ownI_iff (fun b y => ?_) p).mp z⟩
  obtain ⟨u, hu, tu⟩ := (rp.ownI y).2
  rw [hu]; exact h3.keep b u hu tu
theorem call_run {cA : Str → Addr} {n : Nat} {F : List PyData → Out Rt} (hcA : G.cA = cA) (hn : ∀ ds r, F ds = r → r ≠ .bad → ds.length = n) (σ : St) (H : Hp) (Q : VK) (h : tE G (fCall F fs) σ H Q) : tCallS (spP cA n F) (WE G.W) (tA G fs) σ H Q := by
  obtain ⟨Hf, ρ, rp, af⟩ := h
  refine (step rp af).mono fun vs H1 ⟨ds, Hf1, ρ1, n1, ra, af1⟩ => ?_
  have hl : vs.length = n := by
    rw [repA_len ra]
    refine hn ds _ rfl fun z => ?_
    unfold callM at af1
    rw [z] at af1
    exact af1
  refine ⟨hl, Hf1, ds, n1.rp.sb, ra, ?_⟩
  unfold callM at af1
  cases e : F ds with
  | bad => rw [e] at af1; exact af1.elim
  | exc c =>
    rw [e] at af1
    subst hcA
    exact fun H' s => af1 Hf1 H' (nxt_call n1.rp (Same.refl _) (n1.rp.sb.later s) s fun a z => .inl z)
  | ok r =>
    rw [e] at af1
    intro v Hf' H' h1 h2 h3 h4 h5
    have nn := nxt_call (q := G.q) n1.rp h1 h2 h3 h4
    cases r with
    | fz d => exact af1 v Hf' H' nn h5
    | ow es =>
      obtain ⟨p, us, rfl, g1, g2, g3, g4⟩ := h5
      obtain ⟨n2, r2⟩ := nn.take (.inl g1) g2 (notOwn_call n1.rp h3 g1) g3 g4
      exact af1 _ _ _ n2 r2
    | tr t => exact False.elim af1
variable {CX : CXT} {k : Nat} {fa : Addr} {fd : FuncData} {ps : List Str} {cA : Str → Addr} {x : Str} {p : Pos}
theorem fe_call {F : List PyData → Out Rt} {n : Nat} (hn : ∀ ds r, F ds = r → r ≠ .bad → ds.length = n) (Fo : FnOk X.prog X.w X.K X.mg X.base (L2.CX X.prog X.w) k fa fd ps (spP G.cA n F)) (hr : Room k X.A) (hg : Gl X x) (hm : X.mg x = some (.ref fa)) (hk : PySem.W.keepIn X.K (.ref fa) = true) (hb : Binds X.K fd ps []) (tk : Takes X G.W)
    (ha : PA X (e :: es) (tA G fs)) (hdb : (x == ("__debug__" : Str)) = false := by decide) (he : starEach (e :: es) X.env = (false, eval e X.env) :: starEach es X.env := by rfl) (hpl : (backTo pos (starEach es X.env)).any (·.1) = false := by rfl) :
    PE X (.Call (.Name x p) (e :: es) [] pos) (tE G (fCall F fs)) := (pe_callS Fo hr hg hm hk hb (fun σ => passAt tk σ) ha hdb he hpl).imp (call_run rfl hn)
@[simp] def callLM (F : List PyData → Out Rt) (ds : List PyData) : M (List PyData) := fun ρ => match F ds with
  | .ok (.ow es) => .ok (es, ρ)
  | .ok _ => .bad
  | .exc c => .exc c ρ
  | .bad => .bad
@[simp] def fCallL (F : List PyData → Out Rt) (fs : M (List PyData)) : M (List PyData) := fun ρ => (bnd fs (callLM F)) ρ
theorem callL_run {cA : Str → Addr} {n : Nat} {F : List PyData → Out Rt} (hcA : G.cA = cA) (hn : ∀ ds r, F ds = r → r ≠ .bad → ds.length = n) (σ : St) (H : Hp) (Q : VK) (h : tL G (fCallL F fs) σ H Q) : tCallS (spP cA n F) (WE G.W) (tA G fs) σ H Q := by
  obtain ⟨Hf, ρ, rp, af⟩ := h
  refine (stepL rp af).mono fun vs H1 ⟨ds, Hf1, ρ1, n1, ra, af1⟩ => ?_
  have hl : vs.length = n := by
    rw [repA_len ra]
    refine hn ds _ rfl fun z => ?_
    unfold callLM at af1
    rw [z] at af1
    exact af1
  refine ⟨hl, Hf1, ds, n1.rp.sb, ra, ?_⟩
  unfold callLM at af1
  cases e : F ds with
  | bad => rw [e] at af1; exact af1.elim
  | exc c =>
    rw [e] at af1
    subst hcA
    exact fun H' s => af1 Hf1 H' (nxt_call n1.rp (Same.refl _) (n1.rp.sb.later s) s fun a z => .inl z)
  | ok r =>
    rw [e] at af1
    cases r with
    | fz d => exact False.elim af1
    | ow es =>
      intro v Hf' H' h1 h2 h3 h4 ⟨p, us, ev, g1, g2, g3, g4⟩
      subst ev
      have nn := nxt_call (q := G.q) n1.rp h1 h2 h3 h4
      exact af1 p us Hf' H' nn (.inl g1) g2 (notOwn_call n1.rp h3 g1) g3 g4
    | tr t => exact False.elim af1
theorem fl_call {F : List PyData → Out Rt} {n : Nat} (hn : ∀ ds r, F ds = r → r ≠ .bad → ds.length = n) (Fo : FnOk X.prog X.w X.K X.mg X.base (L2.CX X.prog X.w) k fa fd ps (spP G.cA n F)) (hr : Room k X.A) (hg : Gl X x) (hm : X.mg x = some (.ref fa)) (hk : PySem.W.keepIn X.K (.ref fa) = true) (hb : Binds X.K fd ps []) (tk : Takes X G.W)
    (ha : PA X (e :: es) (tA G fs)) (hdb : (x == ("__debug__" : Str)) = false := by decide) (he : starEach (e :: es) X.env = (false, eval e X.env) :: starEach es X.env := by rfl) (hpl : (backTo pos (starEach es X.env)).any (·.1) = false := by rfl) :
    PE X (.Call (.Name x p) (e :: es) [] pos) (tL G (fCallL F fs)) := (pe_callS Fo hr hg hm hk hb (fun σ => passAt tk σ) ha hdb he hpl).imp (callL_run rfl hn)
@[simp] def callIM (i : Nat) (F : List PyData → List PyData → Out (Rt × List PyData)) (ds : List PyData) : M Rt := fun ρ => match (ρ[i]? : Option Sl) with
  | some (.ow io) => (match F io ds with
    | .ok (r, io') => .ok (r, ρ.set i (.ow io'))
    | .exc c => .exc c (ρ.set i .un)
    | .bad => .bad)
  | _ => .bad
@[simp] def fCallI (i : Nat) (F : List PyData → List PyData → Out (Rt × List PyData)) (fs : M (List PyData)) : M PyData := fun ρ => if isOw i ρ then bnd fs (fun ds => bnd (callIM i F ds) fun r => opt (rtD r)) ρ else .bad
theorem nxt_callI {q : Bool} {σ : St} {ρ : Rho} {Hf H Hf' H' : Hp} {i : Nat} {p : Addr} {io io' : List PyData} {zs : List V} (rp : Rp Hf H σ ρ) (hi : ρ[i]? = some (.ow io)) (hs : σ[i]? = some (some (.ref p))) (h1 : Same Hf Hf') (h2 : Sb Hf' H') (h3 : ∀ a o, H a = some o → NT o → a ≠ p → H' a = some o) (dm : ∀ a, H' a = none → H a = none) (h4 : ∀ a, Hf a = none → Hf' a = none ∨ H a = none) (h5 : Hf' p = none) (h6 : H' p = some (.lst zs)) (h7 : RepA Hf' zs io') : Nxt q σ ρ Hf H σ (ρ.set i (.ow io')) Hf' H' :=
  rp.chgO hi hs (.inr ⟨_, rfl⟩) h1 h2.sm h2.tb h2.nt h3 dm (fun a z => (h4 a z).imp id .inl) ⟨h5, zs, h6, h7⟩
theorem nxt_dropI {q : Bool} {σ : St} {ρ : Rho} {Hf H H' : Hp} {i : Nat} {p : Addr} {io : List PyData} (rp : Rp Hf H σ ρ) (hi : ρ[i]? = some (.ow io)) (hs : σ[i]? = some (some (.ref p))) (h3 : ∀ a o, H a = some o → NT o → a ≠ p → H' a = some o) (dm : ∀ a, H' a = none → H a = none) (tb : Tb H') : Nxt q σ ρ Hf H σ (ρ.set i .un) Hf H' := by
  have hp := (rp.ownI ((ownI_ow hi hs).mpr rfl)).1
  exact rp.chgO hi hs (.inl True.intro) (Same.refl _) (fun a o h => h3 a o (rp.sub _ _ h) (fun ps z => rp.nt a ps (by rw [h, z])) (ne_of_none h hp)) tb rp.nt h3 dm (fun a z => .inl z) slok_un
theorem callI_run {cA : Str → Addr} {n i : Nat} {F : List PyData → List PyData → Out (Rt × List PyData)} (hcA : G.cA = cA) (hn : ∀ io ds r, F io ds = r → r ≠ .bad → ds.length + 1 = n) (σ : St) (H : Hp) (Q : VK) (h : tE G (fCallI i F fs) σ H Q) : tCallS (spI cA n F) (WE G.W) (tCons (tVar i) (tA G fs)) σ H Q := by
  obtain ⟨Hf, ρ, rp, af⟩ := h
  unfold fCallI at af
  cases e0 : isOw i ρ with
  | false => rw [e0] at af; exact False.elim af
  | true =>
    rw [e0, if_pos rfl] at af
    obtain ⟨ds0, h0⟩ := isOw_ow e0
    obtain ⟨p, vs0, s0, _, g0, _⟩ := slok_ow (rp.sl i _ h0)
    refine ⟨_, s0, (step rp af).mono fun us H1 ⟨ds, Hf1, ρ1, n1, ra, af1⟩ => ?_⟩
    show spI cA n F (V.ref p :: us) H1 Q (WE G.W σ)
    unfold bnd callIM at af1
    cases q : (ρ1[i]? : Option Sl) with
    | none => simp only [q] at af1; exact False.elim af1
    | some sl =>
      cases sl with
      | un => simp only [q] at af1; exact False.elim af1
      | raw _ => simp only [q] at af1; exact False.elim af1
      | tr _ => simp only [q] at af1; exact False.elim af1
      | lk _ => simp only [q] at af1; exact False.elim af1
      | pa _ _ => simp only [q] at af1; exact False.elim af1
      | fz _ => simp only [q] at af1; exact False.elim af1
      | ow io =>
        simp only [q] at af1
        obtain ⟨p', ws, s1, f1, g1, r1⟩ := slok_ow (n1.rp.sl i _ q)
        rw [s0] at s1
        cases s1
        have hl : (V.ref p :: us).length = n := by
          rw [List.length_cons, repA_len ra]
          refine hn io ds _ rfl fun z => ?_
          rw [z] at af1
          exact af1
        refine ⟨hl, Hf1, p, ws, us, io, ds, rfl, n1.rp.sb, f1, g1, r1, ra, ?_⟩
        cases e : F io ds with
        | bad => rw [e] at af1; exact False.elim af1
        | exc c =>
          rw [e] at af1
          subst hcA
          exact fun H' s dm t => af1 Hf1 H' (nxt_dropI n1.rp q s0 s dm t)
        | ok rr =>
          obtain ⟨r, io'⟩ := rr
          rw [e] at af1
          intro v Hf' H' zs h1 h2 h3 dm h4 h5 h6 h7 h8
          have nn := nxt_callI (q := G.q) n1.rp q s0 h1 h2 h3 dm h4 h5 h6 h7
          cases r with
          | fz d => exact af1 v Hf' H' nn h8
          | ow es =>
            obtain ⟨p2, us2, rfl, k1, k2, k3, k4⟩ := h8
            have no : ¬ OwnA H' σ (ρ1.set i (.ow io')) p2 := fun ⟨j, z⟩ => by
              by_cases w : j = i
              · subst w
                have hlt : j < ρ1.length := (List.getElem?_eq_some_iff.mp q).1
                have e0 := (ownI_ow (ds := io') (by rw [List.getElem?_set, if_pos rfl, if_pos hlt]) s0).mp z
                subst e0
                rw [g1] at k1
                cases k1
              · obtain ⟨s, v, e1, e2, o⟩ := z
                rw [List.getElem?_set, if_neg fun y => w y.symm] at e1
                refine n1.rp.notOwn k1 ⟨j, (n1.rp.ownI_iff (fun b y => ?_) p2).mp ⟨s, v, e1, e2, o⟩⟩
                obtain ⟨u, hu, tu⟩ := (n1.rp.ownI y).2
                rw [hu]
                exact h3 b u hu tu fun e0 => w (n1.rp.nd j i b y ((ownI_ow q s0).mpr e0))
            obtain ⟨n2, r2⟩ := nn.take (.inl k1) k2 no k3 k4
            exact af1 _ _ _ n2 r2
          | tr t => exact False.elim af1
theorem fe_callI (i : Nat) {y : Str} {p1 : Pos} {F : List PyData → List PyData → Out (Rt × List PyData)} {n : Nat} (hn : ∀ io ds r, F io ds = r → r ≠ .bad → ds.length + 1 = n) (Fo : FnOk X.prog X.w X.K X.mg X.base (L2.CX X.prog X.w) k fa fd ps (spI G.cA n F)) (hr : Room k X.A) (hg : Gl X x) (hm : X.mg x = some (.ref fa)) (hk : PySem.W.keepIn X.K (.ref fa) = true) (hb : Binds X.K fd ps []) (tk : Takes X G.W)
    (ha : PA X es (tA G fs)) (hN : X.N[i]? = some y := by rfl) (hv : Vis X.env.scope y := by first | exact Or.inl rfl | exact Or.inr (Or.inl rfl) | exact Or.inr (Or.inr rfl)) (hd : (y == ("__debug__" : Str)) = false := by decide)
    (hcd : (y == ("__classdict__" : Str)) = false := by decide) (hdb : (x == ("__debug__" : Str)) = false := by decide) (he : starEach (.Name y p1 :: es) X.env = (false, eval (.Name y p1) X.env) :: starEach es X.env := by rfl) (hpl : (backTo pos (starEach es X.env)).any (·.1) = false := by rfl) :
    PE X (.Call (.Name x p) (.Name y p1 :: es) [] pos) (tE G (fCallI i F fs)) := (pe_callS Fo hr hg hm hk hb (fun σ => passAt tk σ) (pa_cons (pe_var hN hv hd hcd) ha he) hdb he hpl).imp (callI_run rfl hn)
end
end Fx
namespace Fx
open PySem L2
variable [Tabz]
section
variable {X : Cx} {G : Gx} {e a b : Expr} {es : List Expr} {f g : M PyData} {fs : M (List PyData)} {pos : Pos} {tg : Expr} {pn : List Nat} {st : Stmt} {sts : List Stmt} {s t : Rho → Fl} {A B : Opd} {As : List Opd}
mutual
theorem rep_dp {K : PySem.W.Frag} {H : Hp} : ∀ {v : V} {d : PyData}, d.canLay0 = true → Rep H v d → Dp K H v d
  | _, _, _, .non => .non
  | _, _, _, .bl b => .bl b
  | _, _, _, .int i => .int i
  | _, _, _, .str x => .str x
  | _, _, z, .lst h r => .lst (SqL.of h) (repA_dp z r)
  | _, _, z, .tup h r => .tup (SqT.of h) (repA_dp z r)
  | _, _, z, .ins _ _ _ => Bool.noConfusion z
  | _, _, z, .dct _ _ _ => Bool.noConfusion z
theorem repA_dp {K : PySem.W.Frag} {H : Hp} : ∀ {v : List V} {d : List PyData}, PyData.canLayAll0 d = true → RepA H v d → DpAll K H v d
  | _, _, _, .nil => .nil
  | _, _, z, .cons h r => .cons (rep_dp (Bool.and_eq_true_iff.mp z).1 h) (repA_dp (Bool.and_eq_true_iff.mp z).2 r)
end
theorem rep_dps {K : PySem.W.Frag} {H : Hp} {v : V} {d : PyData} (h : SeqAt.shaped d = true) (r : Rep H v d) : Dp K H v d := rep_dp (SeqAt.canLay_of_shaped h) r
def oEQ : PyData → PyData → Option PyData
  | .int i, .int j => some (.bool (decide (i = j)))
  | .str i, .str j => some (.bool (decide (i = j)))
  | .bool i, .bool j => some (.bool (decide (i = j)))
  | a, b => if SeqAt.shaped a && SeqAt.shaped b then some (.bool (PyData.eqv a b)) else none
def oNE : PyData → PyData → Option PyData
  | .int i, .int j => some (.bool (!decide (i = j)))
  | .str i, .str j => some (.bool (!decide (i = j)))
  | .bool i, .bool j => some (.bool (!decide (i = j)))
  | a, b => if SeqAt.shaped a && SeqAt.shaped b then some (.bool (!PyData.eqv a b)) else none
theorem op_or {F : Value → Value → Sem Value} {r r' : R2} (h : OpR X F r) (h' : OpR X F r') : OpR X F (fun x y H Q => r x y H Q ∨ r' x y H Q) := fun pins s σ H x y v u Q I rx ry q => q.elim (h pins s σ H x y v u Q I rx ry) (h' pins s σ H x y v u Q I rx ry)
theorem rd_EQ {K : PySem.W.Frag} : RdO (fun x y H Q => rEq x y H Q ∨ rEqD K x y H Q) oEQ := by
  intro Hf H x y a b d sm ha hb e
  unfold oEQ at e
  split at e
  · obtain ⟨v, h1, h2⟩ := rd_eq Hf H x y _ _ d sm ha hb e
    exact ⟨v, h1, fun Q q => .inl (h2 Q q)⟩
  · obtain ⟨v, h1, h2⟩ := rd_eq Hf H x y _ _ d sm ha hb e
    exact ⟨v, h1, fun Q q => .inl (h2 Q q)⟩
  · obtain ⟨v, h1, h2⟩ := rd_eq Hf H x y _ _ d sm ha hb e
    exact ⟨v, h1, fun Q q => .inl (h2 Q q)⟩
  · split at e
    · rename_i hs
      cases e
      exact ⟨_, .bl _, fun Q q => .inr ⟨_, _, rep_dps (Bool.and_eq_true_iff.mp hs).1 (ha.full sm), rep_dps (Bool.and_eq_true_iff.mp hs).2 (hb.full sm), (Bool.and_eq_true_iff.mp hs).1, (Bool.and_eq_true_iff.mp hs).2, q⟩⟩
    · cases e
theorem rd_NE {K : PySem.W.Frag} : RdO (fun x y H Q => rNe x y H Q ∨ rNeD K x y H Q) oNE := by
  intro Hf H x y a b d sm ha hb e
  unfold oNE at e
  split at e
  · obtain ⟨v, h1, h2⟩ := rd_ne Hf H x y _ _ d sm ha hb e
    exact ⟨v, h1, fun Q q => .inl (h2 Q q)⟩
  · obtain ⟨v, h1, h2⟩ := rd_ne Hf H x y _ _ d sm ha hb e
    exact ⟨v, h1, fun Q q => .inl (h2 Q q)⟩
  · obtain ⟨v, h1, h2⟩ := rd_ne Hf H x y _ _ d sm ha hb e
    exact ⟨v, h1, fun Q q => .inl (h2 Q q)⟩
  · split at e
    · rename_i hs
      cases e
      exact ⟨_, .bl _, fun Q q => .inr ⟨_, _, rep_dps (Bool.and_eq_true_iff.mp hs).1 (ha.full sm), rep_dps (Bool.and_eq_true_iff.mp hs).2 (hb.full sm), (Bool.and_eq_true_iff.mp hs).1, (Bool.and_eq_true_iff.mp hs).2, q⟩⟩
    · cases e
theorem op_EQ (hu : X.A.units + 64 < cLine) : OpR X (compareOp .Eq) (fun x y H Q => rEq x y H Q ∨ rEqD X.K x y H Q) := op_or op_eq (op_eqD hu)
theorem op_NE (hu : X.A.units + 64 < cLine) : OpR X (compareOp .NotEq) (fun x y H Q => rNe x y H Q ∨ rNeD X.K x y H Q) := op_or op_ne (op_neD hu)
@[simp] def finM {α : Type} (A : Opd) (a : PyData) (As : List Opd) (as : List PyData) (k : PyData → List PyData → Option α) : M α := fun ρ => match A.at a ρ with
  | some x => (match atAll As as ρ with
    | some xs => opt (k x xs) ρ
    | none => .bad)
  | none => .bad
@[simp] def isL : Option PyData → Bool
  | some (.list _) => true
  | _ => false
@[simp] def fBM (o : PyData → List PyData → Option PyData) (A : Opd) (As : List Opd) : M PyData := fun ρ => (bnd A.go fun a ρ => if isL (A.at a ρ) then bnd (goAll As) (fun as => finM A a As as o) ρ else .bad) ρ
def tyName : PyData → String
  | .none => "NoneType"
  | .bool _ => "bool"
  | .int _ => "int"
  | .str _ => "str"
  | .list _ => "list"
  | .tuple _ => "tuple"
  | .dict _ => "dict"
def isTyN (n T : String) : Bool := n == T || (n == "bool" && T == "int")
def isTy (d : PyData) (T : String) : Bool := isTyN (tyName d) T
def isDc : PyData → Bool
  | .dict _ => true
  | _ => false
@[simp] theorem isDc_n : isDc .none = false := rfl
@[simp] theorem isDc_b {x : Bool} : isDc (.bool x) = false := rfl
@[simp] theorem isDc_i {x : Int} : isDc (.int x) = false := rfl
@[simp] theorem isDc_s {x : Str} : isDc (.str x) = false := rfl
@[simp] theorem isDc_l {x : List PyData} : isDc (.list x) = false := rfl
@[simp] theorem isDc_t {x : List PyData} : isDc (.tuple x) = false := rfl
theorem rep_ty {K : PySem.W.Frag} {H : Hp} {v : V} {d : PyData} (nd : isDc d = false) (h : Rep H v d) : TyX K H v (.type (tyName d)) := by
  cases h with
  | non => exact .base .non
  | bl b => exact .base (.bl b)
  | int i => exact .base (.int i)
  | str x => exact .base (.str x)
  | lst h _ => exact .base (.lst h)
  | tup h _ => exact .base (.tup h)
  | ins _ _ _ => cases nd
  | dct _ _ _ => cases nd
def tyOk (T : String) : Bool := T == "bool" || T == "int" || T == "str" || T == "list" || T == "tuple"
theorem kit_at {K : PySem.W.Frag} {d : PyData} {T : String} (hT : tyOk T = true) (hd : ∀ kvs, d ≠ .dict kvs) : PySem.W.kitOne K (.type (tyName d)) (.type T) = some (isTy d T) := by
  have h5 : T = "bool" ∨ T = "int" ∨ T = "str" ∨ T = "list" ∨ T = "tuple" := by
    unfold tyOk at hT
    simp only [Bool.or_eq_true, beq_iff_eq] at hT
    rcases hT with (((h | h) | h) | h) | h
    · exact .inl h
    · exact .inr (.inl h)
    · exact .inr (.inr (.inl h))
    · exact .inr (.inr (.inr (.inl h)))
    · exact .inr (.inr (.inr (.inr h)))
  have h6 : ∀ n : String, (n = "NoneType" ∨ n = "bool" ∨ n = "int" ∨ n = "str" ∨ n = "list" ∨ n = "tuple") → PySem.W.kitOne K (.type n) (.type T) = some (isTyN n T) := by
    intro n hn
    rcases hn with rfl | rfl | rfl | rfl | rfl | rfl <;> rcases h5 with rfl | rfl | rfl | rfl | rfl <;> exact kit_ty (by decide +kernel)
  refine h6 _ ?_
  cases d with
  | dict kvs => exact absurd rfl (hd kvs)
  | none => exact .inl rfl
  | bool b => exact .inr (.inl rfl)
  | int b => exact .inr (.inr (.inl rfl))
  | str b => exact .inr (.inr (.inr (.inl rfl)))
  | list b => exact .inr (.inr (.inr (.inr (.inl rfl))))
  | tuple b => exact .inr (.inr (.inr (.inr (.inr rfl))))
theorem isDc_nd {d : PyData} (h : isDc d = false) : ∀ kvs, d ≠ .dict kvs := fun kvs z => by
  subst z; cases h
@[simp] def oIs (T : String) (d : PyData) : Option PyData := if isDc d = true then none else some (.bool (isTy d T))
theorem fe_isi {T : String} {x : Str} {p q : Pos} (hT : tyOk T = true) (hg : Gl X "isinstance") (hm : X.mg "isinstance" = none) (hgx : Gl X x) (hmx : X.mg x = none) (hx : bootBuiltins x = some (.type T)) (ha : PE X a (A.t G)) (hnx : x ≠ "__name__" := by decide) (hdx : (x == ("__debug__" : Str)) = false := by decide)
    (he : starEach [a, .Name x q] X.env = (false, eval a X.env) :: starEach [.Name x q] X.env := by rfl) (he2 : starEach [.Name x q] X.env = (false, eval (.Name x q) X.env) :: starEach [] X.env := by rfl) (hpl : (backTo pos (starEach [.Name x q] X.env)).any (·.1) = false := by rfl) :
    PE X (.Call (.Name "isinstance" p) [a, .Name x q] [] pos) (tE G (fUn (oIs T) A)) := by
  refine (pe_callB call_isi hg hm (by decide +kernel) (pa_cons ha (pa_cons (pe_bltn (v := .ty T) hgx hmx hx rfl hnx hdx) pa_nil he2) he) (by decide) (by decide) he hpl).imp fun σ H Q ⟨Hf, ρ, rp, af⟩ => ?_
  refine Opd.run (stepO rp af) fun y H1 ⟨d, Hf1, ρ1, n1, ra, af1⟩ => ?_
  obtain ⟨a', ea, af2⟩ := fin1_some af1
  cases nd : isDc a' with
  | true => simp [nd] at af2; exact False.elim af2
  | false =>
  simp only [oIs, nd, Bool.false_eq_true, if_false] at af2
  have r1 := Opd.end n1.rp ra ea
  exact ⟨y, .ty T, .type (tyName a'), .type T, isTy a' T, rfl, .ty T, rep_ty nd (r1.full n1.rp.sub), kit_at hT (isDc_nd nd), fin (R := Rep) n1.rp af2 (.bl _)⟩
@[simp] def oIs2 (T U : String) (d : PyData) : Option PyData := if isDc d = true then none else some (.bool (isTy d T || isTy d U))
theorem fe_isi2 {T U : String} {x y : Str} {p q q2 q3 : Pos} {k : Nat} (hT : tyOk T = true) (hU : tyOk U = true) (hg : Gl X "isinstance") (hm : X.mg "isinstance" = none) (hgx : Gl X x) (hmx : X.mg x = none) (hx : bootBuiltins x = some (.type T)) (hgy : Gl X y) (hmy : X.mg y = none) (hy : bootBuiltins y = some (.type U)) (ha : PE X a (A.t G)) (hnx : x ≠ "__name__" := by decide) (hdx : (x == ("__debug__" : Str)) = false := by decide) (hny : y ≠ "__name__" := by decide) (hdy : (y == ("__debug__" : Str)) = false := by decide)
    (he : starEach [a, .Tuple [.Name x q, .Name y q2] k q3] X.env = (false, eval a X.env) :: starEach [.Tuple [.Name x q, .Name y q2] k q3] X.env := by rfl) (he2 : starEach [.Tuple [.Name x q, .Name y q2] k q3] X.env = (false, eval (.Tuple [.Name x q, .Name y q2] k q3) X.env) :: starEach [] X.env := by rfl)
    (he3 : starEach [.Name x q, .Name y q2] X.env = (false, eval (.Name x q) X.env) :: starEach [.Name y q2] X.env := by rfl) (he4 : starEach [.Name y q2] X.env = (false, eval (.Name y q2) X.env) :: starEach [] X.env := by rfl) (hpl : (backTo pos (starEach [.Tuple [.Name x q, .Name y q2] k q3] X.env)).any (·.1) = false := by rfl) :
    PE X (.Call (.Name "isinstance" p) [a, .Tuple [.Name x q, .Name y q2] k q3] [] pos) (tE G (fUn (oIs2 T U) A)) := by
  refine (pe_callB call_isiT hg hm (by decide +kernel) (pa_cons ha (pa_cons (pe_tup (pa_cons (pe_bltn (v := .ty T) hgx hmx hx rfl hnx hdx) (pa_cons (pe_bltn (v := .ty U) hgy hmy hy rfl hny hdy) pa_nil he4) he3)) pa_nil he2) he) (by decide) (by decide) he hpl).imp fun σ H Q ⟨Hf, ρ, rp, af⟩ => ?_
  refine Opd.run (stepO rp af) fun y H1 ⟨d, Hf1, ρ1, n1, ra, af1⟩ => ?_
  obtain ⟨a', ea, af2⟩ := fin1_some af1
  cases nd : isDc a' with
  | true => simp [nd] at af2; exact False.elim af2
  | false =>
  simp only [oIs2, nd, Bool.false_eq_true, if_false] at af2
  have r1 := Opd.end n1.rp ra ea
  refine ⟨by show 2 ≤ sizeLine; decide, fun tp htp => ?_⟩
  have sm : Same Hf1 (upd H1 tp (.tup [.ty T, .ty U])) := n1.rp.sub.trans (same_new htp)
  have ty : TyX X.K (upd H1 tp (.tup [.ty T, .ty U])) y (.type (tyName a')) := rep_ty nd (rep_same (same_new htp) (r1.full n1.rp.sub))
  refine ⟨y, tp, [.ty T, .ty U], .type (tyName a'), [.type T, .type U], isTy a' T || isTy a' U, rfl, upd_same, .cons (.ty T) (.cons (.ty U) .nil), ty, ?_, ?_⟩
  · refine kitAny_cons (kit_at hT (isDc_nd nd)) (fun h => ?_) fun h => by rw [h]; rfl
    rw [h, Bool.false_or]
    refine kitAny_cons (kit_at hU (isDc_nd nd)) (fun h => ?_) fun h => h
    rw [h]
    exact kitAny_nil
  · exact AfG.new (R := Rep) n1.rp af2 htp (.bl _)
end
end Fx
namespace Fx
open PySem L2
variable [Tabz]
section
variable {X : Cx} {G : Gx} {e a b : Expr} {es : List Expr} {f g : M PyData} {fs : M (List PyData)} {pos : Pos} {tg : Expr} {pn : List Nat} {st : Stmt} {sts : List Stmt} {s t : Rho → Fl} {A B : Opd} {As : List Opd}
@[simp] def leave (i : Nat) : Fl → Fl
  | .nx ρ => .nx (ρ.set i .un)
  | .brk ρ => .brk (ρ.set i .un)
  | .ct ρ => .ct (ρ.set i .un)
  | .ret r ρ => .ret r (ρ.set i .un)
  | _ => .bad
theorem AfS.same {G G' : Gx} {σ : St} {ρ : Rho} {Hf H : Hp} {D : Ends} : ∀ {o : Fl}, (∀ c ρ, o ≠ .exc c ρ) → AfS G pn σ ρ Hf H D o → AfS G' pn σ ρ Hf H D o
  | .nx _, _, h => h
  | .brk _, _, h => h
  | .ct _, _, h => h
  | .ret _ _, _, h => h
  | .exc c ρ, n, _ => absurd rfl (n c ρ)
  | .bad, _, h => h
theorem RtOk.later {q : Bool} {σ σ1 σ2 : St} {ρ ρ1 ρ2 : Rho} {Hf H Hf1 H1 Hf2 H2 : Hp} (n : Nxt q σ ρ Hf H σ1 ρ1 Hf1 H1) {v : V} : ∀ {r : Rt}, RtOk pn σ1 ρ1 H1 σ2 ρ2 Hf2 H2 v r → RtOk pn σ ρ H σ2 ρ2 Hf2 H2 v r
  | .fz d, h => h
  | .ow ds, h => by
    obtain ⟨p, vs, e, h1, h3⟩ := h
    exact ⟨p, vs, e, h1.back n, h3⟩
  | .tr t, h => by
    obtain ⟨F, r1, r2, r3⟩ := h
    exact ⟨F, r1, r2, fun a m => ⟨(r3 a m).1.back n, (r3 a m).2⟩⟩
theorem RtOk.drop {σ σ2 : St} {ρ ρ2 : Rho} {H Hf2 H2 : Hp} {i : Nat} (rp : Rp Hf2 H2 σ2 ρ2) {v : V} : ∀ {r : Rt}, RtOk pn σ ρ H σ2 ρ2 Hf2 H2 v r → RtOk pn σ ρ H σ2 (ρ2.set i .un) Hf2 H2 v r
  | .fz d, h => h
  | .ow ds, h => by
    obtain ⟨p, vs, e, h1, h2, h3, h4, h5⟩ := h
    refine ⟨p, vs, e, h1, h2, fun z => ((rp.drop i).os _ z).elim h3 fun y => ?_, h4, h5⟩
    rw [h4] at y; cases y
  | .tr t, h => by
    obtain ⟨F, r1, r2, r3⟩ := h
    refine ⟨F, r1, r2, fun a m => ⟨(r3 a m).1, (r3 a m).2.1, fun z => ((rp.drop i).os _ z).elim (r3 a m).2.2 fun y => ?_⟩⟩
    obtain ⟨o, ho, _⟩ := r1.obj a m
    rw [ho] at y; cases y
@[simp] def fIsE (i : Nat) (x : Addr) (r : Bool) : M PyData := fun ρ => match (ρ[i]? : Option Sl) with
  | some (.raw v) => if v = .ref x then .ok (.bool r, ρ) else .bad
  | _ => .bad
def whE (p : M Bool) (s : Rho → Fl) : Nat → Rho → Fl
  | 0, _ => .bad
  | n + 1, ρ => match p ρ with
    | .ok (true, ρ1) => (match s ρ1 with
      | .nx ρ2 => whE p s n ρ2
      | .ct ρ2 => whE p s n ρ2
      | .brk ρ2 => .nx ρ2
      | x => x)
    | .ok (false, ρ1) => .nx ρ1
    | .exc c ρ1 => .exc c ρ1
    | .bad => .bad
theorem fs_while {c : Expr} {p : M Bool} (n : Nat) (hp : PassesOwn (model X.prog X.w) X.A X.env X.xe) (hc : PT X c (tT G p)) (hb : PSs X sts (tS G pn s)) : PS X (.While c sts [] pos) (tS G pn (whE p s n)) := by
  refine (ps_while hp hc hb).imp fun D σ H ⟨Hf, ρ, rp, af⟩ => ?_
  refine ⟨fun m σ H => ∃ Hf ρ, Rp Hf H σ ρ ∧ AfS G pn σ ρ Hf H D (whE p s m ρ), ⟨n, Hf, ρ, rp, af⟩, ?_⟩
  rintro m σ1 H1 ⟨Hf1, ρ1, rp1, af1⟩
  cases m with
  | zero => exact af1.elim
  | succ m =>
    refine ⟨Hf1, ρ1, rp1, ?_⟩
    unfold whE at af1
    cases ep : p ρ1 with
    | exc c ρ2 => rw [ep] at af1; exact fun Hf2 H2 n2 => af1 σ1 Hf2 H2 n2.any (.refl _ _)
    | bad => rw [ep] at af1; exact af1
    | ok x =>
      obtain ⟨bt, ρ2⟩ := x
      rw [ep] at af1
      intro bb Hf2 H2 n2q eb
      have n2 := Nxt.any n2q
      subst eb
      cases bb with
      | false => exact af1 σ1 Hf2 H2 n2 (.refl _ _)
      | true =>
        dsimp only at af1
        refine ⟨fun σ' H' => ∃ Hf ρ, Rp Hf H' σ' ρ ∧ AfS G pn σ' ρ Hf H' D (whE p s m ρ), fun σ' H' q => ⟨m, Nat.lt_succ_self m, q⟩, Hf2, ρ2, n2.rp, ?_⟩
        cases es : s ρ2 with
        | nx ρ3 => simp only [es] at af1; exact fun σ3 Hf3 H3 n3 p3 => ⟨Hf3, ρ3, n3.rp, af1.later (n2.trans n3) p3⟩
        | ct ρ3 => simp only [es] at af1; exact fun σ3 Hf3 H3 n3 p3 => ⟨Hf3, ρ3, n3.rp, af1.later (n2.trans n3) p3⟩
        | brk ρ3 => simp only [es] at af1; exact fun σ3 Hf3 H3 n3 p3 => af1 σ3 Hf3 H3 (n2.trans n3) p3
        | ret r ρ3 => simp only [es] at af1; have q := AfS.later (D := D) n2 (.refl pn _) af1; exact q
        | exc c3 ρ3 => simp only [es] at af1; exact fun σ3 Hf3 H3 n3 p3 => af1 σ3 Hf3 H3 (n2.trans n3) p3
        | bad => simp only [es] at af1; exact False.elim af1
@[simp] def fIfL (p : M Bool) (f g : M (List PyData)) : M (List PyData) := fun ρ => (bnd p fun c => if c = true then f else g) ρ
@[simp] def sPar (i j : Nat) (f g : M PyData) : Rho → Fl := fun ρ => (sBnd (fCons f (fCons g fNil)) fun ds ρ => match ds with
  | [d1, d2] => .nx ((ρ.set i (.fz d1)).set j (.fz d2))
  | _ => .bad) ρ
end
end Fx
namespace Fx
open PySem L2
inductive Fq where
  | f (x : He.Fa)
  | xc (x : Str)
  | kx (x y : Str) (b : Bool)
  | kv (x : Str) (T : String) (b : Bool)
def Fq.ok (K : PySem.W.Frag) : Fq → Bool
  | .f x => x.ok K
  | .xc x => He.eqO (PySem.W.findIn K (.ref (He.ga K x)) "__getattribute__") (some (some (.builtin "BaseException.__getattribute__"))) && (He.eqO (PySem.W.findIn K (.ref (He.ga K x)) "__getattr__") (some none) && (decide (PySem.W.subIn K (.ref (He.ga K x)) (.type "BaseException") = some true)
      && (PySem.W.hasDictIn K (He.ga K x) && (He.eqO (PySem.W.findIn K (.ref (He.ga K x)) "__class__") (some (some (.builtin "object.__class__"))) && (He.eqO (PySem.W.specialIn K (.builtin "object.__class__") "__get__") (some (some (.builtin "getset_descriptor.__get__")))
      && (decide (PySem.W.takesIn K (.builtin "object.__class__") = some true) && decide (PySem.W.mroIn K (He.ga K x) (.type "object") = some true)))))))
  | .kx x y b => decide (PySem.W.kitOne K (.ref (He.ga K x)) (.ref (He.ga K y)) = some b)
  | .kv x T b => decide (PySem.W.kitOne K (.ref (He.ga K x)) (.type T) = some b)
def mkD (x : Str) (st : Stmt) : He.FnD := ⟨(x, none), x, x, defArgs st, defBody st, defScope st⟩
def obsQ (fa : List Fq) (fn : List He.FnD) (K : PySem.W.Frag) : He.Al := ((fa.all fun f => f.ok K) && fn.all fun d => (He.Fa.code d.at_ d.qual).ok K && PySem.W.keepIn K (.ref (He.fAd K d.at_)), fn.map fun d => He.fnObs K d.at_)
def SaysQ (fa : List Fq) (fn : List He.FnD) (K : PySem.W.Frag) : Prop := obsQ fa fn K = He.valE fn
structure TabQ (tf : List Str) (h : Heap) (K : PySem.W.Frag) : Prop where
  hd : ∀ x ∈ tf, PySem.W.codeHdIn K (He.cT K (x, none)).1 (He.cT K (x, none)).2 = true
  out : ∀ x ∈ tf, K.lookup (He.cT K (x, none)).2 = none
  empty : ∀ x ∈ tf, h.get? (He.cT K (x, none)).2 = some { cls := .none, data := .fields #[] }
  nd : (tf.map fun x => (He.cT K (x, none)).2).Nodup
def tabQB (g : Addr → Option Obj) (tf : List Str) (K : PySem.W.Frag) : Bool := He.tabsB g (tf.map fun x => (x, none)) K && decide (tf.map fun x => (He.cT K (x, none)).2).Nodup
def obsQG (n : Nat) (fa : List Fq) (fn : List He.FnD) (tf : List Str) (g : Addr → Option Obj) : He.Al × Bool := (obsQ fa fn (He.frT g (He.asG g n)), tabQB g tf (He.frT g (He.asG g n)))
theorem tabQ_of {n : Nat} {tf : List Str} {h : Heap} (e : tabQB h.get? tf (He.frT h.get? (He.asG h.get? n)) = true) : TabQ tf h (He.frT h.get? (He.asG h.get? n)) := by
  obtain ⟨h2, hn⟩ := He.ba e
  have key : ∀ x ∈ tf, PySem.W.codeHdIn (He.frT h.get? (He.asG h.get? n)) (He.cT (He.frT h.get? (He.asG h.get? n)) (x, none)).1 (He.cT (He.frT h.get? (He.asG h.get? n)) (x, none)).2 = true ∧ ∃ o, h.get? (He.cT (He.frT h.get? (He.asG h.get? n)) (x, none)).2 = some o ∧ He.emptyTab o = true := fun x hx => by
    obtain ⟨h3, h4⟩ := He.ba (List.all_eq_true.mp h2 (x, none) (List.mem_map.mpr ⟨x, hx, rfl⟩))
    refine ⟨h3, ?_⟩
    cases q : h.get? (He.cT (He.frT h.get? (He.asG h.get? n)) (x, none)).2 with
    | none => rw [q] at h4; cases h4
    | some o => rw [q] at h4; exact ⟨o, rfl, h4⟩
  exact ⟨fun x hx => (key x hx).1, fun x hx => by
    obtain ⟨_, o, q, z⟩ := key x hx
    exact He.frT_none q z, fun x hx => by
    obtain ⟨_, o, q, z⟩ := key x hx
    rw [q, He.emptyTab_eq z], of_decide_eq_true hn⟩
def hookQ (n : Nat) (fa : List Fq) (fn : List He.FnD) (tf : List Str) : PySem.W.Hook where
  α := He.Al × Bool
  obs := fun s => obsQG n fa fn tf s.heap.get?
  val := fun _ => (He.valE fn, true)
  says := fun _ h => ∃ K : PySem.W.Frag, K.In h ∧ SaysQ fa fn K ∧ TabQ tf h K
  of := fun _ _ e => ⟨_, He.frT_in, congrArg (fun z : He.Al × Bool => z.1) e, tabQ_of (congrArg (fun z : He.Al × Bool => z.2) e)⟩
  keeps := fun _ _ _ ⟨K, hK, c, t⟩ k => ⟨K, PySem.W.Frag.In.keeps hK k, c, ⟨t.hd, t.out, fun x hx => k _ _ (t.empty x hx), t.nd⟩⟩
theorem obsQG_eq {n : Nat} {fa : List Fq} {fn : List He.FnD} {tf : List Str} {g : Addr → Option Obj} {s : Shared} (h : ∀ a, g a = s.heap.get? a) : obsQG n fa fn tf g = (hookQ n fa fn tf).obs s := by
  have e : g = s.heap.get? := funext h
  rw [e] <;> rfl
structure Top (fa : List Fq) (fn : List He.FnD) (K : PySem.W.Frag) (mg : Str → Option Value) : Prop where
  says : SaysQ fa fn K
  ns : ∃ h : Heap, K.In h ∧ h.Ns mainGlobals mg
def fdOf (K : PySem.W.Frag) (x : Str) : FuncData := match K.lookup (He.ga K x) with
  | some ⟨_, _, .func fd, _⟩ => fd
  | _ => PySem.W.fnOf x x (defArgs (.Pass ⟨0, 0, 0, 0⟩)) [] (defScope (.Pass ⟨0, 0, 0, 0⟩)) .none .none .none .none none .none .none
section
variable {fa : List Fq} {fn : List He.FnD} {K : PySem.W.Frag} {mg : Str → Option Value} (T : Top fa fn K mg)
include T
theorem Top.fact (i : Nat) {f : Fq} (h : fa[i]? = some f) : f.ok K = true := by
  have c1 := (He.ba (show ((fa.all fun f => f.ok K) && _) = true from congrArg (fun z : He.Al => z.1) T.says)).1
  exact List.all_eq_true.mp c1 f (List.mem_of_getElem? h)
theorem Top.free (i : Nat) {x : Str} (h : fa[i]? = some (.f (.free x)) := by rfl) : mg x = none := by
  obtain ⟨hp, X, G⟩ := T.ns
  exact He.free_ok X G (T.fact i h)
theorem Top.glo (i : Nat) {x : Str} (h : fa[i]? = some (.f (.glo x)) := by rfl) : mg x = some (.ref (He.ga K x)) := by
  obtain ⟨hp, X, G⟩ := T.ns
  exact He.glo_ok X G (T.fact i h)
theorem Top.int (i : Nat) {x : Str} {n : Int} (h : fa[i]? = some (.f (.int x n)) := by rfl) : ∃ t, mg x = some (.int n t) := by
  obtain ⟨hp, X, G⟩ := T.ns
  exact He.int_ok X G (T.fact i h)
theorem Top.str (i : Nat) {x n : Str} (h : fa[i]? = some (.f (.str x n)) := by rfl) : ∃ t, mg x = some (.str n t) := by
  obtain ⟨hp, X, G⟩ := T.ns
  exact He.str_ok X G (T.fact i h)
theorem Top.exc (i : Nat) {x : Str} (h : fa[i]? = some (.f (.exc x)) := by rfl) : PySem.W.excIn K (He.ga K x) He.veBase "ValueError.__new__" = true ∧ PySem.W.keepIn K (.ref (He.ga K x)) = true ∧ PySem.W.subIn K (.ref (He.ga K x)) (.type "BaseException") = some true ∧ PySem.W.typeIn K (.ref (He.ga K x)) = some (.type "type") := He.exc_ok (T.fact i h)
theorem Top.xc (i : Nat) {x : Str} (h : fa[i]? = some (.xc x) := by rfl) : ExcC K (He.ga K x) := by
  obtain ⟨c1, c⟩ := He.ba (T.fact i h)
  obtain ⟨c2, c⟩ := He.ba c
  obtain ⟨c3, c⟩ := He.ba c
  obtain ⟨c4, c⟩ := He.ba c
  obtain ⟨c5, c⟩ := He.ba c
  obtain ⟨c6, c⟩ := He.ba c
  obtain ⟨c7, c8⟩ := He.ba c
  exact ⟨He.eqO_ok c1, He.eqO_ok c2, of_decide_eq_true c3, c4, He.eqO_ok c5, He.eqO_ok c6, of_decide_eq_true c7, of_decide_eq_true c8⟩
theorem Top.kx (i : Nat) {x y : Str} {b : Bool} (h : fa[i]? = some (.kx x y b) := by rfl) : PySem.W.kitOne K (.ref (He.ga K x)) (.ref (He.ga K y)) = some b := of_decide_eq_true (T.fact i h)
theorem Top.kv (i : Nat) {x : Str} {U : String} {b : Bool} (h : fa[i]? = some (.kv x U b) := by rfl) : PySem.W.kitOne K (.ref (He.ga K x)) (.type U) = some b := of_decide_eq_true (T.fact i h)
theorem Top.def_ (i : Nat) {x : Str} {st : Stmt} (h : fn[i]? = some (mkD x st) := by rfl) : Fun K x x st (He.ga K x) (fdOf K x) := by
  have c2 := (He.ba (show ((fa.all fun f => f.ok K) && fn.all fun d => (He.Fa.code d.at_ d.qual).ok K && PySem.W.keepIn K (.ref (He.fAd K d.at_))) = true from congrArg (fun z : He.Al => z.1) T.says)).2
  have c3 := He.ba (List.all_eq_true.mp c2 (mkD x st) (List.mem_of_getElem? h))
  have e : fn.map (fun d => He.fnObs K d.at_) = fn.map He.FnD.val := congrArg (fun z : He.Al => z.2) T.says
  have e2 : (fn.map fun d => He.fnObs K d.at_)[i]? = (fn.map He.FnD.val)[i]? := by rw [e]
  rw [List.getElem?_map, List.getElem?_map, h] at e2
  obtain ⟨oc, od, osl, kV, doc, pm, an, cdv, ct, lk, cd⟩ := He.fn_ok (Option.some.inj e2) c3.1
  have lk2 : K.lookup (He.ga K x) = some ⟨oc, od, .func (PySem.W.fnOf x x (defArgs st) (defBody st) (defScope st) .none kV doc pm an cdv ct), osl⟩ := lk
  have efd : fdOf K x = PySem.W.fnOf x x (defArgs st) (defBody st) (defScope st) .none kV doc pm an cdv ct := by
    unfold fdOf
    rw [lk2]
  rw [efd]
  exact fun_mk lk2 cd c3.2
end
def lamQ (x : Str) : Str := x ++ ".<locals>." ++ "<lambda>"
def tzL (tf : List Str) (K : PySem.W.Frag) : List (Addr × Str) := tf.map fun x => ((He.cT K (x, none)).2, lamQ x)
@[reducible] def tzOf (tf : List Str) (K : PySem.W.Frag) : Tabz := ⟨tzL tf K, He.ga K⟩
variable [Tabz]
structure Tp (fa : List Fq) (fn : List He.FnD) (tf : List Str) (K : PySem.W.Frag) (mg : Str → Option Value) (base : Heap) : Prop extends Top fa fn K mg where
  tz : Tabz.T = tzL tf K
  ca : Tabz.cA = He.ga K
  tbs : ∀ x ∈ tf, LamX.TabB base mg (He.cT K (x, none)).1 (He.cT K (x, none)).2
  tnd : (tf.map fun x => (He.cT K (x, none)).2).Nodup
def Cal (P : Program) (w : World) (K : PySem.W.Frag) (mg : Str → Option Value) (base : Heap) (x : Str) (k : Nat) (ps : List Str) (sp : Sp) : Prop :=
  ∃ (f : Addr) (fd : FuncData), FnOk P w K mg base (L2.CX P w) k f fd ps sp ∧ mg x = some (.ref f) ∧ PySem.W.keepIn K (.ref f) = true ∧ Binds K fd ps []
def stN (n : Nat) (ds : List PyData) : Rho := ds.map Sl.fz ++ List.replicate (n - ds.length) Sl.un
def stNI (n : Nat) (io ds : List PyData) : Rho := Sl.ow io :: (ds.map Sl.fz ++ List.replicate (n - (ds.length + 1)) Sl.un)
def runP (n : Nat) (g : Rho → Fl) (m : Nat) (ds : List PyData) : Out Rt := if ds.length = m then toOut (g (stN n ds)) else .bad
def runI (n : Nat) (g : Rho → Fl) (m : Nat) (io ds : List PyData) : Out (Rt × List PyData) := if ds.length + 1 = m then toOutI (g (stNI n io ds)) else .bad
section
variable {P : Program} {w : World} {K : PySem.W.Frag} {mg : Str → Option Value} {base : Heap} {fa : List Fq} {fn : List He.FnD}
theorem cal_pure {x : Str} {sd : Stmt} {N ps : List Str} {k : Nat} {g : Rho → Fl} (T : Top fa fn K mg) (i j : Nat) (hi : fa[i]? = some (.f (.glo x))) (hj : fn[j]? = some (mkD x sd)) (S : FnScope N ps (defScope sd))
    (hbind : ∀ (kV doc pm : Value) (an : Option Addr) (cdv ct : Value) (us : List Value), us.length = ps.length → bindArgs (PySem.W.fnOf x x (defArgs sd) (defBody sd) (defScope sd) .none kV doc pm an cdv ct) ⟨us, []⟩ = pure (ps.zip us))
    (hb : ∀ (cdv : Value) (A : Around) (outer : List Env) (s : Shared) (H : Hp) (E : XK), Room k (A.deeper (PyProof.Rows.envOfC x (defScope sd) s.heap.objs.size (He.ga K x) cdv)) → PSs (cxOf (L2.CX P w) P w K mg base N x (defScope sd) (He.ga K x) cdv A outer s H E) (defBody sd) (tS ⟨fun cls d _ H => E cls d H, He.ga K, false⟩ [] g)) :
    Cal P w K mg base x (k + 1) ps (spP (He.ga K) ps.length (runP N.length g ps.length)) := by
  have F := T.def_ j hj
  refine ⟨_, _, ?_, T.glo i hi, F.kp, F.binds hbind⟩
  refine { fn_pure (k := k) F S hb with run := ?_, len := ?_ }
  · intro vs H Q E h
    exact h.1
  · intro A outer s H args us vs Q E hr I b r h
    refine (fn_pure (k := k) F S hb).run A outer s H args us vs Q E hr I b r (spP_imp (fun ds hd _ => ?_) vs H Q E h)
    unfold runP
    rw [if_pos hd]
    rfl
theorem cal_pureT {x : Str} {sd : Stmt} {N ps : List Str} {k : Nat} {g : Rho → Fl} (T : Top fa fn K mg) (i j : Nat) (hi : fa[i]? = some (.f (.glo x))) (hj : fn[j]? = some (mkD x sd)) (S : FnScope N ps (defScope sd))
    (hbind : ∀ (kV doc pm : Value) (an : Option Addr) (cdv ct : Value) (us : List Value), us.length = ps.length → bindArgs (PySem.W.fnOf x x (defArgs sd) (defBody sd) (defScope sd) .none kV doc pm an cdv ct) ⟨us, []⟩ = pure (ps.zip us))
    (hb : ∀ (cdv : Value), CdIs K (He.ga K x) cdv → ∀ (A : Around) (outer : List Env) (s : Shared) (H : Hp) (E : XK), Room k (A.deeper (PyProof.Rows.envOfC x (defScope sd) s.heap.objs.size (He.ga K x) cdv)) → PSs (cxOf (L2.CX P w) P w K mg base N x (defScope sd) (He.ga K x) cdv A outer s H E) (defBody sd) (tS ⟨fun cls d _ H => E cls d H, He.ga K, false⟩ [] g)) :
    Cal P w K mg base x (k + 1) ps (spP (He.ga K) ps.length (runP N.length g ps.length)) := by
  have F := T.def_ j hj
  refine ⟨_, _, ?_, T.glo i hi, F.kp, F.binds hbind⟩
  refine { fn_pureC (k := k) F S hb with run := ?_, len := ?_ }
  · intro vs H Q E h
    exact h.1
  · intro A outer s H args us vs Q E hr I b r h
    refine (fn_pureC (k := k) F S hb).run A outer s H args us vs Q E hr I b r (spP_imp (fun ds hd _ => ?_) vs H Q E h)
    unfold runP
    rw [if_pos hd]
    rfl
theorem cal_io {x : Str} {sd : Stmt} {N ps : List Str} {k : Nat} {g : Rho → Fl} (T : Top fa fn K mg) (i j : Nat) (hi : fa[i]? = some (.f (.glo x))) (hj : fn[j]? = some (mkD x sd)) (S : FnScope N ps (defScope sd))
    (hbind : ∀ (kV doc pm : Value) (an : Option Addr) (cdv ct : Value) (us : List Value), us.length = ps.length → bindArgs (PySem.W.fnOf x x (defArgs sd) (defBody sd) (defScope sd) .none kV doc pm an cdv ct) ⟨us, []⟩ = pure (ps.zip us))
    (hb : ∀ (cdv : Value) (A : Around) (outer : List Env) (s : Shared) (H : Hp) (E : XK), Room k (A.deeper (PyProof.Rows.envOfC x (defScope sd) s.heap.objs.size (He.ga K x) cdv)) → PSs (cxOf (L2.CX P w) P w K mg base N x (defScope sd) (He.ga K x) cdv A outer s H E) (defBody sd) (tS ⟨fun cls d _ H => E cls d H, He.ga K, false⟩ [0] g)) :
    Cal P w K mg base x (k + 1) ps (spI (He.ga K) ps.length (runI N.length g ps.length)) := by
  have F := T.def_ j hj
  refine ⟨_, _, ?_, T.glo i hi, F.kp, F.binds hbind⟩
  refine { fn_io (k := k) F S hb with run := ?_, len := ?_ }
  · intro vs H Q E h
    exact h.1
  · intro A outer s H args us vs Q E hr I b r h
    refine (fn_io (k := k) F S hb).run A outer s H args us vs Q E hr I b r (spI_imp (fun io ds hd _ => ?_) vs H Q E h)
    unfold runI
    rw [if_pos hd]
    rfl
end
section
variable {X : Cx} {G : Gx} {e a b : Expr} {es : List Expr} {fs : M (List PyData)} {pos : Pos} {k n : Nat} {ps : List Str} {x : Str} {p : Pos}
theorem runP_len {n m : Nat} {g : Rho → Fl} : ∀ ds r, runP n g m ds = r → r ≠ .bad → ds.length = m := fun ds r e h => by
  unfold runP at e
  split at e
  · assumption
  · exact absurd e.symm h
theorem runI_len {n m : Nat} {g : Rho → Fl} : ∀ io ds r, runI n g m io ds = r → r ≠ .bad → ds.length + 1 = m := fun io ds r e h => by
  unfold runI at e
  split at e
  · assumption
  · exact absurd e.symm h
theorem fe_cal {g : Rho → Fl} {m : Nat} (C : Cal X.prog X.w X.K X.mg X.base x k ps (spP G.cA m (runP n g m))) (hr : Room k X.A) (hg : Gl X x) (tk : Takes X G.W) (ha : PA X (e :: es) (tA G fs)) (hdb : (x == ("__debug__" : Str)) = false := by decide)
    (he : starEach (e :: es) X.env = (false, eval e X.env) :: starEach es X.env := by rfl) (hpl : (backTo pos (starEach es X.env)).any (·.1) = false := by rfl) : PE X (.Call (.Name x p) (e :: es) [] pos) (tE G (fCall (runP n g m) fs)) := by
  obtain ⟨f, fd, F, hm, hk, hb⟩ := C
  exact fe_call runP_len F hr hg hm hk hb tk ha hdb he hpl
theorem fl_cal {g : Rho → Fl} {m : Nat} (C : Cal X.prog X.w X.K X.mg X.base x k ps (spP G.cA m (runP n g m))) (hr : Room k X.A) (hg : Gl X x) (tk : Takes X G.W) (ha : PA X (e :: es) (tA G fs)) (hdb : (x == ("__debug__" : Str)) = false := by decide)
    (he : starEach (e :: es) X.env = (false, eval e X.env) :: starEach es X.env := by rfl) (hpl : (backTo pos (starEach es X.env)).any (·.1) = false := by rfl) : PE X (.Call (.Name x p) (e :: es) [] pos) (tL G (fCallL (runP n g m) fs)) := by
  obtain ⟨f, fd, F, hm, hk, hb⟩ := C
  exact fl_call runP_len F hr hg hm hk hb tk ha hdb he hpl
theorem fe_calI (i : Nat) {y : Str} {p1 : Pos} {g : Rho → Fl} {m : Nat} (C : Cal X.prog X.w X.K X.mg X.base x k ps (spI G.cA m (runI n g m))) (hr : Room k X.A) (hg : Gl X x) (tk : Takes X G.W) (ha : PA X es (tA G fs)) (hN : X.N[i]? = some y := by rfl) (hv : Vis X.env.scope y := by first | exact Or.inl rfl | exact Or.inr (Or.inl rfl) | exact Or.inr (Or.inr rfl)) (hd : (y == ("__debug__" : Str)) = false := by decide)
    (hcd : (y == ("__classdict__" : Str)) = false := by decide) (hdb : (x == ("__debug__" : Str)) = false := by decide) (he : starEach (.Name y p1 :: es) X.env = (false, eval (.Name y p1) X.env) :: starEach es X.env := by rfl) (hpl : (backTo pos (starEach es X.env)).any (·.1) = false := by rfl) : PE X (.Call (.Name x p) (.Name y p1 :: es) [] pos) (tE G (fCallI i (runI n g m) fs)) := by
  obtain ⟨f, fd, F, hm, hk, hb⟩ := C
  exact fe_callI i runI_len F hr hg hm hk hb tk ha hN hv hd hcd hdb he hpl
end
def spBegin (K : PySem.W.Frag) : Sp := fun vs H Q _ => ∃ (a : Addr) (ns : List Int), vs = [.ref a] ∧ SqL K H a (ns.map V.int) ∧ ns.length ≤ 63 ∧
  ∀ (p q : Addr) (H' : Hp), Same H H' → p ≠ q → H p = none → H q = none → H' q = some (.lst (ns.map V.int)) → H' p = some (.lst [.ref q, .int 0, .int 0, .int 1, .int 0]) → Q (.ref p) H'
def cells (ns : List Int) : List PyData := [.list (ns.map PyData.int), .int 0, .int 0, .int 1, .int 0]
def stLaw (n : Nat) (ns : List Int) : Rho := Sl.un :: Sl.ow (cells ns) :: List.replicate (n - 2) Sl.un
def spLaw (K : PySem.W.Frag) (n : Nat) (g : Rho → Fl) : Sp := fun vs H Q _ => ∃ (a : Addr) (ns : List Int), vs = [.ref a] ∧ SqL K H a (ns.map V.int) ∧ ns.length ≤ 63 ∧ Tb H ∧ (∃ ρ', g (stLaw n ns) = .ret (.fz (.bool true)) ρ') ∧ ∀ H', Q (.bl true) H'
theorem repA_ints {H : Hp} : ∀ ns : List Int, RepA H (ns.map V.int) (ns.map PyData.int)
  | [] => .nil
  | n :: ns => .cons (.int n) (repA_ints ns)
theorem law_start {H' : Hp} {a p q : Addr} {ns : List Int} {n : Nat} (tb : Tb H') (hn : 2 ≤ n) (hpq : p ≠ q) (hq : H' q = some (.lst (ns.map V.int))) (hp : H' p = some (.lst [.ref q, .int 0, .int 0, .int 1, .int 0])) :
    ∃ Hf, Rp Hf H' (some (.ref a) :: some (.ref p) :: List.replicate (n - 2) none) (stLaw n ns) := by
  have gt : ∀ (i : Nat) (s : Sl), (stLaw n ns)[i]? = some s → s = .un ∨ (i = 1 ∧ s = .ow (cells ns)) := fun i s h => by
    unfold stLaw at h
    match i, h with
    | 0, h => cases h; exact .inl rfl
    | 1, h => cases h; exact .inr ⟨rfl, rfl⟩
    | i + 2, h =>
      have h2 : (List.replicate (n - 2) Sl.un)[i]? = some s := h
      rw [List.getElem?_replicate] at h2
      split at h2
      · cases h2; exact .inl rfl
      · cases h2
  have own : ∀ (i : Nat) (a' : Addr), OwnI H' (some (V.ref a) :: some (V.ref p) :: List.replicate (n - 2) none) (stLaw n ns) i a' → i = 1 := fun i a' ⟨s, v, h, _, o⟩ => by
    rcases gt i s h with rfl | ⟨z, _⟩
    · exact o.elim
    · exact z
  refine ⟨upd (fun _ => none) q (.lst (ns.map V.int)), fun b o e => ?_, tb, NtH.upd (fun a ps z => by cases z) NT.lst, ?_, fun i s h => ?_, fun i j x h1 h2 => by rw [own i x h1, own j x h2], fun x ⟨i, t, v, Hf0, F, h, _⟩ => ?_, fun j i qs t h _ => ?_⟩
  · by_cases z : b = q
    · subst z; rw [upd_same] at e; cases e; exact hq
    · rw [upd_ne z] at e; cases e
  · unfold stLaw; simp
  · rcases gt i s h with rfl | ⟨rfl, rfl⟩
    · exact slok_un
    · refine ⟨by rw [upd_ne hpq], _, hp, ?_⟩
      exact .cons (.lst upd_same (repA_ints ns)) (.cons (.int _) (.cons (.int _) (.cons (.int _) (.cons (.int _) .nil))))
  · rcases gt i _ h with z | ⟨_, z⟩ <;> cases z
  · rcases gt j _ h with z | ⟨_, z⟩ <;> cases z
section
variable {P : Program} {w : World} {K : PySem.W.Frag} {mg : Str → Option Value} {base : Heap} {fa : List Fq} {fn : List He.FnD}
theorem ok_law {x y : Str} {sd st : Stmt} {rest : List Stmt} {N : List Str} {k : Nat} {g : Rho → Fl} (F : Fun K x x sd (He.ga K x) (fdOf K x)) (S : FnScope N [y] (defScope sd)) (hN : 2 ≤ N.length) (hbody : defBody sd = st :: rest)
    (h1 : ∀ (cdv : Value) (A : Around) (outer : List Env) (s : Shared) (H : Hp) (E : XK), Room k (A.deeper (PyProof.Rows.envOfC x (defScope sd) s.heap.objs.size (He.ga K x) cdv)) → PS (cxOf CX0 P w K mg base N x (defScope sd) (He.ga K x) cdv A outer s H E).nox st (tAsg (tCallS (spBegin K) (fun _ => E0) (tCons (tVar 0) tNil)) (gName 1)))
    (hb : ∀ (cdv : Value) (A : Around) (outer : List Env) (s : Shared) (H : Hp) (E : XK), Room k (A.deeper (PyProof.Rows.envOfC x (defScope sd) s.heap.objs.size (He.ga K x) cdv)) → PSs (cxOf CX0 P w K mg base N x (defScope sd) (He.ga K x) cdv A outer s H E).nox rest (tS ⟨fun _ _ _ _ => False, He.ga K, false⟩ [] g)) :
    FnOk P w K mg base CX0 (k + 1) (He.ga K x) (fdOf K x) [y] (spLaw K N.length g) := by
  refine F.ok S (fun vs H Q E h => ?_) (fun cdv A outer s H vs Q E hr h => ?_)
  · obtain ⟨a, ns, rfl, _⟩ := h
    rfl
  · obtain ⟨a, ns, rfl, hS, hlen, tb, ⟨ρ', hg⟩, hQ⟩ := h
    rw [hbody]
    refine ⟨_, pss_cons (h1 cdv A outer s H E hr) (hb cdv A outer s H E hr), ?_⟩
    refine ⟨_, rfl, a, ns, rfl, hS, hlen, fun p q H' sm hpq h1 h2 h3 h4 => ?_⟩
    have est : (L2.start N [.ref a]).set 1 (some (V.ref p)) = some (.ref a) :: some (.ref p) :: List.replicate (N.length - 2) none := by
      unfold L2.start
      obtain ⟨m, hm⟩ : ∃ m, N.length = m + 2 := ⟨N.length - 2, by omega⟩
      simp [hm, List.replicate_succ]
    obtain ⟨Hf, rp⟩ := law_start (a := a) (LamX.Tabs.ext tb sm) hN hpq h3 h4
    show tS _ _ _ _ ((L2.start N [.ref a]).set 1 (some (V.ref p))) H'
    rw [est]
    refine ⟨Hf, _, rp, ?_⟩
    rw [hg]
    intro v σ' Hf' H2 n _ hr
    have hr : Rep Hf' v (.bool true) := hr
    cases hr
    exact hQ H2
omit [Tabz] in
theorem law_at {l : PySem.W.OpenLaw} {w : World} {fa : List Fq} {fn : List He.FnD} {tf : List Str} {K : PySem.W.Frag} {mg : Str → Option Value} {h : Heap} {k N : Nat} {x : Str} {g : Rho → Fl} {sd : Stmt} (c : SaysQ fa fn K) (t : TabQ tf h K) (KX : K.In h) (G : h.Ns mainGlobals mg) (F : Fun K "law" "law" sd (He.ga K "law") (fdOf K "law"))
    (hbind : ∀ (kV doc pm : Value) (an : Option Addr) (cdv ct : Value) (s : Shared) (u : Value), BindsTo s (PySem.W.fnOf "law" "law" (defArgs sd) (defBody sd) (defScope sd) .none kV doc pm an cdv ct) ⟨[u], []⟩ [(x, u)])
    (hF : ∀ base : Heap, @Tp (tzOf tf K) fa fn tf K mg base → FnOk l.prog w K mg base CX0 k (He.ga K "law") (fdOf K "law") [x] (@spLaw (tzOf tf K) K N g))
    (hm : ∀ ns : List Int, ns.length ≤ 63 → ∃ ρ', g (stLaw N ns) = .ret (.fz (.bool true)) ρ') : LamX.LawAtS l w K CX0 k 63 x mg (He.ga K "law") h := by
  refine ⟨fdOf K "law", tf.map fun x => He.cT K (x, none), @spLaw (tzOf tf K) K N g, fun p hp => ?_, fun p hp => ?_, fun p hp => ?_, fun s v => ?_, fun H a ns hl _ hT hS => ⟨a, ns, rfl, hS, hl, ?_, hm ns hl, fun _ => rfl⟩, fun base KB GB hB => hF base (@Tp.mk (tzOf tf K) _ _ _ _ _ _ ⟨c, h, KX, G⟩ rfl rfl (fun x hx => hB _ (List.mem_map.mpr ⟨x, hx, rfl⟩)) t.nd)⟩
  · obtain ⟨x, hx, rfl⟩ := List.mem_map.mp hp
    exact t.empty x hx
  · obtain ⟨x, hx, rfl⟩ := List.mem_map.mp hp
    exact t.out x hx
  · obtain ⟨x, hx, rfl⟩ := List.mem_map.mp hp
    exact PySem.W.codeHd_of_K KX (t.hd x hx)
  · obtain ⟨oc, od, kV, doc, pm, an, cdv, ct, osl, efd, lk, cd⟩ := F.ex
    rw [efd]
    exact hbind kV doc pm an cdv ct s v
  · intro p hp
    obtain ⟨x, hx, rfl⟩ := List.mem_map.mp hp
    exact LamX.TabS.nil (hT _ (List.mem_map.mpr ⟨x, hx, rfl⟩))
end
end Fx
namespace Fx
open PySem L2
variable [Tabz]
section
variable {X : Cx} {G : Gx} {e a b c : Expr} {es : List Expr} {f g : M PyData} {pos : Pos} {A B : Opd} {As : List Opd} {pn : List Nat}
theorem vO (i : Nat) {x : Str} (hN : X.N[i]? = some x := by rfl) (hv : Vis X.env.scope x := by first | exact Or.inl rfl | exact Or.inr (Or.inl rfl) | exact Or.inr (Or.inr rfl)) (hd : (x == ("__debug__" : Str)) = false := by decide)
    (hcd : (x == ("__classdict__" : Str)) = false := by decide) : PE X (.Name x pos) ((Opd.v i).t G) := pe_var hN hv hd hcd
theorem eO (h : PE X a (tE G f)) : PE X a ((Opd.e f).t G) := h
theorem oa_nil : PA X [] (tAll G []) := pa_nil
theorem oa_cons (h : PE X e (A.t G)) (hr : PA X es (tAll G As)) (hs : starEach (e :: es) X.env = (false, eval e X.env) :: starEach es X.env := by rfl) : PA X (e :: es) (tAll G (A :: As)) := pa_cons h hr hs
theorem ft_pw {p : M Bool} (h : PW X e (tT G p)) : PT X e (tT G p) := h.pt
theorem u64 {k : Nat} {Z : Around} (hr : Room k Z) : Z.units + 64 < cLine := by have := hr.un; omega
theorem u64s {k : Nat} {Z U : Around} (hr : Room k Z) (h : U.units = Z.units := by rfl) : U.units + 64 < cLine := by rw [h]; exact u64 hr
@[simp] def fCh (o o' : PyData → PyData → Option PyData) (A B C : Opd) : M PyData := fun ρ => (bnd A.go fun x => bnd B.go fun y => bnd (fin2 A B x y o) fun z => bnd (opt (asB z)) fun k => if k = true then bnd C.go fun w => fin2 B C y w o' else ret (.bool false)) ρ
end
section
variable {P : Program} {w : World} {K : PySem.W.Frag} {mg : Str → Option Value} {base : Heap} {fa : List Fq} {fn : List He.FnD}
theorem cut63 {ns : List Int} (h : ns.length ≤ 63) : cutV (ns.map V.int) none (some 63) = ns.map V.int := by
  unfold cutV
  have e : HT.sIx (ns.map V.int).length 0 none = 0 := rfl
  have e2 : HT.sIx (ns.map V.int).length (ns.map V.int).length (some 63) = (ns.map V.int).length := by
    rw [List.length_map]
    unfold HT.sIx
    simp only
    split <;> omega
  rw [e, e2, List.drop_zero, Nat.sub_zero, List.take_length]
theorem ok_begin {x y : Str} {sd : Stmt} {k : Nat} {p1 p2 p3 p4 p5 p6 p7 p8 p9 p10 p11 p12 : Pos} {j1 j2 j3 j4 j5 : Nat} (F : Fun K x x sd (He.ga K x) (fdOf K x)) (S : FnScope [y] [y] (defScope sd)) (hl : mg "list" = none) (hv : Vis (defScope sd) y) (hg : ∀ (cdv : Value) (A : Around) (outer : List Env) (s : Shared) (H : Hp) (E : XK), Gl (cxOf (L2.CX P w) P w K mg base [y] x (defScope sd) (He.ga K x) cdv A outer s H E) "list")
    (hbody : defBody sd = [.Return (some (.List [.Call (.Name "list" p1) [.Subscript (.Name y p2) (.Slice none (some (.Constant (.int 63) j1 p3)) none p4) p5] [] p6, .Constant (.int 0) j2 p7, .Constant (.int 0) j3 p8, .Constant (.int 1) j4 p9, .Constant (.int 0) j5 p10] p11)) p12]) (hd : (y == ("__debug__" : Str)) = false := by decide)
    (hcd : (y == ("__classdict__" : Str)) = false := by decide) :
    FnOk P w K mg base (L2.CX P w) (k + 1) (He.ga K x) (fdOf K x) [y] (spBegin K) := by
  refine F.okX S (fun vs H Q E h => ?_) (fun cdv A outer s H vs Q E hr h => ?_)
  · obtain ⟨a, ns, rfl, _⟩ := h
    rfl
  · obtain ⟨a, ns, rfl, hS, hlen, hQ⟩ := h
    rw [hbody]
    refine ⟨_, pss_one (ps_ret (pe_lst (pa_cons (pe_callTy call_list_of (hg _ _ _ _ _ _) hl (by decide +kernel) (pa_cons (pe_slice sl_list (pe_var (i := 0) rfl hv hd hcd) po_none (po_some pe_int)) pa_nil)) (pa_cons pe_int (pa_cons pe_int (pa_cons pe_int (pa_cons pe_int pa_nil))))))), ?_⟩
    refine ⟨_, rfl, 63, rfl, a, _, rfl, hS, fun t ht => ?_⟩
    rw [cut63 hlen]
    refine ⟨t, _, rfl, .inl (SqL.of upd_same), fun q hq => ⟨by show 5 ≤ sizeLine; decide, fun p hp => ?_⟩⟩
    have hqt : q ≠ t := fun z => by
      rw [z, upd_same] at hq
      cases hq
    have hq0 : H q = none := by
      rw [upd_ne hqt] at hq
      exact hq
    have hpq : p ≠ q := fun z => by
      rw [z, upd_same] at hp
      cases hp
    have hpt : p ≠ t := fun z => by
      rw [z, upd_ne hqt.symm, upd_same] at hp
      cases hp
    have hp0 : H p = none := by
      rw [upd_ne hpq, upd_ne hpt] at hp
      exact hp
    refine hQ p q _ (fun b o e => ?_) hpq hp0 hq0 ?_ upd_same
    · rw [upd_ne (ne_of_none e hp0), upd_ne (ne_of_none e hq0), upd_ne (ne_of_none e ht)]
      exact e
    · rw [upd_ne hpq.symm, upd_same]
end
section
variable {P : Program} {w : World} {K : PySem.W.Frag} {mg : Str → Option Value} {base : Heap} {fa : List Fq} {fn : List He.FnD}
theorem cal_bad {x : Str} {sd : Stmt} {ps : List Str} (T : Top fa fn K mg) (i j : Nat) (hi : fa[i]? = some (.f (.glo x))) (hj : fn[j]? = some (mkD x sd))
    (hbind : ∀ (kV doc pm : Value) (an : Option Addr) (cdv ct : Value) (us : List Value), us.length = ps.length → bindArgs (PySem.W.fnOf x x (defArgs sd) (defBody sd) (defScope sd) .none kV doc pm an cdv ct) ⟨us, []⟩ = pure (ps.zip us)) (k : Nat) :
    Cal P w K mg base x k ps (spP (He.ga K) ps.length fun _ => .bad) := by
  have F := T.def_ j hj
  refine ⟨_, _, ⟨fun vs H Q E h => h.1, fun A outer s H args us vs Q E hr I b r h => ?_⟩, T.glo i hi, F.kp, F.binds hbind⟩
  obtain ⟨_, _, _, _, _, h⟩ := h
  exact h.elim
end
section
variable {X : Cx} {G : Gx} {e a b : Expr} {es : List Expr} {fs : M (List PyData)} {pos : Pos} {k : Nat} {ps : List Str} {x : Str} {p : Pos} {pn : List Nat} {sts : List Stmt} {s : Rho → Fl}
theorem fe_calF {F : List PyData → Out Rt} {m : Nat} (hn : ∀ ds r, F ds = r → r ≠ .bad → ds.length = m) (C : Cal X.prog X.w X.K X.mg X.base x k ps (spP G.cA m F)) (hr : Room k X.A) (hg : Gl X x) (tk : Takes X G.W) (ha : PA X (e :: es) (tA G fs)) (hdb : (x == ("__debug__" : Str)) = false := by decide)
    (he : starEach (e :: es) X.env = (false, eval e X.env) :: starEach es X.env := by rfl) (hpl : (backTo pos (starEach es X.env)).any (·.1) = false := by rfl) : PE X (.Call (.Name x p) (e :: es) [] pos) (tE G (fCall F fs)) := by
  obtain ⟨f, fd, F, hm, hk, hb⟩ := C
  exact fe_call hn F hr hg hm hk hb tk ha hdb he hpl
end
end Fx
namespace Fx
open PySem L2
variable [Tabz]
@[simp] theorem stN_eq (n : Nat) (ds : List PyData) : stN n ds = ds.map Sl.fz ++ List.replicate (n - ds.length) Sl.un := rfl
@[simp] theorem stNI_eq (n : Nat) (io ds : List PyData) : stNI n io ds = Sl.ow io :: (ds.map Sl.fz ++ List.replicate (n - (ds.length + 1)) Sl.un) := rfl
theorem small_of {n : Nat} (h : n ≤ 100000) : small n = true := decide_eq_true h
theorem seq_nx {s t : Rho → Fl} {ρ ρ1 : Rho} (h : s ρ = .nx ρ1) : sSeq s t ρ = t ρ1 := by
  unfold sSeq
  rw [h]
theorem ex_seq {s t : Rho → Fl} {ρ : Rho} {Q : Fl → Prop} (h : ∃ ρ1, s ρ = .nx ρ1 ∧ Q (t ρ1)) : Q (sSeq s t ρ) := by
  obtain ⟨ρ1, e, q⟩ := h
  rw [seq_nx e]
  exact q
theorem ex_mid {s t : Rho → Fl} {ρ : Rho} {Q : Fl → Prop} (P : Rho → Prop) (h1 : ∃ ρ1, s ρ = .nx ρ1 ∧ P ρ1) (h2 : ∀ ρ1, P ρ1 → Q (t ρ1)) : Q (sSeq s t ρ) := by
  obtain ⟨ρ1, e, q⟩ := h1
  rw [seq_nx e]
  exact h2 ρ1 q
theorem sFor_eq {fi : M (List PyData)} {g : PyData → Rho → Option Rho} {s : Rho → Fl} {ρ ρ1 : Rho} {ds : List PyData} (h : fi ρ = .ok (ds, ρ1)) : sFor fi g s ρ = forE g s ds ρ1 := by
  unfold sFor sBnd
  rw [h]
theorem forE_inv {g : PyData → Rho → Option Rho} {s : Rho → Fl} (I : Nat → Rho → Prop) : ∀ (ds : List PyData) (k : Nat) (ρ : Rho), I k ρ →
    (∀ j d ρ, ds[j]? = some d → I (k + j) ρ → ∃ ρ1 ρ2, g d ρ = some ρ1 ∧ (s ρ1 = .nx ρ2 ∨ s ρ1 = .ct ρ2) ∧ I (k + j + 1) ρ2) → ∃ ρ', forE g s ds ρ = .nx ρ' ∧ I (k + ds.length) ρ'
  | [], k, ρ, h, _ => ⟨ρ, rfl, h⟩
  | d :: ds, k, ρ, h, hs => by
    obtain ⟨ρ1, ρ2, e1, e2, h2⟩ := hs 0 d ρ rfl h
    obtain ⟨ρ', e3, h3⟩ := forE_inv I ds (k + 1) ρ2 h2 fun j x r hj hi => by
      have q := hs (j + 1) x r hj (by rw [show k + (j + 1) = k + 1 + j from by omega]; exact hi)
      rw [show k + (j + 1) + 1 = k + 1 + j + 1 from by omega] at q
      exact q
    refine ⟨ρ', ?_, by rw [show k + (d :: ds).length = k + 1 + ds.length from by simp; omega]; exact h3⟩
    unfold forE
    rw [e1]
    rcases e2 with e2 | e2 <;> simp only [e2] <;> exact e3
theorem rest_of {ρ2 ρ : Rho} {vs : List Nat} (h : wipeR ρ2 vs = wipeR ρ vs) : rest ρ2 ρ vs = rest ρ ρ vs := by
  have hl : ρ2.length = ρ.length := by
    have := congrArg List.length h
    rwa [wipeR_len, wipeR_len] at this
  apply List.ext_getElem?
  intro j
  rw [rest_get, rest_get, hl]
  by_cases q : j ∈ vs
  · rw [if_pos q, if_pos q]
  · rw [if_neg q, if_neg q]
    have e := congrArg (fun l : Rho => l[j]?) h
    rwa [wipeR_get, wipeR_get, if_neg q, if_neg q] at e
theorem lcE_pure {g : PyData → Rho → Option Rho} {tt : M Bool} {fe : M PyData} {vs : List Nat} {ρ : Rho} (c : PyData → Bool) (h : PyData → PyData) : ∀ (ds : List PyData) (ρ0 : Rho), wipeR ρ0 vs = wipeR ρ vs →
    (∀ d ∈ ds, ∃ ρ1, g d (wipeR ρ vs) = some ρ1 ∧ ∃ ρ2, tt ρ1 = .ok (c d, ρ2) ∧ (c d = true → ∃ ρ3, fe ρ2 = .ok (h d, ρ3) ∧ wipeR ρ3 vs = wipeR ρ vs) ∧ (c d = false → wipeR ρ2 vs = wipeR ρ vs)) →
    ∃ ρ', lcE g tt fe vs ds ρ0 = .ok ((ds.filter c).map h, ρ') ∧ wipeR ρ' vs = wipeR ρ vs
  | [], ρ0, h0, _ => ⟨ρ0, rfl, h0⟩
  | d :: ds, ρ0, h0, hs => by
    obtain ⟨ρ1, e1, ρ2, e2, k1, k2⟩ := hs d List.mem_cons_self
    unfold lcE
    rw [h0, e1]
    simp only [e2]
    cases hc : c d with
    | true =>
      obtain ⟨ρ3, e3, w3⟩ := k1 hc
      obtain ⟨ρ', e4, w4⟩ := lcE_pure c h ds ρ3 w3 fun x hx => hs x (List.mem_cons_of_mem _ hx)
      refine ⟨ρ', ?_, w4⟩
      simp only [e3, e4]
      rw [List.filter_cons_of_pos hc]
      rfl
    | false =>
      obtain ⟨ρ', e4, w4⟩ := lcE_pure c h ds ρ2 (k2 hc) fun x hx => hs x (List.mem_cons_of_mem _ hx)
      refine ⟨ρ', ?_, w4⟩
      simp only [e4]
      rw [List.filter_cons_of_neg (by simp [hc])]
theorem lc_pure {g : PyData → Rho → Option Rho} {tt : M Bool} {fe : M PyData} {fi : M (List PyData)} {vs : List Nat} {ρ0 ρ : Rho} {ds : List PyData} (c : PyData → Bool) (h : PyData → PyData) (hfi : fi ρ0 = .ok (ds, ρ)) (hs : ds.length ≤ 100000)
    (he : ∀ d ∈ ds, ∃ ρ1, g d (wipeR ρ vs) = some ρ1 ∧ ∃ ρ2, tt ρ1 = .ok (c d, ρ2) ∧ (c d = true → ∃ ρ3, fe ρ2 = .ok (h d, ρ3) ∧ wipeR ρ3 vs = wipeR ρ vs) ∧ (c d = false → wipeR ρ2 vs = wipeR ρ vs)) :
    fLc fi g tt fe vs ρ0 = .ok ((ds.filter c).map h, rest ρ ρ vs) := by
  obtain ⟨ρ', e, w⟩ := lcE_pure (ρ := ρ) c h ds ρ rfl he
  unfold fLc bnd
  rw [hfi]
  simp only [small_of hs, if_true, e, rest_of w]
theorem lc_map {g : PyData → Rho → Option Rho} {fe : M PyData} {fi : M (List PyData)} {vs : List Nat} {ρ0 ρ : Rho} {ds : List PyData} (h : PyData → PyData) (hfi : fi ρ0 = .ok (ds, ρ)) (hs : ds.length ≤ 100000)
    (he : ∀ d ∈ ds, ∃ ρ1, g d (wipeR ρ vs) = some ρ1 ∧ ∃ ρ3, fe ρ1 = .ok (h d, ρ3) ∧ wipeR ρ3 vs = wipeR ρ vs) :
    fLc fi g (ret true) fe vs ρ0 = .ok (ds.map h, rest ρ ρ vs) := by
  have q := lc_pure (tt := ret true) (fun _ => true) h hfi hs fun d hd => by
    obtain ⟨ρ1, e1, ρ3, e2, e3⟩ := he d hd
    exact ⟨ρ1, e1, ρ1, rfl, fun _ => ⟨ρ3, e2, e3⟩, fun z => by cases z⟩
  rw [q, List.filter_eq_self.mpr fun _ _ => rfl]
theorem lcE_enc {α : Type} {g : PyData → Rho → Option Rho} {tt : M Bool} {fe : M PyData} {vs : List Nat} {ρ : Rho} (enc : α → PyData) (c : α → Bool) (h : α → PyData) : ∀ (xs : List α) (ρ0 : Rho), wipeR ρ0 vs = wipeR ρ vs →
    (∀ x ∈ xs, ∃ ρ1, g (enc x) (wipeR ρ vs) = some ρ1 ∧ ∃ ρ2, tt ρ1 = .ok (c x, ρ2) ∧ (c x = true → ∃ ρ3, fe ρ2 = .ok (h x, ρ3) ∧ wipeR ρ3 vs = wipeR ρ vs) ∧ (c x = false → wipeR ρ2 vs = wipeR ρ vs)) →
    ∃ ρ', lcE g tt fe vs (xs.map enc) ρ0 = .ok ((xs.filter c).map h, ρ') ∧ wipeR ρ' vs = wipeR ρ vs
  | [], ρ0, h0, _ => ⟨ρ0, rfl, h0⟩
  | d :: ds, ρ0, h0, hs => by
    obtain ⟨ρ1, e1, ρ2, e2, k1, k2⟩ := hs d List.mem_cons_self
    rw [List.map_cons]
    unfold lcE
    rw [h0, e1]
    simp only [e2]
    cases hc : c d with
    | true =>
      obtain ⟨ρ3, e3, w3⟩ := k1 hc
      obtain ⟨ρ', e4, w4⟩ := lcE_enc enc c h ds ρ3 w3 fun x hx => hs x (List.mem_cons_of_mem _ hx)
      refine ⟨ρ', ?_, w4⟩
      simp only [e3, e4]
      rw [List.filter_cons_of_pos hc]
      rfl
    | false =>
      obtain ⟨ρ', e4, w4⟩ := lcE_enc enc c h ds ρ2 (k2 hc) fun x hx => hs x (List.mem_cons_of_mem _ hx)
      refine ⟨ρ', ?_, w4⟩
      simp only [e4]
      rw [List.filter_cons_of_neg (by simp [hc])]
theorem lc_if {α : Type} {g : PyData → Rho → Option Rho} {tt : M Bool} {fe : M PyData} {fi : M (List PyData)} {vs : List Nat} {ρ0 ρ : Rho} (xs : List α) (enc : α → PyData) (c : α → Bool) (h : α → PyData) (hfi : fi ρ0 = .ok (xs.map enc, ρ)) (hs : xs.length ≤ 100000)
    (he : ∀ x ∈ xs, ∃ ρ1, g (enc x) (wipeR ρ vs) = some ρ1 ∧ ∃ ρ2, tt ρ1 = .ok (c x, ρ2) ∧ (c x = true → ∃ ρ3, fe ρ2 = .ok (h x, ρ3) ∧ wipeR ρ3 vs = wipeR ρ vs) ∧ (c x = false → wipeR ρ2 vs = wipeR ρ vs)) :
    fLc fi g tt fe vs ρ0 = .ok ((xs.filter c).map h, rest ρ ρ vs) := by
  obtain ⟨ρ', e, w⟩ := lcE_enc (ρ := ρ) enc c h xs ρ rfl he
  unfold fLc bnd
  rw [hfi]
  simp only [List.length_map, small_of hs, if_true, e, rest_of w]
theorem lc_all {α : Type} {g : PyData → Rho → Option Rho} {fe : M PyData} {fi : M (List PyData)} {vs : List Nat} {ρ0 ρ : Rho} (xs : List α) (enc : α → PyData) (h : α → PyData) (hfi : fi ρ0 = .ok (xs.map enc, ρ)) (hs : xs.length ≤ 100000)
    (he : ∀ x ∈ xs, ∃ ρ1, g (enc x) (wipeR ρ vs) = some ρ1 ∧ ∃ ρ3, fe ρ1 = .ok (h x, ρ3) ∧ wipeR ρ3 vs = wipeR ρ vs) :
    fLc fi g (ret true) fe vs ρ0 = .ok (xs.map h, rest ρ ρ vs) := by
  have q := lc_if (tt := ret true) xs enc (fun _ => true) h hfi hs fun d hd => by
    obtain ⟨ρ1, e1, ρ3, e2, e3⟩ := he d hd
    exact ⟨ρ1, e1, ρ1, rfl, fun _ => ⟨ρ3, e2, e3⟩, fun z => by cases z⟩
  rw [q, List.filter_eq_self.mpr fun _ _ => rfl]
theorem asBools_map (bs : List Bool) : asBools (bs.map PyData.bool) = some bs := by
  induction bs with
  | nil => rfl
  | cons b bs ih => simp only [List.map_cons, asBools, ih, Option.map_some]
theorem asInts_map (bs : List Int) : asInts (bs.map PyData.int) = some bs := by
  induction bs with
  | nil => rfl
  | cons b bs ih => simp only [List.map_cons, asInts, ih, Option.map_some]
@[simp] theorem wipeR_nil (ρ : Rho) : wipeR ρ [] = ρ := rfl
@[simp] theorem wipeR_cons (ρ : Rho) (v : Nat) (vs : List Nat) : wipeR ρ (v :: vs) = (wipeR ρ vs).set v .un := rfl
@[simp] theorem rest_nil (ρ ρ1 : Rho) : rest ρ ρ1 [] = ρ := rfl
@[simp] theorem rest_cons (ρ ρ1 : Rho) (v : Nat) (vs : List Nat) : rest ρ ρ1 (v :: vs) = (rest ρ ρ1 vs).set v (keepFz ρ1[v]?) := rfl
@[simp] theorem keepFz_un : keepFz (some .un) = .un := rfl
@[simp] theorem keepFz_fz (d : PyData) : keepFz (some (.fz d)) = .fz d := rfl
theorem atI_at {α : Type} {xs : List α} {i : Int} {v : α} (h0 : 0 ≤ i) (h : xs[i.toNat]? = some v) : atI xs i = some v := by
  have q := atI_nat h
  rwa [Int.toNat_of_nonneg h0] at q
theorem ixN_in {n : Nat} {i : Int} (h0 : 0 ≤ i) (h : i < n) : ixN n i = some i.toNat := by
  unfold ixN
  rw [if_pos h0, if_pos h]
theorem kSet_in {d : PyData} {i : Int} {ds : List PyData} (h0 : 0 ≤ i) (h : i < ds.length) : kSet d (.int i) ds = some (ds.set i.toNat d) := by
  show (ixN ds.length i).map _ = _
  rw [ixN_in h0 h]
  rfl
def gd : Nat → PyData → Bool
  | 0, _ => false
  | _ + 1, .none => true
  | _ + 1, .bool _ => true
  | _ + 1, .int _ => true
  | _ + 1, .str _ => true
  | n + 1, .list ds => small ds.length && ds.all (gd n)
  | n + 1, .tuple ds => small ds.length && ds.all (gd n)
  | _ + 1, .dict _ => false
end Fx
namespace Fx
open PySem L2
variable [Tabz]
section
variable {X : Cx} {G : Gx} {e a b c : Expr} {es : List Expr} {f g : M PyData} {pos : Pos} {A B : Opd} {As : List Opd} {pn : List Nat} {l h : M (Option Int)} {lo hi : Option Expr} {p2 : Pos}
@[simp] def oCatT : PyData → PyData → Option PyData
  | .tuple xs, .tuple ys => if small (xs.length + ys.length) then some (.tuple (xs ++ ys)) else none
  | _, _ => none
@[simp] def oSlA (lo hi : Option Int) (d : PyData) : Option PyData := match d with
  | .tuple ds => some (.tuple (cut ds lo hi))
  | _ => none
@[simp] def fSlA (f : M PyData) (l h : M (Option Int)) : M PyData := fun ρ => (bnd f fun d => bnd l fun lo => bnd h fun hi => opt (oSlA lo hi d)) ρ
@[simp] def oInt1 : List PyData → Option PyData
  | [.int i] => some (.int i)
  | [.bool b] => some (.int (if b then 1 else 0))
  | _ => none
theorem rd_int1 : RdC (fun xs H Q => (∃ i, xs = [.int i] ∧ Q (.int i) H) ∨ ∃ k, xs = [.bl k] ∧ Q (.int (if k then 1 else 0)) H) oInt1 := by
  intro Hf H xs as d sm ra e
  unfold oInt1 at e
  split at e
  · cases e
    cases ra with
    | cons h t => cases t; cases h.int; exact ⟨_, .int _, fun Q q => .inl ⟨_, rfl, q⟩⟩
  · cases e
    cases ra with
    | cons h t => cases t; cases h.bool; exact ⟨_, .int _, fun Q q => .inr ⟨_, rfl, q⟩⟩
  · cases e
theorem fe_int1 {p : Pos} (hg : Gl X "int") (hm : X.mg "int" = none) (ha : PA X (e :: es) (tAll G As)) (he : starEach (e :: es) X.env = (false, eval e X.env) :: starEach es X.env := by rfl) (hpl : (backTo pos (starEach es X.env)).any (·.1) = false := by rfl) : PE X (.Call (.Name "int" p) (e :: es) [] pos) (tE G (fCB oInt1 As)) :=
  fe_callTy call_int1 rd_int1 hg hm (by decide +kernel) ha (by decide) (by decide) he hpl
@[simp] def augGet (i : Nat) (j : PyData) (ρ : Rho) : Option Int := match (ρ[i]? : Option Sl) with
  | some (.ow ds) => (match j with
    | .int k => (match atI ds k with
      | some (.int x) => some x
      | _ => none)
    | _ => none)
  | _ => none
@[simp] def augPut (i : Nat) (op : Int → Int → Int) (x : Int) (j : PyData) (d : PyData) (ρ : Rho) : Fl := match d with
  | .int y => (match mutO i (kSet (.int (op x y)) j) ρ with
    | some ρ3 => .nx ρ3
    | none => .bad)
  | _ => .bad
@[simp] def sAugIx (i : Nat) (op : Int → Int → Int) (g f : M PyData) : Rho → Fl := fun ρ => if isOw i ρ then (sBnd g fun j ρ1 => match augGet i j ρ1 with
    | some x => sBnd f (augPut i op x j) ρ1
    | none => .bad) ρ else .bad
@[simp] def kIns (j d : PyData) (ds : List PyData) : Option (List PyData) := match j with
  | .int k => if small ds.length && (decide (0 ≤ k) && small k.natAbs) then some (ds.take k.toNat ++ [d] ++ ds.drop k.toNat) else none
  | _ => none
@[simp] def sInsert (i : Nat) (g f : M PyData) : Rho → Fl := fun ρ => sMut i (fCons g (fCons f fNil)) (fun xs ds => match xs with
  | [j, d] => kIns j d ds
  | _ => none) ρ
@[simp] def sClear (i : Nat) : Rho → Fl := fun ρ => match mutO i (fun _ => some []) ρ with
  | some ρ2 => .nx ρ2
  | none => .bad
end
end Fx
namespace Fx
open PySem L2
variable [Tabz]
section
variable {X : Cx} {G : Gx} {e a b c tg : Expr} {es : List Expr} {f : M PyData} {fs : M (List PyData)} {pos p : Pos} {A B : Opd} {As : List Opd} {pn : List Nat} {k : Nat} {ps : List Str} {x : Str}
@[simp] def callPM (F : List PyData → Out Rt) (xs : List PyData) : M PyData := fun ρ => match F xs with
  | .ok (.fz d) => if (sc d).isSome then .ok (d, ρ) else .bad
  | .ok _ => .bad
  | .exc c => .exc c ρ
  | .bad => .bad
@[simp] def fCallP (F : List PyData → Out Rt) (As : List Opd) : M PyData := fun ρ => (bnd (goAll As) fun as ρ => match atAll As as ρ with
  | some xs => callPM F xs ρ
  | none => .bad) ρ
theorem r1a_full {Hf H : Hp} (sm : Same Hf H) : ∀ {vs : List V} {ds : List PyData}, R1A Hf H vs ds → RepA H vs ds
  | _, _, .nil => .nil
  | _, _, .cons h t => .cons (h.full sm) (r1a_full sm t)
def ntOf (H : Hp) : Hp := fun a => match H a with
  | some (.tbl _) => none
  | o => o
theorem ntOf_at {H : Hp} {a : Addr} {o : HO} (h : H a = some o) (n : NT o) : ntOf H a = some o := by
  unfold ntOf
  rw [h]
  split
  · rename_i ps e
    exact absurd (Option.some.inj e) (n ps)
  · rfl
theorem ntOf_same {H : Hp} : Same (ntOf H) H := fun a o e => by
  unfold ntOf at e
  split at e
  · cases e
  · exact e
theorem ntOf_nt {H : Hp} : NtH (ntOf H) := fun a ps e => by
  unfold ntOf at e
  split at e
  · cases e
  · rename_i z
    exact z ps e
mutual
theorem rep_nt {H : Hp} : ∀ {v : V} {d : PyData}, Rep H v d → Rep (ntOf H) v d
  | _, _, .non => .non
  | _, _, .bl b => .bl b
  | _, _, .int i => .int i
  | _, _, .str x => .str x
  | _, _, .lst h a => .lst (ntOf_at h NT.lst) (repA_nt a)
  | _, _, .tup h a => .tup (ntOf_at h NT.tup) (repA_nt a)
  | _, _, .ins h l a => .ins (ntOf_at h fun _ z => nomatch z) l (repA_nt a)
  | _, _, .dct h l a => .dct (ntOf_at h fun _ z => nomatch z) l (repA_nt a)
theorem repA_nt {H : Hp} : ∀ {v : List V} {d : List PyData}, RepA H v d → RepA (ntOf H) v d
  | _, _, .nil => .nil
  | _, _, .cons h a => .cons (rep_nt h) (repA_nt a)
end
theorem callP_run {n : Nat} {F : List PyData → Out Rt} (hn : ∀ ds r, F ds = r → r ≠ .bad → ds.length = n) (σ : St) (H : Hp) (Q : VK) (h : tE G (fCallP F As) σ H Q) : tCallS (spP G.cA n F) (WE G.W) (tAll G As) σ H Q := by
  obtain ⟨Hf, ρ, rp, af⟩ := h
  refine tAll_mono ?_ (stepA rp af)
  rintro vs H1 ⟨as, Hf1, ρ1, n1, ra, af1⟩
  cases ea : atAll As as ρ1 with
  | none => simp only [ea] at af1; exact False.elim af1
  | some xs =>
    simp only [ea] at af1
    have rx := r1a_full n1.rp.sub (rAll1_end n1.rp ra ea)
    have hl : vs.length = n := by
      rw [repA_len rx]
      refine hn xs _ rfl fun z => ?_
      unfold callPM at af1
      rw [z] at af1
      exact af1
    refine ⟨hl, ntOf H1, xs, ⟨ntOf_same, n1.rp.tb, ntOf_nt⟩, repA_nt rx, ?_⟩
    unfold callPM at af1
    cases e : F xs with
    | bad => rw [e] at af1; exact af1.elim
    | exc c =>
      rw [e] at af1
      exact fun H' s => af1 Hf1 H' (nxt_call n1.rp (Same.refl _) (n1.rp.sb.later s) s fun a z => .inl z)
    | ok r =>
      rw [e] at af1
      cases r with
      | ow es => exact False.elim af1
      | tr t => exact False.elim af1
      | fz d =>
        dsimp only at af1
        cases es : sc d with
        | none => rw [es] at af1; exact False.elim af1
        | some u =>
          rw [es] at af1
          intro v Hf' H' h1 h2 h3 h4 h5
          have ev := sc_rep es h5
          subst ev
          exact af1 _ Hf1 H' (nxt_call n1.rp (Same.refl _) (n1.rp.sb.later h3) h3 fun a z => .inl z) (rep_sc es)
theorem fe_calP {F : List PyData → Out Rt} {m : Nat} (hn : ∀ ds r, F ds = r → r ≠ .bad → ds.length = m) (C : Cal X.prog X.w X.K X.mg X.base x k ps (spP G.cA m F)) (hr : Room k X.A) (hg : Gl X x) (tk : Takes X G.W) (ha : PA X (e :: es) (tAll G As)) (hdb : (x == ("__debug__" : Str)) = false := by decide)
    (he : starEach (e :: es) X.env = (false, eval e X.env) :: starEach es X.env := by rfl) (hpl : (backTo pos (starEach es X.env)).any (·.1) = false := by rfl) : PE X (.Call (.Name x p) (e :: es) [] pos) (tE G (fCallP F As)) := by
  obtain ⟨f, fd, F, hm, hk, hb⟩ := C
  exact (pe_callS F hr hg hm hk hb (fun σ => passAt tk σ) ha hdb he hpl).imp (callP_run hn)
@[simp] def sSetC (i : Nat) (F : List PyData → Out Rt) (fs : M (List PyData)) : Rho → Fl := fun ρ => (sBnd fs fun ds ρ1 => match F ds with
  | .ok (.fz d) => .nx (ρ1.set i (.fz d))
  | .ok (.ow es) => .nx (ρ1.set i (.ow es))
  | .ok (.tr _) => .bad
  | .exc c => .exc c ρ1
  | .bad => .bad) ρ
end
end Fx
namespace Fx
open PySem L2
def Kp (h h' : Heap) : Prop := ∀ b o, h.get? b = some o → h'.get? b = some o
theorem Kp.refl (h : Heap) : Kp h h := fun _ _ e => e
theorem Kp.trans {h h1 h2 : Heap} (a : Kp h h1) (b : Kp h1 h2) : Kp h h2 := fun c o e => b c o (a c o e)
def KI (prog : Program) (w : World) (A : Around) (env : Env) (h0 : Heap) (e : Expr) (P : Value → Prop) : Prop :=
  ∀ (s : Shared) (E Q : Value → Shared → Prop), Kp h0 s.heap → (∀ v h' tk, Kp s.heap h' → P v → Q v { s with heap := h', toks := tk }) → wpAny (model prog w) A (eval e env) Q E s
def IsI (i : Int) (v : Value) : Prop := ∃ t, v = .int i t
section
variable {prog : Program} {w : World} {A : Around} {env : Env} {h0 : Heap} {a b e : Expr} {pos : Pos} {x : Str} {v : Value} {i j : Int}
theorem ki_local {m : Str → Option Value} (hk : env.scope.kind = .function) (hl : env.kindOf x = some .local) (hn : h0.Ns env.locals m) (hv : m x = some v) (hd : (x == ("__debug__" : Str)) = false) : KI prog w A env h0 (.Name x pos) (· = v) := fun s E Q k h =>
  wpAny_Name (wpAny_loadName_local hk hl (hn.keeps k) hv (h v s.heap s.toks (Kp.refl _) rfl)) hd
theorem ki_free {c : Addr} (hk : env.scope.kind = .function) (hl : env.kindOf x = some .free) (hc : env.cells.lookup x = some c) (hv : h0.IsCell c (some v)) (hd : (x == ("__debug__" : Str)) = false) (hcd : (x == ("__classdict__" : Str)) = false) : KI prog w A env h0 (.Name x pos) (· = v) := fun s E Q k h =>
  wpAny_Name (wpAny_loadName_free hk hl hc (hv.keeps k) (h v s.heap s.toks (Kp.refl _) rfl) hcd) hd
theorem ki_const {n : Nat} : KI prog w A env h0 (.Constant (.int i) n pos) (IsI i) := fun s E Q k h => wpAny_Constant_int (h _ s.heap _ (Kp.refl _) ⟨_, rfl⟩)
theorem KI.imp {P P' : Value → Prop} (h : KI prog w A env h0 e P) (g : ∀ v, P v → P' v) : KI prog w A env h0 e P' := fun s E Q k q => h s E Q k fun v h' tk k' p => q v h' tk k' (g v p)
theorem isList_keeps {h h' : Heap} {l : Addr} {its : Array Value} (x : h.IsList l its) (k : Kp h h') : h'.IsList l its := by
  obtain ⟨o, e, r⟩ := x
  exact ⟨o, k _ _ e, r⟩
theorem ki_item {l : Addr} {its : Array Value} (ha : KI prog w A env h0 a (· = .ref l)) (hb : KI prog w A env h0 b (IsI i)) (hl : h0.IsList l its) (h0' : 0 ≤ i) (h1 : i < 2 ^ 63) (hx : its[i.toNat]? = some v) (hs : PlainIx b) : KI prog w A env h0 (.Subscript a b pos) (· = v) := fun s E Q k h => by
  refine PyProof.Rows.Subscript_ (ha s E _ k fun o h2 tk k2 eo => hb _ E _ (k.trans k2) fun y h3 tk2 k3 ey => ?_)
  subst eo
  obtain ⟨t, rfl⟩ := ey
  exact PyProof.Rows.item_listR (isList_keeps hl ((k.trans k2).trans k3)) h0' h1 hx (h v h3 tk2 (k2.trans k3) rfl) (hs _ _)
theorem ki_itemT {l : Addr} {its : Array Value} {m : Nat} (ha : KI prog w A env h0 a (· = .ref l)) (hb : KI prog w A env h0 b (IsI (m : Int))) (hl : PyProof.Rows.IsTup h0 l its) (h1 : m < 100) (hx : its[m]? = some v) (hs : PlainIx b) : KI prog w A env h0 (.Subscript a b pos) (· = v) := fun s E Q k h => by
  refine PyProof.Rows.Subscript_ (ha s E _ k fun o h2 tk k2 eo => hb _ E _ (k.trans k2) fun y h3 tk2 k3 ey => ?_)
  subst eo
  obtain ⟨t, rfl⟩ := ey
  have ht := hl.keeps ((k.trans k2).trans k3)
  have hsz : m < its.size := by
    rcases Nat.lt_or_ge m its.size with z | z
    · exact z
    · rw [Array.getElem?_eq_none z] at hx; cases hx
  refine PyProof.Rows.subscriptTail_builtinR (x := v) ht.typeIs PyProof.Rows.slot_tuple_getitem.lookup (PyProof.Rows.getItem_tuple (j := m) (Q := fun r s' => r = v ∧ Q r s') ht (by omega) (by omega) ?_ hx ⟨rfl, h v h3 tk2 (k2.trans k3) rfl⟩) (hs _ _)
  rw [seqIndex_of (by omega) (by omega)]
  rfl
theorem ki_sub (ha : KI prog w A env h0 a (IsI i)) (hb : KI prog w A env h0 b (IsI j)) : KI prog w A env h0 (.BinOp a .Sub b pos) (IsI (i - j)) := fun s E Q k h => by
  refine wpAny_BinOp (ha s E _ k fun o h2 tk k2 eo => hb _ E _ (k.trans k2) fun y h3 tk2 k3 ey => ?_)
  obtain ⟨t, rfl⟩ := eo
  obtain ⟨u, rfl⟩ := ey
  exact PySem.P.sub_int (h _ h3 _ (k2.trans k3) ⟨_, rfl⟩)
theorem ki_neg (ha : KI prog w A env h0 a (IsI i)) : KI prog w A env h0 (.UnaryOp .USub a pos) (IsI (-i)) := fun s E Q k h => by
  refine wpAny_UnaryOp (ha s E _ k fun o h2 tk k2 eo => ?_)
  obtain ⟨t, rfl⟩ := eo
  exact PySem.P.neg_int (h _ h2 _ k2 ⟨_, rfl⟩)
end
inductive Kx where
  | col (j : Nat)
  | neg (j : Nat)
  | zsub (j : Nat)
  | pl
@[simp] def colI (ds : List PyData) (j : Nat) : Option Int := match ds[j]? with
  | some (.int x) => some x
  | _ => none
@[simp] def Kx.val (ds : List PyData) (k : Int) : Kx → Option Int
  | .col j => colI ds j
  | .neg j => (colI ds j).map fun x => -x
  | .zsub j => (colI ds j).map fun x => 0 - x
  | .pl => some k
def Kx.is (r a : Str) : Kx → Expr → Prop
  | .col j, e => j < 100 ∧ ∃ n p1 p2 p3 p4 p5, e = .Subscript (.Subscript (.Name r p1) (.Name a p2) p3) (.Constant (.int j) n p4) p5
  | .neg j, e => j < 100 ∧ ∃ n p1 p2 p3 p4 p5 p6, e = .UnaryOp .USub (.Subscript (.Subscript (.Name r p1) (.Name a p2) p3) (.Constant (.int j) n p4) p5) p6
  | .zsub j, e => j < 100 ∧ ∃ n p1 p2 p3 p4 p5 p6 n2 p7, e = .BinOp (.Constant (.int 0) n2 p7) .Sub (.Subscript (.Subscript (.Name r p1) (.Name a p2) p3) (.Constant (.int j) n p4) p5) p6
  | .pl, e => ∃ p, e = .Name a p
inductive KxAll (r a : Str) : List Kx → List Expr → Prop
  | nil : KxAll r a [] []
  | cons {k : Kx} {ks : List Kx} {e : Expr} {es : List Expr} : k.is r a e → KxAll r a ks es → KxAll r a (k :: ks) (e :: es)
@[simp] def valsK (ds : List PyData) (k : Int) : List Kx → Option (List Int)
  | [] => some []
  | x :: xs => (match x.val ds k, valsK ds k xs with
    | some i, some is => some (i :: is)
    | _, _ => none)
structure LamE (env : Env) (h : Heap) (r a : Str) (k : Int) (l q : Addr) (its us : Array Value) : Prop where
  kind : env.scope.kind = .function
  la : env.kindOf a = some .local
  lr : env.kindOf r = some .free
  na : ∃ m t, h.Ns env.locals m ∧ m a = some (.int k t)
  nr : ∃ c, env.cells.lookup r = some c ∧ h.IsCell c (some (.ref l))
  hl : h.IsList l its
  k0 : 0 ≤ k
  k1 : k < 2 ^ 63
  hx : its[k.toNat]? = some (.ref q)
  hq : PyProof.Rows.IsTup h q us
  da : (a == ("__debug__" : Str)) = false
  dr : (r == ("__debug__" : Str)) = false
  dc : (r == ("__classdict__" : Str)) = false
section
variable {prog : Program} {w : World} {A : Around} {env : Env} {h0 : Heap} {r a : Str} {k : Int} {l q : Addr} {its us : Array Value}
theorem ki_at {p : Pos} (L : LamE env h0 r a k l q its us) : KI prog w A env h0 (.Name a p) (IsI k) := by
  obtain ⟨m, t, h1, h2⟩ := L.na
  exact (ki_local L.kind L.la h1 h2 L.da).imp fun v e => ⟨t, e⟩
theorem ki_col {j n : Nat} {p1 p2 p3 p4 p5 : Pos} {x : Int} (L : LamE env h0 r a k l q its us) (hj : j < 100) (hu : ∃ t, us[j]? = some (.int x t)) : KI prog w A env h0 (.Subscript (.Subscript (.Name r p1) (.Name a p2) p3) (.Constant (.int j) n p4) p5) (IsI x) := by
  obtain ⟨c, h1, h2⟩ := L.nr
  obtain ⟨t, hu⟩ := hu
  exact (ki_itemT (ki_item (ki_free L.kind L.lr h1 h2 L.dr L.dc) (ki_at L) L.hl L.k0 L.k1 L.hx fun _ _ => rfl) ki_const L.hq hj hu fun _ _ => rfl).imp fun v e => ⟨t, e⟩
theorem ki_kx {x : Kx} {e : Expr} {ds : List PyData} {i : Int} (L : LamE env h0 r a k l q its us) (hd : ∀ (j : Nat) (z : Int), ds[j]? = some (PyData.int z) → ∃ t, us[j]? = some (Value.int z t)) (he : x.is r a e) (hv : x.val ds k = some i) : KI prog w A env h0 e (IsI i) := by
  have col : ∀ {j : Nat} {z : Int}, colI ds j = some z → ∃ t, us[j]? = some (Value.int z t) := fun {j z} h => by
    unfold colI at h
    split at h
    · rename_i y hy
      have e : y = z := Option.some.inj h
      exact hd j z (by rw [hy, e])
    · cases h
  cases x with
  | col j =>
    obtain ⟨hj, n, p1, p2, p3, p4, p5, rfl⟩ := he
    exact ki_col L hj (col hv)
  | neg j =>
    obtain ⟨hj, n, p1, p2, p3, p4, p5, p6, rfl⟩ := he
    simp only [Kx.val] at hv
    cases hz : colI ds j with
    | none => rw [hz] at hv; cases hv
    | some z => rw [hz] at hv; cases hv; exact ki_neg (ki_col L hj (col hz))
  | zsub j =>
    obtain ⟨hj, n, p1, p2, p3, p4, p5, p6, n2, p7, rfl⟩ := he
    simp only [Kx.val] at hv
    cases hz : colI ds j with
    | none => rw [hz] at hv; cases hv
    | some z => rw [hz] at hv; cases hv; exact ki_sub ki_const (ki_col L hj (col hz))
  | pl =>
    obtain ⟨p, rfl⟩ := he
    cases hv
    exact ki_at L
theorem kx_plain {x : Kx} {e : Expr} {es : List Expr} (he : x.is r a e) : starEach (e :: es) env = (false, eval e env) :: starEach es env := by
  cases x with
  | col j => obtain ⟨hj, n, p1, p2, p3, p4, p5, rfl⟩ := he; rfl
  | neg j => obtain ⟨hj, n, p1, p2, p3, p4, p5, p6, rfl⟩ := he; rfl
  | zsub j => obtain ⟨hj, n, p1, p2, p3, p4, p5, p6, n2, p7, rfl⟩ := he; rfl
  | pl => obtain ⟨p, rfl⟩ := he; rfl
theorem ki_all {ds : List PyData} {pos : Pos} (L : LamE env h0 r a k l q its us) (hd : ∀ (j : Nat) (z : Int), ds[j]? = some (PyData.int z) → ∃ t, us[j]? = some (Value.int z t)) : ∀ {xs : List Kx} {es : List Expr} {is : List Int}, KxAll r a xs es → valsK ds k xs = some is →
    ∀ (s : Shared) (E : Value → Shared → Prop) (Q : List Value → Shared → Prop), Kp h0 s.heap → (∀ vs h' tk, Kp s.heap h' → PyProof.Rows.IntsAre vs is → Q vs { s with heap := h', toks := tk }) → wpAny (model prog w) A (spliced (backTo pos (starEach es env))) Q E s
  | _, _, is, .nil, hv, s, E, Q, kp, h => by
    cases hv
    exact Calls.spliced_nil (h [] s.heap s.toks (Kp.refl _) .nil)
  | _, _, is, .cons (k := x) (ks := xs) (e := e) (es := es) h1 h2, hv, s, E, Q, kp, h => by
    unfold valsK at hv
    cases e1 : x.val ds k with
    | none => rw [e1] at hv; cases hv
    | some i =>
      cases e2 : valsK ds k xs with
      | none => rw [e1, e2] at hv; cases hv
      | some is' =>
        rw [e1, e2] at hv
        cases hv
        rw [kx_plain h1]
        refine Calls.spliced_cons (ki_kx (prog := prog) (w := w) (A := A) L hd h1 e1 s E _ kp fun v h' tk k1 hi => ?_)
        refine ki_all L hd h2 e2 _ E _ (kp.trans k1) fun vs h2 tk2 k2 hvs => ?_
        obtain ⟨t, rfl⟩ := hi
        exact h _ h2 tk2 (k1.trans k2) (.cons i t hvs)
theorem reads_ints {h : Heap} : ∀ {vs : List Value} {is : List Int}, PyProof.Rows.IntsAre vs is → ReadsAll h vs (is.map PyData.int) []
  | _, _, .nil => .nil
  | _, _, .cons i t r => ReadsAll.cons (as := []) (bs := []) (.int i t) (reads_ints r)
theorem key_body {ds : List PyData} {xs : List Kx} {es : List Expr} {is : List Int} {ctx} {pos : Pos} {s : Shared} {E : Value → Shared → Prop} (L : LamE env h0 r a k l q its us) (hd : ∀ (j : Nat) (z : Int), ds[j]? = some (PyData.int z) → ∃ t, us[j]? = some (Value.int z t)) (hx : KxAll r a xs es) (hv : valsK ds k xs = some is) (hlen : xs.length ≤ 100) (kp : Kp h0 s.heap) :
    wpAny (model prog w) A (eval (.Tuple es ctx pos) env) (fun v s' => PySem.W.KeyPure (.tuple (is.map PyData.int)) s v s') E s := by
  have hl : is.length = xs.length := by
    clear hx hlen
    induction xs generalizing is with
    | nil => cases hv; rfl
    | cons x xs ih =>
      unfold valsK at hv
      cases e1 : x.val ds k with
      | none => rw [e1] at hv; cases hv
      | some i =>
        cases e2 : valsK ds k xs with
        | none => rw [e1, e2] at hv; cases hv
        | some is' => rw [e1, e2] at hv; cases hv; simp [ih e2]
  refine wpAny_Tuple_spliced (ki_all L hd hx hv s E _ kp fun vs h' tk k1 hi => ⟨?_, ?_⟩)
  · have := hi.length
    rw [sizeLine_eq]
    omega
  · refine ⟨_, tk, rfl, fun b o e => Heap.get?_push_of_some _ (k1 b o e), ?_⟩
    exact Reads.tuple (as := []) (Heap.get?_push_size _ rfl) rfl rfl (by rw [List.toList_toArray]; exact reads_ints hi)
end
end Fx
namespace Fx
open PySem L2
variable [Tabz]
structure Ch (H H1 : Hp) : Prop where
  keep : ∀ b o, H b = some o → NT o → H1 b = some o
  dom : ∀ b, H1 b = none → H b = none
theorem Ch.nxt {q : Bool} {σ : St} {ρ : Rho} {Hf H H1 : Hp} (c : Ch H H1) (rp : Rp Hf H σ ρ) (t : Tb H1) : Nxt q σ ρ Hf H σ ρ Hf H1 := by
  have kk : ∀ a, OwnA H σ ρ a ∨ LkA H σ ρ a → H1 a = H a := fun a z => by
    obtain ⟨u, hu, tu⟩ := rp.liv z
    rw [hu]; exact c.keep a u hu tu
  refine ⟨Same.refl _, fun a o h n _ => c.keep a o h n, fun a ⟨i, z⟩ => .inl ⟨i, (rp.ownI_iff (fun b y => kk b (.inl ⟨i, y⟩)) a).mp z⟩, fun a z => rp.lka_of (fun b y => kk b (.inr y)) z, c.dom, fun _ z => .inl z, fun _ => ⟨fun i t e => ⟨e, rfl, fun a z => kk a (.inl ⟨i, z⟩)⟩, .refl⟩, rp.grow (Same.refl _) (fun b o e => c.keep b o (rp.sub b o e) fun ps z => rp.nt b ps (z ▸ e)) t rp.nt (fun a z => ⟨(rp.own z).1, kk a (.inl z)⟩) fun a z => kk a (.inr z)⟩
section
variable {X : Cx} {pins : List (Addr × Obj)} {σ : St} {H : Hp} {s : Shared}
theorem codeO_nt {c : Addr} {q : Str} : NT (LamX.CodeO c q) := fun ps => LamX.codeO_ne ps
theorem lam_mk {c P : Addr} {params : Arguments} {body : Expr} {scope : Scope} {pos : Pos} {E Q : Value → Shared → Prop} (I : Inv X pins σ H s) (TB : LamX.TabB X.base X.mg c P) (hcode : X.env.code = .ref c) (hm : (P, X.env.qual ++ "<lambda>") ∈ Tabz.T) (hu : ∀ p ∈ Tabz.T, p.1 = P → p.2 = X.env.qual ++ "<lambda>") (hT : Tb H)
    (hdef : defaultsOf params X.env = ([], [])) (hfree : ∀ y ∈ scope.names, y.2 = .free → ∃ c, X.env.cells.lookup y.1 = some c)
    (go : ∀ (f c' : Addr) (pm ctv : Value) (H1 : Hp) (s1 : Shared), Inv X pins σ H1 s1 → Ch H H1 → Tb H1 → s1.heap.get? f = some (PySem.W.kla_obj "<lambda>" (X.env.qual ++ "<lambda>") params body scope (cloFrom X.env.cells scope.names []) pm c' ctv) →
      H1 c' = some (LamX.CodeO c' (X.env.qual ++ "<lambda>")) → Q (.ref f) s1) :
    wpAny (model X.prog X.w) X.A (eval (.Lambda params body scope pos) X.env) Q E s := by
  obtain ⟨ps, tP, tOk, tAll⟩ := hT _ hm
  have gP : s.heap.get? P = some { cls := .none, data := .fields ps } := I.hok P _ tP
  refine PySem.W.kla_eval hdef ?_
  rcases hc : codeAmong pos ps.toList with _ | cv
  · -- a new code object, told in the table
    refine PySem.W.kla_makeFunction (mg := X.mg) (c := c) (P := P) (ps := ps) (closure_ok hfree) I.ok.glob (I.mod.glob.keeps I.bk) hcode (TB.code.keeps I.bk) gP tOk hc TB.gP (TB.bm.keeps I.bk) ?_
    intro c2 ctv h2 tk ext lo hi rec_ tab
    obtain ⟨c3, oc, vs, t, ec, g1, g2, g3⟩ := rec_
    cases ec
    have fr : H c2 = none := I.hok.fresh lo
    have J := LamX.inv_table (t' := tk) (h' := h2.push (PySem.W.kla_obj "<lambda>" (X.env.qual ++ "<lambda>") params body scope (cloFrom X.env.cells scope.names []) ((X.mg "__name__").getD .none) c2 ctv)) (more := #[rawInt pos.line, rawInt pos.col, .ref c2]) I tP
      (fun b o hb e => Heap.get?_push_of_some _ (ext b o hb e)) (Heap.get?_push_of_some _ tab) lo ⟨oc, vs, t, Heap.get?_push_of_some _ g1, g2, g3⟩
    have ch : Ch H (upd (upd H P (.tbl (ps ++ #[rawInt pos.line, rawInt pos.col, .ref c2]))) c2 (LamX.CodeO c2 (X.env.qual ++ "<lambda>"))) := by
      constructor
      · intro b o e n
        have n1 : b ≠ c2 := ne_of_none e fr
        have n2 : b ≠ P := fun z => n ps (by rw [z, tP] at e; exact (Option.some.inj e).symm)
        rw [upd_ne n1, upd_ne n2, e]
      · intro b e
        by_cases z1 : b = c2
        · rw [z1]; exact fr
        · rw [upd_ne z1] at e
          by_cases z2 : b = P
          · rw [z2, upd_same] at e; cases e
          · rw [upd_ne z2] at e; exact e
    refine go _ c2 _ ctv _ _ J ch (fun p hp => ?_) (Heap.get?_push_size _ rfl) upd_same
    have el : (ps ++ #[rawInt pos.line, rawInt pos.col, .ref c2]).toList = ps.toList ++ [rawInt pos.line, rawInt pos.col, .ref c2] := by simp
    by_cases z : p.1 = P
    · rw [z, hu p hp z]
      refine ⟨_, by rw [upd_ne (ne_of_none tP fr), upd_same], by rw [el]; exact PySem.TriplesOk_snoc _ _ _ _ tOk, ?_⟩
      intro q cv hq
      rw [el] at hq
      rcases LamX.among_app _ tOk hq with y | y
      · obtain ⟨c4, y1, y2⟩ := tAll q cv y
        exact ⟨c4, y1, ch.keep _ _ y2 codeO_nt⟩
      · exact ⟨c2, y, upd_same⟩
    · obtain ⟨qs, y1, y2, y3⟩ := hT p hp
      refine ⟨qs, by rw [upd_ne (ne_of_none y1 fr), upd_ne z]; exact y1, y2, ?_⟩
      intro q cv hq
      obtain ⟨c4, y4, y5⟩ := y3 q cv hq
      exact ⟨c4, y4, ch.keep _ _ y5 codeO_nt⟩
  · obtain ⟨c2, rfl, known⟩ := tAll pos cv hc
    refine PySem.W.kla_makeFunctionHit (mg := X.mg) (c := c) (P := P) (ps := ps) (closure_ok hfree) I.ok.glob (I.mod.glob.keeps I.bk) hcode (TB.code.keeps I.bk) gP tOk hc (TB.bm.keeps I.bk) ?_
    intro ctv h2 tk ext hi
    exact go _ c2 _ ctv H _ (I.kept fun b o e => Heap.get?_push_of_some _ (ext b o e)) ⟨fun _ _ e _ => e, fun _ e => e⟩ hT (Heap.get?_push_size _ rfl) known
theorem clo_look {cells : List (Str × Addr)} {names : List (Str × NameKind)} {r : Str} {c : Addr} (hn : names.lookup r = some .free) (hc : cells.lookup r = some c) : (cloFrom cells names []).lookup r = some c := by
  obtain ⟨c2, e⟩ := mem_lookup (cloFrom_has (cells := cells) (acc := []) (PySem.mem_of_lookup hn))
  rcases cloFrom_mem (PySem.mem_of_lookup e) with z | ⟨_, z⟩
  · cases z
  · rw [e, z, hc]
    rfl
end
@[simp] def lexLe : List Int → List Int → Bool
  | [], _ => true
  | _ :: _, [] => false
  | a :: as, b :: bs => decide (a < b) || (decide (a = b) && lexLe as bs)
@[simp] def keyOf (kx : List Kx) (rows : List PyData) (k : Int) : Option (List Int) := if 0 ≤ k then (match rows[k.toNat]? with
  | some (.tuple ds) => valsK ds k kx
  | _ => none) else none
@[simp] def keyI (kx : List Kx) (rows : List PyData) (k : Int) : List Int := (keyOf kx rows k).getD []
noncomputable def sortKy (kx : List Kx) (rows : List PyData) (ns : List Int) : List Int := ns.mergeSort fun a b => lexLe (keyI kx rows a) (keyI kx rows b)
theorem lexLt_ints : ∀ xs ys : List Int, (!PyProof.Rows.lexLt PyProof.Rows.itemOrd (PySem.W.keyToksAll (ys.map PyData.int)) (PySem.W.keyToksAll (xs.map PyData.int))) = lexLe xs ys := by
  intro xs
  induction xs with
  | nil => intro ys; cases ys <;> simp [PySem.W.keyToksAll, PyProof.Rows.lexLt, PyProof.Rows.itemLt, PySem.W.keyToks]
  | cons x xs ih =>
    intro ys
    cases ys with
    | nil => simp [PySem.W.keyToksAll, PyProof.Rows.lexLt, PyProof.Rows.itemLt, PySem.W.keyToks]
    | cons y ys =>
      simp only [List.map_cons, PySem.W.keyToksAll, PySem.W.keyToks, List.cons_append, List.nil_append, lexLe, ← ih ys]
      simp only [PyProof.Rows.lexLt, PyProof.Rows.itemLt, decide_false, Bool.false_or, Bool.not_false, Bool.true_and, Int.lt_irrefl]
      by_cases h1 : x < y
      · have h2 : ¬ y < x := by omega
        simp [h1, h2]
      · by_cases h2 : x = y
        · simp [h2]
        · have h3 : y < x := by omega
          simp [h1, h2, h3]
theorem dataLe_ints {k : Int → List Int} (a b : Int) : PySem.W.dataLe false (fun n => PyData.tuple ((k n).map PyData.int)) a b = lexLe (k a) (k b) := by
  show (!PyProof.Rows.lexLt PyProof.Rows.itemOrd (PySem.W.keyToks (PyData.tuple ((k b).map PyData.int))) (PySem.W.keyToks (PyData.tuple ((k a).map PyData.int)))) = _
  rw [← lexLt_ints]
  simp only [PySem.W.keyToks]
theorem alike_ints : ∀ xs ys : List Int, PySem.W.alikeAll (xs.map PyData.int) (ys.map PyData.int) = true
  | [], _ => by simp [PySem.W.alikeAll]
  | _ :: _, [] => by simp [PySem.W.alikeAll]
  | x :: xs, y :: ys => by simp [PySem.W.alikeAll, PySem.W.alike, alike_ints xs ys]
theorem depth_ints : ∀ xs : List Int, PyData.depthAll (xs.map PyData.int) ≤ 1
  | [] => by simp [PyData.depthAll]
  | x :: xs => by
    have := depth_ints xs
    simp only [List.map_cons, PyData.depthAll, PyData.depth]
    omega
@[simp] noncomputable def oSortK (kx : List Kx) (r d : PyData) : Option (List PyData) := match r, d with
  | .list rs, .list ds => (match asInts ds with
    | some ns => if ns.all fun k => (keyOf kx rs k).isSome then some ((sortKy kx rs ns).map PyData.int) else none
    | none => none)
  | _, _ => none
@[simp] noncomputable def fSortK (i : Nat) (kx : List Kx) (f : M PyData) : M (List PyData) := fun ρ => (bnd f fun d ρ1 => match (ρ1[i]? : Option Sl) with
  | some (.fz r) => opt (oSortK kx r d) ρ1
  | _ => .bad) ρ
theorem oSortK_some {kx : List Kx} {r d : PyData} {xs : List PyData} (h : oSortK kx r d = some xs) : ∃ rs ds ns, r = .list rs ∧ d = .list ds ∧ asInts ds = some ns ∧ (∀ k ∈ ns, ∃ q, keyOf kx rs k = some q) ∧ xs = (sortKy kx rs ns).map PyData.int := by
  unfold oSortK at h
  split at h
  · rename_i rs ds
    split at h
    · rename_i ns hn
      split at h
      · rename_i ha
        refine ⟨rs, ds, ns, rfl, rfl, hn, fun k hk => ?_, (Option.some.inj h).symm⟩
        exact Option.isSome_iff_exists.mp (List.all_eq_true.mp ha k hk)
      · cases h
    · cases h
  · cases h
theorem keyOf_some {kx : List Kx} {rs : List PyData} {k : Int} {q : List Int} (h : keyOf kx rs k = some q) : 0 ≤ k ∧ ∃ ds, rs[k.toNat]? = some (.tuple ds) ∧ valsK ds k kx = some q := by
  unfold keyOf at h
  split at h
  · rename_i h0
    split at h
    · rename_i ds e
      exact ⟨h0, ds, e, h⟩
    · cases h
  · cases h
theorem valsK_len {ds : List PyData} {k : Int} : ∀ {xs : List Kx} {is : List Int}, valsK ds k xs = some is → is.length = xs.length
  | [], is, h => by cases h; rfl
  | x :: xs, is, h => by
    unfold valsK at h
    cases e1 : x.val ds k with
    | none => rw [e1] at h; cases h
    | some i =>
      cases e2 : valsK ds k xs with
      | none => rw [e1, e2] at h; cases h
      | some is' =>
        rw [e1, e2] at h
        cases h
        simp [valsK_len e2]
theorem vals_at : ∀ {vs : List V} {us : List Value} {j : Nat} {v : V}, Vals vs us → vs[j]? = some v → ∃ u, us[j]? = some u ∧ RelV v u
  | _, _, _, _, .nil, e => by simp at e
  | _, _, 0, _, .cons r _, e => by
    have q := Option.some.inj e
    subst q
    exact ⟨_, rfl, r⟩
  | _, _, j + 1, v, .cons _ t, e => vals_at (j := j) (v := v) t e
theorem vals_each : ∀ {ns : List Int} {us : List Value}, Vals (ns.map V.int) us → PySem.W.EachIs (fun v (k : Int) => IsI k v) us ns
  | [], _, .nil => .nil
  | n :: ns, _, .cons r t => by
    obtain ⟨k, rfl⟩ := r
    exact .cons ⟨k, rfl⟩ (vals_each t)
theorem each_vals : ∀ {ns : List Int} {us : List Value}, PySem.W.EachIs (fun v (k : Int) => IsI k v) us ns → Vals (ns.map V.int) us
  | _, _, .nil => .nil
  | _, _, .cons r t => by
    obtain ⟨k, rfl⟩ := r
    exact .cons ⟨k, rfl⟩ (each_vals t)
section
variable {X : Cx} {G : Gx} {e : Expr} {f : M PyData} {pos lp p kp : Pos} {params : Arguments} {scope : Scope} {es : List Expr} {ctx : Nat} {bp : Pos} {r a : Str} {kx : List Kx} {c P : Addr} {k : Nat}
theorem fl_sortK (i : Nat) (hN : X.N[i]? = some r) (hX : KxAll r a kx es) (hk0 : kx ≠ []) (hkl : kx.length ≤ 100) (hg : Gl X "sorted") (hm : X.mg "sorted" = none) (hr : Room k X.A) (TB : LamX.TabB X.base X.mg c P) (hcode : X.env.code = .ref c)
    (hmT : (P, X.env.qual ++ "<lambda>") ∈ Tabz.T) (hu : ∀ p ∈ Tabz.T, p.1 = P → p.2 = X.env.qual ++ "<lambda>") (hdef : defaultsOf params X.env = ([], []))
    (hbind : ∀ (q : Str) (cl : List (Str × Addr)) (pm cv ctv u : Value), bindArgs (PySem.W.kla_fn "<lambda>" q params (.Tuple es ctx bp) scope cl pm cv ctv) ⟨[u], []⟩ = pure [(a, u)])
    (s1 : scope.kind = .function) (s2 : scope.isCoroutine = false) (s3 : scope.isGenerator = false) (s4 : ∀ y ∈ scope.names, y.2 ≠ .cell) (s5 : scope.names.lookup a = some .local) (s6 : scope.names.lookup r = some .free) (s7 : ∀ y ∈ scope.names, y.2 = .free → y.1 = r) (s8 : X.env.scope.names.lookup r = some .cell)
    (he : PE X e (tE G f)) (da : (a == ("__debug__" : Str)) = false := by decide) (dr : (r == ("__debug__" : Str)) = false := by decide) (dc : (r == ("__classdict__" : Str)) = false := by decide)
    (hst : starEach [e] X.env = (false, eval e X.env) :: starEach [] X.env := by rfl) :
    PE X (.Call (.Name "sorted" p) [e] [⟨some "key", .Lambda params (.Tuple es ctx bp) scope lp, kp⟩] pos) (tL G (fSortK i kx f)) := by
  refine ⟨fun pins s σ H Q I h => ?_⟩
  obtain ⟨Hf, ρ, rp, af⟩ := h
  refine wpAny_Call_Name_kw (ld_blt (u := .builtin "sorted") I hg hm (by decide +kernel) ?_)
  refine PyProof.Rows.callWith_kw (env := X.env) (pos := pos) (e := e) (rest := []) (kws := [⟨some "key", .Lambda params (.Tuple es ctx bp) scope lp, kp⟩]) ?_ (by rw [hst]; rfl) (by rw [hst]; rfl) rfl rfl
  rw [hst]
  have go := he.run pins s σ H _ I (stepL (R1 := Rep) rp af)
  refine Calls.spliced_cons (thn go fun v sa ⟨x, H1, I1, rx, d, Hf1, ρ1, n1, rd, af1⟩ => Calls.spliced_nil ?_)
  -- the captured list, the list that is sorted
  cases eslot : (ρ1[i]? : Option Sl) with
  | none => simp only [eslot] at af1; exact False.elim af1
  | some sl =>
    cases sl with
    | un => simp only [eslot] at af1; exact False.elim af1
    | ow ds => simp only [eslot] at af1; exact False.elim af1
    | raw z => simp only [eslot] at af1; exact False.elim af1
    | tr z => simp only [eslot] at af1; exact False.elim af1
    | lk z => simp only [eslot] at af1; exact False.elim af1
    | pa _ _ => simp only [eslot] at af1; exact False.elim af1
    | fz rr =>
      simp only [eslot, opt] at af1
      cases eo : oSortK kx rr d with
      | none => rw [eo] at af1; exact False.elim af1
      | some xs =>
        rw [eo] at af1
        obtain ⟨rs, ds, ns, rfl, rfl, hns, hkey, rfl⟩ := oSortK_some eo
        obtain ⟨rv, hσ, rrep⟩ := slok_fz' (n1.rp.sl i _ eslot)
        cases rd with
        | @lst l vs _ hl1 hl2 =>
          cases rx
          cases rrep with
          | @lst lr ws _ hr1 hr2 =>
            have evs := asInts_rep hl2 hns
            -- the lambda is made
            have hfree : ∀ y ∈ scope.names, y.2 = .free → ∃ c, X.env.cells.lookup y.1 = some c := fun y hy z => by
              rw [s7 y hy z]
              exact I1.ok.has _ (.inl s8)
            refine PyProof.Rows.evalAll_cons ?_
            show wpAny _ _ (do let v ← eval (.Lambda params (.Tuple es ctx bp) scope lp) X.env; standAt pos; pure v) _ _ sa
            refine wpAny_bind (lam_mk (Q := fun v s' => wpAny (model X.prog X.w) X.A (do standAt pos; pure v) _ _ s') I1 TB hcode hmT hu n1.rp.tb hdef hfree fun f' c' pm ctv H2 sb I2 ch t2 hf hc' => ?_)
            refine wpAny_bind (wpAny_standAt (wpAny_pure ?_))
            refine wpAny_evalAll_nil ?_
            have n2 := n1.trans (ch.nxt n1.rp t2)
            have sub2 : Same Hf1 H2 := n2.rp.sub
            obtain ⟨its, rits, plits, lz⟩ := I2.list (SqL.of (sub2 _ _ hl1))
            obtain ⟨wts, rwts, plw, lzw⟩ := I2.list (SqL.of (sub2 _ _ hr1))
            rw [evs] at rits
            show wpAny _ _ (call (.builtin "sorted") [.ref l] [(Str.ofString "key", .ref f')]) _ _ sb
            have kv : ∀ n ∈ ns, ∃ q ds, keyI kx rs n = q ∧ 0 ≤ n ∧ rs[n.toNat]? = some (.tuple ds) ∧ valsK ds n kx = some q := fun n hn => by
              obtain ⟨q, hq⟩ := hkey n hn
              obtain ⟨h1, ds, h2, h3⟩ := keyOf_some hq
              exact ⟨q, ds, by unfold keyI; rw [hq]; rfl, h1, h2, h3⟩
            refine PySem.W.sorted_key_data (b := false) (R := fun v k => IsI k v) (bs := ns) (vs := its) (fun n => PyData.tuple ((keyI kx rs n).map PyData.int)) plits.isList (vals_each rits) ?hal ?hsk ?hL ?hun (PyProof.Rows.ksk_s1 _ _) (fun x => PyProof.Rows.ksk_l1 _ _) (fun x => PyProof.Rows.ksk_t1 _ _) ?turn ?fin
            case hal =>
              intro d1 h1 d2 h2
              obtain ⟨a1, _, rfl⟩ := List.mem_map.mp h1
              obtain ⟨a2, _, rfl⟩ := List.mem_map.mp h2
              simp only [PySem.W.alike, alike_ints]
            case hsk =>
              refine .inl fun d1 h1 => ?_
              obtain ⟨n, hn, rfl⟩ := List.mem_map.mp h1
              obtain ⟨q, ds, e1, _, _, e2⟩ := kv n hn
              rw [e1]
              have := valsK_len e2
              cases q with
              | nil => exact absurd (List.length_eq_zero_iff.mp this.symm) hk0
              | cons z zs => exact ⟨_, _, rfl⟩
            case hL =>
              have := rits.length
              have h3 : vs.length = ns.length := by rw [evs, List.length_map]
              omega
            case hun =>
              intro n hn
              have h1 := hr.un
              have h2 := depth_ints (keyI kx rs n)
              simp only [PyData.depth]
              omega
            case turn =>
              intro v n hv hn h tk kp
              obtain ⟨t, rfl⟩ := hv
              obtain ⟨q, ds, e1, k0, hrow, hvals⟩ := kv n hn
              obtain ⟨wv, ew, rwv⟩ := repA_get hr2 hrow
              cases rwv with
              | @tup qa us _ hq1 hq2 =>
                obtain ⟨uts, ruts, tups, _⟩ := I2.tuple (SqT.of (sub2 _ _ hq1))
                obtain ⟨wu, ewu, rwu⟩ := vals_at rwts ew
                cases rwu
                obtain ⟨m, hnm, hloc⟩ := I2.loc
                obtain ⟨u, ru, cc⟩ := hloc i r (.ref lr) hN hσ (.inr (.inl s8))
                cases ru
                obtain ⟨⟨ocd, cvs, ct, hoc, hdc, hvc⟩, _, _⟩ := I2.hok c' _ hc'
                have J : Inv X pins σ H2 { sb with heap := h, toks := tk } := I2.kept kp
                rcases cc with ⟨hk, _⟩ | ⟨_, c0, hc0, hcell⟩
                · have hk : X.env.scope.names.lookup r = some .local := hk
                  rw [s8] at hk
                  cases hk
                · refine wpAny_call (PySem.W.kla_callFunE (show X.A.depth < recursionLimit from hr.depth) (kp _ _ hf) rfl s2 s3 rfl ⟨c', ocd, cvs, ct, rfl, kp _ _ hoc, hdc, hvc⟩ ?_)
                  rw [hbind]
                  refine wpAny_pure (wpAny_newFunctionEnv (fun y hy => s4 y hy) (fun y hy => by
                    rw [List.mem_singleton.mp hy]
                    exact s5) (fun h₁ hns hsb => ⟨J.nolimit.fresh _ hsb, ?_⟩) s1)
                  have kp1 : Kp h h₁ := fun b o z => hsb.extBut b o (Nat.ne_of_lt (Heap.lt_size z)) (Heap.get?_push_of_some _ z)
                  have kp2 : Kp sb.heap h₁ := fun b o z => kp1 b o (kp b o z)
                  have hlen : n.toNat < rs.length := by
                    rcases Nat.lt_or_ge n.toNat rs.length with z | z
                    · exact z
                    · rw [List.getElem?_eq_none z] at hrow; cases hrow
                  have hz := line63
                  have hws := repA_len hr2
                  refine PySem.W.kla_codeExpr (wpAny_mono (key_body (E := fun _ _ => False) (h0 := h₁) (r := r) (a := a) (k := n) (l := lr) (q := qa) (its := wts.toArray) (us := uts.toArray) ⟨s1, s5, s6, ⟨_, t, hns, by simp⟩, ⟨c0, clo_look s6 hc0, hcell.keeps kp2⟩, isList_keeps plw.isList kp2, k0, by omega, by simpa using ewu, tups.keeps kp2, da, dr, dc⟩ (fun j z hj => ?_) hX hvals hkl (Kp.refl _)) (fun v s' hq => ?_) fun _ _ z => z.elim)
                  · obtain ⟨w1, ew1, rw1⟩ := repA_get hq2 hj
                    cases rw1
                    obtain ⟨w2, ew2, ⟨t2, rfl⟩⟩ := vals_at ruts ew1
                    exact ⟨t2, by simpa using ew2⟩
                  · obtain ⟨h3, tk3, rfl, kp3, rd3⟩ := hq
                    have e1' : keyI kx rs n = q := e1
                    exact ⟨h3, tk3, rfl, kp1.trans kp3, by rw [e1']; exact rd3⟩
            case fin =>
              intro out oc h' tk keep fresh hat hlen each
              have each : PySem.W.EachIs (fun v (k : Int) => IsI k v) out (sortKy kx rs ns) := by
                unfold sortKy
                have e : (fun a b => lexLe (keyI kx rs a) (keyI kx rs b)) = PySem.W.dataLe false (fun n => PyData.tuple ((keyI kx rs n).map PyData.int)) := by
                  funext a b
                  rw [dataLe_ints]
                rw [e]
                exact each
              have rout := each_vals each
              have hp : H2 (sb.heap.objs.size + 1) = none := I2.hok.fresh (Nat.le_succ _)
              refine ⟨.ref (sb.heap.objs.size + 1), upd H2 (sb.heap.objs.size + 1) (.lst ((sortKy kx rs ns).map V.int)), I2.laidN (t' := tk) keep fresh hp ?_, rfl, ?_⟩
              · refine ⟨?_, out, oc, rout, hat⟩
                have := rits.length
                have h3 : vs.length = ns.length := by rw [evs, List.length_map]
                have h4 := rout.length
                rw [List.length_map] at h4
                rw [List.length_map]
                omega
              · have m2 := ch.nxt (q := G.q) n1.rp t2
                have nn := m2.rp.newO (q := G.q) (o := .lst ((sortKy kx rs ns).map V.int)) hp
                exact af1 _ _ Hf1 _ (m2.trans nn) (.inl (ch.dom _ hp)) (sub2.free hp) (m2.rp.notOwnU hp) upd_same (repA_ints _)
end
end Fx
namespace Fx
open PySem L2
variable [Tabz]
section
variable {X : Cx} {G : Gx} {e a b : Expr} {es : List Expr} {f g : M PyData} {pos : Pos} {A B : Opd} {As : List Opd}
theorem tp_tab {fa : List Fq} {fn : List He.FnD} {tf : List Str} {K : PySem.W.Frag} {mg : Str → Option Value} {base : Heap} (T : Tp fa fn tf K mg base) {x : Str} (hx : x ∈ tf) : ((He.cT K (x, none)).2, lamQ x) ∈ Tabz.T ∧ ∀ p ∈ Tabz.T, p.1 = (He.cT K (x, none)).2 → p.2 = lamQ x := by
  rw [T.tz]
  refine ⟨List.mem_map.mpr ⟨x, hx, rfl⟩, fun p hp hq => ?_⟩
  obtain ⟨y, hy, rfl⟩ := List.mem_map.mp hp
  have e : ∀ (l : List Str), (l.map fun x => (He.cT K (x, none)).2).Nodup → x ∈ l → y ∈ l → (He.cT K (y, none)).2 = (He.cT K (x, none)).2 → y = x := by
    intro l
    induction l with
    | nil => intro _ h; cases h
    | cons z zs ih =>
      intro nd h1 h2 h3
      rw [List.map_cons, List.nodup_cons] at nd
      rcases List.mem_cons.mp h1 with r1 | r1 <;> rcases List.mem_cons.mp h2 with r2 | r2
      · rw [r1, r2]
      · exact absurd (List.mem_map.mpr ⟨y, r2, by rw [h3, r1]⟩) nd.1
      · exact absurd (List.mem_map.mpr ⟨x, r1, by rw [← h3, r2]⟩) nd.1
      · exact ih nd.2 r1 r2 h3
  rw [e tf T.tnd hx hy hq]
theorem cd_code {K : PySem.W.Frag} {x : Str} {cdv : Value} (h : CdIs K (He.ga K x) cdv) : cdv = .ref (He.cT K (x, none)).1 := by
  obtain ⟨oc, od, fd, osl, lk, ec, c, rfl⟩ := h
  have := He.codeOf_eq (p := (x, none)) lk ec
  show Value.ref c = .ref (He.codeOf K (x, none))
  rw [this]
@[simp] def oLr1 (d : PyData) : Option (List PyData) := match d with
  | .int n => if small n.natAbs then some ((List.range n.toNat).map fun i => PyData.int (i : Nat)) else none
  | _ => none
@[simp] def fLr1 (f : M PyData) : M (List PyData) := fun ρ => (bnd f fun d => opt (oLr1 d)) ρ
theorem fl_lrange1 {p p2 q : Pos} (hc : X.calm = true) (hg : Gl X "list") (hm : X.mg "list" = none) (hg2 : Gl X "range") (hm2 : X.mg "range" = none) (he : PE X e (tE G f)) (na : starEach [e] X.env = (false, eval e X.env) :: starEach [] X.env := by rfl) :
    PE X (.Call (.Name "list" p) [.Call (.Name "range" p2) [e] [] q] [] pos) (tL G (fLr1 f)) := by
  refine (pe_listRg hc hg hm (prg_1 hg2 hm2 he na) rfl).imp fun σ H Q ⟨Hf, ρ, rp, af⟩ => ?_
  refine (stepL (R1 := Rep) rp af).mono fun x H1 ⟨d, Hf1, ρ1, n1, rd, af1⟩ => ?_
  cases d <;> simp only [oLr1, opt] at af1 <;> first | exact False.elim af1 | skip
  rename_i n
  have e := rep_int rd
  subst e
  split at af1
  · rename_i xs hs
    split at hs
    · rename_i hsm
      cases hs
      have h1 : _ ≤ 100000 := of_decide_eq_true hsm
      refine ⟨n, rfl, ⟨by omega, by omega, by omega, by omega, by omega⟩, fun q hq => ?_⟩
      exact af1 q _ Hf1 _ (n1.rp.newO hq) (.inl hq) (n1.rp.sub.free hq) (n1.rp.notOwnU hq) upd_same (by
        unfold rgV
        rw [Int.sub_zero]
        have : ((List.range n.toNat).map fun i => V.int (0 + (i : Nat))) = ((List.range n.toNat).map fun i : Nat => (i : Int)).map V.int := by simp
        rw [this]
        have e2 : ((List.range n.toNat).map fun i => PyData.int (i : Nat)) = ((List.range n.toNat).map fun i : Nat => (i : Int)).map PyData.int := by simp
        rw [e2]
        exact repA_ints _)
    · cases hs
  · exact False.elim af1
noncomputable def sortI (ns : List Int) : List Int := ns.mergeSort fun a b => decide (a ≤ b)
@[simp] noncomputable def oSortI : List PyData → Option (List PyData)
  | [.list ds] => (asInts ds).map fun ns => (sortI ns).map PyData.int
  | _ => none
@[simp] def oRev (d : PyData) : Option (List PyData) := match d with
  | .list ds => some ds.reverse
  | _ => none
@[simp] def fRev (f : M PyData) : M (List PyData) := fun ρ => (bnd f fun d => opt (oRev d)) ρ
theorem repA_rev {H : Hp} {vs : List V} {ds : List PyData} (h : RepA H vs ds) : RepA H vs.reverse ds.reverse := by
  induction ds generalizing vs with
  | nil => cases h; exact .nil
  | cons d ds ih =>
    cases h with
    | cons h1 h2 =>
      rw [List.reverse_cons, List.reverse_cons]
      exact repA_append (ih h2) (.cons h1 .nil)
theorem fl_rev {k : Nat} {p1 p2 p3 : Pos} (he : PE X e (tE G f)) : PE X (.Subscript e (.Slice none none (some (.UnaryOp .USub (.Constant (.int 1) k p1) p2)) p3) pos) (tL G (fRev f)) := by
  refine (pe_revL he).imp fun σ H Q ⟨Hf, ρ, rp, af⟩ => ?_
  refine (stepL (R1 := Rep) rp af).mono fun x H1 ⟨d, Hf1, ρ1, n1, rd, af1⟩ => ?_
  cases rd with
  | @lst l vs ds h1 h2 =>
    refine ⟨l, vs, rfl, SqL.of (n1.rp.sub _ _ h1), fun q hq => ?_⟩
    exact af1 q _ Hf1 _ (n1.rp.newO hq) (.inl hq) (n1.rp.sub.free hq) (n1.rp.notOwnU hq) upd_same (repA_rev h2)
  | tup _ _ => exact False.elim af1
  | non => exact False.elim af1
  | ins _ _ _ => exact False.elim af1
  | dct _ _ _ => exact False.elim af1
  | bl _ => exact False.elim af1
  | int _ => exact False.elim af1
  | str _ => exact False.elim af1
def maxI : List Int → Option Int
  | [] => none
  | x :: xs => some (xs.foldl (fun a b => if b > a then b else a) x)
def minI : List Int → Option Int
  | [] => none
  | x :: xs => some (xs.foldl (fun a b => if b < a then b else a) x)
theorem foldMax : ∀ (xs : List Int) (x : Int), (xs.foldl (fun a b => if b > a then b else a) x ∈ x :: xs) ∧ ∀ y ∈ x :: xs, y ≤ xs.foldl (fun a b => if b > a then b else a) x
  | [], x => ⟨by simp, by simp⟩
  | z :: zs, x => by
    obtain ⟨h1, h2⟩ := foldMax zs (if z > x then z else x)
    simp only [List.foldl_cons]
    refine ⟨?_, fun y hy => ?_⟩
    · rcases List.mem_cons.mp h1 with e | e
      · rw [e]; split <;> simp
      · simp [e]
    · have h3 := h2 _ List.mem_cons_self
      have h4 : x ≤ (if z > x then z else x) := by split <;> omega
      have h5 : z ≤ (if z > x then z else x) := by split <;> omega
      rcases List.mem_cons.mp hy with e | e
      · rw [e]; omega
      · rcases List.mem_cons.mp e with e | e
        · rw [e]; omega
        · exact h2 y (List.mem_cons_of_mem _ e)
theorem foldMin : ∀ (xs : List Int) (x : Int), (xs.foldl (fun a b => if b < a then b else a) x ∈ x :: xs) ∧ ∀ y ∈ x :: xs, xs.foldl (fun a b => if b < a then b else a) x ≤ y
  | [], x => ⟨by simp, by simp⟩
  | z :: zs, x => by
    obtain ⟨h1, h2⟩ := foldMin zs (if z < x then z else x)
    simp only [List.foldl_cons]
    refine ⟨?_, fun y hy => ?_⟩
    · rcases List.mem_cons.mp h1 with e | e
      · rw [e]; split <;> simp
      · simp [e]
    · have h3 := h2 _ List.mem_cons_self
      have h4 : (if z < x then z else x) ≤ x := by split <;> omega
      have h5 : (if z < x then z else x) ≤ z := by split <;> omega
      rcases List.mem_cons.mp hy with e | e
      · rw [e]; omega
      · rcases List.mem_cons.mp e with e | e
        · rw [e]; omega
        · exact h2 y (List.mem_cons_of_mem _ e)
@[simp] def oMaxL : List PyData → Option PyData
  | [.list ds] => (match asInts ds with
    | some ns => (maxI ns).map PyData.int
    | none => none)
  | _ => none
@[simp] def oMinL : List PyData → Option PyData
  | [.list ds] => (match asInts ds with
    | some ns => (minI ns).map PyData.int
    | none => none)
  | _ => none
end
end Fx
namespace Fx
open PySem PyProof.Rows L2
abbrev sO (w : World) : Obj := { cls := .type "set", dict := none, data := .set #[] 0 (.fresh 0 0 (!w.params.followText "set-order")) }
section
variable {P : Program} {w : World} {A : Around} {E : Value → Shared → Prop} {s : Shared}
theorem set_ofL {l : Addr} {its : Array Value} (ns : List Int) {Q : Value → Shared → Prop} (hh : A.handled = none) (hl : s.heap.IsList l its) (hi : IntsAre its.toList ns) (hb : ns.length + 1 < scanBound)
    (go : ∀ (h2 : Heap) (tk c : Nat), SetR w h2 s.heap.objs.size (fun j => decide (j ∈ ns)) c → c ≤ ns.length → Kp s.heap h2 → Q (.ref s.heap.objs.size) { s with heap := h2, toks := tk }) :
    wpAny (model P w) A (call (.type "set") [.ref l]) Q E s := by
  have sz : its.size = ns.length := by
    have z := IntsAre.length hi
    rwa [Array.length_toList] at z
  obtain ⟨mc, mt, mro⟩ := F.called_set.mro
  have y1 := F.called_set.made
  have y2 := F.called_set.sub
  have y3 := F.called_set.notType
  have y4 := F.called_set.canCreate
  have y5 := F.typeCall_set_1 (.ref l)
  refine wpAny_call (codeAny_of_tree (show wpAny _ _ (callAny (.type "set") _) _ _ _ from ?_))
  refine wpAny_pure ⟨Code.quiet_builtin _ (by decide +kernel), ?_⟩
  refine codeAny_builtin F.entry_type_call ?_
  rw [Around.under_plain (weight_type_call_type "set" [.ref l] []) (by rfl)]
  repeat any_goals first | wp_step | assumption
  refine codeAny_mono (code_set_led1 (.ref l) (E := E) (Q₁ := fun v s' => v = .ref s.heap.objs.size ∧ s' = { s with heap := s.heap.push (sO w) }) ⟨rfl, rfl⟩) fun res s' hres => ?_
  rcases res with er | fl
  · exact hres
  cases fl with
  | ret v =>
    obtain ⟨rfl, rfl⟩ := hres
    have g0 : (s.heap.push (sO w)).get? s.heap.objs.size = some (sO w) := Heap.get?_push_size _ rfl
    have ty : Shared.TypeIs { s with heap := s.heap.push (sO w) } (.ref s.heap.objs.size) "set" := ⟨_, g0, rfl⟩
    have y6 := F.called_set.init.lookup
    have y7 := F.called_set.init.bind (.ref s.heap.objs.size)
    repeat any_goals first | wp_step | assumption
    refine codeAny_mono (codeAny_call_builtin (R := wants (fun v s' => v = .none ∧ ∃ h2 tk c, s' = { s with heap := h2, toks := tk } ∧ SetR w h2 s.heap.objs.size (fun j => decide (j ∈ ns)) c ∧ c ≤ ns.length ∧ Kp s.heap h2) E) F.called_set.init.plain F.entry_set_init (check_set_init_1 ty ?_)) fun res2 s2 hres2 => ?_
    · obtain ⟨⟨k1, k2, k3, k4⟩, gl, c1, n0, c2⟩ := hl
      simp only at c1 c2
      subst c1 c2
      have g1 : (s.heap.push (sO w)).get? l = some { cls := .type "list", dict := k2, data := .seq its n0, slots := k4 } := Heap.get?_push_of_some _ gl
      have y8 := F.sub_list_set
      have y9 := F.sub_list_frozenset
      have y10 : (Value.type "list" == Value.type "dict") = false := by decide
      have isl : (s.heap.push (sO w)).IsList l its := ⟨_, g1, rfl, n0, rfl⟩
      unfold Builtin.«set.__init__»
      unfold noKeywords Builtin.Frozenset.updateFrom
      generalize hz : pyIter = Z
      wp_walk
      subst hz
      refine wpAny_pyIter_list isl (wpAny_bind (wpAny_runValue ?_))
      have lt : l < s.heap.objs.size := Heap.lt_size gl
      have z1 : (s.heap.push (sO w)).objs.size = s.heap.objs.size + 1 := Heap.size_push ..
      have hand : A.in1.in1.in1.handled = none := by simp [hh]
      have ne1 : l ≠ (s.heap.push (sO w)).objs.size := by
        rw [z1]
        exact Nat.ne_of_lt (Nat.lt_succ_of_lt lt)
      have out : s.heap.objs.size ∉ [(s.heap.push (sO w)).objs.size, l] := by
        intro z
        rcases List.mem_cons.mp z with z | z
        · rw [z1] at z; exact absurd z (Nat.ne_of_lt (Nat.lt_succ_self _))
        · exact absurd (List.mem_singleton.mp z) (Nat.ne_of_gt lt)
      have item : ∀ (i : Nat) (v : Value), its[i]? = some v → ∃ k t, ns[i]? = some k ∧ v = .int k t := by
        intro i v hv
        have il : i < ns.length := by rw [← sz]; exact (Array.getElem?_eq_some_iff.mp hv).1
        obtain ⟨t, e⟩ := IntsAre.int_at hi i v (by rw [Array.getElem?_toList]; exact hv)
        refine ⟨ns[i], t, List.getElem?_eq_getElem il, ?_⟩
        rw [e, List.getD_eq_getElem?_getD, List.getElem?_eq_getElem il]
        rfl
      refine set_update_ints ((Walks.list hand _ l ne1 its).toS) s.heap.objs.size out ns sz hb item (its.size - 0) 0 _ (by omega) (Nat.zero_le _) ⟨⟨_, Heap.get?_push_size _ rfl, rfl, rfl⟩, isl.push _⟩ ⟨0, Nat.le_refl 0, setR_new_at (Heap.get?_push_of_some _ g0)⟩ ?_
      rintro ⟨h2, g2, d2, t2, o2⟩ c moved hc hset
      have q1 : g2 = s.gens := moved.gens
      have q2 : d2 = s.drawn := moved.drawn
      have q3 : o2 = s.os := moved.os
      subst q1 q2 q3
      refine wpAny_pure (show wpAny _ _ (PySem.ret Value.none) _ _ _ from wpAny_pure ⟨rfl, h2, t2, c, rfl, hset, by rw [sz] at hc; exact hc, fun b o e => ?_⟩)
      have lb := Heap.lt_size e
      refine moved.heap b o (fun z => ?_) (Heap.get?_push_of_some _ (Heap.get?_push_of_some _ e))
      rcases List.mem_cons.mp z with z | z
      · exact absurd z (Nat.ne_of_lt lb)
      · rw [z1] at z
        exact absurd (List.mem_singleton.mp z) (Nat.ne_of_lt (Nat.lt_succ_of_lt lb))
    · rcases res2 with er2 | fl2
      · exact hres2
      cases fl2 with
      | ret v2 =>
        obtain ⟨rfl, h2, tk, c, rfl, r1, r2, r3⟩ := hres2
        repeat any_goals first | wp_step | assumption
        exact go _ _ _ r1 r2 r3
      | _ => exact hres2.elim
  | _ => exact hres.elim
end
variable [Tabz]
def tSortSet (K : PySem.W.Frag) (te : TE) : TE := fun σ H Q => te σ H fun x H1 => ∃ (l : Addr) (ns : List Int), x = .ref l ∧ SqL K H1 l (ns.map V.int) ∧ ns.length < 64 ∧
  ∀ (ms : List Int) (p : Addr), ms.Pairwise (· < ·) → (∀ k, k ∈ ms ↔ k ∈ ns) → H1 p = none → Q (.ref p) (upd H1 p (.lst (ms.map V.int)))
section
variable {X : Cx} {G : Gx} {a e : Expr} {f : M PyData} {ta : TE} {p p2 q pos : Pos}
theorem pe_sortSet (hc : X.calm = true) (hg : Gl X "sorted") (hm : X.mg "sorted" = none) (hg2 : Gl X "set") (hm2 : X.mg "set" = none) (ha : PE X a ta) (na : starEach [a] X.env = (false, eval a X.env) :: starEach [] X.env := by rfl) :
    PE X (.Call (.Name "sorted" p) [.Call (.Name "set" p2) [a] [] q] [] pos) (tSortSet X.K ta) := by
  refine ⟨fun pins s σ H Q I h => ?_⟩
  refine Call_ (ld_blt (u := .builtin "sorted") I hg hm (by decide +kernel) ?_)
  refine callWith_builtin1 (args_cons ?_ rfl) rfl rfl
  refine Call_ (ld_blt (u := .type "set") I hg2 hm2 (by decide +kernel) ?_)
  refine callWith_type1 (args_cons (thn (ha.run pins s σ H _ I h) fun v sa ⟨x, H1, I1, rx, l, ns, ex, hq, h64, go⟩ => args_nil ?_) na) na rfl
  subst ex
  cases rx
  obtain ⟨its, r, pl, hz⟩ := I1.list hq
  have hli : IntsAre its ns := RZ.intsAre_vals r
  refine set_ofL ns (I1.ok.hd hc) pl.isList (by simpa using hli) (by unfold scanBound; omega) fun h2 tk c hS hcl kp => ?_
  refine args_nil ?_
  have I2 : Inv X pins σ H1 { sa with heap := h2, toks := tk } := I1.kept kp
  refine sorted_set hS (I2.ok.hd hc) (by omega) fun s' p out c2 ms k2 g o hp hg hi hs hm hl => ?_
  have hlen : (ms.map V.int).length ≤ sizeLine := by rw [List.length_map, hl, sizeLine_eq]; omega
  have hn : H1 p = none := I2.hok.fresh hp
  have J := I2.call (ch := []) (g' := s'.gens) (d' := s'.drawn) (t' := s'.toks) (Un.laid k2 hp hn) (I2.hok.laid k2 hp (o := .lst (ms.map V.int)) ⟨hlen, out.toList, c2, vals_of_ints hi, hg⟩) (by rw [g]; exact I2.bare) (fun _ z => nomatch z)
  have e : s' = { sa with heap := s'.heap, gens := s'.gens, drawn := s'.drawn, toks := s'.toks } := by
    rcases s' with ⟨z1, z2, z3, z4, z5⟩
    have o : z5 = sa.os := o
    rw [o]
  rw [e]
  exact ⟨.ref p, _, J, rfl, go ms p hs (fun k => by rw [hm]; exact ⟨fun z => of_decide_eq_true z, fun z => decide_eq_true z⟩) hn⟩
theorem lt_unique : ∀ {xs ys : List Int}, xs.Pairwise (· < ·) → ys.Pairwise (· < ·) → (∀ k, k ∈ xs ↔ k ∈ ys) → xs = ys
  | [], [], _, _, _ => rfl
  | [], y :: ys, _, _, h => absurd ((h y).mpr List.mem_cons_self) (by simp)
  | x :: xs, [], _, _, h => absurd ((h x).mp List.mem_cons_self) (by simp)
  | x :: xs, y :: ys, h1, h2, h => by
    rw [List.pairwise_cons] at h1 h2
    have hxy : x = y := by
      rcases List.mem_cons.mp ((h x).mp List.mem_cons_self) with e | e
      · exact e
      · rcases List.mem_cons.mp ((h y).mpr List.mem_cons_self) with e2 | e2
        · exact e2.symm
        · have := h1.1 y e2
          have := h2.1 x e
          omega
    subst hxy
    rw [lt_unique h1.2 h2.2 fun k => ?_]
    have hk := h k
    constructor
    · intro z
      rcases List.mem_cons.mp (hk.mp (List.mem_cons_of_mem _ z)) with e | e
      · have := h1.1 k z; omega
      · exact e
    · intro z
      rcases List.mem_cons.mp (hk.mpr (List.mem_cons_of_mem _ z)) with e | e
      · have := h2.1 k z; omega
      · exact e
def insU (x : Int) : List Int → List Int
  | [] => [x]
  | y :: ys => if x < y then x :: y :: ys else if x = y then y :: ys else y :: insU x ys
def sortU (ns : List Int) : List Int := ns.foldr insU []
theorem mem_insU {x k : Int} : ∀ {ys : List Int}, k ∈ insU x ys ↔ k = x ∨ k ∈ ys
  | [] => by simp [insU]
  | y :: ys => by
    unfold insU
    split
    · simp
    · split
      · rename_i h; subst h; simp
      · rw [List.mem_cons, mem_insU (ys := ys), List.mem_cons]
        constructor
        · rintro (h | h | h)
          · exact .inr (.inl h)
          · exact .inl h
          · exact .inr (.inr h)
        · rintro (h | h | h)
          · exact .inr (.inl h)
          · exact .inl h
          · exact .inr (.inr h)
theorem pw_insU {x : Int} : ∀ {ys : List Int}, ys.Pairwise (· < ·) → (insU x ys).Pairwise (· < ·)
  | [], _ => by simp [insU]
  | y :: ys, h => by
    have h0 := h
    rw [List.pairwise_cons] at h
    unfold insU
    split
    · rename_i hlt
      rw [List.pairwise_cons]
      refine ⟨fun k hk => ?_, h0⟩
      rcases List.mem_cons.mp hk with e | e
      · omega
      · have := h.1 k e; omega
    · split
      · exact h0
      · rw [List.pairwise_cons]
        refine ⟨fun k hk => ?_, pw_insU h.2⟩
        rcases mem_insU.mp hk with e | e
        · omega
        · exact h.1 k e
theorem sortU_pw : ∀ ns : List Int, (sortU ns).Pairwise (· < ·)
  | [] => List.Pairwise.nil
  | n :: ns => pw_insU (sortU_pw ns)
theorem mem_sortU {k : Int} : ∀ {ns : List Int}, k ∈ sortU ns ↔ k ∈ ns
  | [] => Iff.rfl
  | n :: ns => by
    show k ∈ insU n (sortU ns) ↔ _
    rw [mem_insU, mem_sortU (ns := ns), List.mem_cons]
@[simp] def oSortU (d : PyData) : Option (List PyData) := match d with
  | .list ds => (match asInts ds with
    | some ns => if decide (ns.length < 64) then some ((sortU ns).map PyData.int) else none
    | none => none)
  | _ => none
@[simp] def fSortU (f : M PyData) : M (List PyData) := fun ρ => (bnd f fun d => opt (oSortU d)) ρ
theorem fl_sortU (hc : X.calm = true) (hg : Gl X "sorted") (hm : X.mg "sorted" = none) (hg2 : Gl X "set") (hm2 : X.mg "set" = none) (he : PE X e (tE G f)) (na : starEach [e] X.env = (false, eval e X.env) :: starEach [] X.env := by rfl) :
    PE X (.Call (.Name "sorted" p) [.Call (.Name "set" p2) [e] [] q] [] pos) (tL G (fSortU f)) := by
  refine (pe_sortSet hc hg hm hg2 hm2 he na).imp fun σ H Q ⟨Hf, ρ, rp, af⟩ => ?_
  refine (stepL (R1 := Rep) rp af).mono fun x H1 ⟨d, Hf1, ρ1, n1, rd, af1⟩ => ?_
  cases rd with
  | @lst l vs ds h1 h2 =>
    simp only [oSortU] at af1
    cases hn : asInts ds with
    | none => simp only [hn] at af1; exact False.elim af1
    | some ns =>
      simp only [hn] at af1
      by_cases h64 : ns.length < 64
      · simp only [h64, decide_true, if_true] at af1
        refine ⟨l, ns, rfl, by rw [← asInts_rep h2 hn]; exact SqL.of (n1.rp.sub _ _ h1), h64, fun ms q pw mm hq => ?_⟩
        have e2 : ms = sortU ns := lt_unique pw (sortU_pw ns) fun k => by rw [mm, mem_sortU]
        rw [e2]
        exact af1 q _ Hf1 _ (n1.rp.newO hq) (.inl hq) (n1.rp.sub.free hq) (n1.rp.notOwnU hq) upd_same (repA_ints _)
      · simp only [h64, decide_false, Bool.false_eq_true, if_false] at af1
        exact False.elim af1
  | tup _ _ => exact False.elim af1
  | non => exact False.elim af1
  | ins _ _ _ => exact False.elim af1
  | dct _ _ _ => exact False.elim af1
  | bl _ => exact False.elim af1
  | int _ => exact False.elim af1
  | str _ => exact False.elim af1
end
section
variable {r a : Str} {j n n2 : Nat} {p1 p2 p3 p4 p5 p6 p7 : Pos}
theorem kx_col (h : j < 100) : (Kx.col j).is r a (.Subscript (.Subscript (.Name r p1) (.Name a p2) p3) (.Constant (.int j) n p4) p5) := ⟨h, n, p1, p2, p3, p4, p5, rfl⟩
theorem kx_neg (h : j < 100) : (Kx.neg j).is r a (.UnaryOp .USub (.Subscript (.Subscript (.Name r p1) (.Name a p2) p3) (.Constant (.int j) n p4) p5) p6) := ⟨h, n, p1, p2, p3, p4, p5, p6, rfl⟩
theorem kx_zsub (h : j < 100) : (Kx.zsub j).is r a (.BinOp (.Constant (.int 0) n2 p7) .Sub (.Subscript (.Subscript (.Name r p1) (.Name a p2) p3) (.Constant (.int j) n p4) p5) p6) := ⟨h, n, p1, p2, p3, p4, p5, p6, n2, p7, rfl⟩
theorem kx_pl : Kx.pl.is r a (.Name a p1) := ⟨p1, rfl⟩
end
end Fx
namespace Fx
open PySem L2
variable [Tabz]
end Fx
namespace Fx
open PySem L2
variable [Tabz]
section
variable {X : Cx}
@[simp] def oIsB : PyData → PyData → Option PyData
  | .bool a, .bool b => some (.bool (decide (a = b)))
  | _, _ => none
@[simp] def oNotB : PyData → PyData → Option PyData
  | .bool a, .bool b => some (.bool (!decide (a = b)))
  | _, _ => none
end
end Fx
namespace Fx
open PySem PySem.Spec PyProof.Rows L2
variable [Tabz]
end Fx
namespace Fx
open PySem L2
variable [Tabz]
def asPairs : List PyData → Option (List (Int × Int))
  | [] => some []
  | .tuple [.int a, .int b] :: r => (asPairs r).map ((a, b) :: ·)
  | _ => none
def encPr (p : Int × Int) : PyData := .tuple [.int p.1, .int p.2]
theorem asPairs_map : ∀ ps : List (Int × Int), asPairs (ps.map encPr) = some ps
  | [] => rfl
  | p :: ps => by
    show (asPairs (ps.map encPr)).map _ = _
    rw [asPairs_map ps]; rfl
def leP (a b : Int × Int) : Bool := decide (a.1 < b.1 ∨ a.1 = b.1 ∧ a.2 ≤ b.2)
noncomputable def sortP (ps : List (Int × Int)) : List (Int × Int) := ps.mergeSort leP
theorem leP_iff {a b : Int × Int} : leP a b = true ↔ a.1 < b.1 ∨ a.1 = b.1 ∧ a.2 ≤ b.2 := by simp [leP]
theorem sortP_pw (ps : List (Int × Int)) : (sortP ps).Pairwise fun a b => leP a b = true :=
  List.pairwise_mergeSort (le := leP) (fun a b c h1 h2 => by rw [leP_iff] at *; omega) (fun a b => by rw [Bool.or_eq_true, leP_iff, leP_iff]; omega) ps
theorem sortP_perm (ps : List (Int × Int)) : (sortP ps).Perm ps := List.mergeSort_perm _ _
theorem perm_sorted_eqP : ∀ {xs ys : List (Int × Int)}, xs.Perm ys → xs.Pairwise (fun a b => leP a b = true) → ys.Pairwise (fun a b => leP a b = true) → xs = ys
  | [], ys, p, _, _ => (List.Perm.nil_eq p)
  | x :: xs, [], p, _, _ => absurd p.length_eq (by simp)
  | x :: xs, y :: ys, p, h1, h2 => by
    rw [List.pairwise_cons] at h1 h2
    have hxy : x = y := by
      have a1 : x ∈ y :: ys := p.mem_iff.mp List.mem_cons_self
      have a2 : y ∈ x :: xs := p.mem_iff.mpr List.mem_cons_self
      rcases List.mem_cons.mp a1 with e | e
      · exact e
      · rcases List.mem_cons.mp a2 with e2 | e2
        · exact e2.symm
        · have z1 := leP_iff.mp (h1.1 y e2)
          have z2 := leP_iff.mp (h2.1 x e)
          exact Prod.ext (by omega) (by omega)
    subst hxy
    rw [perm_sorted_eqP (List.Perm.cons_inv p) h1.2 h2.2]
@[simp] noncomputable def oSortP : List PyData → Option (List PyData)
  | [.list ds] => (asPairs ds).map fun ps => (sortP ps).map encPr
  | _ => none
def kP (H : Hp) : V → Int × Int
  | .ref t => match H t with
    | some (.tup [.int a, .int b]) => (a, b)
    | _ => (0, 0)
  | _ => (0, 0)
theorem pairs_rep {H : Hp} : ∀ {vs : List V} {ds : List PyData} {ps : List (Int × Int)}, RepA H vs ds → asPairs ds = some ps → (∀ x ∈ vs, ∃ t, x = V.ref t ∧ H t = some (.tup [.int (kP H x).1, .int (kP H x).2])) ∧ vs.map (kP H) = ps
  | [], _, ps, .nil, e => by
    cases e
    exact ⟨fun x hx => (by cases hx), rfl⟩
  | v :: vs, _, ps, .cons (d := d) (ds := ds) h r, e => by
    unfold asPairs at e
    split at e
    · rename_i heq
      cases heq
    · rename_i a b r' heq
      cases heq
      cases q : asPairs ds with
      | none => rw [q] at e; cases e
      | some ps' =>
        rw [q] at e
        cases e
        obtain ⟨h1, h2⟩ := pairs_rep r q
        cases h with
        | tup ht hr =>
          cases hr with
          | cons ha hr =>
            cases hr with
            | cons hb hr =>
              cases hr
              cases ha
              cases hb
              rename_i t
              have ek : kP H (V.ref t) = (a, b) := by
                show (match H t with
                  | some (.tup [.int a, .int b]) => (a, b)
                  | _ => (0, 0)) = (a, b)
                rw [ht]
              refine ⟨fun x hx => ?_, by rw [List.map_cons, ek, h2]⟩
              rcases List.mem_cons.mp hx with z | z
              · subst z
                exact ⟨t, rfl, by rw [ek]; exact ht⟩
              · exact h1 x z
    · cases e
theorem rep_pairs {H : Hp} : ∀ {vs : List V}, (∀ x ∈ vs, ∃ t, x = V.ref t ∧ H t = some (.tup [.int (kP H x).1, .int (kP H x).2])) → RepA H vs ((vs.map (kP H)).map encPr)
  | [], _ => .nil
  | v :: vs, h => by
    obtain ⟨t, e, ht⟩ := h v List.mem_cons_self
    refine .cons ?_ (rep_pairs fun x hx => h x (List.mem_cons_of_mem _ hx))
    rw [e] at ht ⊢
    exact .tup ht (.cons (.int _) (.cons (.int _) .nil))
section
variable {X : Cx} {G : Gx} {e : Expr} {es : List Expr} {As : List Opd} {pos : Pos}
theorem rd_sortP {K : PySem.W.Frag} : RdL (rSortedPO K) oSortP := by
  intro Hf H xs as ds sm ra e Q q
  match as, ra, e with
  | [.list ds], .cons h1 .nil, e =>
    simp only [oSortP] at e
    cases hn : asPairs ds with
    | none => rw [hn] at e; cases e
    | some ps =>
      rw [hn] at e
      cases e
      obtain ⟨p, vs, rfl, h2, h3⟩ := h1.lst sm
      obtain ⟨k1, k2⟩ := pairs_rep h3 hn
      refine ⟨p, vs, kP Hf, rfl, SqL.of h2, fun x hx => ?_, fun ys l srt stb hl => ?_⟩
      · obtain ⟨t, e, ht⟩ := k1 x hx
        exact ⟨t, e, sm _ _ ht⟩
      · have ky : ∀ x ∈ ys, ∃ t, x = V.ref t ∧ Hf t = some (.tup [.int (kP Hf x).1, .int (kP Hf x).2]) := fun x hx => k1 x (stb.perm.mem_iff.mp hx)
        have e : ys.map (kP Hf) = sortP ps := by
          refine perm_sorted_eqP ((stb.perm.map (kP Hf)).trans ?_) ?_ (sortP_pw ps)
          · rw [k2]; exact (sortP_perm ps).symm
          · rw [List.pairwise_map]
            refine List.Pairwise.imp (fun {a b} h => ?_) srt
            have := SrtO.lexB_no.mp h
            rw [leP_iff]
            omega
        have r := rep_pairs ky
        rw [e] at r
        exact q l _ hl r
theorem fl_sortP {p : Pos} (hg : Gl X "sorted") (hm : X.mg "sorted" = none) (ha : PA X (e :: es) (tAll G As)) (he : starEach (e :: es) X.env = (false, eval e X.env) :: starEach es X.env := by rfl) (hpl : (backTo pos (starEach es X.env)).any (·.1) = false := by rfl) : PE X (.Call (.Name "sorted" p) (e :: es) [] pos) (tL G (fLB oSortP As)) :=
  fl_callB cr_sortedPO rd_sortP hg hm (by decide +kernel) ha (by decide) (by decide) he hpl
end
end Fx
namespace Mm
open PySem L2 Fx
variable [Tabz]
noncomputable def g_need_day : Rho → Fl := (sIf (tOrM (fB (fOp oLt (.v 0) (.e (ret (.int 1))))) (fB (fOp oGt (.v 0) (.e (ret (.int 999)))))) (sRaise "BadDay") sNil)
noncomputable abbrev F_need_day := runP 1 g_need_day 1
noncomputable def g_need_term : Rho → Fl := (sIf (tOrM (fB (fOp oLt (.v 0) (.e (ret (.int 0))))) (fB (fOp oGt (.v 0) (.e (ret (.int 400)))))) (sRaise "BadTerm") sNil)
noncomputable abbrev F_need_term := runP 1 g_need_term 1
noncomputable def g_goes_against : Rho → Fl := (sSeq (sAsg (gTp (gsCons (gSet 3) (gsCons (gSet 4) gsNil))) (fVar 0))
    (sRet (vAnd (fOp oLe (.v 3) (.v 1)) (fOp oLe (.v 1) (.e (fOp oAdd (.v 4) (.v 2)))))))
noncomputable abbrev F_goes_against := runP 5 g_goes_against 3
noncomputable def g_l_pick : Rho → Fl := (sSeq (sIf (tAndM (fB (fOp oLt (.e (fOp oIx (.v 0) (.e (ret (.int 2))))) (.v 1))) (fB (fOp oLt (.e (fOp oIx (.v 0) (.e (ret (.int 1))))) (.e (fCB oLen [(.e (fOp oIx (.v 0) (.e (ret (.int 0)))))]))))) (sSeq (sSet 2 (fOp oIx (.e (fOp oIx (.v 0) (.e (ret (.int 0))))) (.e (fOp oIx (.v 0) (.e (ret (.int 1)))))))
    (sSeq (sSetIx 0 (fOp oAdd (.e (fOp oIx (.v 0) (.e (ret (.int 1))))) (.e (ret (.int 1)))) (ret (.int 1)))
    (sSeq (sSetIx 0 (ret (.int 0)) (ret (.int 2)))
    (sIf (fB (fOp oGe (.v 2) (.e (fOp oPow (.e (ret (.int 10))) (.e (ret (.int 18))))))) (sSetIx 0 (fVar 2) (ret (.int 2))) (sSetIx 0 (fOp oMod (.e (fOp oAdd (.e (fOp oIx (.v 0) (.e (ret (.int 3))))) (.v 2))) (.e (ret (.int 1000000007)))) (ret (.int 3))))))) sNil)
    (sSeq (sIf (fB (fOp oGe (.e (fOp oIx (.v 0) (.e (ret (.int 2))))) (.v 1))) (sSeq (sSet 3 (fOp oMod (.e (fOp oIx (.v 0) (.e (ret (.int 2))))) (.v 1)))
    (sSeq (sSetIx 0 (fOp oDiv (.e (fOp oIx (.v 0) (.e (ret (.int 2))))) (.v 1)) (ret (.int 2)))
    (sRetV0 3))) sNil)
    (sSeq (sSetIx 0 (fOp oAdd (.e (fOp oIx (.v 0) (.e (ret (.int 4))))) (.e (ret (.int 1)))) (ret (.int 4)))
    (sSeq (sSetIx 0 (fOp oMod (.e (fOp oAdd (.e (fOp oAdd (.e (fOp oPow (.e (fOp oIx (.v 0) (.e (ret (.int 3))))) (.e (ret (.int 3))))) (.e (fOp oMul (.e (ret (.int 40503))) (.e (fOp oIx (.v 0) (.e (ret (.int 4))))))))) (.e (ret (.int 17))))) (.e (ret (.int 1000000007)))) (ret (.int 3)))
    (sRet (fOp oMod (.e (fOp oDiv (.e (fOp oIx (.v 0) (.e (ret (.int 3))))) (.e (ret (.int 5))))) (.v 1)))))))
noncomputable abbrev F_l_pick := runI 4 g_l_pick 2
noncomputable def g_l_some_term : Rho → Fl := (sRet (fOp oIx (.e (fTup (fCons (ret (.int 0)) (fCons (ret (.int 1)) (fCons (ret (.int 3)) (fCons (fCallI 0 F_l_pick (fCons (ret (.int 12)) fNil)) (fCons (fCallI 0 F_l_pick (fCons (ret (.int 60)) fNil)) (fCons (ret (.int 400)) fNil)))))))) (.e (fCallI 0 F_l_pick (fCons (ret (.int 6)) fNil)))))
noncomputable abbrev F_l_some_term := runI 1 g_l_some_term 1
noncomputable def g_l_same (Fr : List PyData → Out Rt) : Rho → Fl := (sSeq (sIf (fB (fUn oIsN (.v 1))) (sRet (fUn oIsN (.v 0))) sNil)
    (sSeq (sIf (tOrM (fB (fUn (oIs "bool") (.v 1))) (fB (fUn (oIs "bool") (.v 0)))) (sRet (vAnd (fUn (oIs "bool") (.v 1)) (vAnd (fUn (oIs "bool") (.v 0)) (fOp oEQ (.v 0) (.v 1))))) sNil)
    (sSeq (sIf (fB (fUn (oIs2 "int" "str") (.v 1))) (sRet (vAnd (fOp oEQ (.e (fUn (oIs "int") (.v 0))) (.e (fUn (oIs "int") (.v 1)))) (vAnd (fUn (oIs2 "int" "str") (.v 0)) (fOp oEQ (.v 0) (.v 1))))) sNil)
    (sSeq (sIf (tOrM (fB (fOp oNE (.e (fUn (oIs "list") (.v 0))) (.e (fUn (oIs "list") (.v 1))))) (fB (fOp oNE (.e (fUn (oIs "tuple") (.v 0))) (.e (fUn (oIs "tuple") (.v 1)))))) (sRet (ret (.bool false))) sNil)
    (sSeq (sIf (fB (fOp oNE (.e (fCB oLen [(.v 0)])) (.e (fCB oLen [(.v 1)])))) (sRet (ret (.bool false))) sNil)
    (sRet (fCB oAll [(.e (fLst (fLc (fAB oZip (fCons (fVar 0) (fCons (fVar 1) fNil))) (gTp (gsCons (gSet 2) (gsCons (gSet 3) gsNil))) (ret true) (fCall Fr (fCons (fVar 2) (fCons (fVar 3) fNil))) [2, 3])))])))))))
noncomputable def F_l_same_at : Nat → List PyData → Out Rt
  | 0 => fun _ => .bad
  | n + 1 => runP 4 (g_l_same (F_l_same_at n)) 2
theorem F_l_same_len : ∀ n ds r, F_l_same_at n ds = r → r ≠ .bad → ds.length = 2
  | 0, _, _, e, h => absurd e.symm h
  | n + 1, ds, r, e, h => runP_len ds r e h
noncomputable def F_l_same := F_l_same_at 8
noncomputable def g_need_count : Rho → Fl := (sIf (tOrM (fB (fOp oLt (.v 0) (.e (ret (.int 1))))) (fB (fOp oGt (.v 0) (.e (ret (.int 10000000000)))))) (sRaise "BadCount") sNil)
noncomputable abbrev F_need_count := runP 1 g_need_count 1
noncomputable def g_need_duty : Rho → Fl := (sIf (tOrM (fB (fOp oLt (.v 0) (.e (ret (.int 1))))) (fB (fOp oGt (.v 0) (.e (ret (.int 1000000)))))) (sRaise "BadDuty") sNil)
noncomputable abbrev F_need_duty := runP 1 g_need_duty 1
noncomputable def b_checked_lots_1 : Rho → Fl := (sSeq (sDrop (fCall F_need_day (fCons (fVar 1) fNil)))
    (sSeq (sDrop (fCall F_need_count (fCons (fVar 2) fNil)))
    (sDrop (fCall F_need_duty (fCons (fVar 3) fNil)))))
noncomputable def g_checked_lots : Rho → Fl := (sSeq (sIf (fB (fOp oGt (.e (fCB oLen [(.v 0)])) (.e (ret (.int 30))))) (sRaise "BadRows") sNil)
    (sSeq (sFor (fItL (fVar 0)) (gTp (gsCons (gSet 1) (gsCons (gSet 2) (gsCons (gSet 3) gsNil)))) b_checked_lots_1)
    (sRetL (fLB oList [(.v 0)]))))
noncomputable abbrev F_checked_lots := runP 4 g_checked_lots 1
noncomputable def b_checked_outs_1 : Rho → Fl := (sSeq (sDrop (fCall F_need_day (fCons (fVar 1) fNil)))
    (sDrop (fCall F_need_count (fCons (fVar 2) fNil))))
noncomputable def g_checked_outs : Rho → Fl := (sSeq (sIf (fB (fOp oGt (.e (fCB oLen [(.v 0)])) (.e (ret (.int 30))))) (sRaise "BadRows") sNil)
    (sSeq (sFor (fItL (fVar 0)) (gTp (gsCons (gSet 1) (gsCons (gSet 2) gsNil))) b_checked_outs_1)
    (sRetL (fLB oList [(.v 0)]))))
noncomputable abbrev F_checked_outs := runP 3 g_checked_outs 1
noncomputable def g_l_span : Rho → Fl := (sSeq (sSet 1 (fOp oIx (.e (fTup (fCons (ret (.int 6)) (fCons (ret (.int 20)) (fCons (ret (.int 60)) (fCons (ret (.int 999)) fNil)))))) (.e (fCallI 0 F_l_pick (fCons (ret (.int 4)) fNil)))))
    (sRet (fTup (fCons (fOp oAdd (.e (ret (.int 1))) (.e (fCallI 0 F_l_pick (fCons (fOp oSub (.e (ret (.int 1000))) (.v 1)) fNil)))) (fCons (fVar 1) fNil)))))
noncomputable abbrev F_l_span := runI 2 g_l_span 1
noncomputable def b_l_some_lots_1 : Rho → Fl := (sSeq (sSet 7 (fOp oAdd (.e (fOp oIx (.v 2) (.e (ret (.int 0))))) (.e (fCallI 0 F_l_pick (fCons (fOp oIx (.v 2) (.e (ret (.int 1)))) fNil)))))
    (sSeq (sSet 8 (fOp oAdd (.e (ret (.int 1))) (.e (fCallI 0 F_l_pick (fCons (fVar 3) fNil)))))
    (sMut 5 (fTup (fCons (fVar 7) (fCons (fVar 8) (fCons (fOp oAdd (.e (ret (.int 1))) (.e (fCallI 0 F_l_pick (fCons (fVar 4) fNil)))) fNil)))) kAppend)))
noncomputable def g_l_some_lots : Rho → Fl := (sSeq (sSet 4 (fOp oIx (.e (fTup (fCons (ret (.int 2)) (fCons (ret (.int 5)) (fCons (ret (.int 40)) (fCons (fOp oPow (.e (ret (.int 10))) (.e (ret (.int 6)))) fNil)))))) (.e (fCallI 0 F_l_pick (fCons (ret (.int 4)) fNil)))))
    (sSeq (sSetL 5 (fLs fNil))
    (sSeq (sFor (fAB oRng1 (fCons (fCallI 0 F_l_pick (fCons (fOp oAdd (.v 1) (.e (ret (.int 1)))) fNil)) fNil)) (gSet 6) b_l_some_lots_1)
    (sRetV0 5))))
noncomputable abbrev F_l_some_lots := runI 9 g_l_some_lots 4
noncomputable def b_l_some_outs_1 : Rho → Fl := (sSeq (sSet 6 (fOp oAdd (.e (fOp oIx (.v 2) (.e (ret (.int 0))))) (.e (fCallI 0 F_l_pick (fCons (fOp oIx (.v 2) (.e (ret (.int 1)))) fNil)))))
    (sMut 4 (fTup (fCons (fVar 6) (fCons (fOp oAdd (.e (ret (.int 1))) (.e (fCallI 0 F_l_pick (fCons (fVar 3) fNil)))) fNil))) kAppend))
noncomputable def g_l_some_outs : Rho → Fl := (sSeq (sSetL 4 (fLs fNil))
    (sSeq (sFor (fAB oRng1 (fCons (fCallI 0 F_l_pick (fCons (fOp oAdd (.v 1) (.e (ret (.int 1)))) fNil)) fNil)) (gSet 5) b_l_some_outs_1)
    (sRetV0 4)))
noncomputable abbrev F_l_some_outs := runI 7 g_l_some_outs 4
noncomputable def g_l_case : Rho → Fl := (sSeq (sSet 2 (fCallI 0 F_l_span fNil))
    (sSeq (sSet 3 (fCallI 0 F_l_some_term fNil))
    (sSeq (sSet 4 (fOp oIx (.e (fTup (fCons (ret (.int 3)) (fCons (ret (.int 12)) (fCons (ret (.int 1000)) (fCons (fOp oPow (.e (ret (.int 10))) (.e (ret (.int 10)))) fNil)))))) (.e (fCallI 0 F_l_pick (fCons (ret (.int 4)) fNil)))))
    (sSeq (sSet 5 (fCallI 0 F_l_some_lots (fCons (fVar 1) (fCons (fVar 2) (fCons (fVar 4) fNil)))))
    (sRet (fTup (fCons (fVar 5) (fCons (fCallI 0 F_l_some_outs (fCons (fVar 1) (fCons (fVar 2) (fCons (fVar 4) fNil)))) (fCons (fVar 3) fNil)))))))))
noncomputable abbrev F_l_case := runI 6 g_l_case 2
noncomputable def q_out_against_1 : M (List PyData) := (fLc (fItL (fVar 0)) (gTp (gsCons (gSet 3) (gsCons (gSet 4) gsNil))) (fB (fCall F_goes_against (fCons (fVar 2) (fCons (fVar 3) (fCons (fVar 1) fNil))))) (fVar 4) [3, 4])
noncomputable def g_out_against : Rho → Fl := (sRet (fCB oSum [(.e (fLst q_out_against_1))]))
noncomputable abbrev F_out_against := runP 5 g_out_against 3
noncomputable def q_days_of_1 : M (List PyData) := (fLc (fItL (fVar 0)) (gSet 1) (ret true) (fOp oIx (.v 1) (.e (ret (.int 0)))) [1])
noncomputable def g_days_of : Rho → Fl := (sRetL (fSortU (fLst q_days_of_1)))
noncomputable abbrev F_days_of := runP 2 g_days_of 1
noncomputable def q_all_stretches_1 : M (List PyData) := (fLc (fItL (fLst (fSl (.v 1) (fP (fVar 3)) fNoP))) (gSet 5) (ret true) (fTup (fCons (fVar 4) (fCons (fVar 5) fNil))) [5])
noncomputable def b_all_stretches_1 : Rho → Fl := (sMut 2 (fLst q_all_stretches_1) kExtend)
noncomputable def g_all_stretches : Rho → Fl := (sSeq (sSet 1 (fLst (fCallL F_days_of (fCons (fVar 0) fNil))))
    (sSeq (sSetL 2 (fLs fNil))
    (sSeq (sFor (fAB oEnum (fCons (fVar 1) fNil)) (gTp (gsCons (gSet 3) (gsCons (gSet 4) gsNil))) b_all_stretches_1)
    (sRetV 2))))
noncomputable abbrev F_all_stretches := runP 6 g_all_stretches 1
noncomputable def q_in_stretch_1 : M (List PyData) := (fLc (fAB oRng1 (fCons (fCB oLen [(.v 0)]) fNil)) (gSet 5) (tAndM (fB (fOp oLe (.v 3) (.e (fOp oIx (.e (fOp oIx (.v 0) (.v 5))) (.e (ret (.int 0))))))) (fB (fOp oLe (.e (fOp oIx (.e (fOp oIx (.v 0) (.v 5))) (.e (ret (.int 0))))) (.v 4)))) (fOp oIx (.v 1) (.v 5)) [5])
noncomputable def g_in_stretch : Rho → Fl := (sSeq (sAsg (gTp (gsCons (gSet 3) (gsCons (gSet 4) gsNil))) (fVar 2))
    (sRet (fCB oSum [(.e (fLst q_in_stretch_1))])))
noncomputable abbrev F_in_stretch := runP 6 g_in_stretch 3
noncomputable def g_spare : Rho → Fl := (sRet (fOp oSub (.e (fCall F_out_against (fCons (fVar 1) (fCons (fVar 2) (fCons (fVar 4) fNil))))) (.e (fCall F_in_stretch (fCons (fVar 0) (fCons (fVar 3) (fCons (fVar 4) fNil)))))))
noncomputable abbrev F_spare := runP 5 g_spare 5
noncomputable def b_room_at_1 : Rho → Fl := (sIf (tAndM (fB (fOp oLe (.e (fOp oIx (.v 7) (.e (ret (.int 0))))) (.v 5))) (fB (fOp oLe (.v 5) (.e (fOp oIx (.v 7) (.e (ret (.int 1)))))))) (sSet 6 (fCB oMin2 [(.v 6), (.e (fCall F_spare (fCons (fVar 0) (fCons (fVar 1) (fCons (fVar 2) (fCons (fVar 3) (fCons (fVar 7) fNil)))))))])) sNil)
noncomputable def g_room_at : Rho → Fl := (sSeq (sSet 5 (fOp oIx (.e (fOp oIx (.v 0) (.v 4))) (.e (ret (.int 0)))))
    (sSeq (sSet 6 (fOp oSub (.e (fOp oIx (.e (fOp oIx (.v 0) (.v 4))) (.e (ret (.int 1))))) (.e (fOp oIx (.v 3) (.v 4)))))
    (sSeq (sFor (fItL (fLst (fCallL F_all_stretches (fCons (fVar 0) fNil)))) (gSet 7) b_room_at_1)
    (sRetV 6))))
noncomputable abbrev F_room_at := runP 8 g_room_at 5
noncomputable def g_l_dearest : Rho → Fl := (sRetL (fSortK 0 [.neg 2, .col 0, .pl] (fLst (fLr1 (fCB oLen [(.v 0)])))))
noncomputable abbrev F_l_dearest := runP 1 g_l_dearest 1
noncomputable def g_l_eldest : Rho → Fl := (sRetL (fSortK 0 [.col 0, .pl] (fLst (fLr1 (fCB oLen [(.v 0)])))))
noncomputable abbrev F_l_eldest := runP 1 g_l_eldest 1
noncomputable def b_l_deal_1 : Rho → Fl := (sSeq (sSet 11 (fCB oMin2 [(.v 9), (.e (fOp oIx (.v 4) (.v 10)))]))
    (sIf (tAndM (fB (fOp oGt (.v 11) (.e (ret (.int 0))))) (tAndM (fB (fOp oLe (.e (fOp oSub (.v 8) (.v 2))) (.e (fOp oIx (.e (fOp oIx (.v 0) (.v 10))) (.e (ret (.int 0))))))) (fB (fOp oLe (.e (fOp oIx (.e (fOp oIx (.v 0) (.v 10))) (.e (ret (.int 0))))) (.v 8))))) (sSeq (sMut 5 (fTup (fCons (fVar 10) (fCons (fVar 7) (fCons (fVar 11) fNil)))) kAppend)
    (sSeq (sSetIx 4 (fOp oSub (.e (fOp oIx (.v 4) (.v 10))) (.v 11)) (fVar 10))
    (sSet 9 (fOp oSub (.v 9) (.v 11))))) sNil))
noncomputable def b_l_deal_2 : Rho → Fl := (sSeq (sAsg (gTp (gsCons (gSet 8) (gsCons (gSet 9) gsNil))) (fOp oIx (.v 1) (.v 7)))
    (sFor (fItL (fVar 6)) (gSet 10) b_l_deal_1))
noncomputable def g_l_deal : Rho → Fl := (sSeq (sSetL 4 (fLB oList [(.v 3)]))
    (sSeq (sSetL 5 (fLs fNil))
    (sSeq (sSet 6 (fLst (fCallL F_l_eldest (fCons (fVar 0) fNil))))
    (sSeq (sFor (fItL (fLst (fCallL F_l_eldest (fCons (fVar 1) fNil)))) (gSet 7) b_l_deal_2)
    (sRet (fTup (fCons (fVar 5) (fCons (fCB oSum [(.v 4)]) fNil))))))))
noncomputable abbrev F_l_deal := runP 12 g_l_deal 4
noncomputable def t_l_most_1 : M Bool := (fB (fOp oLt (.v 5) (.v 6)))
noncomputable def b_l_most_1 : Rho → Fl := (sSeq (sSet 7 (fOp oDiv (.e (fOp oAdd (.e (fOp oAdd (.v 5) (.v 6))) (.e (ret (.int 1))))) (.e (ret (.int 2)))))
    (sSeq (sSet 8 (fLst (fOpL oCat (.e (fLst (fOpL oCat (.e (fLst (fSl (.v 3) fNoP (fP (fVar 4))))) (.e (fLst (fLs (fCons (fOp oAdd (.e (fOp oIx (.v 3) (.v 4))) (.v 7)) fNil))))))) (.e (fLst (fSl (.v 3) (fP (fOp oAdd (.v 4) (.e (ret (.int 1))))) fNoP))))))
    (sIf (fB (fOp oEQ (.e (fOp oIx (.e (fCall F_l_deal (fCons (fVar 0) (fCons (fVar 1) (fCons (fVar 2) (fCons (fVar 8) fNil)))))) (.e (ret (.int 1))))) (.e (ret (.int 0))))) (sSet 5 (fVar 7)) (sSet 6 (fOp oSub (.v 7) (.e (ret (.int 1))))))))
noncomputable def g_l_most : Rho → Fl := (sSeq (sSet 5 (ret (.int 0)))
    (sSeq (sSet 6 (fOp oSub (.e (fOp oIx (.e (fOp oIx (.v 0) (.v 4))) (.e (ret (.int 1))))) (.e (fOp oIx (.v 3) (.v 4)))))
    (sSeq (whE t_l_most_1 b_l_most_1 1000)
    (sRetV 5))))
noncomputable abbrev F_l_most := runP 9 g_l_most 5
noncomputable def b_l_best_1 : Rho → Fl := (sSetIx 3 (fCallP F_l_most [(.v 0), (.v 1), (.v 2), (.v 3), (.v 4)]) (fVar 4))
noncomputable def g_l_best : Rho → Fl := (sSeq (sSetL 3 (fOpL oRep (.e (fLst (fLs (fCons (ret (.int 0)) fNil)))) (.e (fCB oLen [(.v 0)]))))
    (sSeq (sFor (fItL (fLst (fCallL F_l_dearest (fCons (fVar 0) fNil)))) (gSet 4) b_l_best_1)
    (sRetV 3)))
noncomputable abbrev F_l_best := runP 5 g_l_best 3
noncomputable def g_by_age : Rho → Fl := (sRetL (fSortK 0 [.col 0, .pl] (fLst (fLr1 (fCB oLen [(.v 0)])))))
noncomputable abbrev F_by_age := runP 1 g_by_age 1
noncomputable def g_by_duty : Rho → Fl := (sRetL (fSortK 0 [.zsub 2, .col 0, .pl] (fLst (fLr1 (fCB oLen [(.v 0)])))))
noncomputable abbrev F_by_duty := runP 1 g_by_duty 1
noncomputable def b_best_counts_1 : Rho → Fl := (sSetIx 3 (fCallP F_room_at [(.v 0), (.v 1), (.v 2), (.v 3), (.v 4)]) (fVar 4))
noncomputable def g_best_counts : Rho → Fl := (sSeq (sSetL 3 (fOpL oRep (.e (fLst (fLs (fCons (ret (.int 0)) fNil)))) (.e (fCB oLen [(.v 0)]))))
    (sSeq (sFor (fItL (fLst (fCallL F_by_duty (fCons (fVar 0) fNil)))) (gSet 4) b_best_counts_1)
    (sRetV 3)))
noncomputable abbrev F_best_counts := runP 5 g_best_counts 3
noncomputable def g_holds_day : Rho → Fl := (sRet (vAnd (fOp oLe (.e (fOp oIx (.v 0) (.e (ret (.int 0))))) (.v 1)) (fOp oLe (.v 1) (.e (fOp oIx (.v 0) (.e (ret (.int 1))))))))
noncomputable abbrev F_holds_day := runP 2 g_holds_day 2
noncomputable def b_joined_1 : Rho → Fl := (sIf (tAndM (fB (fOp oGt (.e (fCB oLen [(.v 1)])) (.e (ret (.int 0))))) (fB (fOp oLe (.v 2) (.e (fOp oIx (.e (fOp oIx (.v 1) (.e (fUn oNeg (.e (ret (.int 1))))))) (.e (ret (.int 1)))))))) (sSetIx 1 (fTup (fCons (fOp oIx (.e (fOp oIx (.v 1) (.e (fUn oNeg (.e (ret (.int 1))))))) (.e (ret (.int 0)))) (fCons (fCB oMax2 [(.e (fOp oIx (.e (fOp oIx (.v 1) (.e (fUn oNeg (.e (ret (.int 1))))))) (.e (ret (.int 1))))), (.v 3)]) fNil))) (fUn oNeg (.e (ret (.int 1))))) (sMut 1 (fTup (fCons (fVar 2) (fCons (fVar 3) fNil))) kAppend))
noncomputable def g_joined : Rho → Fl := (sSeq (sSetL 1 (fLs fNil))
    (sSeq (sFor (fItL (fLst (fLB oSortP [(.v 0)]))) (gTp (gsCons (gSet 2) (gsCons (gSet 3) gsNil))) b_joined_1)
    (sRetV 1)))
noncomputable abbrev F_joined := runP 4 g_joined 1
noncomputable def q_shut_days_1 : M (List PyData) := (fLc (fAB oRng1 (fCons (fCB oLen [(.v 0)]) fNil)) (gSet 2) (fB (fOp oLt (.e (fOp oIx (.v 1) (.v 2))) (.e (fOp oIx (.e (fOp oIx (.v 0) (.v 2))) (.e (ret (.int 1))))))) (fOp oIx (.e (fOp oIx (.v 0) (.v 2))) (.e (ret (.int 0)))) [2])
noncomputable def g_shut_days : Rho → Fl := (sRetL q_shut_days_1)
noncomputable abbrev F_shut_days := runP 3 g_shut_days 2
noncomputable def q_barring_1 : M (List PyData) := (fLc (fItL (fVar 4)) (gSet 7) (ret true) (fCall F_holds_day (fCons (fVar 6) (fCons (fVar 7) fNil))) [7])
noncomputable def b_barring_1 : Rho → Fl := (sIf (tAndM (fB (fOp oEQ (.e (fCall F_spare (fCons (fVar 0) (fCons (fVar 1) (fCons (fVar 2) (fCons (fVar 3) (fCons (fVar 6) fNil))))))) (.e (ret (.int 0))))) (fB (fCB oAny [(.e (fLst q_barring_1))]))) (sMut 5 (fVar 6) kAppend) sNil)
noncomputable def g_barring : Rho → Fl := (sSeq (sSet 4 (fLst (fCallL F_shut_days (fCons (fVar 0) (fCons (fVar 3) fNil)))))
    (sSeq (sSetL 5 (fLs fNil))
    (sSeq (sFor (fItL (fLst (fCallL F_all_stretches (fCons (fVar 0) fNil)))) (gSet 6) b_barring_1)
    (sRetL (fCallL F_joined (fCons (fVar 5) fNil))))))
noncomputable abbrev F_barring := runP 8 g_barring 4
end Mm
namespace Fx
open PySem L2
variable [Tabz]
def AfN (G : Gx) (σ : St) (ρ : Rho) (Hf H : Hp) (Q : VK) : Res Tr → Prop
  | .ok (t, ρ') => ∀ v F Hf' H', Nxt G.q σ ρ Hf H σ ρ' Hf' H' → TR Hf' H' v t F → F.Nodup → (∀ a ∈ F, Fre H σ ρ a ∧ Hf' a = none ∧ ¬ OwnA H' σ ρ' a) → Q v H'
  | .exc c ρ' => ∀ Hf' H', Nxt G.q σ ρ Hf H σ ρ' Hf' H' → G.W (.ref (G.cA c)) none σ H'
  | .bad => False
def tN (G : Gx) (f : M Tr) : TE := fun σ H Q => ∃ Hf ρ, Rp Hf H σ ρ ∧ AfN G σ ρ Hf H Q (f ρ)
section
variable {X : Cx} {G : Gx} {e a b : Expr} {es : List Expr} {f g : M D} {fs : M (List D)} {pos : Pos} {A B : Opd} {As : List Opd} {pn : List Nat} {σ : St} {ρ ρ1 : Rho} {Hf H Hf1 H1 : Hp}
theorem AfN.later {Q : VK} (n : Nxt G.q σ ρ Hf H σ ρ1 Hf1 H1) : ∀ {o : Res Tr}, AfN G σ ρ Hf H Q o → AfN G σ ρ1 Hf1 H1 Q o
  | .ok (a, ρ'), q => fun v F Hf' H' n' r nd h => q v F Hf' H' (n.trans n') r nd fun a m => ⟨(h a m).1.back n, (h a m).2⟩
  | .exc c ρ', q => fun Hf' H' n' => q Hf' H' (n.trans n')
  | .bad, q => q
theorem stepN {α γ : Type} {R1 : Hp → α → γ → Prop} {Q : VK} {g : M γ} {k : γ → M Tr} (rp : Rp Hf H σ ρ) (af : AfN G σ ρ Hf H Q (bnd g k ρ)) :
    tG G R1 g σ H fun y H1 => ∃ b Hf1 ρ1, Nxt G.q σ ρ Hf H σ ρ1 Hf1 H1 ∧ R1 Hf1 y b ∧ AfN G σ ρ1 Hf1 H1 Q (k b ρ1) := by
  refine ⟨Hf, ρ, rp, ?_⟩
  unfold bnd at af
  cases e : g ρ with
  | ok p =>
    obtain ⟨b, ρ1⟩ := p
    rw [e] at af
    exact fun x Hf1 H1 n r => ⟨b, Hf1, ρ1, n, r, af.later n⟩
  | exc c ρ1 => rw [e] at af; exact af
  | bad => rw [e] at af; exact af
theorem tN.mono {f : M Tr} {Q Q' : VK} (h : ∀ x H, Q x H → Q' x H) (t : tN G f σ H Q) : tN G f σ H Q' := by
  obtain ⟨Hf, ρ, rp, q⟩ := t
  refine ⟨Hf, ρ, rp, ?_⟩
  cases e : f ρ with
  | ok x => obtain ⟨t, ρ'⟩ := x; rw [e] at q; exact fun v F Hf' H' n r nd z => h _ _ (q v F Hf' H' n r nd z)
  | exc c ρ' => rw [e] at q; exact q
  | bad => rw [e] at q; exact q
@[simp] def nE (f : M D) : M Tr := fun ρ => (bnd f fun d => ret (.fz d)) ρ
theorem fn_E (h : PE X e (tE G f)) : PE X e (tN G (nE f)) := by
  refine h.imp fun σ H Q ⟨Hf, ρ, rp, af⟩ => ?_
  exact (stepN rp af).mono fun x H1 ⟨d, Hf1, ρ1, n1, ra, af1⟩ => af1 x [] Hf1 H1 (.refl n1.rp) (.fz ra) List.nodup_nil fun _ z => nomatch z
@[simp] def nL (f : M (List D)) : M Tr := fun ρ => (bnd f fun d => ret (.ow d)) ρ
theorem fn_L {f : M (List D)} (h : PE X e (tL G f)) : PE X e (tN G (nL f)) := by
  refine h.imp fun σ H Q ⟨Hf, ρ, rp, af⟩ => ⟨Hf, ρ, rp, ?_⟩
  unfold nL bnd at af
  cases e : f ρ with
  | ok x =>
    obtain ⟨ds, ρ1⟩ := x
    rw [e] at af
    exact fun p vs Hf' H' n h1 h2 h3 h4 r => af _ [p] Hf' H' n (.ow h4 r) (List.nodup_cons.mpr ⟨List.not_mem_nil, List.nodup_nil⟩) fun a m => by
      rw [List.mem_singleton] at m; subst m; exact ⟨h1, h2, h3⟩
  | exc c ρ1 => rw [e] at af; exact af
  | bad => rw [e] at af; exact af
mutual
def frzT : Tr → Option D
  | .fz d => some d
  | .ow ds => some (.list ds)
  | .dk ks ds => some (.dict ((ks.map kD).zip ds))
  | .dt _ _ => none
  | .nd .lst ts => (frzTs ts).map PyData.list
  | .nd .tup ts => (frzTs ts).map PyData.tuple
  | .nd (.ins c) ts => (frzTs ts).map (instD c)
  | .nd (.dct ks) ts => (frzTs ts).map fun ds => PyData.dict ((ks.map kD).zip ds)
def frzTs : List Tr → Option (List D)
  | [] => some []
  | t :: ts => match frzT t with
    | some d => (frzTs ts).map (d :: ·)
    | none => none
end
mutual
theorem TR.frz {Hf' : Hp} (e : Same Hf Hf') : ∀ {v : V} {t : Tr} {F : List Addr} {d : D}, TR Hf H v t F → (∀ a ∈ F, Hf' a = H a) → frzT t = some d → Rep Hf' v d
  | _, _, _, _, .fz r, k, q => by cases q; exact rep_same e r
  | _, _, _, _, .ow h r, k, q => by cases q; exact .lst ((k _ (List.mem_singleton.mpr rfl)).trans h) (repA_same e r)
  | _, _, _, _, .dk h l r, k, q => by cases q; exact .dct ((k _ (List.mem_singleton.mpr rfl)).trans h) l (repA_same e r)
  | _, _, _, _, .dt _ _ _, k, q => by cases q
  | _, _, _, d, .nd (p := p) (k := kk) (vs := vs) (ts := ts) (F := F) h r, k, q => by
    have hp := h.of (k p List.mem_cons_self)
    have rk : ∀ ds, frzTs ts = some ds → RepA Hf' vs ds := fun ds q => TRs.frz e r (fun a z => k a (List.mem_cons_of_mem _ z)) q
    cases kk with
    | lst =>
      simp only [frzT] at q
      cases q2 : frzTs ts with
      | none => rw [q2] at q; cases q
      | some ds => rw [q2] at q; cases q; exact .lst hp (rk ds q2)
    | tup =>
      simp only [frzT] at q
      cases q2 : frzTs ts with
      | none => rw [q2] at q; cases q
      | some ds => rw [q2] at q; cases q; exact .tup hp (rk ds q2)
    | ins c =>
      simp only [frzT] at q
      cases q2 : frzTs ts with
      | none => rw [q2] at q; cases q
      | some ds =>
        rw [q2] at q; cases q
        obtain ⟨l, dx, h1⟩ := hp
        exact .ins h1 l (rk ds q2)
    | dct ks =>
      simp only [frzT] at q
      cases q2 : frzTs ts with
      | none => rw [q2] at q; cases q
      | some ds =>
        rw [q2] at q; cases q
        obtain ⟨l, h1⟩ := hp
        exact .dct h1 l (rk ds q2)
theorem TRs.frz {Hf' : Hp} (e : Same Hf Hf') : ∀ {v : List V} {t : List Tr} {F : List Addr} {d : List D}, TRs Hf H v t F → (∀ a ∈ F, Hf' a = H a) → frzTs t = some d → RepA Hf' v d
  | _, _, _, _, .nil, k, q => by cases q; exact .nil
  | _, _, _, _, .cons (t := t) (ts := ts) h r, k, q => by
    simp only [frzTs] at q
    cases q1 : frzT t with
    | none => rw [q1] at q; cases q
    | some d1 =>
      rw [q1] at q
      dsimp only at q
      cases q2 : frzTs ts with
      | none => rw [q2] at q; cases q
      | some ds =>
        rw [q2] at q; cases q
        exact .cons (TR.frz e h (fun a z => k a (List.mem_append_left _ z)) q1) (TRs.frz e r (fun a z => k a (List.mem_append_right _ z)) q2)
end
@[simp] def fFrz (f : M Tr) : M D := fun ρ => (bnd f fun t => opt (frzT t)) ρ
@[simp] def plN (i : Nat) : M Pth := fun ρ => match ρ[i]? with
  | some (.tr _) => .ok ((i, []), ρ)
  | some (.lk _) => .ok ((i, []), ρ)
  | some (.pa k qs) => if (trAt (k, qs) ρ).isSome = true then .ok ((k, qs), ρ) else .bad
  | _ => .bad
theorem pl_name (i : Nat) {x : Str} (hN : X.N[i]? = some x := by rfl) (hv : Vis X.env.scope x := by first | exact Or.inl rfl | exact Or.inr (Or.inl rfl) | exact Or.inr (Or.inr rfl)) (hd : (x == ("__debug__" : Str)) = false := by decide)
    (hcd : (x == ("__classdict__" : Str)) = false := by decide) : PE X (.Name x pos) (tPl G (plN i)) := by
  refine (pe_var hN hv hd hcd).imp fun σ H Q ⟨Hf, ρ, rp, af⟩ => ?_
  unfold plN at af
  cases e : ρ[i]? with
  | none => rw [e] at af; exact af.elim
  | some s =>
    rw [e] at af
    cases s with
    | un => exact af.elim
    | raw v => exact af.elim
    | fz d => exact af.elim
    | ow ds => exact af.elim
    | tr t =>
      obtain ⟨v, F, h1, _⟩ := rp.tree (.inl e)
      exact ⟨v, h1, af v t Hf H (.refl rp) ⟨v, t, h1, .inl e, .nil⟩⟩
    | lk t =>
      obtain ⟨v, F, h1, _⟩ := rp.tree (.inr e)
      exact ⟨v, h1, af v t Hf H (.refl rp) ⟨v, t, h1, .inr e, .nil⟩⟩
    | pa k qs =>
      dsimp only at af
      cases e1 : trAt (k, qs) ρ with
      | none => rw [e1] at af; exact False.elim af
      | some s =>
        rw [e1] at af
        obtain ⟨t, h1, h2⟩ := trAt_is e1
        obtain ⟨v, w, s', g1, g2, g3⟩ := rp.al i k qs t e h1
        exact ⟨w, g2, af w s' Hf H (.refl rp) ⟨v, t, g1, h1, g3⟩⟩
theorem At.snoc {v w u : V} {t s s' : Tr} {qs : List Nat} {p : Addr} {k : Nk} {vs : List V} {ts : List Tr} {n : Nat} (h : At H v t qs w s) (es : s = .nd k ts) (ew : w = .ref p) (hn : NodeOk H p k vs) (h1 : vs[n]? = some u) (h2 : ts[n]? = some s') : At H v t (qs ++ [n]) u s' := by
  induction h with
  | nil => subst es ew; exact .cons hn h1 h2 .nil
  | cons a b c d ih => exact .cons a b c (ih es ew)
theorem stepP {α : Type} {Q : VK} {g : M α} {k : α → M Pth} {β : Type} {R1 : Hp → β → α → Prop} (rp : Rp Hf H σ ρ) (af : AfP G σ ρ Hf H Q (bnd g k ρ)) :
    tG G R1 g σ H fun y H1 => ∃ b Hf1 ρ1, Nxt G.q σ ρ Hf H σ ρ1 Hf1 H1 ∧ R1 Hf1 y b ∧ AfP G σ ρ1 Hf1 H1 Q (k b ρ1) := by
  refine ⟨Hf, ρ, rp, ?_⟩
  unfold bnd at af
  cases e : g ρ with
  | ok p =>
    obtain ⟨b, ρ1⟩ := p
    rw [e] at af
    refine fun x Hf1 H1 n r => ⟨b, Hf1, ρ1, n, r, ?_⟩
    revert af
    dsimp only
    cases k b ρ1 with
    | ok x => obtain ⟨p, ρ2⟩ := x; exact fun af v s Hf' H' n' a => af v s Hf' H' (n.trans n') a
    | exc c ρ2 => exact fun af Hf' H' n' => af Hf' H' (n.trans n')
    | bad => exact fun af => af
  | exc c ρ1 => rw [e] at af; exact af
  | bad => rw [e] at af; exact af
theorem stepPP {α : Type} {P : Rho → Hp → Hp → Res α → Prop} {g : M Pth} {k : Pth → M α} (hl : ∀ {ρ ρ1 Hf H Hf1 H1 o}, Nxt G.q σ ρ Hf H σ ρ1 Hf1 H1 → P ρ Hf H o → P ρ1 Hf1 H1 o) (hx : ∀ {ρ Hf H c ρ1}, P ρ Hf H (.exc c ρ1) → ∀ Hf' H', Nxt G.q σ ρ Hf H σ ρ1 Hf' H' → G.W (.ref (G.cA c)) none σ H') (hb : ∀ {ρ Hf H}, ¬ P ρ Hf H .bad) (rp : Rp Hf H σ ρ) (af : P ρ Hf H (bnd g k ρ)) :
    tPl G g σ H fun y H1 => ∃ p s Hf1 ρ1, Nxt G.q σ ρ Hf H σ ρ1 Hf1 H1 ∧ AtV H1 σ ρ1 p y s ∧ P ρ1 Hf1 H1 (k p ρ1) := by
  refine ⟨Hf, ρ, rp, ?_⟩
  unfold bnd at af
  cases e : g ρ with
  | ok p =>
    obtain ⟨b, ρ1⟩ := p
    rw [e] at af
    exact fun v s Hf1 H1 n a => ⟨b, s, Hf1, ρ1, n, a, hl n af⟩
  | exc c ρ1 => rw [e] at af; exact hx af
  | bad => rw [e] at af; exact absurd af hb
theorem AfP.later {Q : VK} (n : Nxt G.q σ ρ Hf H σ ρ1 Hf1 H1) : ∀ {o : Res Pth}, AfP G σ ρ Hf H Q o → AfP G σ ρ1 Hf1 H1 Q o
  | .ok (a, ρ'), q => fun v s Hf' H' n' r => q v s Hf' H' (n.trans n') r
  | .exc c ρ', q => fun Hf' H' n' => q Hf' H' (n.trans n')
  | .bad, q => q
@[simp] def plF (f : M Pth) (c : Str) (n : Nat) : M Pth := fun ρ => (bnd f fun p ρ => match trAt p ρ with
  | some (.nd (.ins c') ts) => if c' = c ∧ n < ts.length then .ok ((p.1, p.2 ++ [n]), ρ) else .bad
  | _ => .bad) ρ
@[simp] def fRd (f : M Pth) : M D := fun ρ => (bnd f fun p ρ => match trAt p ρ with
  | some (.fz d) => .ok (d, ρ)
  | _ => .bad) ρ
end
end Fx
namespace Fx
open PySem L2
variable [Tabz]
def killS (kf : List Nat → Bool) (i : Nat) : Sl → Sl
  | .pa k q => if k = i ∧ kf q = false then .un else .pa k q
  | s => s
section
variable {kf : List Nat → Bool} {i : Nat}
@[simp] theorem killS_un : killS kf i .un = .un := rfl
@[simp] theorem killS_fz {d : D} : killS kf i (.fz d) = .fz d := rfl
@[simp] theorem killS_ow {d : List D} : killS kf i (.ow d) = .ow d := rfl
@[simp] theorem killS_raw {d : V} : killS kf i (.raw d) = .raw d := rfl
@[simp] theorem killS_tr {d : Tr} : killS kf i (.tr d) = .tr d := rfl
@[simp] theorem killS_lk {d : Tr} : killS kf i (.lk d) = .lk d := rfl
@[simp] theorem killS_pa {k : Nat} {q : List Nat} : killS kf i (.pa k q) = if k = i ∧ kf q = false then .un else .pa k q := rfl
@[simp] def killB (kf : List Nat → Bool) (i : Nat) (ρ : Rho) : Rho := ρ.map (killS kf i)
@[simp] def kNo : List Nat → Bool := fun _ => false
theorem killB_get {ρ : Rho} {j : Nat} {s : Sl} (h : (killB kf i ρ)[j]? = some s) : (ρ[j]? = some s ∧ ∀ k q, s = .pa k q → k = i → kf q = true) ∨ (s = .un ∧ ∃ q, ρ[j]? = some (.pa i q)) := by
  unfold killB at h
  rw [List.getElem?_map] at h
  cases e : ρ[j]? with
  | none => rw [e] at h; cases h
  | some s0 =>
    rw [e] at h
    cases s0 with
    | pa k q =>
      simp only [Option.map_some, Option.some.injEq, killS_pa] at h
      by_cases z : k = i ∧ kf q = false
      · rw [if_pos z] at h
        exact .inr ⟨h.symm, q, by rw [z.1]⟩
      · rw [if_neg z] at h
        subst h
        refine .inl ⟨rfl, fun k' q' y ek => ?_⟩
        cases y
        cases hq : kf q with
        | true => rfl
        | false => exact absurd ⟨ek, hq⟩ z
    | un => cases h; exact .inl ⟨rfl, fun _ _ y => nomatch y⟩
    | fz _ => cases h; exact .inl ⟨rfl, fun _ _ y => nomatch y⟩
    | ow _ => cases h; exact .inl ⟨rfl, fun _ _ y => nomatch y⟩
    | raw _ => cases h; exact .inl ⟨rfl, fun _ _ y => nomatch y⟩
    | tr _ => cases h; exact .inl ⟨rfl, fun _ _ y => nomatch y⟩
    | lk _ => cases h; exact .inl ⟨rfl, fun _ _ y => nomatch y⟩
theorem killB_len {ρ : Rho} : (killB kf i ρ).length = ρ.length := List.length_map _
theorem killB_at {ρ : Rho} {j : Nat} {s : Sl} (h : ρ[j]? = some s) (hn : ∀ k q, s ≠ .pa k q) : (killB kf i ρ)[j]? = some s := by
  unfold killB
  rw [List.getElem?_map, h]
  cases s <;> first | rfl | exact absurd rfl (hn _ _)
end
section
variable {q : Bool} {Hf Hf' H H' : Hp} {σ σ' : St} {ρ ρ' : Rho}
theorem ownI_tr {i : Nat} {t : Tr} {v : V} {F : List Addr} (hi : ρ[i]? = some (.tr t)) (hv : σ[i]? = some (some v)) (r : TR Hf H v t F) {a : Addr} : OwnI H σ ρ i a ↔ a ∈ F := by
  constructor
  · rintro ⟨s, w, e1, e2, o⟩
    rw [hi] at e1; cases e1
    rw [hv] at e2; cases e2
    obtain ⟨Hf0, F0, r0, m⟩ := o
    have e := r.inj r0
    subst e
    exact m
  · intro m
    exact ⟨_, _, hi, hv, Hf, F, r, m⟩
theorem Rp.chgT (r : Rp Hf H σ ρ) {i : Nat} {t t' : Tr} {v : V} {F F' : List Addr} (kf : List Nat → Bool) (hi : ρ[i]? = some (.tr t)) (hv : σ[i]? = some (some v)) (r0 : TR Hf H v t F) (sub : Same Hf Hf') (sub' : Same Hf' H') (tb : Tb H') (nt : NtH Hf')
    (keep : ∀ a o, H a = some o → NT o → a ∉ F → H' a = some o) (dom : ∀ a, H' a = none → H a = none) (fr : ∀ a, Hf a = none → Hf' a = none ∨ H a = none ∨ a ∈ F) (r1 : TR Hf' H' v t' F') (nd1 : F'.Nodup) (hf1 : ∀ a ∈ F', Hf' a = none) (own : ∀ a ∈ F', a ∈ F ∨ H a = none)
    (al : ∀ qs w s, kf qs = true → At H v t qs w s → ∃ s', At H' v t' qs w s') : Nxt false σ ρ Hf H σ (killB kf i (ρ.set i (.tr t'))) Hf' H' := by
  have hlt : i < ρ.length := (List.getElem?_eq_some_iff.mp hi).1
  have gi : (killB kf i (ρ.set i (.tr t')))[i]? = some (.tr t') := killB_at (by rw [List.getElem?_set, if_pos rfl, if_pos hlt]) fun _ _ z => nomatch z
  have ow' : ∀ a, OwnI H' σ (killB kf i (ρ.set i (.tr t'))) i a ↔ a ∈ F' := fun a => ownI_tr gi hv r1
  refine r.chgs (· = i) (by rw [killB_len, List.length_set]; exact r.len) sub sub' tb nt (fun a o h t n => keep a o h t fun z => n i rfl ((ownI_tr hi hv r0).mpr z)) dom (fun a z => (fr a z).imp id fun w => w.imp id fun y => ⟨i, rfl, (ownI_tr hi hv r0).mpr y⟩) (fun j s n e => ?_) ?_ ?_ ?_ ?_ ?_ (fun z => nomatch z)
  · rcases killB_get e with ⟨h, _⟩ | ⟨h, _⟩
    · rw [List.getElem?_set, if_neg fun z => n z.symm] at h
      exact .inl h
    · exact .inr h
  · rintro _ s rfl e
    rw [gi] at e; cases e
    exact ⟨(fun _ z => nomatch z), (fun _ _ z => nomatch z)⟩
  · rintro j i' qs t2 h1 h2 ei
    have ei : i' = i := ei
    subst ei
    have et : t2 = t' := by
      rcases h2 with e | e
      · rw [gi] at e; cases e; rfl
      · rw [gi] at e; cases e
    subst et
    rcases killB_get h1 with ⟨h, hk⟩ | ⟨h, _⟩
    · have hj : j ≠ i' := fun z => by
        subst z
        rw [gi] at h1; cases h1
      rw [List.getElem?_set, if_neg fun z => hj z.symm] at h
      obtain ⟨v', w, s, g1, g2, g3⟩ := r.al j _ qs t h (.inl hi)
      rw [hv] at g1; cases g1
      obtain ⟨s', a'⟩ := al qs w s (hk _ _ rfl rfl) g3
      exact ⟨v, w, s', hv, g2, a'⟩
    · cases h
  · rintro _ s rfl e
    rw [gi] at e; cases e
    rw [hv]
    exact slok_tr.mpr ⟨F', r1, nd1, hf1⟩
  · rintro _ a rfl z
    exact (own a ((ow' a).mp z)).imp (fun m => ⟨_, rfl, (ownI_tr hi hv r0).mpr m⟩) id
  · rintro _ _ a rfl rfl _ _; rfl
@[simp] def toSl : Tr → Sl
  | .fz d => .fz d
  | .ow ds => .ow ds
  | t => .tr t
theorem toSl_ok {v : V} {t : Tr} {F : List Addr} (r : TR Hf H v t F) (nd : F.Nodup) (hf : ∀ a ∈ F, Hf a = none) : SlOk Hf H (some (some v)) (toSl t) := by
  cases r with
  | fz r => exact slok_fz.mpr r
  | ow h r => exact ⟨hf _ (List.mem_singleton.mpr rfl), _, h, r⟩
  | dk h l r => exact slok_tr.mpr ⟨_, .dk h l r, nd, hf⟩
  | dt h l r => exact slok_tr.mpr ⟨_, .dt h l r, nd, hf⟩
  | nd h k => exact slok_tr.mpr ⟨_, .nd h k, nd, hf⟩
theorem toSl_own {v : V} {t : Tr} {F : List Addr} (r : TR Hf H v t F) (a : Addr) : OwnS H v (toSl t) a ↔ a ∈ F := by
  have key : ∀ {t : Tr} {F : List Addr}, TR Hf H v t F → ((∃ Hf0 F0, TR Hf0 H v t F0 ∧ a ∈ F0) ↔ a ∈ F) := fun {t F} r => ⟨fun ⟨Hf0, F0, r0, m⟩ => (r.inj r0).symm ▸ m, fun m => ⟨Hf, F, r, m⟩⟩
  cases r with
  | fz r => exact ⟨fun z => z.elim, fun z => nomatch z⟩
  | ow h r =>
    rw [List.mem_singleton]
    exact ⟨fun z => by cases (show V.ref _ = .ref a from z); rfl, fun z => by rw [z]; exact rfl⟩
  | dk h l r => exact key (.dk h l r)
  | dt h l r => exact key (.dt h l r)
  | nd h k => exact key (.nd h k)
theorem toSl_nl (t : Tr) : (∀ u, toSl t ≠ .lk u) ∧ ∀ k qs, toSl t ≠ .pa k qs := by
  cases t <;> exact ⟨(fun _ z => nomatch z), (fun _ _ z => nomatch z)⟩
theorem Rp.killN (r : Rp Hf H σ ρ) (kf : List Nat → Bool) (i : Nat) : Nxt false σ ρ Hf H σ (killB kf i ρ) Hf H := by
  refine r.weak (by rw [killB_len]; exact r.len) fun j s h => ?_
  rcases killB_get h with ⟨h, _⟩ | ⟨h, _⟩
  · exact .inl ⟨h, rfl⟩
  · subst h; exact .inr ⟨True.intro, slok_un⟩
theorem Nxt.putT {Hf0 H0 Hf H : Hp} {σ0 σ : St} {ρ0 ρ : Rho} (n : Nxt q σ0 ρ0 Hf0 H0 σ ρ Hf H) (rp0 : Rp Hf0 H0 σ0 ρ0) {i : Nat} {v : V} {t : Tr} {F : List Addr} (r : TR Hf H v t F) (nd : F.Nodup) (hF : ∀ a ∈ F, Fre H0 σ0 ρ0 a ∧ Hf a = none ∧ ¬ OwnA H σ ρ a) :
    Nxt false σ0 ρ0 Hf0 H0 (σ.set i (some v)) ((killB kNo i ρ).set i (toSl t)) Hf H := by
  have n1 := n.any.trans (n.rp.killN kNo i)
  have hF1 : ∀ a ∈ F, ¬ OwnA H σ (killB kNo i ρ) a := fun a m z => ((n.rp.killN kNo i).os a z).elim (hF a m).2.2 fun y => by
    obtain ⟨o, ho, _⟩ := r.obj a m
    rw [ho] at y; cases y
  obtain ⟨r2, oa, lk2⟩ := n1.rp.store (i := i) (v := v) (s' := toSl t) (toSl_ok r nd fun a m => (hF a m).2.1) (toSl_nl t) (fun a z => ⟨hF1 a ((toSl_own r a).mp z), fun y => (hF a ((toSl_own r a).mp z)).1.notLk rp0 (n1.ls a y)⟩) (fun _ j qs h => by
    rcases killB_get h with ⟨_, hk⟩ | ⟨h, _⟩
    · exact absurd (hk i qs rfl rfl) (by simp)
    · cases h)
  exact ⟨n.sub, n.keep, fun a z => (oa a z).elim (n1.os a) fun y => (hF a ((toSl_own r a).mp y)).1.symm, fun a z => n1.ls a (lk2 a z), n.dom, n.fr, (fun z => nomatch z), r2⟩
end
section
variable {X : Cx} {G : Gx} {e a b : Expr} {es : List Expr} {f g : M D} {fs : M (List D)} {pos : Pos} {A B : Opd} {As : List Opd} {pn : List Nat} {σ : St} {ρ ρ1 : Rho} {Hf H Hf1 H1 : Hp}
theorem stepSN {D : Ends} {g : M Tr} {k : Tr → Rho → Fl} (rp : Rp Hf H σ ρ) (af : AfS G pn σ ρ Hf H D (sBnd g k ρ)) :
    tN G g σ H fun y H1 => ∃ t F Hf1 ρ1, Nxt false σ ρ Hf H σ ρ1 Hf1 H1 ∧ TR Hf1 H1 y t F ∧ F.Nodup ∧ (∀ a ∈ F, Fre H σ ρ a ∧ Hf1 a = none ∧ ¬ OwnA H1 σ ρ1 a) ∧ AfS G pn σ ρ Hf H D (k t ρ1) := by
  refine ⟨Hf, ρ, rp, ?_⟩
  unfold sBnd at af
  cases e : g ρ with
  | ok p =>
    obtain ⟨b, ρ1⟩ := p
    rw [e] at af
    exact fun v F Hf1 H1 n r nd hF => ⟨b, F, Hf1, ρ1, n.any, r, nd, hF, af⟩
  | exc c ρ1 => rw [e] at af; exact fun Hf' H' n => af σ Hf' H' n.any (.refl _ _)
  | bad => rw [e] at af; exact af
@[simp] def sSetT (i : Nat) (f : M Tr) : Rho → Fl := fun ρ => (sBnd f fun t ρ => .nx ((killB kNo i ρ).set i (toSl t))) ρ
theorem fs_setT (i : Nat) {x : Str} {pos' : Pos} {f : M Tr} (hN : X.N.Nodup) (hpn : i ∉ pn) (he : PE X e (tN G f)) (hi : X.N[i]? = some x := by rfl) (hx : Loc X.env.scope x := by first | exact Or.inl rfl | exact Or.inr rfl) (hs : swapsWith e (some (.Name x pos')) pos.line X.env = pure false := by rfl) (hf : X.fn x = true ∨ X.env.scope.names.lookup x = some .local := by first | exact .inl rfl | exact .inr rfl) :
    PS X (.Assign [.Name x pos'] e pos) (tS G pn (sSetT i f)) := by
  refine (ps_set hN hi hx he hs hf).imp fun D σ H ⟨Hf, ρ, rp, af⟩ => ?_
  exact (stepSN rp af).mono fun v H1 ⟨t, F, Hf1, ρ1, n1, r, nd, hF, af1⟩ => af1 _ Hf1 H1 (n1.putT rp r nd hF) (pin_set hpn)
@[simp] def toRt : Tr → Rt
  | .fz d => .fz d
  | .ow ds => .ow ds
  | t => .tr t
theorem toRt_ok {σ' : St} {ρ' : Rho} {Hf' H' : Hp} {v : V} {t : Tr} {F : List Addr} (r : TR Hf' H' v t F) (nd : F.Nodup) (hF : ∀ a ∈ F, Fre H σ ρ a ∧ Hf' a = none ∧ ¬ OwnA H' σ' ρ' a) : RtOk pn σ ρ H σ' ρ' Hf' H' v (toRt t) := by
  cases r with
  | fz r => exact r
  | ow h r =>
    obtain ⟨h1, h2, h3⟩ := hF _ (List.mem_singleton.mpr rfl)
    exact ⟨_, _, rfl, h1, h2, h3, h, r⟩
  | dk h l r => exact ⟨_, .dk h l r, nd, hF⟩
  | dt h l r => exact ⟨_, .dt h l r, nd, hF⟩
  | nd h k => exact ⟨_, .nd h k, nd, hF⟩
@[simp] def sRetT (f : M Tr) : Rho → Fl := fun ρ => (sBnd f fun t ρ => .ret (toRt t) ρ) ρ
theorem fs_retT {f : M Tr} (he : PE X e (tN G f)) : PS X (.Return (some e) pos) (tS G pn (sRetT f)) := by
  refine (ps_ret he).imp fun D σ H ⟨Hf, ρ, rp, af⟩ => ?_
  exact (stepSN rp af).mono fun v H1 ⟨t, F, Hf1, ρ1, n1, r, nd, hF, af1⟩ => af1 _ σ Hf1 H1 n1 (.refl _ _) (toRt_ok r nd hF)
@[simp] def sRetVT (i : Nat) : Rho → Fl := fun ρ => match ρ[i]? with
  | some (.tr t) => .ret (.tr t) (ρ.set i .un)
  | _ => .bad
end
end Fx
namespace Fx
open PySem L2
variable [Tabz]
inductive Ar where
  | d (x : PyData)
  | l (t : Tr)
  | o (t : Tr)
inductive OT where
  | ok (r : Rt) (os : List Ar)
  | exc (c : Str) (os : List Ar)
  | bad
def ArOk (Hf H : Hp) (v : V) : Ar → List Addr → Prop
  | .d x, F => F = [] ∧ Rep Hf v x
  | .l t, F => TR Hf H v t F
  | .o t, F => TR Hf H v t F ∧ F.Nodup ∧ ∀ a ∈ F, Hf a = none
structure ArsOk (Hf H : Hp) (vs : List V) (as : List Ar) (Fs : Nat → List Addr) : Prop where
  len : vs.length = as.length
  ok : ∀ (i : Nat) (v : V) (a : Ar), vs[i]? = some v → as[i]? = some a → ArOk Hf H v a (Fs i)
  nd : ∀ (i j : Nat) (a : Addr) (t t' : Tr), as[i]? = some (.o t) → as[j]? = some (.o t') → a ∈ Fs i → a ∈ Fs j → i = j
  lk : ∀ (i j : Nat) (a : Addr) (t t' : Tr), as[i]? = some (.l t) → as[j]? = some (.o t') → a ∈ Fs i → a ∉ Fs j
def IoA (as : List Ar) (Fs : Nat → List Addr) (a : Addr) : Prop := ∃ (i : Nat) (t : Tr), as[i]? = some (.o t) ∧ a ∈ Fs i
structure EndT (Hf H : Hp) (vs : List V) (as : List Ar) (Fs : Nat → List Addr) (Hf' H' : Hp) (os : List Ar) (Gs : Nat → List Addr) : Prop where
  sub : Same Hf Hf'
  sb : Sb Hf' H'
  keep : ∀ a o, H a = some o → NT o → ¬ IoA as Fs a → H' a = some o
  dom : ∀ a, H' a = none → H a = none
  fr : ∀ a, Hf a = none → Hf' a = none ∨ H a = none ∨ IoA as Fs a
  out : ∀ (i : Nat) (v : V) (t : Tr), vs[i]? = some v → os[i]? = some (.o t) → TR Hf' H' v t (Gs i) ∧ (Gs i).Nodup ∧ ∀ a ∈ Gs i, Hf' a = none ∧ (IoA as Fs a ∨ H a = none)
  nd : ∀ (i j : Nat) (a : Addr) (t t' : Tr), os[i]? = some (.o t) → os[j]? = some (.o t') → a ∈ Gs i → a ∈ Gs j → i = j
  shp : ∀ i : Nat, (∃ t0, as[i]? = some (.o t0)) → ∃ t, os[i]? = some (.o t)
def RtT (H : Hp) (as : List Ar) (Fs : Nat → List Addr) (Hf' H' : Hp) (os : List Ar) (Gs : Nat → List Addr) (v : V) : Rt → Prop
  | .fz d => Rep Hf' v d
  | .ow ds => ∃ p vs, v = .ref p ∧ (H p = none ∨ IoA as Fs p) ∧ Hf' p = none ∧ ¬ IoA os Gs p ∧ H' p = some (.lst vs) ∧ RepA Hf' vs ds
  | .tr t => ∃ F, TR Hf' H' v t F ∧ F.Nodup ∧ ∀ a ∈ F, (H a = none ∨ IoA as Fs a) ∧ Hf' a = none ∧ ¬ IoA os Gs a
def spT (cA : Str → Addr) (n : Nat) (F : List Ar → OT) : Sp := fun vs H Q E => vs.length = n ∧ ∃ Hf as Fs, Sb Hf H ∧ ArsOk Hf H vs as Fs ∧ (match F as with
  | .ok r os => ∀ v Hf' H' Gs, EndT Hf H vs as Fs Hf' H' os Gs → RtT H as Fs Hf' H' os Gs v r → Q v H'
  | .exc c os => ∀ Hf' H' Gs, EndT Hf H vs as Fs Hf' H' os Gs → E (.ref (cA c)) none H'
  | .bad => False)
@[simp] def arSl : Ar → Sl
  | .d x => .fz x
  | .l t => .lk t
  | .o t => toSl t
@[simp] def slTr : Sl → Option Tr
  | .tr t => some t
  | .ow ds => some (.ow ds)
  | _ => none
@[simp] def outs : List Ar → Rho → Option (List Ar)
  | [], _ => some []
  | .o _ :: as, s :: ρ => (match slTr s with
    | some t => (outs as ρ).map (Ar.o t :: ·)
    | none => none)
  | .d x :: as, _ :: ρ => (outs as ρ).map (Ar.d x :: ·)
  | .l t :: as, _ :: ρ => (outs as ρ).map (Ar.l t :: ·)
  | _ :: _, [] => none
@[simp] def toOutT (as : List Ar) : Fl → OT
  | .nx ρ => (match outs as ρ with
    | some os => .ok (.fz .none) os
    | none => .bad)
  | .ret r ρ => (match outs as ρ with
    | some os => .ok r os
    | none => .bad)
  | .exc c ρ => (match outs as ρ with
    | some os => .exc c os
    | none => .bad)
  | _ => .bad
@[simp] def arM : Ar → Nat
  | .d _ => 0
  | .l _ => 1
  | .o _ => 2
def stT (n : Nat) (as : List Ar) : Rho := as.map arSl ++ List.replicate (n - as.length) Sl.un
@[simp] def runT (n : Nat) (g : Rho → Fl) (md : List Nat) (as : List Ar) : OT := if as.map arM = md then toOutT as (g (stT n as)) else .bad
theorem outs_at : ∀ {as : List Ar} {ρ : Rho} {os : List Ar}, outs as ρ = some os → ∀ (i : Nat) (t : Tr), (os[i]? = some (.o t) → (∃ t0, as[i]? = some (.o t0)) ∧ ∃ s, ρ[i]? = some s ∧ slTr s = some t) ∧ ((∃ t0, as[i]? = some (.o t0)) → ∃ t, os[i]? = some (.o t))
  | [], ρ, os, h => by
    cases h
    intro i t
    exact ⟨fun z => by simp at z, fun ⟨_, z⟩ => by simp at z⟩
  | .o t0 :: as, s :: ρ, os, h => by
    unfold outs at h
    cases e : slTr s with
    | none => rw [e] at h; cases h
    | some t1 =>
      rw [e] at h
      dsimp only at h
      cases e2 : outs as ρ with
      | none => rw [e2] at h; cases h
      | some os2 =>
        rw [e2] at h
        cases h
        intro i t
        cases i with
        | zero =>
          refine ⟨fun z => ⟨⟨t0, rfl⟩, s, rfl, ?_⟩, fun _ => ⟨t1, rfl⟩⟩
          simp only [List.getElem?_cons_zero, Option.some.injEq, Ar.o.injEq] at z
          rw [e, z]
        | succ i => simpa using outs_at e2 i t
  | .d x :: as, s :: ρ, os, h => by
    unfold outs at h
    cases e2 : outs as ρ with
    | none => rw [e2] at h; cases h
    | some os2 =>
      rw [e2] at h
      cases h
      intro i t
      cases i with
      | zero => simp
      | succ i => simpa using outs_at e2 i t
  | .l x :: as, s :: ρ, os, h => by
    unfold outs at h
    cases e2 : outs as ρ with
    | none => rw [e2] at h; cases h
    | some os2 =>
      rw [e2] at h
      cases h
      intro i t
      cases i with
      | zero => simp
      | succ i => simpa using outs_at e2 i t
  | .o _ :: _, [], os, h => by cases h
  | .d _ :: _, [], os, h => by cases h
  | .l _ :: _, [], os, h => by cases h
theorem stT_get {n : Nat} {as : List Ar} {i : Nat} {s : Sl} (h : (stT n as)[i]? = some s) : (∃ a, as[i]? = some a ∧ s = arSl a) ∨ s = .un := by
  unfold stT at h
  by_cases q : i < as.length
  · rw [List.getElem?_append_left (by simpa using q), List.getElem?_map, List.getElem?_eq_getElem q] at h
    cases h
    exact .inl ⟨_, List.getElem?_eq_getElem q, rfl⟩
  · rw [List.getElem?_append_right (by simpa using q), List.getElem?_replicate] at h
    split at h
    · cases h; exact .inr rfl
    · cases h
theorem toSl_lk {t u : Tr} : toSl t ≠ .lk u := (toSl_nl t).1 u
theorem toSl_pa {t : Tr} {k : Nat} {qs : List Nat} : toSl t ≠ .pa k qs := (toSl_nl t).2 k qs
section
variable {Hf H : Hp} {vs : List V} {as : List Ar} {Fs : Nat → List Addr} {N : List Str}
theorem startT_own (h : ArsOk Hf H vs as Fs) {i : Nat} {a : Addr} : OwnI H (L2.start N vs) (stT N.length as) i a → ∃ t, as[i]? = some (.o t) ∧ a ∈ Fs i := by
  rintro ⟨s, v, e1, e2, o⟩
  rcases stT_get e1 with ⟨x, ex, rfl⟩ | rfl
  · have hv : vs[i]? = some v := by
      have hl : i < vs.length := by rw [h.len]; exact (List.getElem?_eq_some_iff.mp ex).1
      rw [start_get (v := vs[i]) (List.getElem?_eq_getElem hl)] at e2
      cases e2
      exact List.getElem?_eq_getElem hl
    cases x with
    | d _ => exact o.elim
    | l _ => exact o.elim
    | o t =>
      obtain ⟨r, _, _⟩ := h.ok i v _ hv ex
      exact ⟨t, ex, (toSl_own r a).mp o⟩
  · exact o.elim
theorem startT_rp (sm : Sb Hf H) (h : ArsOk Hf H vs as Fs) (hN : as.length ≤ N.length) : Rp Hf H (L2.start N vs) (stT N.length as) := by
  have gv : ∀ {i : Nat} {x : Ar}, as[i]? = some x → ∃ v, vs[i]? = some v ∧ (L2.start N vs)[i]? = some (some v) := fun {i x} ex => by
    have hl : i < vs.length := by rw [h.len]; exact (List.getElem?_eq_some_iff.mp ex).1
    exact ⟨vs[i], List.getElem?_eq_getElem hl, start_get (List.getElem?_eq_getElem hl)⟩
  refine ⟨sm.sm, sm.tb, sm.nt, by unfold stT L2.start; simp [h.len], fun i s e => ?_, fun i j a h1 h2 => ?_, fun a ⟨i, t, v, Hf0, F, e1, e2, r, m⟩ ⟨j, z⟩ => ?_, fun j i qs t e _ => ?_⟩
  · rcases stT_get e with ⟨x, ex, rfl⟩ | rfl
    · obtain ⟨v, hv, es⟩ := gv ex
      rw [es]
      have q := h.ok i v x hv ex
      cases x with
      | d _ => exact slok_fz.mpr q.2
      | l t => exact slok_lk.mpr ⟨_, q⟩
      | o t => exact toSl_ok q.1 q.2.1 q.2.2
    · exact slok_un
  · obtain ⟨t, e1, m1⟩ := startT_own h h1
    obtain ⟨t', e2, m2⟩ := startT_own h h2
    exact h.nd i j a t t' e1 e2 m1 m2
  · obtain ⟨t', e3, m3⟩ := startT_own h z
    rcases stT_get e1 with ⟨x, ex, es⟩ | es
    · obtain ⟨v', hv, es'⟩ := gv ex
      rw [es'] at e2; cases e2
      cases x with
      | d _ => cases es
      | o t2 => exact absurd es.symm toSl_lk
      | l t2 =>
        cases es
        have q : TR Hf H v t (Fs i) := h.ok i v _ hv ex
        have e := q.inj r
        subst e
        exact h.lk i j a t t' ex e3 m m3
    · cases es
  · rcases stT_get e with ⟨x, ex, es⟩ | es
    · cases x with
      | d _ => cases es
      | l _ => cases es
      | o t2 => exact absurd es.symm toSl_pa
    · cases es
end
theorem slTr_is {s : Sl} {t : Tr} (h : slTr s = some t) : (s = .tr t) ∨ (∃ ds, s = .ow ds ∧ t = .ow ds) := by
  cases s <;> simp only [slTr, Option.some.injEq, reduceCtorEq] at h
  · exact .inr ⟨_, rfl, h.symm⟩
  · exact .inl (by rw [h])
theorem slTr_ok {Hf H : Hp} {s : Sl} {t : Tr} {v : V} (h : slTr s = some t) (ok : SlOk Hf H (some (some v)) s) : ∃ F, TR Hf H v t F ∧ F.Nodup ∧ (∀ a ∈ F, Hf a = none) ∧ ∀ a, OwnS H v s a ↔ a ∈ F := by
  rcases slTr_is h with rfl | ⟨ds, rfl, rfl⟩
  · obtain ⟨F, r, nd, hf⟩ := slok_tr.mp ok
    exact ⟨F, r, nd, hf, fun a => ⟨fun ⟨Hf0, F0, r0, m⟩ => (r.inj r0).symm ▸ m, fun m => ⟨Hf, F, r, m⟩⟩⟩
  · obtain ⟨p, vs, e, h1, h2, h3⟩ := slok_ow ok
    cases e
    refine ⟨[p], .ow h2 h3, List.nodup_cons.mpr ⟨List.not_mem_nil, List.nodup_nil⟩, fun a m => by rw [List.mem_singleton] at m; rw [m]; exact h1, fun a => ?_⟩
    rw [List.mem_singleton]
    exact ⟨fun z => by cases (show V.ref p = .ref a from z); rfl, fun z => by rw [z]; exact rfl⟩
section
variable {Hf H Hf' H' : Hp} {vs : List V} {as os : List Ar} {Fs : Nat → List Addr} {N : List Str} {σ' : St} {ρ' : Rho} {pn : List Nat}
theorem end_T (h : ArsOk Hf H vs as Fs) (hpn : ∀ (i : Nat) (t : Tr), as[i]? = some (.o t) → i ∈ pn) (n : Nxt false (L2.start N vs) (stT N.length as) Hf H σ' ρ' Hf' H') (pi : Pin pn (L2.start N vs) σ') (eo : outs as ρ' = some os) :
    ∃ Gs, EndT Hf H vs as Fs Hf' H' os Gs ∧ (∀ a, IoA os Gs a → OwnA H' σ' ρ' a) ∧ ∀ a, OwnA H (L2.start N vs) (stT N.length as) a → IoA as Fs a := by
  have own0 : ∀ a, OwnA H (L2.start N vs) (stT N.length as) a → IoA as Fs a := fun a ⟨i, z⟩ => by
    obtain ⟨t, e, m⟩ := startT_own h z
    exact ⟨i, t, e, m⟩
  have key : ∀ i : Nat, ∃ G : List Addr, ∀ t, os[i]? = some (.o t) → ∃ v s, vs[i]? = some v ∧ σ'[i]? = some (some v) ∧ ρ'[i]? = some s ∧ TR Hf' H' v t G ∧ G.Nodup ∧ (∀ a ∈ G, Hf' a = none) ∧ ∀ a, OwnS H' v s a ↔ a ∈ G := fun i => by
    by_cases hq : ∃ t, os[i]? = some (.o t)
    · obtain ⟨t, ht⟩ := hq
      obtain ⟨⟨t0, h0⟩, s, es, et⟩ := (outs_at eo i t).1 ht
      have hl : i < vs.length := by rw [h.len]; exact (List.getElem?_eq_some_iff.mp h0).1
      have hv : vs[i]? = some vs[i] := List.getElem?_eq_getElem hl
      have sv : σ'[i]? = some (some vs[i]) := (pi i (hpn i t0 h0)).trans (start_get hv)
      have ok := n.rp.sl i s es
      rw [sv] at ok
      obtain ⟨G, r, nd, hf, ho⟩ := slTr_ok et ok
      exact ⟨G, fun t' ht' => by
        rw [ht] at ht'; cases ht'
        exact ⟨_, s, hv, sv, es, r, nd, hf, ho⟩⟩
    · exact ⟨[], fun t ht => absurd ⟨t, ht⟩ hq⟩
  have own : ∀ (i : Nat) (t : Tr) (a : Addr), os[i]? = some (.o t) → a ∈ (key i).choose → OwnI H' σ' ρ' i a := fun i t a ht m => by
    obtain ⟨v, s, hv, sv, es, r, nd, hf, ho⟩ := (key i).choose_spec t ht
    exact ⟨s, v, es, sv, (ho a).mpr m⟩
  refine ⟨fun i => (key i).choose, ⟨n.sub, n.rp.sb, fun a o e t z => n.keep a o e t fun y => z (own0 a y), n.dom, fun a z => (n.fr a z).imp id fun q => q.imp id (own0 a), fun i v t hv ht => ?_, fun i j a t t' h1 h2 m1 m2 => n.rp.nd i j a (own i t a h1 m1) (own j t' a h2 m2), fun i z => (outs_at eo i (.fz .none)).2 z⟩, fun a ⟨i, t, ht, m⟩ => ⟨i, own i t a ht m⟩, own0⟩
  obtain ⟨v', s, hv', sv, es, r, nd, hf, ho⟩ := (key i).choose_spec t ht
  rw [hv] at hv'; cases hv'
  exact ⟨r, nd, fun a m => ⟨hf a m, (n.os a ⟨i, own i t a ht m⟩).imp (own0 a) id⟩⟩
end
theorem fn_T {P : Program} {w : World} {K : PySem.W.Frag} {mg : Str → Option Value} {base : Heap} {cA : Str → Addr} {x qual : Str} {sd : Stmt} {f : Addr} {fd : FuncData} {N ps : List Str} {k : Nat} {g : Rho → Fl} {md : List Nat} {pn : List Nat} (Fn : Fun K x qual sd f fd) (S : FnScope N ps (defScope sd)) (hmd : md.length = ps.length) (hpn : ∀ i : Nat, md[i]? = some 2 → i ∈ pn)
    (hb : ∀ (cdv : Value) (A : Around) (outer : List Env) (s : Shared) (H : Hp) (E : XK), Room k (A.deeper (PyProof.Rows.envOfC qual (defScope sd) s.heap.objs.size f cdv)) → PSs (cxOf (L2.CX P w) P w K mg base N qual (defScope sd) f cdv A outer s H E) (defBody sd) (tS ⟨fun cls d _ H => E cls d H, cA, false⟩ pn g)) :
    FnOk P w K mg base (L2.CX P w) (k + 1) f fd ps (spT cA ps.length (runT N.length g md)) := by
  refine Fn.okX S (fun vs H Q E h => h.1) fun cdv A outer s H vs Q E hr h => ⟨_, hb cdv A outer s H E hr, ?_⟩
  obtain ⟨hl, Hf, as, Fs, sm, ak, h⟩ := h
  by_cases hm : as.map arM = md
  · simp only [runT, if_pos hm] at h
    have hN : as.length ≤ N.length := by
      have := congrArg List.length S.pre
      rw [List.length_take] at this
      rw [← ak.len]
      omega
    have hp : ∀ (i : Nat) (t : Tr), as[i]? = some (.o t) → i ∈ pn := fun i t e => hpn i (by rw [← hm, List.getElem?_map, e]; rfl)
    refine ⟨Hf, stT N.length as, startT_rp sm ak hN, ?_⟩
    cases e : g (stT N.length as) with
    | nx ρ' =>
      rw [e] at h
      intro σ' Hf' H' n pi
      simp only [toOutT] at h
      cases eo : outs as ρ' with
      | none => rw [eo] at h; exact h.elim
      | some os =>
        rw [eo] at h
        obtain ⟨Gs, en, _, _⟩ := end_T ak hp n pi eo
        exact h .non Hf' H' Gs en .non
    | ret rt ρ' =>
      rw [e] at h
      intro v σ' Hf' H' n pi hq
      simp only [toOutT] at h
      cases eo : outs as ρ' with
      | none => rw [eo] at h; exact h.elim
      | some os =>
        rw [eo] at h
        obtain ⟨Gs, en, oo, o0⟩ := end_T ak hp n pi eo
        refine h v Hf' H' Gs en ?_
        cases rt with
        | fz d => exact hq
        | ow es =>
          obtain ⟨p, us, ev, h1, h2, h3, h4, h5⟩ := hq
          exact ⟨p, us, ev, h1.imp id (o0 p), h2, fun z => h3 (oo p z), h4, h5⟩
        | tr t =>
          obtain ⟨F, h1, h2, h3⟩ := hq
          exact ⟨F, h1, h2, fun a m => ⟨(h3 a m).1.imp id (o0 a), (h3 a m).2.1, fun z => (h3 a m).2.2 (oo a z)⟩⟩
    | exc c ρ' =>
      rw [e] at h
      intro σ' Hf' H' n pi
      simp only [toOutT] at h
      cases eo : outs as ρ' with
      | none => rw [eo] at h; exact h.elim
      | some os =>
        rw [eo] at h
        obtain ⟨Gs, en, _, _⟩ := end_T ak hp n pi eo
        exact h Hf' H' Gs en
    | brk _ => rw [e] at h; exact h.elim
    | ct _ => rw [e] at h; exact h.elim
    | bad => rw [e] at h; exact h.elim
  · simp only [runT, if_neg hm] at h
end Fx
namespace Fx
open PySem L2
variable [Tabz]
mutual
def leafT : PyData → Tr
  | .list ds => .ow ds
  | .dict [(.none, .str c), (.none, .tuple ds)] => .nd (.ins c) (leafTs ds)
  | d => .fz d
def leafTs : List PyData → List Tr
  | [] => []
  | d :: ds => leafT d :: leafTs ds
end
theorem leafTs_map : ∀ ds : List PyData, leafTs ds = ds.map leafT
  | [] => by simp [leafTs]
  | d :: ds => by simp [leafTs, leafTs_map ds]
@[simp] theorem leafT_list {ds : List PyData} : leafT (.list ds) = .ow ds := by simp [leafT]
@[simp] theorem leafT_inst {c : Str} {ds : List PyData} : leafT (instD c ds) = .nd (.ins c) (ds.map leafT) := by simp [instD, leafT, leafTs_map]
@[simp] theorem leafT_none : leafT .none = .fz .none := by simp [leafT]
@[simp] theorem leafT_bool {b : Bool} : leafT (.bool b) = .fz (.bool b) := by simp [leafT]
@[simp] theorem leafT_int {i : Int} : leafT (.int i) = .fz (.int i) := by simp [leafT]
@[simp] theorem leafT_str {x : Str} : leafT (.str x) = .fz (.str x) := by simp [leafT]
@[simp] theorem leafT_tup {ds : List PyData} : leafT (.tuple ds) = .fz (.tuple ds) := by simp [leafT]
theorem leafT_dict {ks : List Key} {ds : List PyData} : leafT (.dict ((ks.map kD).zip ds)) = .fz (.dict ((ks.map kD).zip ds)) := by
  cases ks with
  | nil => simp [leafT]
  | cons k ks =>
    cases ds with
    | nil => simp [leafT]
    | cons d ds => cases k <;> simp [leafT, kD]
def unkD : PyData → Option Key
  | .int i => some (.inl i)
  | .str x => some (.inr x)
  | _ => none
def keysD : List (PyData × PyData) → Option (List Key)
  | [] => some []
  | (k, _) :: r => match unkD k with
    | some k => (keysD r).map (k :: ·)
    | none => none
def unfr : PyData → Option Tr
  | .list ds => some (.ow ds)
  | .dict [(.none, .str c), (.none, .tuple ds)] => some (.nd (.ins c) (ds.map leafT))
  | .dict kvs => (keysD kvs).map fun ks => .nd (.dct ks) (kvs.map fun p => leafT p.2)
  | _ => none
@[simp] theorem unfr_list {ds : List PyData} : unfr (.list ds) = some (.ow ds) := rfl
@[simp] theorem unfr_inst {c : Str} {ds : List PyData} : unfr (instD c ds) = some (.nd (.ins c) (ds.map leafT)) := rfl
section
variable {Hf H : Hp}
mutual
theorem leaf_tr (sm : Same Hf H) : ∀ {v : V} {d : PyData}, Rep Hf v d → ∃ F, TR Hf H v (leafT d) F ∧ ∀ a ∈ F, Hf a ≠ none
  | _, _, .lst h r => ⟨_, by rw [leafT_list]; exact .ow (sm _ _ h) r, fun a m => by rw [List.mem_singleton] at m; rw [m, h]; exact fun z => nomatch z⟩
  | _, _, .non => ⟨[], by rw [leafT_none]; exact .fz .non, fun _ z => nomatch z⟩
  | _, _, .bl b => ⟨[], by rw [leafT_bool]; exact .fz (.bl b), fun _ z => nomatch z⟩
  | _, _, .int i => ⟨[], by rw [leafT_int]; exact .fz (.int i), fun _ z => nomatch z⟩
  | _, _, .str i => ⟨[], by rw [leafT_str]; exact .fz (.str i), fun _ z => nomatch z⟩
  | _, _, .tup h r => ⟨[], by rw [leafT_tup]; exact .fz (.tup h r), fun _ z => nomatch z⟩
  | _, _, .ins h l r => by
    obtain ⟨F, h1, h2⟩ := leafs_tr sm r
    refine ⟨_, by rw [leafT_inst]; exact .nd ⟨l, _, sm _ _ h⟩ h1, fun a m => (List.mem_cons.mp m).elim (fun z => by rw [z, h]; exact fun y => nomatch y) (h2 a)⟩
  | _, _, .dct h l r => ⟨[], by rw [leafT_dict]; exact .fz (.dct h l r), fun _ z => nomatch z⟩
theorem leafs_tr (sm : Same Hf H) : ∀ {vs : List V} {ds : List PyData}, RepA Hf vs ds → ∃ F, TRs Hf H vs (ds.map leafT) F ∧ ∀ a ∈ F, Hf a ≠ none
  | _, _, .nil => ⟨[], .nil, fun _ z => nomatch z⟩
  | _, _, .cons h r => by
    obtain ⟨F, h1, h2⟩ := leaf_tr sm h
    obtain ⟨F', h3, h4⟩ := leafs_tr sm r
    exact ⟨F ++ F', .cons h1 h3, fun a m => (List.mem_append.mp m).elim (h2 a) (h4 a)⟩
end
theorem unkD_kD (k : Key) : unkD (kD k) = some k := by cases k <;> rfl
theorem keysD_zip : ∀ {ks : List Key} {ds : List PyData}, ks.length = ds.length → keysD ((ks.map kD).zip ds) = some ks ∧ ((ks.map kD).zip ds).map (fun p => leafT p.2) = ds.map leafT
  | [], [], _ => ⟨rfl, rfl⟩
  | k :: ks, d :: ds, h => by
    obtain ⟨h1, h2⟩ := keysD_zip (ks := ks) (ds := ds) (by simpa using h)
    refine ⟨?_, ?_⟩
    · show (match unkD (kD k) with
        | some k => (keysD ((ks.map kD).zip ds)).map (k :: ·)
        | none => none) = _
      rw [unkD_kD, h1]; rfl
    · simp only [List.map_cons, List.zip_cons_cons, h2]
  | [], _ :: _, h => by simp at h
  | _ :: _, [], h => by simp at h
theorem unfr_dct {ks : List Key} {ds : List PyData} (h : ks.length = ds.length) : unfr (.dict ((ks.map kD).zip ds)) = some (.nd (.dct ks) (ds.map leafT)) := by
  obtain ⟨h1, h2⟩ := keysD_zip h
  unfold unfr
  split
  · rename_i z; cases z
  · rename_i c ds' z
    exfalso
    cases ks with
    | nil => cases z
    | cons k ks =>
      cases ds with
      | nil => cases z
      | cons d ds =>
        simp only [List.map_cons, List.zip_cons_cons, PyData.dict.injEq, List.cons.injEq, Prod.mk.injEq] at z
        cases k <;> exact nomatch z.1.1
  · rename_i kvs z
    cases z
    rw [h1, h2]; rfl
  · rename_i z1 z2; exact absurd rfl (z2 _)
theorem unfr_tr (sm : Same Hf H) {v : V} {d : PyData} {t : Tr} (r : Rep Hf v d) (e : unfr d = some t) : ∃ F, TR Hf H v t F ∧ ∀ a ∈ F, Hf a ≠ none := by
  cases r with
  | lst h r =>
    cases e
    have z := leaf_tr sm (.lst h r)
    rw [leafT_list] at z
    exact z
  | non => cases e
  | bl b => cases e
  | int i => cases e
  | str i => cases e
  | tup h r => cases e
  | ins h l r =>
    cases e
    obtain ⟨F, h1, h2⟩ := leafs_tr sm r
    exact ⟨_, .nd ⟨l, _, sm _ _ h⟩ h1, fun a m => (List.mem_cons.mp m).elim (fun z => by rw [z, h]; exact fun y => nomatch y) (h2 a)⟩
  | dct h l r =>
    rw [unfr_dct (l.trans (repA_len r))] at e
    cases e
    obtain ⟨F, h1, h2⟩ := leafs_tr sm r
    exact ⟨_, .nd ⟨l, sm _ _ h⟩ h1, fun a m => (List.mem_cons.mp m).elim (fun z => by rw [z, h]; exact fun y => nomatch y) (h2 a)⟩
end
inductive Ag where
  | e (f : M PyData)
  | ld (f : M PyData)
  | lp (f : M Pth)
  | op (f : M Pth)
  | ls (i : Nat)
  | os (i : Nat)
inductive AgV where
  | e (d : PyData)
  | ld (d : PyData)
  | lp (p : Pth)
  | op (p : Pth)
  | ls (i : Nat)
  | os (i : Nat)
@[simp] def lsA (i : Nat) (ρ : Rho) : Option Tr := match (ρ[i]? : Option Sl) with
  | some (.tr t) => some t
  | some (.lk t) => some t
  | some (.ow ds) => some (.ow ds)
  | some (.fz d) => unfr d
  | _ => none
@[simp] def osA (i : Nat) (ρ : Rho) : Option Tr := match (ρ[i]? : Option Sl) with
  | some (.tr t) => some t
  | some (.ow ds) => some (.ow ds)
  | _ => none
@[simp] def Ag.go : Ag → M AgV
  | .e f => fun ρ => (bnd f fun d => ret (.e d)) ρ
  | .ld f => fun ρ => (bnd f fun d => ret (.ld d)) ρ
  | .lp f => fun ρ => (bnd f fun p => ret (.lp p)) ρ
  | .op f => fun ρ => (bnd f fun p => ret (.op p)) ρ
  | .ls i => fun ρ => if (lsA i ρ).isSome = true then .ok (.ls i, ρ) else .bad
  | .os i => fun ρ => if (osA i ρ).isSome = true then .ok (.os i, ρ) else .bad
def Ag.t (G : Gx) : Ag → TE
  | .e f => tE G f
  | .ld f => tE G f
  | .lp f => tPl G f
  | .op f => tPl G f
  | .ls i => tVar i
  | .os i => tVar i
def agR (σ : St) (ρ : Rho) (Hf H : Hp) (v : V) : AgV → Prop
  | .e d => Rep Hf v d
  | .ld d => Rep Hf v d
  | .lp p => ∃ s, AtV H σ ρ p v s
  | .op p => ∃ s, AtV H σ ρ p v s
  | .ls i => σ[i]? = some (some v)
  | .os i => σ[i]? = some (some v)
@[simp] def goT : List Ag → M (List AgV)
  | [] => ret []
  | A :: As => bnd A.go fun a => bnd (goT As) fun as => ret (a :: as)
def tArgs (G : Gx) : List Ag → TA
  | [] => tNil
  | A :: As => tCons (A.t G) (tArgs G As)
inductive AgAll (σ : St) (ρ : Rho) (Hf H : Hp) : List V → List AgV → Prop
  | nil : AgAll σ ρ Hf H [] []
  | cons {v : V} {vs : List V} {a : AgV} {as : List AgV} : agR σ ρ Hf H v a → AgAll σ ρ Hf H vs as → AgAll σ ρ Hf H (v :: vs) (a :: as)
def Ag.isPl : Ag → Bool
  | .lp _ => true
  | .op _ => true
  | _ => false
def plOk : List Ag → Bool
  | [] => true
  | [_] => true
  | A :: As => !A.isPl && plOk As
def AfR (G : Gx) (σ : St) (ρ : Rho) (Hf H : Hp) (Q : VK) : Res Rt → Prop
  | .ok (r, ρ') => ∀ v Hf' H', Nxt G.q σ ρ Hf H σ ρ' Hf' H' → RtOk [] σ ρ H σ ρ' Hf' H' v r → Q v H'
  | .exc c ρ' => ∀ Hf' H', Nxt G.q σ ρ Hf H σ ρ' Hf' H' → G.W (.ref (G.cA c)) none σ H'
  | .bad => False
def tR (G : Gx) (f : M Rt) : TE := fun σ H Q => ∃ Hf ρ, Rp Hf H σ ρ ∧ AfR G σ ρ Hf H Q (f ρ)
section
variable {X : Cx} {G Ga : Gx} {e a b : Expr} {es : List Expr} {pos : Pos} {pn : List Nat} {σ : St} {ρ ρ1 ρ2 : Rho} {Hf H Hf1 H1 Hf2 H2 : Hp} {Q : VK}
theorem AfR.later (n : Nxt G.q σ ρ Hf H σ ρ1 Hf1 H1) : ∀ {o : Res Rt}, AfR G σ ρ Hf H Q o → AfR G σ ρ1 Hf1 H1 Q o
  | .ok (a, ρ'), q => fun v Hf' H' n' r => q v Hf' H' (n.trans n') (r.later n)
  | .exc c ρ', q => fun Hf' H' n' => q Hf' H' (n.trans n')
  | .bad, q => q
theorem lsA_at (rp : Rp Hf H σ ρ) {i : Nat} {t : Tr} (h : lsA i ρ = some t) : ∃ v F, σ[i]? = some (some v) ∧ TR Hf H v t F ∧ ((∀ a ∈ F, OwnI H σ ρ i a) ∨ (∀ a ∈ F, LkA H σ ρ a) ∨ (∀ a ∈ F, Hf a ≠ none)) := by
  unfold lsA at h
  split at h
  · rename_i t' e; cases h
    obtain ⟨v, F, e1, r, _, _⟩ := slok_tr' (rp.sl i _ e)
    exact ⟨v, F, e1, r, .inl fun a m => (ownI_tr e e1 r).mpr m⟩
  · rename_i t' e; cases h
    obtain ⟨v, F, e1, r⟩ := slok_lk' (rp.sl i _ e)
    exact ⟨v, F, e1, r, .inr (.inl fun a m => ⟨i, _, v, Hf, F, e, e1, r, m⟩)⟩
  · rename_i ds e; cases h
    obtain ⟨p, vs, e1, h1, h2, h3⟩ := slok_ow (rp.sl i _ e)
    exact ⟨_, [p], e1, .ow h2 h3, .inl fun a m => by rw [List.mem_singleton] at m; exact (ownI_ow e e1).mpr m⟩
  · rename_i d e
    obtain ⟨v, e1, r⟩ := slok_fz' (rp.sl i _ e)
    obtain ⟨F, h1, h2⟩ := unfr_tr rp.sub r h
    exact ⟨v, F, e1, h1, .inr (.inr h2)⟩
  · cases h
theorem osA_at (rp : Rp Hf H σ ρ) {i : Nat} {t : Tr} (h : osA i ρ = some t) : ∃ v F s, ρ[i]? = some s ∧ slTr s = some t ∧ σ[i]? = some (some v) ∧ TR Hf H v t F ∧ F.Nodup ∧ (∀ a ∈ F, Hf a = none) ∧ ∀ a, OwnI H σ ρ i a ↔ a ∈ F := by
  unfold osA at h
  split at h
  · rename_i t' e; cases h
    obtain ⟨v, F, e1, r, nd, hf⟩ := slok_tr' (rp.sl i _ e)
    exact ⟨v, F, _, e, rfl, e1, r, nd, hf, fun a => ownI_tr e e1 r⟩
  · rename_i ds e; cases h
    obtain ⟨p, vs, e1, h1, h2, h3⟩ := slok_ow (rp.sl i _ e)
    exact ⟨_, [p], _, e, rfl, e1, .ow h2 h3, List.nodup_cons.mpr ⟨List.not_mem_nil, List.nodup_nil⟩, fun a m => by rw [List.mem_singleton] at m; rw [m]; exact h1, fun a => by rw [List.mem_singleton]; exact ownI_ow e e1⟩
  · cases h
theorem agR_keep (hq : Ga.q = true) (rp : Rp Hf1 H1 σ ρ1) (n : Nxt Ga.q σ ρ1 Hf1 H1 σ ρ2 Hf2 H2) {v : V} : ∀ {a : AgV}, agR σ ρ1 Hf1 H1 v a → agR σ ρ2 Hf2 H2 v a
  | .e d, h => rep_same n.sub h
  | .ld d, h => rep_same n.sub h
  | .lp p, ⟨s, h⟩ => ⟨s, h.keep rp (by rw [hq] at n; exact n)⟩
  | .op p, ⟨s, h⟩ => ⟨s, h.keep rp (by rw [hq] at n; exact n)⟩
  | .ls i, h => h
  | .os i, h => h
theorem agR_keep' (n : Nxt Ga.q σ ρ1 Hf1 H1 σ ρ2 Hf2 H2) {v : V} : ∀ {a : AgV}, (∀ p, a ≠ .lp p ∧ a ≠ .op p) → agR σ ρ1 Hf1 H1 v a → agR σ ρ2 Hf2 H2 v a
  | .e d, _, h => rep_same n.sub h
  | .ld d, _, h => rep_same n.sub h
  | .lp p, z, _ => absurd rfl (z p).1
  | .op p, z, _ => absurd rfl (z p).2
  | .ls i, _, h => h
  | .os i, _, h => h
theorem upG (hG : Ga.q = true ∨ G.q = false) {σ' : St} {ρ' : Rho} {Hf' H' : Hp} (n : Nxt Ga.q σ ρ Hf H σ' ρ' Hf' H') : Nxt G.q σ ρ Hf H σ' ρ' Hf' H' := by
  rcases hG with z | z
  · rw [z] at n; exact n.qto
  · rw [z]; exact n.any
theorem stepAg {A : Ag} {k : AgV → M Rt} (hG : Ga.q = true ∨ G.q = false) (hW : Ga.W = G.W) (hc : Ga.cA = G.cA) (rp : Rp Hf H σ ρ) (af : AfR G σ ρ Hf H Q (bnd A.go k ρ)) :
    A.t Ga σ H fun y H1 => ∃ b Hf1 ρ1, Nxt Ga.q σ ρ Hf H σ ρ1 Hf1 H1 ∧ (A.isPl = false → ∀ p, b ≠ .lp p ∧ b ≠ .op p) ∧ agR σ ρ1 Hf1 H1 y b ∧ AfR G σ ρ1 Hf1 H1 Q (k b ρ1) := by
  have lat : ∀ {ρ1 Hf1 H1 o}, Nxt Ga.q σ ρ Hf H σ ρ1 Hf1 H1 → AfR G σ ρ Hf H Q o → AfR G σ ρ1 Hf1 H1 Q o := fun n q => q.later (upG hG n)
  have data : ∀ {f : M PyData} {mk : PyData → AgV}, (∀ v Hf H ρ d, Rep Hf v d → agR σ ρ Hf H v (mk d)) → (∀ d p, mk d ≠ .lp p ∧ mk d ≠ .op p) → AfR G σ ρ Hf H Q (bnd (fun ρ => (bnd f fun d => ret (mk d)) ρ) k ρ) → tE Ga f σ H fun y H1 => ∃ b Hf1 ρ1, Nxt Ga.q σ ρ Hf H σ ρ1 Hf1 H1 ∧ (A.isPl = false → ∀ p, b ≠ .lp p ∧ b ≠ .op p) ∧ agR σ ρ1 Hf1 H1 y b ∧ AfR G σ ρ1 Hf1 H1 Q (k b ρ1) := by
    intro f mk h1 h2 af
    refine ⟨Hf, ρ, rp, ?_⟩
    unfold bnd at af
    dsimp only at af
    cases e : f ρ with
    | ok p =>
      obtain ⟨d, ρ1⟩ := p
      rw [e] at af
      exact fun x Hf1 H1 n r => ⟨mk d, Hf1, ρ1, n, fun _ => h2 d, h1 _ _ _ _ _ r, lat n af⟩
    | exc c ρ1 => rw [e] at af; exact fun Hf' H' n => by rw [hW, hc]; exact af Hf' H' (upG hG n)
    | bad => rw [e] at af; exact af
  have plc : ∀ {f : M Pth} {mk : Pth → AgV}, (∀ v Hf H ρ p s, AtV H σ ρ p v s → agR σ ρ Hf H v (mk p)) → A.isPl = true → AfR G σ ρ Hf H Q (bnd (fun ρ => (bnd f fun d => ret (mk d)) ρ) k ρ) → tPl Ga f σ H fun y H1 => ∃ b Hf1 ρ1, Nxt Ga.q σ ρ Hf H σ ρ1 Hf1 H1 ∧ (A.isPl = false → ∀ p, b ≠ .lp p ∧ b ≠ .op p) ∧ agR σ ρ1 Hf1 H1 y b ∧ AfR G σ ρ1 Hf1 H1 Q (k b ρ1) := by
    intro f mk h1 h2 af
    refine ⟨Hf, ρ, rp, ?_⟩
    unfold bnd at af
    dsimp only at af
    cases e : f ρ with
    | ok p =>
      obtain ⟨d, ρ1⟩ := p
      rw [e] at af
      exact fun x s Hf1 H1 n r => ⟨mk d, Hf1, ρ1, n, (fun z => by rw [h2] at z; cases z), h1 _ _ _ _ _ _ r, lat n af⟩
    | exc c ρ1 => rw [e] at af; exact fun Hf' H' n => by rw [hW, hc]; exact af Hf' H' (upG hG n)
    | bad => rw [e] at af; exact af
  cases A with
  | e f => exact data (mk := AgV.e) (fun _ _ _ _ _ r => r) (fun _ _ => ⟨(fun z => nomatch z), (fun z => nomatch z)⟩) af
  | ld f => exact data (mk := AgV.ld) (fun _ _ _ _ _ r => r) (fun _ _ => ⟨(fun z => nomatch z), (fun z => nomatch z)⟩) af
  | lp f => exact plc (mk := AgV.lp) (fun _ _ _ _ _ s r => ⟨s, r⟩) rfl af
  | op f => exact plc (mk := AgV.op) (fun _ _ _ _ _ s r => ⟨s, r⟩) rfl af
  | ls i =>
    unfold bnd Ag.go at af
    cases e : lsA i ρ with
    | none => simp only [e] at af; exact False.elim af
    | some t =>
      simp only [e, Option.isSome_some, if_true] at af
      obtain ⟨v, F, e1, _⟩ := lsA_at rp e
      exact ⟨v, e1, .ls i, Hf, ρ, .refl rp, fun _ p => ⟨(fun z => nomatch z), (fun z => nomatch z)⟩, e1, af⟩
  | os i =>
    unfold bnd Ag.go at af
    cases e : osA i ρ with
    | none => simp only [e] at af; exact False.elim af
    | some t =>
      simp only [e, Option.isSome_some, if_true] at af
      obtain ⟨v, F, s, _, _, e1, _⟩ := osA_at rp e
      exact ⟨v, e1, .os i, Hf, ρ, .refl rp, fun _ p => ⟨(fun z => nomatch z), (fun z => nomatch z)⟩, e1, af⟩
theorem Ag.run {A : Ag} {Q Q' : VK} (t : A.t G σ H Q) (h : ∀ x H, Q x H → Q' x H) : A.t G σ H Q' := by
  cases A with
  | e f => exact tG.mono h t
  | ld f => exact tG.mono h t
  | lp f => exact tPl.mono h t
  | op f => exact tPl.mono h t
  | ls i => exact ⟨t.choose, t.choose_spec.1, h _ _ t.choose_spec.2⟩
  | os i => exact ⟨t.choose, t.choose_spec.1, h _ _ t.choose_spec.2⟩
theorem tArgs_mono {σ : St} {Q Q' : List V → Hp → Prop} (h : ∀ x H, Q x H → Q' x H) : ∀ {As : List Ag} {H : Hp}, tArgs G As σ H Q → tArgs G As σ H Q'
  | [], H, t => h _ _ t
  | A :: As, H, t => Ag.run (A := A) (Q := fun x H1 => tArgs G As σ H1 fun xs H2 => Q (x :: xs) H2) t fun x H1 q => tArgs_mono (Q := fun xs H2 => Q (x :: xs) H2) (Q' := fun xs H2 => Q' (x :: xs) H2) (fun ys H2 w => h _ _ w) q
theorem stepArgs (hG : Ga.q = true ∨ G.q = false) (hW : Ga.W = G.W) (hc : Ga.cA = G.cA) : ∀ {As : List Ag} {ρ : Rho} {Hf H : Hp} {k : List AgV → M Rt}, (Ga.q = true ∨ plOk As = true) → Rp Hf H σ ρ → AfR G σ ρ Hf H Q (bnd (goT As) k ρ) →
    tArgs Ga As σ H fun ys H1 => ∃ bs Hf1 ρ1, Nxt Ga.q σ ρ Hf H σ ρ1 Hf1 H1 ∧ AgAll σ ρ1 Hf1 H1 ys bs ∧ AfR G σ ρ1 Hf1 H1 Q (k bs ρ1)
  | [], ρ, Hf, H, k, _, rp, af => ⟨[], Hf, ρ, .refl rp, .nil, af⟩
  | A :: As, ρ, Hf, H, k, ho, rp, af => by
    have e : bnd (goT (A :: As)) k ρ = bnd A.go (fun a => bnd (goT As) fun as => k (a :: as)) ρ := by
      show bnd (bnd A.go fun a => bnd (goT As) fun as => ret (a :: as)) k ρ = _
      rw [bnd_assoc]
      congr 1
      funext a
      rw [bnd_assoc]
      rfl
    rw [e] at af
    refine Ag.run (stepAg hG hW hc rp af) fun x H1 ⟨a, Hf1, ρ1, n1, np, ra, af1⟩ => ?_
    cases As with
    | nil => exact ⟨[a], Hf1, ρ1, n1, .cons ra .nil, af1⟩
    | cons B Bs =>
      have ho2 : Ga.q = true ∨ plOk (B :: Bs) = true := ho.imp id fun z => by
        simp only [plOk, Bool.and_eq_true] at z
        exact z.2
      refine tArgs_mono ?_ (stepArgs hG hW hc ho2 n1.rp af1)
      rintro ys H2 ⟨bs, Hf2, ρ2, n2, rb, af2⟩
      refine ⟨a :: bs, Hf2, ρ2, n1.trans n2, .cons ?_ rb, af2⟩
      rcases ho with z | z
      · exact agR_keep z n1.rp n2 ra
      · refine agR_keep' n2 (np ?_) ra
        simp only [plOk, Bool.and_eq_true, Bool.not_eq_true'] at z
        exact z.1
end
end Fx
namespace Fx
open PySem L2
variable [Tabz]
@[simp] def arOf : AgV → Rho → Option Ar
  | .e d, _ => some (.d d)
  | .ld d, _ => (unfr d).map .l
  | .lp p, ρ => (trAt p ρ).map .l
  | .op p, ρ => (match (ρ[p.1]? : Option Sl) with
    | some (.tr t) => (t.at p.2).map .o
    | _ => none)
  | .ls i, ρ => (lsA i ρ).map .l
  | .os i, ρ => (osA i ρ).map .o
@[simp] def arsOf : List AgV → Rho → Option (List Ar)
  | [], _ => some []
  | a :: as, ρ => match arOf a ρ with
    | some x => (arsOf as ρ).map (x :: ·)
    | none => none
@[simp] def rootO : AgV → Option Nat
  | .op p => some p.1
  | .os i => some i
  | _ => none
@[simp] def rootL : AgV → Option Nat
  | .lp p => some p.1
  | .ls i => some i
  | _ => none
@[simp] def rootsOk (avs : List AgV) : Bool := decide (avs.filterMap rootO).Nodup && (avs.filterMap rootL).all fun r => !(avs.filterMap rootO).contains r
@[simp] def kPre (qs : List Nat) : List Nat → Bool := fun q => q.isPrefixOf qs
@[simp] def upd1 (i : Nat) (qs : List Nat) (t' : Tr) (ρ : Rho) : Rho := match (ρ[i]? : Option Sl) with
  | some (.tr t) => killB (kPre qs) i (ρ.set i (.tr (t.put qs t')))
  | some (.ow _) => (match t' with
    | .ow es => ρ.set i (.ow es)
    | _ => ρ.set i .un)
  | _ => ρ
@[simp] def apU : List AgV → List Ar → Rho → Rho
  | .op p :: as, .o t :: os, ρ => apU as os (upd1 p.1 p.2 t ρ)
  | .os i :: as, .o t :: os, ρ => apU as os (upd1 i [] t ρ)
  | _ :: as, _ :: os, ρ => apU as os ρ
  | _, _, ρ => ρ
@[simp] def callTM (F : List Ar → OT) (avs : List AgV) : M Rt := fun ρ => match arsOf avs ρ with
  | some as => if rootsOk avs = true then (match F as with
    | .ok r os => .ok (r, apU avs os ρ)
    | .exc c os => .exc c (apU avs os ρ)
    | .bad => .bad) else .bad
  | none => .bad
@[simp] def fCallT (F : List Ar → OT) (As : List Ag) : M Rt := fun ρ => (bnd (goT As) (callTM F)) ρ
section
variable {ρ : Rho}
theorem arsOf_len : ∀ {avs : List AgV} {as : List Ar}, arsOf avs ρ = some as → as.length = avs.length
  | [], as, h => by cases h; rfl
  | a :: avs, as, h => by
    unfold arsOf at h
    cases e : arOf a ρ with
    | none => rw [e] at h; cases h
    | some x =>
      rw [e] at h
      dsimp only at h
      cases e2 : arsOf avs ρ with
      | none => rw [e2] at h; cases h
      | some bs => rw [e2] at h; cases h; simp [arsOf_len e2]
theorem arsOf_get : ∀ {avs : List AgV} {as : List Ar}, arsOf avs ρ = some as → ∀ (i : Nat) (a : AgV), avs[i]? = some a → ∃ x, as[i]? = some x ∧ arOf a ρ = some x
  | [], as, h, i, a, ha => by simp at ha
  | a0 :: avs, as, h, i, a, ha => by
    unfold arsOf at h
    cases e : arOf a0 ρ with
    | none => rw [e] at h; cases h
    | some x =>
      rw [e] at h
      dsimp only at h
      cases e2 : arsOf avs ρ with
      | none => rw [e2] at h; cases h
      | some bs =>
        rw [e2] at h; cases h
        cases i with
        | zero => simp only [List.getElem?_cons_zero, Option.some.injEq] at ha; subst ha; exact ⟨x, rfl, e⟩
        | succ i => simp only [List.getElem?_cons_succ] at ha; simpa using arsOf_get e2 i a ha
theorem fm_nodup {avs : List AgV} : (avs.filterMap rootO).Nodup → ∀ (i j : Nat) (a b : AgV) (r : Nat), avs[i]? = some a → avs[j]? = some b → rootO a = some r → rootO b = some r → i = j := by
  induction avs with
  | nil => intro _ i j a b r h; simp at h
  | cons c avs ih =>
    intro hn i j a b r h1 h2 r1 r2
    have mem : ∀ (k : Nat) (x : AgV), avs[k]? = some x → rootO x = some r → r ∈ avs.filterMap rootO := fun k x hk hx => List.mem_filterMap.mpr ⟨x, List.mem_of_getElem? hk, hx⟩
    have hn2 : (avs.filterMap rootO).Nodup := by
      cases hc : rootO c with
      | none => rw [List.filterMap_cons_none hc] at hn; exact hn
      | some x => rw [List.filterMap_cons_some hc] at hn; exact (List.nodup_cons.mp hn).2
    have hc : ∀ x, rootO c = some x → x ∉ avs.filterMap rootO := fun x hx => by
      rw [List.filterMap_cons_some hx] at hn; exact (List.nodup_cons.mp hn).1
    cases i with
    | zero =>
      simp only [List.getElem?_cons_zero, Option.some.injEq] at h1
      subst h1
      cases j with
      | zero => rfl
      | succ j => exact absurd (mem j b (by simpa using h2) r2) (hc r r1)
    | succ i =>
      cases j with
      | zero =>
        simp only [List.getElem?_cons_zero, Option.some.injEq] at h2
        subst h2
        exact absurd (mem i a (by simpa using h1) r1) (hc r r2)
      | succ j => rw [ih hn2 i j a b r (by simpa using h1) (by simpa using h2) r1 r2]
theorem upd1_len {i : Nat} {qs : List Nat} {t' : Tr} : (upd1 i qs t' ρ).length = ρ.length := by
  unfold upd1
  split
  · rw [killB_len, List.length_set]
  · split <;> rw [List.length_set]
  · rfl
theorem upd1_other {i j : Nat} {qs : List Nat} {t' : Tr} {s : Sl} (hj : j ≠ i) (h : (upd1 i qs t' ρ)[j]? = some s) : ρ[j]? = some s ∨ s = .un := by
  unfold upd1 at h
  split at h
  · rcases killB_get h with ⟨h, _⟩ | ⟨h, _⟩
    · rw [List.getElem?_set, if_neg fun z => hj z.symm] at h; exact .inl h
    · exact .inr h
  · split at h <;> (rw [List.getElem?_set, if_neg fun z => hj z.symm] at h; exact .inl h)
  · exact .inl h
theorem upd1_keep {i j : Nat} {qs : List Nat} {t' : Tr} {s : Sl} (hj : j ≠ i) (h : ρ[j]? = some s) (hs : ∀ k q, s ≠ .pa k q) : (upd1 i qs t' ρ)[j]? = some s := by
  unfold upd1
  split
  · exact killB_at (by rw [List.getElem?_set, if_neg fun z => hj z.symm]; exact h) hs
  · split <;> (rw [List.getElem?_set, if_neg fun z => hj z.symm]; exact h)
  · exact h
theorem upd1_pa {i j k : Nat} {qs q : List Nat} {t' : Tr} (h : (upd1 i qs t' ρ)[j]? = some (.pa k q)) : ρ[j]? = some (.pa k q) ∧ (k = i → (∃ t, ρ[i]? = some (.tr t)) → kPre qs q = true) := by
  unfold upd1 at h
  split at h
  · rename_i t0 e0
    rcases killB_get h with ⟨h, hk⟩ | ⟨h, _⟩
    · rw [List.getElem?_set] at h
      split at h
      · split at h <;> cases h
      · exact ⟨h, fun z _ => hk _ _ rfl z⟩
    · cases h
  · rename_i ds e0
    split at h <;> (rw [List.getElem?_set] at h; split at h; split at h <;> cases h; exact ⟨h, fun z ⟨t, e⟩ => by rw [e] at e0; cases e0⟩)
  · rename_i n1 n2
    exact ⟨h, fun z ⟨t, e⟩ => absurd e (n1 t)⟩
theorem apU_len : ∀ {avs : List AgV} {os : List Ar} {ρ : Rho}, (apU avs os ρ).length = ρ.length
  | [], _, _ => rfl
  | _ :: _, [], _ => by rename_i a _ _; cases a <;> rfl
  | a :: avs, o :: os, ρ => by
    cases a <;> cases o <;> simp only [apU] <;> first | exact apU_len | (rw [apU_len]; exact upd1_len)
theorem apU_other {j : Nat} {s : Sl} : ∀ {avs : List AgV} {os : List Ar} {ρ : Rho}, j ∉ avs.filterMap rootO → (apU avs os ρ)[j]? = some s → ρ[j]? = some s ∨ s = .un
  | [], _, _, _, h => .inl h
  | a :: _, [], _, _, h => .inl (by cases a <;> exact h)
  | a :: avs, o :: os, ρ, hj, h => by
    have h2 : j ∉ avs.filterMap rootO := fun z => hj (by
      cases hc : rootO a with
      | none => rw [List.filterMap_cons_none hc]; exact z
      | some x => rw [List.filterMap_cons_some hc]; exact List.mem_cons_of_mem _ z)
    have h3 : ∀ x, rootO a = some x → j ≠ x := fun x hx e => hj (by rw [List.filterMap_cons_some hx, e]; exact List.mem_cons_self)
    cases a <;> cases o <;> simp only [apU] at h <;> first | exact apU_other h2 h | skip
    · rcases apU_other h2 h with h | h
      · exact upd1_other (h3 _ rfl) h
      · exact .inr h
    · rcases apU_other h2 h with h | h
      · exact upd1_other (h3 _ rfl) h
      · exact .inr h
theorem apU_pa {j k : Nat} {q : List Nat} : ∀ {avs : List AgV} {os : List Ar} {ρ : Rho}, (apU avs os ρ)[j]? = some (.pa k q) → ρ[j]? = some (.pa k q)
  | [], _, _, h => h
  | a :: _, [], _, h => by cases a <;> exact h
  | a :: avs, o :: os, ρ, h => by
    cases a <;> cases o <;> simp only [apU] at h <;> first | exact apU_pa h | exact (upd1_pa (apU_pa h)).1
def qsOf : AgV → List Nat
  | .op p => p.2
  | _ => []
theorem apU_at {r : Nat} : ∀ {avs : List AgV} {os : List Ar} {ρ : Rho} {i : Nat} {a : AgV} {t' : Tr} {s : Sl}, (avs.filterMap rootO).Nodup → avs[i]? = some a → rootO a = some r → os[i]? = some (.o t') → ρ[r]? = some s → (∀ k q, s ≠ .pa k q) →
    ∃ ρ0, ρ0[r]? = some s ∧ (apU avs os ρ)[r]? = (upd1 r (qsOf a) t' ρ0)[r]? ∧ ∀ (j : Nat) (q : List Nat), (apU avs os ρ)[j]? = some (.pa r q) → ρ[j]? = some (.pa r q) ∧ ((∃ t, s = .tr t) → kPre (qsOf a) q = true)
  | a0 :: avs, o :: os, ρ, i, a, t', s, hn, ha, hr, ho, hs, hp => by
    have hn2 : (avs.filterMap rootO).Nodup := by
      cases hc : rootO a0 with
      | none => rw [List.filterMap_cons_none hc] at hn; exact hn
      | some x => rw [List.filterMap_cons_some hc] at hn; exact (List.nodup_cons.mp hn).2
    cases i with
    | zero =>
      simp only [List.getElem?_cons_zero, Option.some.injEq] at ha ho
      subst ha ho
      have hr2 : r ∉ avs.filterMap rootO := by rw [List.filterMap_cons_some hr] at hn; exact (List.nodup_cons.mp hn).1
      have fin : ∀ (qs : List Nat), ∃ ρ0, ρ0[r]? = some s ∧ (apU avs os (upd1 r qs t' ρ))[r]? = (upd1 r qs t' ρ0)[r]? ∧ ∀ (j : Nat) (q : List Nat), (apU avs os (upd1 r qs t' ρ))[j]? = some (.pa r q) → ρ[j]? = some (.pa r q) ∧ ((∃ t, s = .tr t) → kPre qs q = true) := fun qs => by
        refine ⟨ρ, hs, ?_, fun j q h => ?_⟩
        · have keepr : ∀ {avs : List AgV} {os : List Ar} {ρ : Rho} {s : Sl}, r ∉ avs.filterMap rootO → ρ[r]? = some s → (∀ k q, s ≠ .pa k q) → (apU avs os ρ)[r]? = some s := by
            intro avs
            induction avs with
            | nil => intro os ρ s _ h _; exact h
            | cons a avs ih =>
              intro os ρ s hj h hp
              have h2 : r ∉ avs.filterMap rootO := fun z => hj (by
                cases hc : rootO a with
                | none => rw [List.filterMap_cons_none hc]; exact z
                | some x => rw [List.filterMap_cons_some hc]; exact List.mem_cons_of_mem _ z)
              have h3 : ∀ x, rootO a = some x → r ≠ x := fun x hx e => hj (by rw [List.filterMap_cons_some hx, e]; exact List.mem_cons_self)
              cases os with
              | nil => cases a <;> exact h
              | cons o os => cases a <;> cases o <;> simp only [apU] <;> first | exact ih h2 h hp | exact ih h2 (upd1_keep (h3 _ rfl) h hp) hp
          have hlt : r < ρ.length := (List.getElem?_eq_some_iff.mp hs).1
          obtain ⟨s', hs'⟩ : ∃ s', (upd1 r qs t' ρ)[r]? = some s' := ⟨_, List.getElem?_eq_getElem (by rw [upd1_len]; exact hlt)⟩
          rw [hs']
          refine keepr hr2 hs' fun k q z => ?_
          subst z
          have := (upd1_pa hs').1
          rw [hs] at this
          cases this
          exact hp _ _ rfl
        · have h1 := upd1_pa (apU_pa h)
          exact ⟨h1.1, fun ⟨t, e⟩ => h1.2 rfl ⟨t, by rw [hs, e]⟩⟩
      cases a0 with
      | op p => cases hr; exact fin p.2
      | os k => cases hr; exact fin []
      | e _ => cases hr
      | ld _ => cases hr
      | lp _ => cases hr
      | ls _ => cases hr
    | succ i =>
      simp only [List.getElem?_cons_succ] at ha ho
      have ne : ∀ x, rootO a0 = some x → r ≠ x := fun x hx e => by
        subst e
        rw [List.filterMap_cons_some hx] at hn
        exact (List.nodup_cons.mp hn).1 (List.mem_filterMap.mpr ⟨a, List.mem_of_getElem? ha, hr⟩)
      cases a0 <;> cases o <;> simp only [apU] <;> first | exact apU_at hn2 ha hr ho hs hp | skip
      · obtain ⟨ρ0, g1, g2, g3⟩ := apU_at (ρ := upd1 _ _ _ ρ) hn2 ha hr ho (upd1_keep (ne _ rfl) hs hp) hp
        exact ⟨ρ0, g1, g2, fun j q h => ⟨(upd1_pa (g3 j q h).1).1, (g3 j q h).2⟩⟩
      · obtain ⟨ρ0, g1, g2, g3⟩ := apU_at (ρ := upd1 _ _ _ ρ) hn2 ha hr ho (upd1_keep (ne _ rfl) hs hp) hp
        exact ⟨ρ0, g1, g2, fun j q h => ⟨(upd1_pa (g3 j q h).1).1, (g3 j q h).2⟩⟩
  | [], _, _, _, _, _, _, _, ha, _, _, _, _ => by simp at ha
  | _ :: _, [], _, _, _, _, _, _, _, _, ho, _, _ => by simp at ho
end
end Fx
namespace Fx
open PySem L2
variable [Tabz]
section
variable {X : Cx} {G Ga : Gx} {σ : St} {ρ ρ' : Rho} {Hf H Hf' H' : Hp} {Q : VK} {vs : List V} {avs : List AgV} {as os : List Ar} {Fs Gs : Nat → List Addr}
theorem nodup_parts {α : Type} {L M R : List α} (h : (L ++ (M ++ R)).Nodup) : M.Nodup ∧ (∀ a, a ∈ L ∨ a ∈ R → a ∉ M) ∧ L.Nodup ∧ R.Nodup ∧ ∀ a ∈ L, a ∉ R := by
  rw [List.nodup_append] at h
  obtain ⟨h1, h2, h3⟩ := h
  rw [List.nodup_append] at h2
  obtain ⟨h4, h5, h6⟩ := h2
  refine ⟨h4, fun a z m => z.elim (fun y => h3 a y a (List.mem_append_left _ m) rfl) fun y => h6 a m a y rfl, h1, h5, fun a y z => h3 a y a (List.mem_append_right _ z) rfl⟩
theorem At.put : ∀ {q qs : List Nat} {u w w2 : V} {t s s2 t' : Tr} {F M : List Addr}, q.isPrefixOf qs = true → At H u t q w s → TR Hf H u t F → F.Nodup → At H u t qs w2 s2 → TR Hf H w2 s2 M → (∀ a ∈ F, a ∉ M → H' a = H a) → ∃ s1, At H' u (t.put qs t') q w s1
  | [], qs, u, w, w2, t, s, s2, t', F, M, _, h, _, _, _, _, _ => by cases h; exact ⟨_, .nil⟩
  | n :: q, [], _, _, _, _, _, _, _, _, _, hp, _, _, _, _, _, _ => by simp [List.isPrefixOf] at hp
  | n :: q, m :: qs, u, w, w2, t, s, s2, t', F, M, hp, h, r, nd, h2, r2, hk => by
    simp only [List.isPrefixOf, Bool.and_eq_true, beq_iff_eq] at hp
    obtain ⟨rfl, hp⟩ := hp
    cases h with
    | @cons p k vs ts _ v _ t1 _ _ a b c d =>
      cases h2 with
      | cons a2 b2 c2 d2 =>
        have ev := a.inj a2
        subst ev
        rw [b] at b2; cases b2
        rw [c] at c2; cases c2
        cases r with
        | nd a3 r3 =>
          have ev := a.inj a3
          subst ev
          obtain ⟨L, M1, R, eF, r1⟩ := TRs.get r3 b c
          obtain ⟨M', z, hM⟩ := r1.atv d2
          have eM := r2.inj z
          subst eM
          obtain ⟨ndp, ndk⟩ := List.nodup_cons.mp nd
          have hp' : H' p = H p := hk p List.mem_cons_self fun y => ndp (by rw [eF]; exact List.mem_append_right _ (List.mem_append_left _ (hM p y)))
          rw [eF] at ndk
          obtain ⟨s1, z1⟩ := At.put (t' := t') hp d r1 (nodup_parts ndk).1 d2 r2 (fun x y z => hk x (List.mem_cons_of_mem _ (by rw [eF]; exact List.mem_append_right _ (List.mem_append_left _ y))) z)
          refine ⟨s1, ?_⟩
          simp only [Tr.put, c]
          exact .cons (a.of hp') b (by rw [List.getElem?_set, if_pos rfl, if_pos (List.getElem?_eq_some_iff.mp c).1]) z1
theorem arg_ok (rp : Rp Hf H σ ρ) {v : V} {a : AgV} {x : Ar} (ra : agR σ ρ Hf H v a) (e : arOf a ρ = some x) : ∃ F, ArOk Hf H v x F ∧ (∀ t, x = .o t → ∃ r, rootO a = some r ∧ ∀ b ∈ F, OwnI H σ ρ r b) ∧ ∀ t, x = .l t → (∃ r, rootL a = some r ∧ ∀ b ∈ F, OwnI H σ ρ r b) ∨ (∀ b ∈ F, LkA H σ ρ b) ∨ ∀ b ∈ F, Hf b ≠ none := by
  cases a with
  | e d => cases e; exact ⟨[], ⟨rfl, ra⟩, (fun _ z => nomatch z), (fun _ z => nomatch z)⟩
  | ld d =>
    simp only [arOf] at e
    cases e1 : unfr d with
    | none => rw [e1] at e; cases e
    | some t =>
      rw [e1] at e; cases e
      obtain ⟨F, h1, h2⟩ := unfr_tr rp.sub ra e1
      exact ⟨F, h1, (fun _ z => nomatch z), fun _ _ => .inr (.inr h2)⟩
  | lp p =>
    simp only [arOf] at e
    cases e1 : trAt p ρ with
    | none => rw [e1] at e; cases e
    | some s =>
      rw [e1] at e; cases e
      obtain ⟨s', av⟩ := ra
      have es := av.trAt
      rw [e1] at es; cases es
      obtain ⟨u, t0, g1, g2, g3⟩ := av
      rcases g2 with g2 | g2
      · obtain ⟨u', F0, e2, r0, nd, hf⟩ := slok_tr' (rp.sl _ _ g2)
        rw [g1] at e2; cases e2
        obtain ⟨M, z, hM⟩ := r0.atv g3
        exact ⟨M, z, (fun _ z => nomatch z), fun _ _ => .inl ⟨_, rfl, fun b m => (ownI_tr g2 g1 r0).mpr (hM b m)⟩⟩
      · obtain ⟨u', F0, e2, r0⟩ := slok_lk' (rp.sl _ _ g2)
        rw [g1] at e2; cases e2
        obtain ⟨M, z, hM⟩ := r0.atv g3
        exact ⟨M, z, (fun _ z => nomatch z), fun _ _ => .inr (.inl fun b m => ⟨_, _, _, Hf, F0, g2, g1, r0, hM b m⟩)⟩
  | op p =>
    simp only [arOf] at e
    split at e
    · rename_i t0 g2
      cases e1 : t0.at p.2 with
      | none => rw [e1] at e; cases e
      | some t =>
        rw [e1] at e; cases e
        obtain ⟨s', u, t1, g1, g2', g3⟩ := ra
        have et : t1 = t0 := by
          rcases g2' with y | y
          · rw [g2] at y; cases y; rfl
          · rw [g2] at y; cases y
        subst et
        have es := g3.at
        rw [e1] at es; cases es
        obtain ⟨u', F0, e2, r0, nd, hf⟩ := slok_tr' (rp.sl _ _ g2)
        rw [g1] at e2; cases e2
        obtain ⟨w, L, M, R, h1, h2, h3, _⟩ := r0.focus (s' := .fz .none) e1
        obtain ⟨ew, _⟩ := g3.inj h1
        subst ew
        have hM : ∀ b ∈ M, b ∈ F0 := fun b m => by rw [h2]; exact List.mem_append_right _ (List.mem_append_left _ m)
        rw [h2] at nd
        exact ⟨M, ⟨h3, (nodup_parts nd).1, fun b m => hf b (hM b m)⟩, fun _ _ => ⟨_, rfl, fun b m => (ownI_tr g2 g1 r0).mpr (hM b m)⟩, (fun _ z => nomatch z)⟩
    · cases e
  | ls i =>
    simp only [arOf] at e
    cases e1 : lsA i ρ with
    | none => rw [e1] at e; cases e
    | some t =>
      rw [e1] at e; cases e
      obtain ⟨v', F, e2, h1, h2⟩ := lsA_at rp e1
      have ra' : σ[i]? = some (some v) := ra
      rw [ra'] at e2; cases e2
      exact ⟨F, h1, (fun _ z => nomatch z), fun _ _ => h2.imp (fun z => ⟨i, rfl, z⟩) id⟩
  | os i =>
    simp only [arOf] at e
    cases e1 : osA i ρ with
    | none => rw [e1] at e; cases e
    | some t =>
      rw [e1] at e; cases e
      obtain ⟨v', F, s, h1, h2, e2, h3, h4, h5, h6⟩ := osA_at rp e1
      have ra' : σ[i]? = some (some v) := ra
      rw [ra'] at e2; cases e2
      exact ⟨F, ⟨h3, h4, h5⟩, fun _ _ => ⟨i, rfl, fun b m => (h6 b).mpr m⟩, (fun _ z => nomatch z)⟩
theorem io_slot (rp : Rp Hf H σ ρ) {v : V} {a : AgV} {t t' : Tr} {r : Nat} {F K : List Addr} (ra : agR σ ρ Hf H v a) (e : arOf a ρ = some (.o t)) (hr : rootO a = some r) (aF : ArOk Hf H v (.o t) F) (sub : Same Hf Hf') (kp : ∀ b, OwnI H σ ρ r b → b ∉ F → H' b = H b ∧ Hf' b = none)
    (rG : TR Hf' H' v t' K) (nG : K.Nodup) (fG : ∀ b ∈ K, Hf' b = none) (dj : ∀ b ∈ K, OwnI H σ ρ r b → b ∈ F) :
    ∃ s u, ρ[r]? = some s ∧ (∀ k q, s ≠ .pa k q) ∧ σ[r]? = some (some u) ∧ ∀ ρ0 : Rho, ρ0[r]? = some s → ∃ s', (upd1 r (qsOf a) t' ρ0)[r]? = some s' ∧ ((∀ x, s' ≠ .lk x) ∧ ∀ k q, s' ≠ .pa k q) ∧ SlOk Hf' H' (some (some u)) s' ∧ (∀ b, OwnS H' u s' b → b ∈ K ∨ (OwnI H σ ρ r b ∧ b ∉ F)) ∧
      ∀ t1, s' = .tr t1 → ∃ t0, s = .tr t0 ∧ ∀ q w s0, kPre (qsOf a) q = true → At H u t0 q w s0 → ∃ s1, At H' u t1 q w s1 := by
  have tree : ∀ {t0 : Tr} {u : V} {F0 : List Addr} {qs : List Nat}, ρ[r]? = some (.tr t0) → σ[r]? = some (some u) → TR Hf H u t0 F0 → F0.Nodup → At H u t0 qs v t → ∀ ρ0 : Rho, ρ0[r]? = some (.tr t0) → ∃ s', (upd1 r qs t' ρ0)[r]? = some s' ∧ ((∀ x, s' ≠ .lk x) ∧ ∀ k q, s' ≠ .pa k q) ∧ SlOk Hf' H' (some (some u)) s' ∧ (∀ b, OwnS H' u s' b → b ∈ K ∨ (OwnI H σ ρ r b ∧ b ∉ F)) ∧
      ∀ t1, s' = .tr t1 → ∃ t0', Sl.tr t0 = .tr t0' ∧ ∀ q w s0, kPre qs q = true → At H u t0' q w s0 → ∃ s1, At H' u t1 q w s1 := by
    intro t0 u F0 qs g2 g1 r0 nd g3 ρ0 h0
    obtain ⟨w, L, M, R, h1, h2, h3, h4⟩ := r0.focus (s' := t') g3.at
    obtain ⟨ew, _⟩ := g3.inj h1
    subst ew
    have eF := h3.inj aF.1
    subst eF
    have own : ∀ b, b ∈ L ∨ b ∈ R → OwnI H σ ρ r b := fun b z => (ownI_tr g2 g1 r0).mpr (by
      rw [h2]
      rcases z with z | z
      · exact List.mem_append_left _ z
      · exact List.mem_append_right _ (List.mem_append_right _ z))
    have nd' := nd
    rw [h2] at nd'
    obtain ⟨n1, n2, n3, n4, n5⟩ := nodup_parts nd'
    have r1 := h4 sub (fun b z => (kp b (own b z) (n2 b z)).1) rG
    have hlt : r < ρ0.length := (List.getElem?_eq_some_iff.mp h0).1
    have hat : (upd1 r qs t' ρ0)[r]? = some (.tr (t0.put qs t')) := by
      unfold upd1
      rw [h0]
      exact killB_at (by rw [List.getElem?_set, if_pos rfl, if_pos hlt]) fun _ _ z => nomatch z
    refine ⟨_, hat, ⟨(fun _ z => nomatch z), (fun _ _ z => nomatch z)⟩, slok_tr.mpr ⟨_, r1, ?_, fun b m => ?_⟩, fun b z => ?_, fun t1 et => ?_⟩
    · rw [List.nodup_append, List.nodup_append]
      refine ⟨n3, ⟨nG, n4, fun b m c mc ebc => ?_⟩, fun b m c mc ebc => ?_⟩
      · subst ebc
        exact n2 b (.inr mc) (dj b m (own b (.inr mc)))
      · subst ebc
        rcases List.mem_append.mp mc with y | y
        · exact n2 b (.inl m) (dj b y (own b (.inl m)))
        · exact n5 b m y
    · rcases List.mem_append.mp m with y | y
      · exact (kp b (own b (.inl y)) (n2 b (.inl y))).2
      · rcases List.mem_append.mp y with y | y
        · exact fG b y
        · exact (kp b (own b (.inr y)) (n2 b (.inr y))).2
    · obtain ⟨Hf0, F1, r2, m⟩ := z
      have ee := r1.inj r2
      subst ee
      rcases List.mem_append.mp m with y | y
      · exact .inr ⟨own b (.inl y), n2 b (.inl y)⟩
      · rcases List.mem_append.mp y with y | y
        · exact .inl y
        · exact .inr ⟨own b (.inr y), n2 b (.inr y)⟩
    · cases et
      refine ⟨t0, rfl, fun q w s0 hk ha => ?_⟩
      exact At.put hk ha r0 nd g3 h3 fun b m nm => (kp b ((ownI_tr g2 g1 r0).mpr m) nm).1
  cases a with
  | e d => cases hr
  | ld d => cases hr
  | lp d => cases hr
  | ls d => cases hr
  | op p =>
    cases hr
    simp only [arOf] at e
    split at e
    · rename_i t0 g2
      cases e1 : t0.at p.2 with
      | none => rw [e1] at e; cases e
      | some t1 =>
        rw [e1] at e; cases e
        obtain ⟨s', u, t1, g1, g2', g3⟩ := ra
        have et : t1 = t0 := by
          rcases g2' with y | y
          · rw [g2] at y; cases y; rfl
          · rw [g2] at y; cases y
        subst et
        have es := g3.at
        rw [e1] at es; cases es
        obtain ⟨u', F0, e2, r0, nd, hf⟩ := slok_tr' (rp.sl _ _ g2)
        rw [g1] at e2; cases e2
        exact ⟨_, u, g2, (fun _ _ z => nomatch z), g1, tree g2 g1 r0 nd g3⟩
    · cases e
  | os i =>
    have ek : i = r := by simpa using hr
    subst ek
    simp only [arOf] at e
    cases e1 : osA i ρ with
    | none => rw [e1] at e; cases e
    | some t1 =>
      rw [e1] at e; cases e
      have ra' : σ[i]? = some (some v) := ra
      unfold osA at e1
      split at e1
      · rename_i t0 g2; cases e1
        obtain ⟨u', F0, e2, r0, nd, hf⟩ := slok_tr' (rp.sl _ _ g2)
        rw [ra'] at e2; cases e2
        exact ⟨_, v, g2, (fun _ _ z => nomatch z), ra', tree g2 ra' r0 nd .nil⟩
      · rename_i ds g2; cases e1
        refine ⟨_, v, g2, (fun _ _ z => nomatch z), ra', fun ρ0 h0 => ?_⟩
        have hlt : i < ρ0.length := (List.getElem?_eq_some_iff.mp h0).1
        unfold upd1
        rw [h0]
        dsimp only
        have un : ∃ s', (ρ0.set i .un)[i]? = some s' ∧ ((∀ x, s' ≠ .lk x) ∧ ∀ k q, s' ≠ .pa k q) ∧ SlOk Hf' H' (some (some v)) s' ∧ (∀ b, OwnS H' v s' b → b ∈ K ∨ (OwnI H σ ρ i b ∧ b ∉ F)) ∧ ∀ t1, s' = .tr t1 → ∃ t0, Sl.ow ds = .tr t0 ∧ ∀ q w s0, kPre (qsOf (.os i)) q = true → At H v t0 q w s0 → ∃ s1, At H' v t1 q w s1 :=
          ⟨.un, by rw [List.getElem?_set, if_pos rfl, if_pos hlt], ⟨(fun _ z => nomatch z), (fun _ _ z => nomatch z)⟩, slok_un, fun b z => z.elim, fun t1 z => nomatch z⟩
        cases rG with
        | @ow p2 vs2 es h1 h2 =>
          refine ⟨.ow es, by rw [List.getElem?_set, if_pos rfl, if_pos hlt], ⟨(fun _ z => nomatch z), (fun _ _ z => nomatch z)⟩, ⟨fG _ (List.mem_singleton.mpr rfl), _, h1, h2⟩, fun b z => .inl ?_, fun t1 z => nomatch z⟩
          cases (show V.ref _ = .ref b from z)
          exact List.mem_singleton.mpr rfl
        | fz _ => exact un
        | dk _ _ _ => exact un
        | dt _ _ _ => exact un
        | nd _ _ => exact un
      · cases e1
theorem agAll_get : ∀ {vs : List V} {avs : List AgV}, AgAll σ ρ Hf H vs avs → vs.length = avs.length ∧ ∀ (i : Nat) (a : AgV), avs[i]? = some a → ∃ v, vs[i]? = some v ∧ agR σ ρ Hf H v a
  | _, _, .nil => ⟨rfl, fun i a h => by simp at h⟩
  | _, _, .cons (v := v) h t => by
    obtain ⟨h1, h2⟩ := agAll_get t
    refine ⟨by simp [h1], fun i a ha => ?_⟩
    cases i with
    | zero => simp only [List.getElem?_cons_zero, Option.some.injEq] at ha; subst ha; exact ⟨v, rfl, h⟩
    | succ i => simpa using h2 i a (by simpa using ha)
theorem door (rp : Rp Hf H σ ρ) (ag : AgAll σ ρ Hf H vs avs) (ea : arsOf avs ρ = some as) (ro : rootsOk avs = true) : ∃ Fs, ArsOk Hf H vs as Fs ∧ (∀ (i : Nat) (t : Tr), as[i]? = some (.o t) → ∃ a r, avs[i]? = some a ∧ rootO a = some r ∧ ∀ b ∈ Fs i, OwnI H σ ρ r b) := by
  simp only [rootsOk, Bool.and_eq_true, decide_eq_true_eq, List.all_eq_true, Bool.not_eq_true'] at ro
  obtain ⟨ro1, ro2⟩ := ro
  obtain ⟨hl, hg⟩ := agAll_get ag
  have hla := arsOf_len ea
  have key : ∀ i : Nat, ∃ F : List Addr, ∀ x, as[i]? = some x → ∃ v a, vs[i]? = some v ∧ avs[i]? = some a ∧ ArOk Hf H v x F ∧ (∀ t, x = .o t → ∃ r, rootO a = some r ∧ ∀ b ∈ F, OwnI H σ ρ r b) ∧ ∀ t, x = .l t → (∃ r, rootL a = some r ∧ ∀ b ∈ F, OwnI H σ ρ r b) ∨ (∀ b ∈ F, LkA H σ ρ b) ∨ ∀ b ∈ F, Hf b ≠ none := fun i => by
    by_cases q : i < as.length
    · have hq : i < avs.length := by omega
      obtain ⟨v, hv, ra⟩ := hg i _ (List.getElem?_eq_getElem hq)
      obtain ⟨x, hx, ex⟩ := arsOf_get ea i _ (List.getElem?_eq_getElem hq)
      obtain ⟨F, h1, h2, h3⟩ := arg_ok rp ra ex
      exact ⟨F, fun x' hx' => by
        rw [hx] at hx'; cases hx'
        exact ⟨v, _, hv, List.getElem?_eq_getElem hq, h1, h2, h3⟩⟩
    · exact ⟨[], fun x hx => absurd (List.getElem?_eq_some_iff.mp hx).1 q⟩
  have oo : ∀ (i : Nat) (t : Tr), as[i]? = some (.o t) → ∃ a r, avs[i]? = some a ∧ rootO a = some r ∧ ∀ b ∈ (key i).choose, OwnI H σ ρ r b := fun i t h => by
    obtain ⟨v, a, hv, ha, h1, h2, h3⟩ := (key i).choose_spec _ h
    obtain ⟨r, h4, h5⟩ := h2 t rfl
    exact ⟨a, r, ha, h4, h5⟩
  refine ⟨fun i => (key i).choose, ⟨by omega, fun i v x hv hx => ?_, fun i j b t t' h1 h2 m1 m2 => ?_, fun i j b t t' h1 h2 m1 m2 => ?_⟩, oo⟩
  · obtain ⟨v', a, hv', ha, h1, _⟩ := (key i).choose_spec _ hx
    rw [hv] at hv'; cases hv'
    exact h1
  · obtain ⟨a1, r1, e1, e2, e3⟩ := oo i t h1
    obtain ⟨a2, r2, f1, f2, f3⟩ := oo j t' h2
    have er := rp.nd r1 r2 b (e3 b m1) (f3 b m2)
    subst er
    exact fm_nodup ro1 i j a1 a2 r1 e1 f1 e2 f2
  · obtain ⟨a2, r2, f1, f2, f3⟩ := oo j t' h2
    obtain ⟨v, a, hv, ha, g1, _, g3⟩ := (key i).choose_spec _ h1
    rcases g3 t rfl with ⟨r, h4, h5⟩ | h5 | h5
    · have er := rp.nd r r2 b (h5 b m1) (f3 b m2)
      subst er
      have := ro2 r (List.mem_filterMap.mpr ⟨a, List.mem_of_getElem? ha, h4⟩)
      have hm : r ∈ avs.filterMap rootO := List.mem_filterMap.mpr ⟨a2, List.mem_of_getElem? f1, f2⟩
      simp only [List.contains_eq_mem, decide_eq_false_iff_not] at this
      exact this hm
    · exact rp.lk b (h5 b m1) ⟨r2, f3 b m2⟩
    · exact h5 b m1 (rp.ownI (f3 b m2)).1
theorem back (rp : Rp Hf H σ ρ) (ag : AgAll σ ρ Hf H vs avs) (ea : arsOf avs ρ = some as) (ro : rootsOk avs = true) (ak : ArsOk Hf H vs as Fs) (oo : ∀ (i : Nat) (t : Tr), as[i]? = some (.o t) → ∃ a r, avs[i]? = some a ∧ rootO a = some r ∧ ∀ b ∈ Fs i, OwnI H σ ρ r b) (en : EndT Hf H vs as Fs Hf' H' os Gs) :
    Nxt false σ ρ Hf H σ (apU avs os ρ) Hf' H' ∧ (∀ b, IoA as Fs b → OwnA H σ ρ b) ∧ ∀ b, OwnA H' σ (apU avs os ρ) b → IoA os Gs b ∨ (OwnA H σ ρ b ∧ ¬ IoA as Fs b) := by
  have ro0 := ro
  simp only [rootsOk, Bool.and_eq_true, decide_eq_true_eq, List.all_eq_true, Bool.not_eq_true'] at ro
  obtain ⟨ro1, _⟩ := ro
  obtain ⟨hl, hg⟩ := agAll_get ag
  have hla := arsOf_len ea
  have ioo : ∀ b, IoA as Fs b → ∃ r, r ∈ avs.filterMap rootO ∧ OwnI H σ ρ r b := fun b ⟨i, t, h, m⟩ => by
    obtain ⟨a, r, h1, h2, h3⟩ := oo i t h
    exact ⟨r, List.mem_filterMap.mpr ⟨a, List.mem_of_getElem? h1, h2⟩, h3 b m⟩
  -- each root
  have root : ∀ r, r ∈ avs.filterMap rootO → ∃ (i : Nat) (t' : Tr) (s : Sl) (u : V), (os[i]? = some (.o t') ∧ (∃ v, vs[i]? = some v) ∧ ∃ a, avs[i]? = some a ∧ rootO a = some r) ∧ ρ[r]? = some s ∧ (∀ k q, s ≠ .pa k q) ∧ σ[r]? = some (some u) ∧ ∃ s', (apU avs os ρ)[r]? = some s' ∧ ((∀ x, s' ≠ .lk x) ∧ ∀ k q, s' ≠ .pa k q) ∧ SlOk Hf' H' (some (some u)) s' ∧
      (∀ b, OwnS H' u s' b → b ∈ Gs i ∨ (OwnI H σ ρ r b ∧ ¬ IoA as Fs b)) ∧ ∀ t1, s' = .tr t1 → ∃ t0, s = .tr t0 ∧ ∀ (j : Nat) (q : List Nat) (w : V) (s0 : Tr), (apU avs os ρ)[j]? = some (.pa r q) → ρ[j]? = some (.pa r q) ∧ (At H u t0 q w s0 → ∃ s1, At H' u t1 q w s1) := fun r hr => by
    obtain ⟨a, ha, hra⟩ := List.mem_filterMap.mp hr
    obtain ⟨i, hi⟩ := List.getElem?_of_mem ha
    obtain ⟨v, hv, rag⟩ := hg i a hi
    obtain ⟨x, hx, ex⟩ := arsOf_get ea i a hi
    have hxo : ∃ t, x = .o t := by
      cases a with
      | op p =>
        simp only [arOf] at ex
        split at ex
        · rename_i t0 _
          cases e1 : t0.at p.2 with
          | none => rw [e1] at ex; cases ex
          | some t => rw [e1] at ex; cases ex; exact ⟨t, rfl⟩
        · cases ex
      | os k =>
        simp only [arOf] at ex
        cases e1 : osA k ρ with
        | none => rw [e1] at ex; cases ex
        | some t => rw [e1] at ex; cases ex; exact ⟨t, rfl⟩
      | e _ => cases hra
      | ld _ => cases hra
      | lp _ => cases hra
      | ls _ => cases hra
    obtain ⟨t, rfl⟩ := hxo
    obtain ⟨t', ho⟩ := en.shp i ⟨t, hx⟩
    obtain ⟨rG, nG, fG⟩ := en.out i v t' hv ho
    have aF := ak.ok i v _ hv hx
    have nio : ∀ b, OwnI H σ ρ r b → b ∉ Fs i → ¬ IoA as Fs b := fun b ob nb ⟨j, t2, h2, m2⟩ => by
      obtain ⟨a2, r2, g1, g2, g3⟩ := oo j t2 h2
      have er := rp.nd r r2 b ob (g3 b m2)
      subst er
      have eij := fm_nodup ro1 i j a a2 r hi g1 hra g2
      subst eij
      exact nb m2
    have kp : ∀ b, OwnI H σ ρ r b → b ∉ Fs i → H' b = H b ∧ Hf' b = none := fun b ob nb => by
      obtain ⟨h0, o, ho, no⟩ := rp.ownI ob
      refine ⟨by rw [ho]; exact en.keep b o ho no (nio b ob nb), (en.fr b h0).elim id fun z => z.elim (fun z => ?_) fun z => absurd z (nio b ob nb)⟩
      rw [ho] at z; cases z
    obtain ⟨s, u, g1, g2, g3, g4⟩ := io_slot rp rag ex hra aF en.sub kp rG nG (fun b m => (fG b m).1) (fun b m ob => by
      rcases (fG b m).2 with z | z
      · by_cases nb : b ∈ Fs i
        · exact nb
        · exact absurd z (nio b ob nb)
      · obtain ⟨_, o, ho, _⟩ := rp.ownI ob
        rw [ho] at z; cases z)
    obtain ⟨ρ0, k1, k2, k3⟩ := apU_at ro1 hi hra ho g1 g2
    obtain ⟨s', m1, m2, m3, m4, m5⟩ := g4 ρ0 k1
    refine ⟨i, t', s, u, ⟨ho, ⟨v, hv⟩, a, hi, hra⟩, g1, g2, g3, s', by rw [k2]; exact m1, m2, m3, fun b z => (m4 b z).imp id fun y => ⟨y.1, nio b y.1 y.2⟩, fun t1 e1 => ?_⟩
    obtain ⟨t0, n1, n2⟩ := m5 t1 e1
    exact ⟨t0, n1, fun j q w s0 hj => ⟨(k3 j q hj).1, n2 q w s0 ((k3 j q hj).2 ⟨t0, n1⟩)⟩⟩
  have rown : ∀ r, r ∈ avs.filterMap rootO → ∀ b, OwnI H' σ (apU avs os ρ) r b → ∃ (i : Nat) (t' : Tr), (os[i]? = some (.o t') ∧ (∃ v, vs[i]? = some v) ∧ ∃ a, avs[i]? = some a ∧ rootO a = some r) ∧ (b ∈ Gs i ∨ (OwnI H σ ρ r b ∧ ¬ IoA as Fs b)) := fun r hr b ⟨s2, u2, e1, e2, o2⟩ => by
    obtain ⟨i, t', s, u, ho, g1, g2, g3, s', m1, m2, m3, m4, m5⟩ := root r hr
    rw [m1] at e1; cases e1
    rw [g3] at e2; cases e2
    exact ⟨i, t', ho, m4 b o2⟩
  have nx : Nxt false σ ρ Hf H σ (apU avs os ρ) Hf' H' := by
    refine rp.chgs (· ∈ avs.filterMap rootO) (by rw [apU_len]; exact rp.len) en.sub en.sb.sm en.sb.tb en.sb.nt (fun a o h t z => en.keep a o h t fun y => ?_) en.dom (fun a z => (en.fr a z).imp id fun y => y.imp id (ioo a)) (fun j s hj e => apU_other hj e) ?_ ?_ ?_ ?_ ?_ (fun z => nomatch z)
    · obtain ⟨r, h1, h2⟩ := ioo a y
      exact z r h1 h2
    · intro r s2 hr e1
      obtain ⟨i, t', s, u, ho, g1, g2, g3, s', m1, m2, m3, m4, m5⟩ := root r hr
      rw [m1] at e1; cases e1
      exact m2
    · intro j r q t h1 h2 hr
      obtain ⟨i, t', s, u, ho, g1, g2, g3, s', m1, m2, m3, m4, m5⟩ := root r hr
      have es : s' = .tr t := by
        rcases h2 with e | e
        · rw [m1] at e; cases e; rfl
        · rw [m1] at e; cases e; exact absurd rfl (m2.1 t)
      obtain ⟨t0, n1, n2⟩ := m5 t es
      obtain ⟨v, w, s0, p1, p2, p3⟩ := rp.al j r q t0 (apU_pa h1) (.inl (by rw [g1, n1]))
      rw [g3] at p1; cases p1
      obtain ⟨s1, p4⟩ := (n2 j q w s0 h1).2 p3
      exact ⟨u, w, s1, g3, p2, p4⟩
    · intro r s2 hr e1
      obtain ⟨i, t', s, u, ho, g1, g2, g3, s', m1, m2, m3, m4, m5⟩ := root r hr
      rw [m1] at e1; cases e1
      rw [g3]; exact m3
    · intro r b hr z
      obtain ⟨i, t', ⟨ho, ⟨v, hv⟩, _⟩, h⟩ := rown r hr b z
      rcases h with h | ⟨h, _⟩
      · exact ((en.out i v t' hv ho).2.2 b h).2.imp (ioo b) id
      · exact .inl ⟨r, hr, h⟩
    · intro r1 r2 b hr1 hr2 z1 z2
      obtain ⟨i1, t1, ⟨ho1, ⟨v1, hv1⟩, a1, ha1, hra1⟩, h1⟩ := rown r1 hr1 b z1
      obtain ⟨i2, t2, ⟨ho2, ⟨v2, hv2⟩, a2, ha2, hra2⟩, h2⟩ := rown r2 hr2 b z2
      have no : ∀ {i : Nat} {t : Tr} {v : V} {r : Nat}, vs[i]? = some v → os[i]? = some (.o t) → b ∈ Gs i → OwnI H σ ρ r b → IoA as Fs b := fun hv ho m ob => by
        rcases ((en.out _ _ _ hv ho).2.2 b m).2 with y | y
        · exact y
        · obtain ⟨_, o, ho, _⟩ := rp.ownI ob
          rw [ho] at y; cases y
      rcases h1 with h1 | ⟨h1, k1⟩
      · rcases h2 with h2 | ⟨h2, k2⟩
        · have ei := en.nd i1 i2 b t1 t2 ho1 ho2 h1 h2
          subst ei
          rw [ha1] at ha2; cases ha2
          rw [hra1] at hra2; cases hra2
          rfl
        · exact absurd (no hv1 ho1 h1 h2) k2
      · rcases h2 with h2 | ⟨h2, k2⟩
        · exact absurd (no hv2 ho2 h2 h1) k1
        · exact rp.nd r1 r2 b h1 h2
  refine ⟨nx, fun b z => (ioo b z).elim fun r h => ⟨r, h.2⟩, fun b ⟨r, z⟩ => ?_⟩
  by_cases hr : r ∈ avs.filterMap rootO
  · obtain ⟨i, t', ⟨ho, _⟩, h⟩ := rown r hr b z
    exact h.imp (fun m => ⟨i, t', ho, m⟩) fun y => ⟨⟨r, y.1⟩, y.2⟩
  · obtain ⟨s, v, e1, e2, o⟩ := z
    rcases apU_other hr e1 with e | e
    · have nio : ∀ c, OwnI H σ ρ r c → ¬ IoA as Fs c := fun c oc y => by
        obtain ⟨r2, h1, h2⟩ := ioo c y
        exact hr (rp.nd r2 r c h2 oc ▸ h1)
      have ob : OwnI H σ ρ r b := (rp.ownI_iff (fun c y => by
        obtain ⟨_, o, ho, no⟩ := rp.ownI y
        rw [ho]; exact en.keep c o ho no (nio c y)) b).mp ⟨s, v, e, e2, o⟩
      exact .inr ⟨⟨r, ob⟩, nio b ob⟩
    · subst e; exact o.elim
end
end Fx
namespace Fx
open PySem L2
variable [Tabz]
section
variable {X : Cx} {G Ga : Gx} {e a b : Expr} {es : List Expr} {pos p : Pos} {pn : List Nat} {σ : St} {ρ ρ1 ρ2 : Rho} {Hf H Hf1 H1 Hf2 H2 Hf' H' : Hp} {Q : VK} {As : List Ag} {A : Ag} {vs : List V} {avs : List AgV} {as os : List Ar} {Fs Gs : Nat → List Addr}
theorem back_q {q : Bool} (rp : Rp Hf H σ ρ) (ni : ∀ (i : Nat) (t : Tr), as[i]? ≠ some (.o t)) (en : EndT Hf H vs as Fs Hf' H' os Gs) : Nxt q σ ρ Hf H σ ρ Hf' H' ∧ SmN H H' := by
  have io : ∀ b, ¬ IoA as Fs b := fun b ⟨i, t, h, _⟩ => ni i t h
  have sn : SmN H H' := ⟨fun a o h n => en.keep a o h n (io a), en.dom, en.sb.tb⟩
  exact ⟨nxt_call rp en.sub en.sb sn fun a z => (en.fr a z).imp id fun y => y.elim id fun y => absurd y (io a), sn⟩
def Ag.isO : Ag → Bool
  | .op _ => true
  | .os _ => true
  | _ => false
theorem apU_no : ∀ {avs : List AgV} {os : List Ar} {ρ : Rho}, (∀ a ∈ avs, rootO a = none) → apU avs os ρ = ρ
  | [], _, _, _ => rfl
  | a :: _, [], _, _ => by cases a <;> rfl
  | a :: avs, o :: os, ρ, h => by
    have h2 := apU_no (avs := avs) (os := os) (ρ := ρ) fun x m => h x (List.mem_cons_of_mem _ m)
    have h1 := h a List.mem_cons_self
    cases a <;> cases o <;> first | exact h2 | cases h1
theorem call_door {F : List Ar → OT} (hG : G.q = false ∨ ∀ a ∈ avs, rootO a = none) (rp : Rp Hf H σ ρ) (ag : AgAll σ ρ Hf H vs avs) (af : AfR G σ ρ Hf H Q (callTM F avs ρ)) {n : Nat} (hn : ∀ as, F as ≠ .bad → as.length = n) : spT G.cA n F vs H Q (WE G.W σ) := by
  unfold callTM at af
  cases ea : arsOf avs ρ with
  | none => rw [ea] at af; exact af.elim
  | some as =>
    rw [ea] at af
    dsimp only at af
    cases ro : rootsOk avs with
    | false => rw [ro] at af; exact False.elim af
    | true =>
      rw [ro, if_pos rfl] at af
      obtain ⟨Fs, ak, oo⟩ := door rp ag ea ro
      have hb : F as ≠ .bad := fun z => by rw [z] at af; exact af
      refine ⟨by rw [ak.len]; exact hn as hb, Hf, as, Fs, rp.sb, ak, ?_⟩
      have nxt : ∀ {Hf' H' : Hp} {os : List Ar} {Gs : Nat → List Addr}, EndT Hf H vs as Fs Hf' H' os Gs → Nxt G.q σ ρ Hf H σ (apU avs os ρ) Hf' H' := fun {Hf' H' os Gs} en => by
        rcases hG with z | z
        · rw [z]; exact (back rp ag ea ro ak oo en).1
        · rw [apU_no z]
          refine (back_q rp (fun i t h => ?_) en).1
          obtain ⟨a, r, h1, h2, _⟩ := oo i t h
          rw [z a (List.mem_of_getElem? h1)] at h2
          cases h2
      cases e : F as with
      | bad => exact absurd e hb
      | exc c os =>
        rw [e] at af
        exact fun Hf' H' Gs en => af Hf' H' (nxt en)
      | ok r os =>
        rw [e] at af
        intro v Hf' H' Gs en rt
        obtain ⟨_, b2, b3⟩ := back rp ag ea ro ak oo en
        have fre : ∀ b, H b = none ∨ IoA as Fs b → Fre H σ ρ b := fun b z => z.imp id (b2 b)
        have now : ∀ b, (H b = none ∨ IoA as Fs b) → ¬ IoA os Gs b → ¬ OwnA H' σ (apU avs os ρ) b := fun b h1 h2 z => (b3 b z).elim h2 fun y => h1.elim (fun w => by
          obtain ⟨_, o, ho, _⟩ := rp.own y.1
          rw [ho] at w; cases w) y.2
        refine af v Hf' H' (nxt en) ?_
        cases r with
        | fz d => exact rt
        | ow ds =>
          obtain ⟨p, us, ev, h1, h2, h3, h4, h5⟩ := rt
          exact ⟨p, us, ev, fre p h1, h2, now p h1 h3, h4, h5⟩
        | tr t =>
          obtain ⟨F', h1, h2, h3⟩ := rt
          exact ⟨F', h1, h2, fun b m => ⟨fre b (h3 b m).1, (h3 b m).2.1, now b (h3 b m).1 (h3 b m).2.2⟩⟩
theorem AfR.fz {d : PyData} {v : V} {Hf' H' : Hp} (n : Nxt G.q σ ρ Hf H σ ρ1 Hf' H') (af : AfR G σ ρ Hf H Q (.ok (.fz d, ρ1))) (r : Rep Hf' v d) : Q v H' := af v Hf' H' n r
@[simp] def fR (f : M Rt) : M PyData := fun ρ => (bnd f fun r => opt (rtD r)) ρ
theorem fe_R {f : M Rt} (h : PE X e (tR G f)) : PE X e (tE G (fR f)) := by
  refine h.imp fun σ H Q ⟨Hf, ρ, rp, af⟩ => ⟨Hf, ρ, rp, ?_⟩
  unfold fR bnd at af
  cases e : f ρ with
  | ok x =>
    obtain ⟨r, ρ1⟩ := x
    rw [e] at af
    intro v Hf' H' n rt
    cases r with
    | fz d => exact af v Hf' H' n rt
    | ow ds =>
      obtain ⟨p, us, rfl, h1, h2, h3, h4, h5⟩ := rt
      obtain ⟨n2, r2⟩ := n.take h1 h2 h3 h4 h5
      exact af _ _ _ n2 r2
    | tr t => exact False.elim af
  | exc c ρ1 => rw [e] at af; exact af
  | bad => rw [e] at af; exact af
@[simp] def rtL : Rt → Option (List PyData)
  | .ow ds => some ds
  | _ => none
@[simp] def lR (f : M Rt) : M (List PyData) := fun ρ => (bnd f fun r => opt (rtL r)) ρ
@[simp] def rtT : Rt → Tr
  | .fz d => .fz d
  | .ow ds => .ow ds
  | .tr t => t
@[simp] def nR (f : M Rt) : M Tr := fun ρ => (bnd f fun r => ret (rtT r)) ρ
theorem fn_R {f : M Rt} (h : PE X e (tR G f)) : PE X e (tN G (nR f)) := by
  refine h.imp fun σ H Q ⟨Hf, ρ, rp, af⟩ => ⟨Hf, ρ, rp, ?_⟩
  unfold nR bnd at af
  cases e : f ρ with
  | ok x =>
    obtain ⟨r, ρ1⟩ := x
    rw [e] at af
    intro v Hf' H' n rt
    cases r with
    | fz d => exact af v [] Hf' H' n (.fz rt) List.nodup_nil fun _ z => nomatch z
    | ow ds =>
      obtain ⟨p, us, rfl, h1, h2, h3, h4, h5⟩ := rt
      exact af _ [p] Hf' H' n (.ow h4 h5) (List.nodup_cons.mpr ⟨List.not_mem_nil, List.nodup_nil⟩) fun a m => by
        rw [List.mem_singleton] at m; subst m; exact ⟨h1, h2, h3⟩
    | tr t =>
      obtain ⟨F, h1, h2, h3⟩ := rt
      exact af v F Hf' H' n h1 h2 h3
  | exc c ρ1 => rw [e] at af; exact af
  | bad => rw [e] at af; exact af
def noO (As : List Ag) : Bool := As.all fun A => !A.isO
theorem stepAgs {k : List AgV → M Rt} (hG : Ga.q = true ∨ G.q = false) (hW : Ga.W = G.W) (hc : Ga.cA = G.cA) (ho : Ga.q = true ∨ plOk As = true) (hio : G.q = false ∨ noO As = true) (rp : Rp Hf H σ ρ) (af : AfR G σ ρ Hf H Q (bnd (goT As) k ρ)) :
    tArgs Ga As σ H fun ys H1 => ∃ bs Hf1 ρ1, Nxt Ga.q σ ρ Hf H σ ρ1 Hf1 H1 ∧ AgAll σ ρ1 Hf1 H1 ys bs ∧ (G.q = false ∨ ∀ a ∈ bs, rootO a = none) ∧ AfR G σ ρ1 Hf1 H1 Q (k bs ρ1) := by
  have key : ∀ {As : List Ag} {ρ ρ1 : Rho} {bs : List AgV}, goT As ρ = .ok (bs, ρ1) → noO As = true → ∀ a ∈ bs, rootO a = none := by
    intro As
    induction As with
    | nil => intro ρ ρ1 bs h _ a m; cases h; cases m
    | cons A As ih =>
      intro ρ ρ1 bs h hno a m
      simp only [noO, List.all_cons, Bool.and_eq_true, Bool.not_eq_true'] at hno
      unfold goT bnd at h
      cases e : A.go ρ with
      | exc c ρ2 => rw [e] at h; cases h
      | bad => rw [e] at h; cases h
      | ok x =>
        obtain ⟨b, ρ2⟩ := x
        rw [e] at h
        dsimp only at h
        cases e2 : goT As ρ2 with
        | exc c ρ3 => rw [e2] at h; cases h
        | bad => rw [e2] at h; cases h
        | ok y =>
          obtain ⟨cs, ρ3⟩ := y
          rw [e2] at h
          cases h
          rcases List.mem_cons.mp m with z | z
          · subst z
            have one : ∀ {α : Type} {f : M α} {mk : α → AgV}, (∀ d, rootO (mk d) = none) → (bnd f fun d => ret (mk d)) ρ = .ok (a, ρ2) → rootO a = none := by
              intro α f mk hm h
              unfold bnd at h
              cases e : f ρ with
              | exc c ρ2 => rw [e] at h; cases h
              | bad => rw [e] at h; cases h
              | ok x => rw [e] at h; cases h; exact hm _
            cases A with
            | e f => exact one (fun _ => rfl) e
            | ld f => exact one (fun _ => rfl) e
            | lp f => exact one (fun _ => rfl) e
            | ls i =>
              unfold Ag.go at e
              cases hl : (lsA i ρ).isSome with
              | true => simp only [hl, if_true] at e; cases e; rfl
              | false => simp only [hl] at e; cases e
            | op f => cases hno.1
            | os i => cases hno.1
          · exact ih e2 hno.2 a z
  classical
  have af2 : AfR G σ ρ Hf H Q (bnd (goT As) (fun bs ρ1 => if G.q = false ∨ ∀ a ∈ bs, rootO a = none then k bs ρ1 else .bad) ρ) := by
    unfold bnd at af ⊢
    cases e : goT As ρ with
    | exc c ρ1 => rw [e] at af; exact af
    | bad => rw [e] at af; exact af
    | ok x =>
      obtain ⟨bs, ρ1⟩ := x
      rw [e] at af
      dsimp only
      rw [if_pos (hio.imp id fun z => key e z)]
      exact af
  refine tArgs_mono ?_ (stepArgs hG hW hc ho rp af2)
  rintro ys H1 ⟨bs, Hf1, ρ1, n1, ag, af3⟩
  by_cases q : G.q = false ∨ ∀ a ∈ bs, rootO a = none
  · rw [if_pos q] at af3
    exact ⟨bs, Hf1, ρ1, n1, ag, q, af3⟩
  · rw [if_neg q] at af3
    exact af3.elim
theorem callT_run {F : List Ar → OT} {n : Nat} (hG : Ga.q = true ∨ G.q = false) (hW : Ga.W = G.W) (hc : Ga.cA = G.cA) (ho : Ga.q = true ∨ plOk As = true) (hio : G.q = false ∨ noO As = true) (hn : ∀ as, F as ≠ .bad → as.length = n) (σ : St) (H : Hp) (Q : VK) (h : tR G (fCallT F As) σ H Q) : tCallS (spT G.cA n F) (WE G.W) (tArgs Ga As) σ H Q := by
  obtain ⟨Hf, ρ, rp, af⟩ := h
  refine tArgs_mono ?_ (stepAgs hG hW hc ho hio rp af)
  rintro vs H1 ⟨avs, Hf1, ρ1, n1, ag, q, af1⟩
  exact call_door q n1.rp ag af1 hn
theorem ga_nil : PA X [] (tArgs G []) := pa_nil
theorem ga_cons (h : PE X e (A.t G)) (hr : PA X es (tArgs G As)) (hs : starEach (e :: es) X.env = (false, eval e X.env) :: starEach es X.env := by rfl) : PA X (e :: es) (tArgs G (A :: As)) := pa_cons h hr hs
theorem gE {f : M PyData} (h : PE X e (tE G f)) : PE X e ((Ag.e f).t G) := h
theorem gLp {f : M Pth} (h : PE X e (tPl G f)) : PE X e ((Ag.lp f).t G) := h
theorem runT_len {n : Nat} {g : Rho → Fl} {md : List Nat} (as : List Ar) (h : runT n g md as ≠ .bad) : as.length = md.length := by
  unfold runT at h
  by_cases q : as.map arM = md
  · rw [← q, List.length_map]
  · rw [if_neg q] at h; exact absurd rfl h
theorem fr_call {x : Str} {k m : Nat} {ps : List Str} {F : List Ar → OT} (hn : ∀ as, F as ≠ .bad → as.length = m) (C : Cal X.prog X.w X.K X.mg X.base x k ps (spT G.cA m F)) (hr : Room k X.A) (hg : Gl X x) (tk : Takes X G.W) (ha : PA X (e :: es) (tArgs Ga As)) (hG : Ga.q = true ∨ G.q = false := by first | exact Or.inr rfl | exact Or.inl rfl) (hW : Ga.W = G.W := by rfl) (hc : Ga.cA = G.cA := by rfl) (ho : Ga.q = true ∨ plOk As = true := by first | exact Or.inr rfl | exact Or.inl rfl) (hio : G.q = false ∨ noO As = true := by first | exact Or.inl rfl | exact Or.inr rfl)
    (hdb : (x == ("__debug__" : Str)) = false := by decide) (he : starEach (e :: es) X.env = (false, eval e X.env) :: starEach es X.env := by rfl) (hpl : (backTo pos (starEach es X.env)).any (·.1) = false := by rfl) : PE X (.Call (.Name x p) (e :: es) [] pos) (tR G (fCallT F As)) := by
  obtain ⟨f, fd, Fo, hm, hk, hb⟩ := C
  exact (pe_callS Fo hr hg hm hk hb (fun σ => passAt tk σ) ha hdb he hpl).imp (callT_run hG hW hc ho hio hn)
end
end Fx
namespace Fx
open PySem L2
variable [Tabz]
section
variable {X : Cx} {G Ga : Gx} {e a b o : Expr} {es : List Expr} {pos p apos : Pos} {pn : List Nat} {σ : St} {ρ ρ1 ρ2 : Rho} {Hf H Hf1 H1 Hf2 H2 Hf' H' : Hp} {Q : VK} {As : List Ag} {A : Ag} {vs : List V} {avs : List AgV} {as os : List Ar} {Fs Gs : Nat → List Addr}
@[simp] def isIns (c : Str) (a : AgV) (ρ : Rho) : Bool := match arOf a ρ with
  | some (.l (.nd (.ins c') _)) => decide (c' = c)
  | some (.o (.nd (.ins c') _)) => decide (c' = c)
  | _ => false
@[simp] def fMeth (c : Str) (F : List Ar → OT) (A : Ag) (As : List Ag) : M Rt := fun ρ => (bnd A.go fun a ρ => if isIns c a ρ = true then bnd (goT As) (fun as => callTM F (a :: as)) ρ else .bad) ρ
end
end Fx
namespace Fx
open PySem L2
section
variable {fa : List Fq} {fn : List He.FnD} {K : PySem.W.Frag} {mg : Str → Option Value} (T : Top fa fn K mg)
include T
theorem Top.cls (i : Nat) {c : Str} (h : fa[i]? = some (.f (.cls c)) := by rfl) : Cls K (He.ga K c) := He.cls_ok (T.fact i h)
end
variable [Tabz]
section
variable {P : Program} {w : World} {K : PySem.W.Frag} {mg : Str → Option Value} {base : Heap} {fa : List Fq} {fn : List He.FnD}
theorem cal_T {x : Str} {sd : Stmt} {N ps : List Str} {k : Nat} {g : Rho → Fl} (md pn : List Nat) (T : Top fa fn K mg) (i j : Nat) (hi : fa[i]? = some (.f (.glo x))) (hj : fn[j]? = some (mkD x sd)) (S : FnScope N ps (defScope sd)) (hmd : md.length = ps.length) (hpn : ∀ i : Nat, md[i]? = some 2 → i ∈ pn)
    (hbind : ∀ (kV doc pm : Value) (an : Option Addr) (cdv ct : Value) (us : List Value), us.length = ps.length → bindArgs (PySem.W.fnOf x x (defArgs sd) (defBody sd) (defScope sd) .none kV doc pm an cdv ct) ⟨us, []⟩ = pure (ps.zip us))
    (hb : ∀ (cdv : Value) (A : Around) (outer : List Env) (s : Shared) (H : Hp) (E : XK), Room k (A.deeper (PyProof.Rows.envOfC x (defScope sd) s.heap.objs.size (He.ga K x) cdv)) → PSs (cxOf (L2.CX P w) P w K mg base N x (defScope sd) (He.ga K x) cdv A outer s H E) (defBody sd) (tS ⟨fun cls d _ H => E cls d H, He.ga K, false⟩ pn g)) :
    Cal P w K mg base x (k + 1) ps (spT (He.ga K) ps.length (runT N.length g md)) := by
  have F := T.def_ j hj
  exact ⟨_, _, fn_T F S hmd hpn hb, T.glo i hi, F.kp, F.binds hbind⟩
end
section
variable {X : Cx} {G Ga : Gx} {e a b o : Expr} {es : List Expr} {pos p apos : Pos} {pn : List Nat} {σ : St} {ρ ρ1 ρ2 : Rho} {Hf H Hf1 H1 Hf2 H2 Hf' H' : Hp} {Q : VK} {As : List Ag} {A : Ag}
@[simp] def nMk (c : Str) (F : List Ar → OT) (fs : M (List PyData)) : M Tr := fun ρ => (bnd fs fun ds ρ => match F (.o (.nd (.ins c) []) :: ds.map Ar.d) with
  | .ok (.fz .none) (.o t :: _) => .ok (t, ρ)
  | .exc x _ => .exc x ρ
  | _ => .bad) ρ
end
end Fx
namespace Fx
open PySem L2
variable [Tabz]
section
variable {q : Bool} {Hf Hf' H H' Hf0 H0 : Hp} {σ σ' : St} {ρ ρ' ρ0 : Rho}
theorem Nxt.chgTF (n1 : Nxt q σ ρ0 Hf0 H0 σ ρ Hf H) (rp0 : Rp Hf0 H0 σ ρ0) (Fl : List Addr) (hFl : ∀ a ∈ Fl, Fre H0 σ ρ0 a ∧ Hf a = none ∧ ¬ OwnA H σ ρ a) {i : Nat} {t t' : Tr} {v : V} {F F' : List Addr} (kf : List Nat → Bool) (hi : ρ[i]? = some (.tr t)) (hv : σ[i]? = some (some v)) (r0 : TR Hf H v t F) (sub : Same Hf Hf') (sub' : Same Hf' H') (tb : Tb H') (nt : NtH Hf')
    (keep : ∀ a o, H a = some o → NT o → a ∉ F → H' a = some o) (dom : ∀ a, H' a = none → H a = none) (fr : ∀ a, Hf a = none → Hf' a = none ∨ H a = none ∨ a ∈ F) (r1 : TR Hf' H' v t' F') (nd1 : F'.Nodup) (hf1 : ∀ a ∈ F', Hf' a = none) (own : ∀ a ∈ F', a ∈ F ∨ H a = none ∨ a ∈ Fl)
    (al : ∀ qs w s, kf qs = true → At H v t qs w s → ∃ s', At H' v t' qs w s') : Nxt false σ ρ0 Hf0 H0 σ (killB kf i (ρ.set i (.tr t'))) Hf' H' := by
  have r := n1.rp
  have hlt : i < ρ.length := (List.getElem?_eq_some_iff.mp hi).1
  have gi : (killB kf i (ρ.set i (.tr t')))[i]? = some (.tr t') := killB_at (by rw [List.getElem?_set, if_pos rfl, if_pos hlt]) fun _ _ z => nomatch z
  have ow' : ∀ a, OwnI H' σ (killB kf i (ρ.set i (.tr t'))) i a ↔ a ∈ F' := fun a => ownI_tr gi hv r1
  have key := r.chgsF (ρ' := killB kf i (ρ.set i (.tr t'))) (· = i) (· ∈ Fl) (fun a z => ⟨(hFl a z).2.2, fun y => (hFl a z).1.notLk rp0 (n1.ls a y)⟩) (by rw [killB_len, List.length_set]; exact r.len) sub sub' tb nt (fun a o h t n => keep a o h t fun z => n i rfl ((ownI_tr hi hv r0).mpr z)) dom (fun a z => (fr a z).imp id fun w => w.imp id fun y => ⟨i, rfl, (ownI_tr hi hv r0).mpr y⟩) (fun j s n e => by
      rcases killB_get e with ⟨h, _⟩ | ⟨h, _⟩
      · rw [List.getElem?_set, if_neg fun z => n z.symm] at h
        exact .inl h
      · exact .inr h) (by
      rintro _ s rfl e
      rw [gi] at e; cases e
      exact ⟨(fun _ z => nomatch z), (fun _ _ z => nomatch z)⟩) (by
      rintro j i' qs t2 h1 h2 ei
      have ei : i' = i := ei
      subst ei
      have et : t2 = t' := by
        rcases h2 with e | e
        · rw [gi] at e; cases e; rfl
        · rw [gi] at e; cases e
      subst et
      rcases killB_get h1 with ⟨h, hk⟩ | ⟨h, _⟩
      · have hj : j ≠ i' := fun z => by
          subst z
          rw [gi] at h1; cases h1
        rw [List.getElem?_set, if_neg fun z => hj z.symm] at h
        obtain ⟨v', w, s, g1, g2, g3⟩ := r.al j _ qs t h (.inl hi)
        rw [hv] at g1; cases g1
        obtain ⟨s', a'⟩ := al qs w s (hk _ _ rfl rfl) g3
        exact ⟨v, w, s', hv, g2, a'⟩
      · cases h) (by
      rintro _ s rfl e
      rw [gi] at e; cases e
      rw [hv]
      exact slok_tr.mpr ⟨F', r1, nd1, hf1⟩) (by
      rintro _ a rfl z
      exact (own a ((ow' a).mp z)).imp (fun m => ⟨_, rfl, (ownI_tr hi hv r0).mpr m⟩) id) (by rintro _ _ a rfl rfl _ _; rfl)
  obtain ⟨rp', oa, lkk, _⟩ := key
  have ownF : ∀ a ∈ F, OwnA H σ ρ a := fun a m => ⟨i, (ownI_tr hi hv r0).mpr m⟩
  refine ⟨n1.sub.trans sub, fun a o h t n => keep a o (n1.keep a o h t n) t (fun z => (n1.os a (ownF a z)).elim n fun y => by rw [h] at y; cases y), fun a z => (oa a z).elim (n1.os a) fun y => y.elim (fun y => .inr (n1.dom a y)) fun y => (hFl a y).1.symm, fun a z => n1.ls a (lkk a z), fun a z => n1.dom a (dom a z), fun a z => ?_, (fun z => nomatch z), rp'⟩
  rcases n1.fr a z with y | y
  · rcases fr a y with w | w | w
    · exact .inl w
    · exact .inr (.inl (n1.dom a w))
    · exact .inr ((n1.os a (ownF a w)).symm)
  · exact .inr y
@[simp] def setAp {α : Type} (l : List α) (n : Nat) (x : α) : List α := if n < l.length then l.set n x else l ++ [x]
theorem TRs.app {Hf H : Hp} {v : V} {t : Tr} {F' : List Addr} (h : TR Hf H v t F') : ∀ {vs : List V} {ts : List Tr} {F : List Addr}, TRs Hf H vs ts F → TRs Hf H (vs ++ [v]) (ts ++ [t]) (F ++ F')
  | _, _, _, .nil => by simpa using TRs.cons h .nil
  | _, _, _, .cons (F := A) (F' := B) a b => by rw [List.append_assoc]; exact .cons a (TRs.app h b)
end
section
variable {X : Cx} {G : Gx} {e a b : Expr} {es : List Expr} {f g : M D} {fs : M (List D)} {pos : Pos} {A B : Opd} {As : List Opd} {pn : List Nat} {σ : St} {ρ ρ1 : Rho} {Hf H Hf1 H1 : Hp}
@[simp] def sFldS (i : Nat) (c : Str) (n : Nat) (f : M Tr) : Rho → Fl := fun ρ => (sBnd f fun t ρ1 => match (ρ1[i]? : Option Sl) with
  | some (.tr (.nd (.ins c') ts)) => if c' = c ∧ n ≤ ts.length then .nx (killB (kPre []) i (ρ1.set i (.tr (.nd (.ins c) (setAp ts n t))))) else .bad
  | _ => .bad) ρ
end
end Fx
namespace Fx
open PySem L2
variable [Tabz]
section
variable {q : Bool} {Hf Hf' H H' : Hp} {σ σ' : St} {ρ ρ' : Rho}
theorem TRs.apart : ∀ {vs : List V} {ts : List Tr} {F : List Addr} {n m : Nat} {v w : V} {t s : Tr} {M N : List Addr}, TRs Hf H vs ts F → F.Nodup → n ≠ m → vs[n]? = some v → ts[n]? = some t → vs[m]? = some w → ts[m]? = some s → TR Hf H v t M → TR Hf H w s N → ∀ a ∈ M, a ∉ N
  | _, _, _, 0, 0, _, _, _, _, _, _, _, _, hn, _, _, _, _, _, _ => absurd rfl hn
  | _, _, _, 0, m + 1, v, w, t, s, M, N, .cons (F := A) (F' := B) h r, nd, _, e1, e2, e3, e4, z1, z2 => by
    simp only [List.getElem?_cons_zero, Option.some.injEq, List.getElem?_cons_succ] at e1 e2 e3 e4
    subst e1 e2
    have eA := h.inj z1
    subst eA
    obtain ⟨L, N', R, eB, z3⟩ := TRs.get r e3 e4
    have eN := z2.inj z3
    subst eN
    rw [List.nodup_append] at nd
    exact fun a m1 m2 => nd.2.2 a m1 a (by rw [eB]; exact List.mem_append_right _ (List.mem_append_left _ m2)) rfl
  | _, _, _, n + 1, 0, v, w, t, s, M, N, .cons (F := A) (F' := B) h r, nd, _, e1, e2, e3, e4, z1, z2 => by
    simp only [List.getElem?_cons_zero, Option.some.injEq, List.getElem?_cons_succ] at e1 e2 e3 e4
    subst e3 e4
    have eA := h.inj z2
    subst eA
    obtain ⟨L, N', R, eB, z3⟩ := TRs.get r e1 e2
    have eN := z1.inj z3
    subst eN
    rw [List.nodup_append] at nd
    exact fun a m1 m2 => nd.2.2 a m2 a (by rw [eB]; exact List.mem_append_right _ (List.mem_append_left _ m1)) rfl
  | _, _, _, n + 1, m + 1, v, w, t, s, M, N, .cons (F := A) (F' := B) h r, nd, hn, e1, e2, e3, e4, z1, z2 => by
    simp only [List.getElem?_cons_succ] at e1 e2 e3 e4
    rw [List.nodup_append] at nd
    exact TRs.apart r nd.2.1 (fun z => hn (by rw [z])) e1 e2 e3 e4 z1 z2
  | _, _, _, 0, _ + 1, _, _, _, _, _, _, .nil, _, _, e1, _, _, _, _, _ => by simp at e1
  | _, _, _, _ + 1, _, _, _, _, _, _, _, .nil, _, _, e1, _, _, _, _, _ => by simp at e1
theorem At.leaf {es : List D} : ∀ {qs p2 : List Nat} {u w v : V} {t s : Tr} {ds : List D} {F : List Addr} {l : Addr}, At H u t qs w s → TR Hf H u t F → F.Nodup → At H u t p2 v (.ow ds) → v = .ref l → l ∈ F → (∀ a ∈ F, a ≠ l → H' a = H a) → ∃ s1, At H' u (t.put p2 (.ow es)) qs w s1
  | [], p2, u, w, v, t, s, ds, F, l, h, _, _, _, _, _, _ => by cases h; exact ⟨_, .nil⟩
  | n :: qs, [], u, w, v, t, s, ds, F, l, h, _, _, h2, _, _, _ => by cases h2; cases h
  | n :: qs, m :: p2, u, w, v, t, s, ds, F, l, h, r, nd, h2, ev, hl, hk => by
    cases h with
    | @cons p k vs ts _ v1 _ t1 _ _ a b c d =>
      cases h2 with
      | @cons _ _ _ _ _ v2 _ t2 _ _ a2 b2 c2 d2 =>
        have e := a.inj a2
        subst e
        cases r with
        | nd a3 r3 =>
          have e := a.inj a3
          subst e
          obtain ⟨ndp, ndk⟩ := List.nodup_cons.mp nd
          obtain ⟨L, M2, R, eF, r2⟩ := TRs.get r3 b2 c2
          obtain ⟨M', z, hM⟩ := r2.atv d2
          have lM : l ∈ M2 := by
            subst ev
            cases z with
            | ow _ _ => exact hM l (List.mem_singleton.mpr rfl)
          have lk : l ∈ _ := (eF ▸ List.mem_append_right L (List.mem_append_left R lM))
          have pl : p ≠ l := fun z => ndp (by rw [z, eF]; exact List.mem_append_right _ (List.mem_append_left _ lM))
          have hp : H' p = H p := hk p List.mem_cons_self pl
          have sub : ∀ {L' M' R' : List Addr} {F' : List Addr}, F' = L' ++ (M' ++ R') → ∀ x ∈ M', x ∈ F' := fun e x m => by rw [e]; exact List.mem_append_right _ (List.mem_append_left _ m)
          by_cases hnm : n = m
          · subst hnm
            rw [b] at b2; cases b2
            rw [c] at c2; cases c2
            have ndk' := ndk
            rw [eF] at ndk'
            obtain ⟨s1, z1⟩ := At.leaf (es := es) d r2 (nodup_parts ndk').1 d2 ev lM fun x m ne => hk x (List.mem_cons_of_mem _ (sub eF x m)) ne
            refine ⟨s1, ?_⟩
            simp only [Tr.put, c]
            exact .cons (a.of hp) b (by rw [List.getElem?_set, if_pos rfl, if_pos (List.getElem?_eq_some_iff.mp c).1]) z1
          · obtain ⟨L1, M1, R1, eF1, r1⟩ := TRs.get r3 b c
            have ap := TRs.apart r3 ndk hnm b c b2 c2 r1 r2
            have z1 := d.mono r1 fun x m => hk x (List.mem_cons_of_mem _ (sub eF1 x m)) fun z => ap x m (z ▸ lM)
            refine ⟨s, ?_⟩
            simp only [Tr.put, c2]
            exact .cons (a.of hp) b (by rw [List.getElem?_set, if_neg fun z => hnm z.symm]; exact c) z1
theorem killB_all {i : Nat} (ρ : Rho) : killB (fun _ => true) i ρ = ρ := by
  unfold killB
  have : (killS (fun _ => true) i) = id := by
    funext s
    cases s <;> simp [killS]
  rw [this, List.map_id]
@[simp] def owP (p : Pth) (ρ : Rho) : Option (List D) := match (ρ[p.1]? : Option Sl) with
  | some (.tr t) => (match t.at p.2 with
    | some (.ow ds) => some ds
    | _ => none)
  | _ => none
@[simp] def putP (p : Pth) (s : Tr) (ρ : Rho) : Rho := match (ρ[p.1]? : Option Sl) with
  | some (.tr t) => ρ.set p.1 (.tr (t.put p.2 s))
  | _ => ρ
theorem owP_at (rp : Rp Hf H σ ρ) {p : Pth} {ds : List D} (h : owP p ρ = some ds) {v : V} {s : Tr} (av : AtV H σ ρ p v s) : ∃ l vs, v = .ref l ∧ H l = some (.lst vs) ∧ RepA Hf vs ds ∧ Hf l = none ∧ ∀ {es : List D} {ws : List V}, RepA Hf ws es → Nxt false σ ρ Hf H σ (putP p (.ow es) ρ) Hf (upd H l (.lst ws)) := by
  unfold owP at h
  split at h
  · rename_i t e
    split at h
    · rename_i ds' e2
      cases h
      obtain ⟨u, t', e3, e4, a⟩ := av
      have et : t' = t := by
        rcases e4 with y | y
        · rw [e] at y; cases y; rfl
        · rw [e] at y; cases y
      subst et
      have es' := a.at
      rw [e2] at es'; cases es'
      obtain ⟨u', F, e5, r, nd, hf⟩ := slok_tr' (rp.sl _ _ e)
      rw [e3] at e5; cases e5
      obtain ⟨M, z, hM⟩ := r.atv a
      cases z with
      | @ow l vs _ h1 h2 =>
        have lF := hM l (List.mem_singleton.mpr rfl)
        refine ⟨l, vs, rfl, h1, h2, hf l lF, fun {es ws} rw' => ?_⟩
        have hne : ∀ b, b ≠ l → upd H l (.lst ws) b = H b := fun b z => upd_ne z
        obtain ⟨w, L, M, R, g1, g2, g3, g4⟩ := r.focus (s' := .ow es) e2
        obtain ⟨ew, _⟩ := a.inj g1
        subst ew
        have eM : M = [l] := by cases g3; rfl
        subst eM
        have nd' := nd
        rw [g2] at nd'
        have dj := (nodup_parts nd').2.1
        have r1 := g4 (Same.refl _) (fun b m => hne b fun z => dj b m (by rw [z]; exact List.mem_singleton.mpr rfl)) (.ow upd_same rw')
        have key := rp.chgT (fun _ => true) e e3 r (Same.refl _) (fun b o h => by rw [hne b fun z => by rw [z, hf l lF] at h; cases h]; exact rp.sub b o h) (rp.tb.set h1) rp.nt (fun b o h _ n => by rw [hne b fun z => n (z ▸ lF)]; exact h) (fun b h => by
          by_cases z : b = l
          · rw [z, upd_same] at h; cases h
          · rw [hne b z] at h; exact h) (fun b h => .inl h) r1 (by rw [← g2]; exact nd) (fun b m => hf b (by rw [g2]; exact m)) (fun b m => .inl (by rw [g2]; exact m)) (fun qs w s _ ha => At.leaf ha r nd a rfl lF fun b m ne => hne b ne)
        rw [killB_all] at key
        unfold putP
        rw [e]
        exact key
    · cases h
  · cases h
end
section
variable {X : Cx} {G : Gx} {e a b o : Expr} {es : List Expr} {f g : M D} {fs : M (List D)} {pos : Pos} {A B : Opd} {As : List Opd} {pn : List Nat} {σ : St} {ρ ρ1 : Rho} {Hf H Hf1 H1 : Hp}
theorem stepSP {D : Ends} {g : M Pth} {k : Pth → Rho → Fl} (rp : Rp Hf H σ ρ) (af : AfS G pn σ ρ Hf H D (sBnd g k ρ)) :
    tPl (qG G) g σ H fun y H1 => ∃ p s Hf1 ρ1, Nxt true σ ρ Hf H σ ρ1 Hf1 H1 ∧ AtV H1 σ ρ1 p y s ∧ AfS G pn σ ρ1 Hf1 H1 D (k p ρ1) := by
  refine ⟨Hf, ρ, rp, ?_⟩
  unfold sBnd at af
  cases e : g ρ with
  | ok p =>
    obtain ⟨b, ρ1⟩ := p
    rw [e] at af
    exact fun v s Hf1 H1 n a => ⟨b, s, Hf1, ρ1, n, a, af.later (Nxt.any n) (.refl _ _)⟩
  | exc c ρ1 => rw [e] at af; exact fun Hf' H' n => af σ Hf' H' (Nxt.any n) (.refl _ _)
  | bad => rw [e] at af; exact af
@[simp] def sMutP {α : Type} (f : M Pth) (g : M α) (k : α → List D → Option (List D)) : Rho → Fl := fun ρ => (sBnd f fun p ρ => if (owP p ρ).isSome = true then sBnd g (fun x ρ1 => match owP p ρ1 with
    | some ds => (match k x ds with
      | some es => .nx (putP p (.ow es) ρ1)
      | none => .bad)
    | none => .bad) ρ else .bad) ρ
@[simp] def fPopP (f : M Pth) : M D := fun ρ => (bnd f fun p ρ => match owP p ρ with
  | some ds => (match ds.getLast? with
    | some d => .ok (d, putP p (.ow ds.dropLast) ρ)
    | none => .bad)
  | none => .bad) ρ
@[simp] def lkP (p : Pth) (ρ : Rho) : Option (List D) := match (ρ[p.1]? : Option Sl) with
  | some (.lk t) => (match t.at p.2 with
    | some (.ow ds) => some ds
    | _ => none)
  | _ => none
theorem lkP_at (rp : Rp Hf H σ ρ) {p : Pth} {ds : List D} (h : lkP p ρ = some ds) {v : V} {s : Tr} (av : AtV H σ ρ p v s) : ∃ l vs, v = .ref l ∧ H l = some (.lst vs) ∧ RepA Hf vs ds ∧ LkA H σ ρ l := by
  unfold lkP at h
  split at h
  · rename_i t e
    split at h
    · rename_i ds' e2
      cases h
      obtain ⟨u, t', e3, e4, a⟩ := av
      have et : t' = t := by
        rcases e4 with y | y
        · rw [e] at y; cases y
        · rw [e] at y; cases y; rfl
      subst et
      have es' := a.at
      rw [e2] at es'; cases es'
      obtain ⟨u', F, e5, r⟩ := slok_lk' (rp.sl _ _ e)
      rw [e3] at e5; cases e5
      obtain ⟨M, z, hM⟩ := r.atv a
      cases z with
      | @ow l vs _ h1 h2 => exact ⟨l, vs, rfl, h1, h2, ⟨_, _, _, Hf, F, e, e3, r, hM l (List.mem_singleton.mpr rfl)⟩⟩
    · cases h
  · cases h
@[simp] def fItP (f : M Pth) : M (List D) := fun ρ => (bnd f fun p ρ => match lkP p ρ with
  | some ds => .ok (ds, ρ)
  | none => .bad) ρ
theorem iter_lk {K : PySem.W.Frag} {l : Addr} {vs : List V} {ds : List D} (rp : Rp Hf H σ ρ) (h : H l = some (.lst vs)) (r : RepA Hf vs ds) (lk : LkA H σ ρ l) : IterOk σ ρ Hf H (Itl K l) ds := by
  intro i Hf1 H1 σ1 ρ1 nn
  have hq : SqL K H1 l vs := SqL.of (nn.keep l _ h NT.lst (rp.lk l lk))
  refine ⟨fun d e => ?_, fun hl => ⟨vs, hq, by rw [repA_len r]; exact hl⟩⟩
  obtain ⟨v, e1, r1⟩ := repA_get r e
  refine ⟨⟨vs, v, hq, e1⟩, fun x H' ⟨eh, hx⟩ => ?_⟩
  subst eh
  have z := hx vs hq
  rw [e1] at z
  cases z
  exact ⟨Hf1, .refl nn.rp, rep_same nn.sub r1⟩
variable {tg : Expr}
theorem fi_listP {h : M Pth} (ho : PE X e (tPl G h)) : PI X tg e (tI G (fItP h)) := by
  refine (pi_list ho).imp fun σ H R ⟨Hf, ρ, rp, af⟩ => ?_
  refine tPl.mono ?_ (stepPP (P := fun ρ Hf H o => AfI G σ ρ Hf H R o) (fun n q => q.later n) (fun q => q) (fun q => q) rp af)
  rintro y H1 ⟨p, s, Hf1, ρ1, n1, av, af1⟩
  cases e0 : lkP p ρ1 with
  | none => simp only [e0] at af1; exact False.elim af1
  | some ds =>
    simp only [e0] at af1
    obtain ⟨l, vs, rfl, g1, g2, g3⟩ := lkP_at n1.rp e0 av
    exact ⟨l, rfl, ⟨_, SqL.of g1⟩, af1 _ Hf1 H1 (.refl n1.rp) (iter_lk n1.rp g1 g2 g3)⟩
@[simp] def fItPE (f : M Pth) : M (List D) := fun ρ => (bnd f fun p ρ => match lkP p ρ with
  | some ds => .ok (enumD ds, ρ)
  | none => .bad) ρ
end
end Fx
namespace Fx
open PySem L2
variable [Tabz]
section
variable {κ : Type} [DecidableEq κ]
def lkK {α : Type} : List κ → List α → κ → Option α
  | k :: ks, d :: ds, x => if k = x then some d else lkK ks ds x
  | _, _, _ => none
def repK {α : Type} (ks : List κ) (ds : List α) (k : κ) (d : α) : List α := List.zipWith (fun k' d' => if k' = k then d else d') ks ds
def ptK {α : Type} (ks : List κ) (ds : List α) (k : κ) (d : α) : List κ × List α := if k ∈ ks then (ks, repK ks ds k d) else (ks ++ [k], ds ++ [d])
end
def keyT : PyData → Option (List Key)
  | .tuple ds => ds.mapM unkD
  | _ => none
section
variable {Hf H : Hp} {σ : St} {ρ : Rho}
@[simp] def dkAt (i : Nat) (ρ : Rho) : Option (List Key × List D) := match (ρ[i]? : Option Sl) with
  | some (.tr (.dk ks ds)) => some (ks, ds)
  | _ => none
@[simp] def dtAt (i : Nat) (ρ : Rho) : Option (List (List Key) × List D) := match (ρ[i]? : Option Sl) with
  | some (.tr (.dt ks ds)) => some (ks, ds)
  | _ => none
end
section
variable {X : Cx} {G : Gx} {e a b o : Expr} {es : List Expr} {f g h : M D} {pos p1 : Pos} {pn : List Nat} {σ : St} {ρ ρ1 : Rho} {Hf H Hf1 H1 : Hp} {x : Str}
@[simp] def fDinT (f : M D) (i : Nat) : M D := fun ρ => (bnd f fun d ρ => match dtAt i ρ with
  | some (ks, ds) => (match keyT d with
    | some k => .ok (.bool (lkK ks ds k).isSome, ρ)
    | none => .bad)
  | none => .bad) ρ
@[simp] def sDputT (i : Nat) (f g : M D) : Rho → Fl := fun ρ => (sBnd f fun d ρ => if (dtAt i ρ).isSome = true then sBnd g (fun k ρ => match dtAt i ρ with
  | some (ks, ds) => (match keyT k with
    | some k => if small ks.length = true then .nx (ρ.set i (.tr (.dt (ptK ks ds k d).1 (ptK ks ds k d).2))) else .bad
    | none => .bad)
  | none => .bad) ρ else .bad) ρ
@[simp] def sDputK (i : Nat) (f g : M D) : Rho → Fl := fun ρ => (sBnd f fun d ρ => if (dkAt i ρ).isSome = true then sBnd g (fun k ρ => match dkAt i ρ with
  | some (ks, ds) => (match unkD k with
    | some k => if small ks.length = true then .nx (ρ.set i (.tr (.dk (ptK ks ds k d).1 (ptK ks ds k d).2))) else .bad
    | none => .bad)
  | none => .bad) ρ else .bad) ρ
@[simp] def fDget2 (i : Nat) (f g : M D) : M D := fun ρ => if (dkAt i ρ).isSome = true then bnd f (fun k => bnd g fun z ρ => match dkAt i ρ with
  | some (ks, ds) => (match unkD k with
    | some k => .ok ((lkK ks ds k).getD z, ρ)
    | none => .bad)
  | none => .bad) ρ else .bad
@[simp] def fDgetK (i : Nat) (f : M D) : M D := fun ρ => if (dkAt i ρ).isSome = true then bnd f (fun k ρ => match dkAt i ρ with
  | some (ks, ds) => (match (unkD k).bind (lkK ks ds) with
    | some d => .ok (d, ρ)
    | none => .bad)
  | none => .bad) ρ else .bad
def keysI : List Key → Option (List Int)
  | [] => some []
  | .inl i :: ks => (keysI ks).map (i :: ·)
  | .inr _ :: _ => none
@[simp] noncomputable def fSortD (i : Nat) : M (List D) := fun ρ => match dkAt i ρ with
  | some (ks, _) => (match keysI ks with
    | some ns => if ns.length < 64 then .ok ((sortI ns).map PyData.int, ρ) else .bad
    | none => .bad)
  | none => .bad
end
end Fx
namespace Mm
open PySem L2 Fx
variable [Tabz]
end Mm
namespace Fx
open PySem L2
variable [Tabz]
section
variable {X : Cx} {G : Gx} {a b : Expr} {rest : List Expr} {f g : M D} {pos : Pos}
def orS (d : D) (g : M D) : M D := match d with
  | .str y => if y.length ≤ 100000 then (if ((y.length : Int) != 0) = true then ret (.str y) else g) else fun _ => .bad
  | _ => fun _ => .bad
@[simp] def vOrS (f g : M D) : M D := fun ρ => (bnd f fun d => orS d g) ρ
end
end Fx
namespace Fx
open PySem PySem.Spec PyProof.Rows L2
end Fx
namespace Fx
open PySem L2
variable [Tabz]
section
variable {X : Cx} {G Ga : Gx} {e a b o : Expr} {es : List Expr} {f g : M PyData} {pos p apos : Pos} {pn : List Nat} {σ : St} {ρ ρ1 ρ2 : Rho} {Hf H Hf1 H1 Hf2 H2 Hf' H' : Hp} {Q : VK} {As : List Ag} {A : Ag} {vs : List V} {avs : List AgV} {x : Str} {k : Nat} {ps : List Str}
@[simp] def zAr (a : AgV) (ρ : Rho) : Option PyData := match arOf a ρ with
  | some (.d d) => some d
  | some (.l t) => frzT t
  | _ => none
@[simp] def zArs : List AgV → Rho → Option (List PyData)
  | [], _ => some []
  | a :: as, ρ => match zAr a ρ with
    | some x => (zArs as ρ).map (x :: ·)
    | none => none
@[simp] def callZM (F : List PyData → Out Rt) (avs : List AgV) : M Rt := fun ρ => match zArs avs ρ with
  | some xs => (match F xs with
    | .ok (.fz d) => if (sc d).isSome then .ok (.fz d, ρ) else .bad
    | .ok _ => .bad
    | .exc c => .exc c ρ
    | .bad => .bad)
  | none => .bad
@[simp] def fCallZ (F : List PyData → Out Rt) (As : List Ag) : M PyData := fun ρ => (fR (fun ρ => bnd (goT As) (callZM F) ρ)) ρ
theorem zArs_rep (rp : Rp Hf H σ ρ) : ∀ {vs : List V} {avs : List AgV} {xs : List PyData}, AgAll σ ρ Hf H vs avs → zArs avs ρ = some xs → RepA H vs xs
  | _, _, xs, .nil, h => by cases h; exact .nil
  | _, _, xs, .cons (v := v) (a := a) (as := as) ra rs, h => by
    unfold zArs at h
    cases e : zAr a ρ with
    | none => rw [e] at h; cases h
    | some d =>
      rw [e] at h
      dsimp only at h
      cases e2 : zArs as ρ with
      | none => rw [e2] at h; cases h
      | some ys =>
        rw [e2] at h
        cases h
        refine .cons ?_ (zArs_rep rp rs e2)
        unfold zAr at e
        split at e
        · rename_i d' e1; cases e
          obtain ⟨F, h1, _⟩ := arg_ok rp ra e1
          exact rep_same rp.sub h1.2
        · rename_i t e1
          obtain ⟨F, h1, _⟩ := arg_ok rp ra e1
          exact TR.frz rp.sub (show TR Hf H v t F from h1) (fun _ _ => rfl) e
        · cases e
theorem callZ_run {n : Nat} {F : List PyData → Out Rt} (hn : ∀ ds r, F ds = r → r ≠ .bad → ds.length = n) (hG : Ga.q = true ∨ G.q = false) (hW : Ga.W = G.W) (hc : Ga.cA = G.cA) (ho : Ga.q = true ∨ plOk As = true) (hio : G.q = false ∨ noO As = true) (σ : St) (H : Hp) (Q : VK) (h : tR G (fun ρ => bnd (goT As) (callZM F) ρ) σ H Q) : tCallS (spP G.cA n F) (WE G.W) (tArgs Ga As) σ H Q := by
  obtain ⟨Hf, ρ, rp, af⟩ := h
  refine tArgs_mono ?_ (stepAgs hG hW hc ho hio rp af)
  rintro vs H1 ⟨avs, Hf1, ρ1, n1, ag, q, af1⟩
  unfold callZM at af1
  cases ea : zArs avs ρ1 with
  | none => rw [ea] at af1; exact False.elim af1
  | some xs =>
    rw [ea] at af1
    dsimp only at af1
    have rx := zArs_rep n1.rp ag ea
    have hl : vs.length = n := by
      rw [repA_len rx]
      refine hn xs _ rfl fun z => ?_
      rw [z] at af1
      exact af1
    refine ⟨hl, ntOf H1, xs, ⟨ntOf_same, n1.rp.tb, ntOf_nt⟩, repA_nt rx, ?_⟩
    cases e : F xs with
    | bad => rw [e] at af1; exact af1.elim
    | exc c =>
      rw [e] at af1
      exact fun H' s => af1 Hf1 H' (nxt_call n1.rp (Same.refl _) (n1.rp.sb.later s) s fun a z => .inl z)
    | ok r =>
      rw [e] at af1
      cases r with
      | ow es => exact False.elim af1
      | tr t => exact False.elim af1
      | fz d =>
        dsimp only at af1
        cases es : sc d with
        | none => rw [es] at af1; exact False.elim af1
        | some u =>
          rw [es] at af1
          intro v Hf' H' h1 h2 h3 h4 h5
          have ev := sc_rep es h5
          subst ev
          exact af1 _ Hf1 H' (nxt_call n1.rp (Same.refl _) (n1.rp.sb.later h3) h3 fun a z => .inl z) (rep_sc es)
theorem fe_calZ {F : List PyData → Out Rt} {m : Nat} (hn : ∀ ds r, F ds = r → r ≠ .bad → ds.length = m) (C : Cal X.prog X.w X.K X.mg X.base x k ps (spP G.cA m F)) (hr : Room k X.A) (hg : Gl X x) (tk : Takes X G.W) (ha : PA X (e :: es) (tArgs Ga As)) (hG : Ga.q = true ∨ G.q = false := by first | exact Or.inr rfl | exact Or.inl rfl) (hW : Ga.W = G.W := by rfl) (hc : Ga.cA = G.cA := by rfl) (ho : Ga.q = true ∨ plOk As = true := by first | exact Or.inr rfl | exact Or.inl rfl) (hio : G.q = false ∨ noO As = true := by first | exact Or.inl rfl | exact Or.inr rfl) (hdb : (x == ("__debug__" : Str)) = false := by decide)
    (he : starEach (e :: es) X.env = (false, eval e X.env) :: starEach es X.env := by rfl) (hpl : (backTo pos (starEach es X.env)).any (·.1) = false := by rfl) : PE X (.Call (.Name x p) (e :: es) [] pos) (tE G (fCallZ F As)) := by
  obtain ⟨f, fd, F, hm, hk, hb⟩ := C
  exact fe_R ((pe_callS F hr hg hm hk hb (fun σ => passAt tk σ) ha hdb he hpl).imp (callZ_run hn hG hW hc ho hio))
theorem pl_q {f : M Pth} (h : PE X e (tPl (qG G) f)) : PE X e (tPl G f) := h.imp fun σ H Q ⟨Hf, ρ, rp, af⟩ => ⟨Hf, ρ, rp, by
  cases e1 : f ρ with
  | ok x => obtain ⟨d, ρ1⟩ := x; rw [e1] at af; exact fun v s Hf' H' n a => af v s Hf' H' (Nxt.qto n) a
  | exc c ρ1 => rw [e1] at af; exact fun Hf' H' n => af Hf' H' (Nxt.qto n)
  | bad => rw [e1] at af; exact af⟩
theorem pO {f : M Pth} (h : PE X a (tPl G f)) : PE X a ((Opd.p f).t G) := h
def posK (k : Key) : List Key → Option Nat
  | [] => none
  | a :: l => if a = k then some 0 else (posK k l).map (· + 1)
@[simp] def plK (f : M Pth) (g : M PyData) : M Pth := fun ρ => (bnd f fun p => bnd g fun d ρ => match trAt p ρ with
  | some (.nd (.dct ks) ts) => (match (unkD d).bind fun k => posK k ks with
    | some n => if n < ts.length then .ok ((p.1, p.2 ++ [n]), ρ) else .bad
    | none => .bad)
  | _ => .bad) ρ
end
end Fx
namespace Fx
open PySem L2
variable [Tabz]
section
variable {q : Bool} {Hf Hf1 Hf2 H H1 H2 H' Hf' : Hp} {σ σ1 σ2 σ' : St} {ρ ρ1 ρ2 ρ' : Rho} {F : List Addr}
theorem Nxt.nob (n : Nxt q σ ρ1 Hf1 H1 σ ρ2 Hf2 H2) {a : Addr} {o : HO} (h1 : H1 a = some o) (ht : NT o) (hf : Hf1 a = none) (ho : ¬ OwnA H1 σ ρ1 a) : H2 a = some o ∧ Hf2 a = none ∧ ¬ OwnA H2 σ ρ2 a := by
  refine ⟨n.keep a o h1 ht ho, ?_, fun z => (n.os a z).elim ho fun y => by rw [h1] at y; cases y⟩
  rcases n.fr a hf with y | y | y
  · exact y
  · rw [h1] at y; cases y
  · exact absurd y ho
theorem Rp.mkPa (rp : Rp Hf H σ ρ) {i : Nat} {p : Pth} {v : V} {s : Tr} (hi : ρ[i]? = some .un) (hv : σ[i]? = some (some v)) (av : AtV H σ ρ p v s) : Nxt false σ ρ Hf H σ (ρ.set i (.pa p.1 p.2)) Hf H := by
  have hlt : i < ρ.length := (List.getElem?_eq_some_iff.mp hi).1
  have gi : (ρ.set i (.pa p.1 p.2))[i]? = some (.pa p.1 p.2) := by rw [List.getElem?_set, if_pos rfl, if_pos hlt]
  have gj : ∀ j, j ≠ i → (ρ.set i (.pa p.1 p.2))[j]? = ρ[j]? := fun j n => by rw [List.getElem?_set, if_neg fun z => n z.symm]
  have oi : ∀ j a, OwnI H σ (ρ.set i (.pa p.1 p.2)) j a → OwnI H σ ρ j a := fun j a ⟨s, w, e1, e2, o⟩ => by
    by_cases z : j = i
    · subst z
      rw [gi] at e1; cases e1
      exact o.elim
    · rw [gj j z] at e1
      exact ⟨s, w, e1, e2, o⟩
  have ti : ∀ j t, isTr (ρ.set i (.pa p.1 p.2)) j t → isTr ρ j t := fun j t z => by
    by_cases y : j = i
    · subst y
      rcases z with z | z <;> (rw [gi] at z; cases z)
    · unfold isTr at z
      rw [gj j y] at z
      exact z
  have lk : ∀ a, LkA H σ (ρ.set i (.pa p.1 p.2)) a → LkA H σ ρ a := fun a ⟨j, t, w, Hf0, F, e1, e2, z, m⟩ => by
    by_cases y : j = i
    · subst y
      rw [gi] at e1; cases e1
    · rw [gj j y] at e1
      exact ⟨j, t, w, Hf0, F, e1, e2, z, m⟩
  refine ⟨Same.refl _, fun _ _ h _ _ => h, fun a ⟨j, z⟩ => .inl ⟨j, oi j a z⟩, lk, fun _ h => h, fun _ h => .inl h, (fun z => nomatch z), rp.sub, rp.tb, rp.nt, by rw [List.length_set]; exact rp.len, fun j s e => ?_, fun j k a h1 h2 => rp.nd j k a (oi j a h1) (oi k a h2), fun a h1 ⟨j, h2⟩ => rp.lk a (lk a h1) ⟨j, oi j a h2⟩, fun j k qs t h1 h2 => ?_⟩
  · by_cases y : j = i
    · subst y
      rw [gi] at e; cases e
      exact slok_pa
    · rw [gj j y] at e
      exact rp.sl j s e
  · by_cases y : j = i
    · subst y
      rw [gi] at h1; cases h1
      obtain ⟨u, t', e1, e2, a⟩ := av
      have et : t = t' := by
        rcases ti _ _ h2 with e | e <;> rcases e2 with e' | e' <;> (rw [e] at e'; cases e'; try rfl)
      subst et
      exact ⟨u, v, s, e1, hv, a⟩
    · rw [gj j y] at h1
      exact rp.al j k qs t h1 (ti k t h2)
end
section
variable {X : Cx} {G Ga : Gx} {e a b o : Expr} {es : List Expr} {f g : M PyData} {pos p apos : Pos} {pn : List Nat} {σ : St} {ρ ρ1 ρ2 : Rho} {Hf H Hf1 H1 Hf2 H2 Hf' H' : Hp} {Q : VK} {As : List Ag} {A B : Opd} {vs : List V} {avs : List AgV} {x : Str} {k : Nat} {ps : List Str}
@[simp] def sRetG (i : Nat) : Rho → Fl := fun ρ => match (ρ[i]? : Option Sl) with
  | some (.fz d) => .ret (.fz d) ρ
  | some (.ow ds) => .ret (.ow ds) (ρ.set i .un)
  | some (.tr t) => .ret (.tr t) (ρ.set i .un)
  | _ => .bad
theorem fs_retG (i : Nat) {x : Str} {p1 : Pos} (hN : X.N[i]? = some x := by rfl) (hv : Vis X.env.scope x := by first | exact Or.inl rfl | exact Or.inr (Or.inl rfl) | exact Or.inr (Or.inr rfl)) (hd : (x == ("__debug__" : Str)) = false := by decide)
    (hcd : (x == ("__classdict__" : Str)) = false := by decide) : PS X (.Return (some (.Name x p1)) pos) (tS G pn (sRetG i)) := by
  refine (ps_ret (pe_var hN hv hd hcd)).imp fun D σ H ⟨Hf, ρ, rp, af⟩ => ?_
  unfold sRetG at af
  cases e : ρ[i]? with
  | none => rw [e] at af; exact af.elim
  | some s =>
    rw [e] at af
    cases s with
    | un => exact af.elim
    | raw _ => exact af.elim
    | lk _ => exact af.elim
    | pa _ _ => exact af.elim
    | fz d =>
      obtain ⟨v, hv, q⟩ := slok_fz' (rp.sl i _ e)
      exact ⟨v, hv, af v σ Hf H (.refl rp) (.refl _ _) q⟩
    | ow ds =>
      obtain ⟨p, vs, e1, h1, h2, h3⟩ := slok_ow (rp.sl i _ e)
      have oi : OwnI H σ ρ i p := (ownI_ow e e1).mpr rfl
      exact ⟨_, e1, af _ σ Hf H (rp.drop i) (.refl _ _) ⟨p, vs, rfl, .inr ⟨i, oi⟩, h1, rp.drop_own oi, h2, h3⟩⟩
    | tr t =>
      obtain ⟨v, F, e1, r, nd, hf⟩ := slok_tr' (rp.sl i _ e)
      exact ⟨v, e1, af v σ Hf H (rp.drop i) (.refl _ _) ⟨F, r, nd, fun a m => ⟨.inr ⟨i, (ownI_tr e e1 r).mpr m⟩, hf a m, rp.drop_own ((ownI_tr e e1 r).mpr m)⟩⟩⟩
@[simp] def sSetPa (i : Nat) (f : M Pth) : Rho → Fl := fun ρ => (sBnd f fun p ρ => if p.1 = i then .bad else .nx ((killB kNo i ρ).set i (.pa p.1 p.2))) ρ
@[simp] def sAppT (f : M (List PyData)) (g : M PyData) : Rho → Fl := fun ρ => (sBnd f fun ds => if small ds.length then sBnd g (fun _ ρ => .nx ρ) else fun _ => .bad) ρ
end
end Fx
namespace Fx
open PySem L2
variable [Tabz]
theorem pn_ok {md pn : List Nat} (h : ((List.range md.length).all fun i => (md[i]? != some 2) || pn.contains i) = true) : ∀ i : Nat, md[i]? = some 2 → i ∈ pn := fun i e => by
  have hl : i < md.length := (List.getElem?_eq_some_iff.mp e).1
  have z := List.all_eq_true.mp h i (List.mem_range.mpr hl)
  rw [e] at z
  simpa using z
section
variable {X : Cx} {G Ga : Gx} {e a b o : Expr} {es : List Expr} {f g : M PyData} {pos p apos : Pos} {pn : List Nat} {σ : St} {ρ ρ1 ρ2 : Rho} {Hf H Hf1 H1 Hf2 H2 Hf' H' : Hp} {Q : VK} {As : List Ag} {A B : Opd} {vs : List V} {avs : List AgV} {x : Str} {k : Nat} {ps : List Str}
@[simp] def noX : Fl → Fl
  | .exc _ _ => .bad
  | x => x
@[simp] def sTryN (m : Str → Option Bool) (sb su : Rho → Fl) : Rho → Fl := fun ρ => match sb ρ with
  | .exc c ρ1 => (match m c with
    | some true => noX (su ρ1)
    | some false => .exc c ρ1
    | none => .bad)
  | x => x
@[simp] def fRevO (f : M Pth) : M (List PyData) := fun ρ => (bnd f fun p ρ => match (trAt p ρ).bind lkD with
  | some (.list ds) => .ok (ds.reverse, ρ)
  | _ => .bad) ρ
@[simp] def fMethK (F : List Ar → OT) (t : Tr) (avs : List AgV) : M Rt := fun ρ => match arsOf avs ρ with
  | some as => if (avs.all fun a => (rootO a).isNone) = true then (match F (.o t :: as) with
    | .ok (.fz d) _ => .ok (.fz d, ρ)
    | .exc x _ => .exc x ρ
    | _ => .bad) else .bad
  | none => .bad
@[simp] def fMethN (c : Str) (F : List Ar → OT) (f : M Tr) (As : List Ag) : M Rt := fun ρ => (bnd f fun t ρ => match t with
  | .nd (.ins c') ts => if c' = c then bnd (goT As) (fMethK F (.nd (.ins c') ts)) ρ else .bad
  | _ => .bad) ρ
@[simp] def nsNil : M (List Key × List Tr) := ret ([], [])
@[simp] def nsCons (k : Str) (f : M Tr) (r : M (List Key × List Tr)) : M (List Key × List Tr) := fun ρ => (bnd f fun t => bnd r fun x => ret (Sum.inr k :: x.1, t :: x.2)) ρ
@[simp] def nDisp (r : M (List Key × List Tr)) : M Tr := fun ρ => (bnd r fun x => ret (.nd (.dct x.1) x.2)) ρ
end
end Fx
namespace Fx
open PySem L2
variable [Tabz]
section
variable {X : Cx} {G Ga : Gx} {e a b o : Expr} {es : List Expr} {f g : M PyData} {pos p apos : Pos} {pn : List Nat} {σ : St} {ρ ρ1 ρ2 : Rho} {Hf H Hf1 H1 Hf2 H2 Hf' H' : Hp} {Q : VK} {A B C : Opd} {As : List Opd} {vs : List V} {x : Str} {k : Nat}
def dlk (d k : PyData) : Option (Option PyData) := match d with
  | .dict kvs => (keysD kvs).bind fun ks => (unkD k).map fun key => lkK ks (kvs.map (·.2)) key
  | _ => none
@[simp] def fDgD (f g h : M PyData) : M PyData := fun ρ => (bnd f fun d => if (dlk d (.int 0)).isSome = true then bnd g (fun k => bnd h fun z => opt ((dlk d k).map fun r => r.getD z)) else fun _ => .bad) ρ
@[simp] def fDinD (f g : M PyData) : M PyData := fun ρ => (bnd f fun k => bnd g fun d => opt ((dlk d k).map fun r => .bool r.isSome)) ρ
end
section
variable {X : Cx} {G : Gx} {e a b o : Expr} {es : List Expr} {pos p apos : Pos} {As : List Ag} {A : Ag} {x : Str}
theorem q_or (G : Gx) : G.q = true ∨ G.q = false := by cases G.q <;> simp
theorem fr_callG {k m : Nat} {ps : List Str} {F : List Ar → OT} (hn : ∀ as, F as ≠ .bad → as.length = m) (C : Cal X.prog X.w X.K X.mg X.base x k ps (spT G.cA m F)) (hr : Room k X.A) (hg : Gl X x) (tk : Takes X G.W) (ha : PA X (e :: es) (tArgs G As)) (ho : plOk As = true := by rfl) (hio : G.q = false ∨ noO As = true := by first | exact Or.inl rfl | exact Or.inr rfl) (hdb : (x == ("__debug__" : Str)) = false := by decide)
    (he : starEach (e :: es) X.env = (false, eval e X.env) :: starEach es X.env := by rfl) (hpl : (backTo pos (starEach es X.env)).any (·.1) = false := by rfl) : PE X (.Call (.Name x p) (e :: es) [] pos) (tR G (fCallT F As)) :=
  fr_call (Ga := G) hn C hr hg tk ha (q_or G) rfl rfl (.inr ho) hio hdb he hpl
theorem fe_calZG {k m : Nat} {ps : List Str} {F : List PyData → Out Rt} (hn : ∀ ds r, F ds = r → r ≠ .bad → ds.length = m) (C : Cal X.prog X.w X.K X.mg X.base x k ps (spP G.cA m F)) (hr : Room k X.A) (hg : Gl X x) (tk : Takes X G.W) (ha : PA X (e :: es) (tArgs G As)) (ho : plOk As = true := by rfl) (hio : G.q = false ∨ noO As = true := by first | exact Or.inl rfl | exact Or.inr rfl) (hdb : (x == ("__debug__" : Str)) = false := by decide)
    (he : starEach (e :: es) X.env = (false, eval e X.env) :: starEach es X.env := by rfl) (hpl : (backTo pos (starEach es X.env)).any (·.1) = false := by rfl) : PE X (.Call (.Name x p) (e :: es) [] pos) (tE G (fCallZ F As)) :=
  fe_calZ (Ga := G) hn C hr hg tk ha (q_or G) rfl rfl (.inr ho) hio hdb he hpl
@[simp] def sSetIxP (f : M PyData) (h : M Pth) (g : M PyData) : Rho → Fl := fun ρ => (sBnd f fun d => sMutP h g (kSet d)) ρ
@[simp] def ndAt (i : Nat) (ρ : Rho) : Option (List Key × List Tr) := match (ρ[i]? : Option Sl) with
  | some (.tr (.nd (.dct ks) ts)) => some (ks, ts)
  | _ => none
@[simp] def sDnd (i : Nat) (f : M Tr) (g : M PyData) : Rho → Fl := fun ρ => (sBnd f fun t ρ => if (ndAt i ρ).isSome = true then sBnd g (fun k ρ1 => match ndAt i ρ1 with
  | some (ks, ts) => (match unkD k with
    | some key => if (posK key ks).isNone = true ∧ ks.length < 1000 then .nx (killB (kPre []) i (ρ1.set i (.tr (.nd (.dct (ks ++ [key])) (ts ++ [t]))))) else .bad
    | none => .bad)
  | none => .bad) ρ else .bad) ρ
end
end Fx
namespace Fx
open PySem L2
theorem ln1 {x0 : Str} {Q : List Value → Prop} (h : ∀ a0, Q [a0]) (us : List Value) (hl : us.length = ([x0] : List Str).length) : Q us := match us, hl with | [a0], _ => h a0
theorem ln2 {x0 x1 : Str} {Q : List Value → Prop} (h : ∀ a0 a1, Q [a0, a1]) (us : List Value) (hl : us.length = ([x0, x1] : List Str).length) : Q us := match us, hl with | [a0, a1], _ => h a0 a1
theorem ln3 {x0 x1 x2 : Str} {Q : List Value → Prop} (h : ∀ a0 a1 a2, Q [a0, a1, a2]) (us : List Value) (hl : us.length = ([x0, x1, x2] : List Str).length) : Q us := match us, hl with | [a0, a1, a2], _ => h a0 a1 a2
theorem ln4 {x0 x1 x2 x3 : Str} {Q : List Value → Prop} (h : ∀ a0 a1 a2 a3, Q [a0, a1, a2, a3]) (us : List Value) (hl : us.length = ([x0, x1, x2, x3] : List Str).length) : Q us := match us, hl with | [a0, a1, a2, a3], _ => h a0 a1 a2 a3
theorem ln5 {x0 x1 x2 x3 x4 : Str} {Q : List Value → Prop} (h : ∀ a0 a1 a2 a3 a4, Q [a0, a1, a2, a3, a4]) (us : List Value) (hl : us.length = ([x0, x1, x2, x3, x4] : List Str).length) : Q us := match us, hl with | [a0, a1, a2, a3, a4], _ => h a0 a1 a2 a3 a4
end Fx
namespace Fx
open PySem L2
variable [Tabz]
section
variable {q : Bool} {Hf H H' Hf' : Hp} {σ : St} {ρ : Rho} {i : Nat} {t : Tr}
theorem brw_get (hi : ρ[i]? = some (.tr t)) (j : Nat) : (ρ.set i (.lk t))[j]? = if j = i then some (.lk t) else ρ[j]? := by
  by_cases h : j = i
  · subst h
    rw [if_pos rfl]
    exact List.getElem?_set_self (List.getElem?_eq_some_iff.mp hi).1
  · rw [if_neg h, List.getElem?_set_ne (Ne.symm h)]
theorem brw_ownI (hi : ρ[i]? = some (.tr t)) {j : Nat} {a : Addr} (h : OwnI H σ (ρ.set i (.lk t)) j a) : j ≠ i ∧ OwnI H σ ρ j a := by
  obtain ⟨s, v, e, e2, o⟩ := h
  rw [brw_get hi] at e
  by_cases z : j = i
  · rw [if_pos z] at e; cases e; exact o.elim
  · rw [if_neg z] at e; exact ⟨z, s, v, e, e2, o⟩
theorem brw_ownA (hi : ρ[i]? = some (.tr t)) {a : Addr} (h : OwnA H σ (ρ.set i (.lk t)) a) : OwnA H σ ρ a := ⟨_, (brw_ownI hi h.choose_spec).2⟩
theorem brw_ownA' (hi : ρ[i]? = some (.tr t)) {j : Nat} {a : Addr} (hj : j ≠ i) (h : OwnI H σ ρ j a) : OwnA H σ (ρ.set i (.lk t)) a := by
  obtain ⟨s, v, e, e2, o⟩ := h
  exact ⟨j, s, v, by rw [brw_get hi, if_neg hj]; exact e, e2, o⟩
theorem brw_lk (hi : ρ[i]? = some (.tr t)) {a : Addr} (h : LkA H σ ρ a) : LkA H σ (ρ.set i (.lk t)) a := by
  obtain ⟨j, tt, v, Hf0, F, e, e2, r, m⟩ := h
  refine ⟨j, tt, v, Hf0, F, ?_, e2, r, m⟩
  rw [brw_get hi]
  by_cases z : j = i
  · subst z; rw [hi] at e; cases e
  · rw [if_neg z]; exact e
theorem brw_lk' (hi : ρ[i]? = some (.tr t)) {a : Addr} (h : LkA H σ (ρ.set i (.lk t)) a) : OwnI H σ ρ i a ∨ LkA H σ ρ a := by
  obtain ⟨j, tt, v, Hf0, F, e, e2, r, m⟩ := h
  rw [brw_get hi] at e
  by_cases z : j = i
  · rw [if_pos z] at e
    cases e
    subst z
    exact .inl ⟨_, v, hi, e2, Hf0, F, r, m⟩
  · rw [if_neg z] at e
    exact .inr ⟨j, tt, v, Hf0, F, e, e2, r, m⟩
theorem brw_tr (hi : ρ[i]? = some (.tr t)) {j : Nat} {tt : Tr} : isTr (ρ.set i (.lk t)) j tt ↔ isTr ρ j tt := by
  unfold isTr
  rw [brw_get hi]
  by_cases z : j = i
  · subst z
    rw [if_pos rfl, hi]
    constructor
    · rintro (h | h)
      · cases h
      · cases h; exact .inl rfl
    · rintro (h | h)
      · cases h; exact .inr rfl
      · cases h
  · rw [if_neg z]
theorem Rp.brw (r : Rp Hf H σ ρ) (hi : ρ[i]? = some (.tr t)) : Rp Hf H σ (ρ.set i (.lk t)) where
  sub := r.sub
  tb := r.tb
  nt := r.nt
  len := by rw [List.length_set]; exact r.len
  sl := fun j s h => by
    rw [brw_get hi] at h
    by_cases z : j = i
    · rw [if_pos z] at h
      cases h
      subst z
      obtain ⟨v, F, e, rr, _⟩ := slok_tr' (r.sl _ _ hi)
      rw [e]
      exact slok_lk.mpr ⟨F, rr⟩
    · rw [if_neg z] at h; exact r.sl j s h
  nd := fun a b x h1 h2 => r.nd a b x (brw_ownI hi h1).2 (brw_ownI hi h2).2
  lk := fun a h1 ⟨j, h2⟩ => by
    obtain ⟨hj, h2⟩ := brw_ownI hi h2
    rcases brw_lk' hi h1 with z | z
    · exact hj (r.nd j i a h2 z)
    · exact r.lk a z ⟨j, h2⟩
  al := fun j k qs tt h1 h2 => by
    rw [brw_get hi] at h1
    by_cases z : j = i
    · rw [if_pos z] at h1; cases h1
    · rw [if_neg z] at h1; exact r.al j k qs tt h1 ((brw_tr hi).mp h2)
theorem brw_back (r : Rp Hf H σ ρ) (hi : ρ[i]? = some (.tr t)) (n : Nxt q σ (ρ.set i (.lk t)) Hf H σ (ρ.set i (.lk t)) Hf' H') : Nxt q σ ρ Hf H σ ρ Hf' H' := by
  have rb := r.brw hi
  obtain ⟨v, F, ev, rr, fnd, fhf⟩ := slok_tr' (r.sl _ _ hi)
  have lkF : ∀ a ∈ F, LkA H σ (ρ.set i (.lk t)) a := fun a m => ⟨i, t, v, Hf, F, by rw [brw_get hi, if_pos rfl], ev, rr, m⟩
  -- what is looked at stays
  have kl : ∀ a, LkA H σ (ρ.set i (.lk t)) a → H' a = H a := fun a h => by
    obtain ⟨o, e, nt⟩ := rb.lka h
    rw [e]
    exact n.keep a o e nt (rb.lk a h)
  have rF : TR Hf H' v t F := rr.mono (Same.refl _) fun a m => kl a (lkF a m)
  have ownI' : ∀ a, OwnI H' σ ρ i a → a ∈ F := fun a h => by
    obtain ⟨s, w, e, e2, o⟩ := h
    rw [hi] at e; cases e
    rw [ev] at e2; cases e2
    obtain ⟨Hf0, F0, r0, m⟩ := o
    have := rF.inj r0
    rw [this]; exact m
  have ownIF : ∀ a ∈ F, OwnI H σ ρ i a := fun a m => ⟨_, v, hi, ev, Hf, F, rr, m⟩
  have lk2 : ∀ a, LkA H' σ ρ a → LkA H σ ρ a := fun a h => by
    obtain ⟨j, tt, w, Hf0, F0, e, e2, r0, m⟩ := h
    obtain ⟨w', F1, e3, r1⟩ := slok_lk' (r.sl _ _ e)
    rw [e2] at e3; cases e3
    have r2 : TR Hf H' w tt F1 := r1.mono (Same.refl _) fun b mb => kl b (brw_lk hi ⟨j, tt, w, Hf, F1, e, e2, r1, mb⟩)
    have ee := r2.inj r0
    subst ee
    exact ⟨j, tt, w, Hf, _, e, e2, r1, m⟩
  have os2 : ∀ a, OwnA H' σ ρ a → OwnA H σ ρ a ∨ H a = none := fun a ⟨j, h⟩ => by
    by_cases z : j = i
    · subst z; exact .inl ⟨_, ownIF a (ownI' a h)⟩
    · exact (n.os a (brw_ownA' hi z h)).imp (brw_ownA hi) id
  have ne : ∀ a, a ∈ F → ¬ OwnA H' σ (ρ.set i (.lk t)) a := fun a m h => n.rp.lk a (by
    refine ⟨i, t, v, Hf, F, by rw [brw_get hi, if_pos rfl], ev, rF, m⟩) h
  refine ⟨n.sub, fun a o h1 h2 h3 => n.keep a o h1 h2 fun z => h3 (brw_ownA hi z), os2, lk2, n.dom, fun a h => ?_, fun hq => ⟨fun j tt e => ⟨e, rfl, fun a h => ?_⟩, Stay.refl⟩, ?_⟩
  · exact (n.fr a h).imp id fun z => z.imp id (brw_ownA hi)
  · by_cases z : j = i
    · subst z
      obtain ⟨s, w, e1, e2, o⟩ := h
      rw [hi] at e1; cases e1
      rw [ev] at e2; cases e2
      obtain ⟨Hf0, F0, r0, m⟩ := o
      have := rr.inj r0
      subst this
      exact kl a (lkF a m)
    · refine ((n.qt hq).1 j tt (by rw [brw_get hi, if_neg z]; exact e)).2.2 a ?_
      obtain ⟨s, w, e1, e2, o⟩ := h
      exact ⟨s, w, by rw [brw_get hi, if_neg z]; exact e1, e2, o⟩
  · have rp := n.rp
    refine ⟨rp.sub, rp.tb, rp.nt, r.len, fun j s h => ?_, fun j k a h1 h2 => ?_, fun a h1 h2 => ?_, fun j k qs tt h1 h2 => ?_⟩
    · by_cases z : j = i
      · subst z
        rw [hi] at h; cases h
        rw [ev]
        refine slok_tr.mpr ⟨F, rF.mono n.sub fun _ _ => rfl, fnd, fun a m => ?_⟩
        rcases n.fr a (fhf a m) with y | y | y
        · exact y
        · obtain ⟨o, e, _⟩ := rr.obj a m
          rw [e] at y; cases y
        · exact absurd y (rb.lk a (lkF a m))
      · exact rp.sl j s (by rw [brw_get hi, if_neg z]; exact h)
    · by_cases z : j = i
      · by_cases y : k = i
        · rw [z, y]
        · subst z
          exact absurd (brw_ownA' hi y h2) (ne a (ownI' a h1))
      · by_cases y : k = i
        · subst y
          exact absurd (brw_ownA' hi z h1) (ne a (ownI' a h2))
        · obtain ⟨s, w, e1, e2, o⟩ := h1
          obtain ⟨s', w', e1', e2', o'⟩ := h2
          exact rp.nd j k a ⟨s, w, by rw [brw_get hi, if_neg z]; exact e1, e2, o⟩ ⟨s', w', by rw [brw_get hi, if_neg y]; exact e1', e2', o'⟩
    · obtain ⟨j, h2⟩ := h2
      by_cases z : j = i
      · subst z
        exact r.lk a (lk2 a h1) ⟨_, ownIF a (ownI' a h2)⟩
      · exact rp.lk a (brw_lk hi h1) (brw_ownA' hi z h2)
    · refine rp.al j k qs tt ?_ ((brw_tr hi).mpr h2)
      rw [brw_get hi]
      by_cases z : j = i
      · subst z; rw [hi] at h1; cases h1
      · rw [if_neg z]; exact h1
end
open Classical in
noncomputable def fBrw (i : Nat) (f : M (List PyData)) : M (List PyData) := fun ρ => match ρ[i]? with
  | some (.tr t) => (match f (ρ.set i (.lk t)) with
    | .ok (xs, ρ') => if ρ' = ρ.set i (.lk t) then .ok (xs, ρ) else .bad
    | _ => .bad)
  | _ => .bad
theorem fl_brw {X : Cx} {G : Gx} {e : Expr} {f : M (List PyData)} (i : Nat) (h : PE X e (tL G f)) : PE X e (tL G (fBrw i f)) := by
  refine h.imp fun σ H Q ⟨Hf, ρ, rp, af⟩ => ?_
  unfold fBrw at af
  cases hi : ρ[i]? with
  | none => rw [hi] at af; exact False.elim af
  | some s =>
    rw [hi] at af
    cases s <;> first | exact False.elim af | skip
    rename_i t
    dsimp only at af
    refine ⟨Hf, ρ.set i (.lk t), rp.brw hi, ?_⟩
    cases ef : f (ρ.set i (.lk t)) with
    | bad => rw [ef] at af; exact False.elim af
    | exc c ρ' => rw [ef] at af; exact False.elim af
    | ok x =>
      obtain ⟨xs, ρ'⟩ := x
      rw [ef] at af
      dsimp only at af
      by_cases er : ρ' = ρ.set i (.lk t)
      · rw [if_pos er] at af
        subst er
        intro p vs Hf' H' n hp h1 h2 h3 r
        have rb := rp.brw hi
        refine af p vs Hf' H' (brw_back rp hi n) (hp.imp id (brw_ownA hi)) h1 (fun z => ?_) h3 r
        obtain ⟨j, z⟩ := z
        by_cases y : j = i
        · subst y
          have lkp : LkA H' σ (ρ.set j (.lk t)) p := by
            obtain ⟨s, w, e1, e2, o⟩ := z
            rw [hi] at e1; cases e1
            obtain ⟨Hf0, F0, r0, m⟩ := o
            exact ⟨j, t, w, Hf0, F0, by rw [brw_get hi, if_pos rfl], e2, r0, m⟩
          exact hp.notLk rb (n.ls p lkp)
        · exact h2 (brw_ownA' hi y z)
      · rw [if_neg er] at af; exact False.elim af
theorem fBrw_ok {i : Nat} {f : M (List PyData)} {ρ : Rho} {t : Tr} {xs : List PyData} (hi : ρ[i]? = some (.tr t)) (h : f (ρ.set i (.lk t)) = .ok (xs, ρ.set i (.lk t))) : fBrw i f ρ = .ok (xs, ρ) := by
  unfold fBrw
  rw [hi]
  dsimp only
  rw [h]
  dsimp only
  rw [if_pos rfl]
@[simp] def itemsQ : D → Option (List D)
  | .list ds => some ds
  | .tuple ds => some ds
  | _ => none
@[simp] def fItQ (f : M D) : M (List D) := fun ρ => (bnd f fun d => opt (itemsQ d)) ρ
end Fx
namespace Fx
open PySem L2
variable [Tabz]
end Fx
namespace Mm
open PySem L2 Fx
variable [Tabz]
end Mm
namespace Fx
open PySem L2
variable [Tabz]
section
variable {X : Cx} {G : Gx} {e a b o : Expr} {es : List Expr} {f g : M PyData} {pos : Pos} {pn : List Nat} {σ : St} {ρ ρ1 : Rho} {Hf H Hf1 H1 : Hp}
theorem ixN_lt {n : Nat} {i : Int} {k : Nat} (h : ixN n i = some k) : k < n := by
  unfold ixN at h
  split at h
  · split at h
    · cases h; omega
    · cases h
  · split at h
    · cases h; omega
    · cases h
@[simp] def ndS : Tr → Option (List Tr)
  | .nd .lst ts => some ts
  | .nd .tup ts => some ts
  | _ => none
@[simp] def plI (f : M Pth) (g : M PyData) : M Pth := fun ρ => (bnd f fun p => bnd g fun d ρ => match (trAt p ρ).bind ndS, d with
  | some ts, .int i => (match ixN ts.length i with
    | some n => .ok ((p.1, p.2 ++ [n]), ρ)
    | none => .bad)
  | _, _ => .bad) ρ
theorem pl_idx {f : M Pth} (h : PE X e (tPl (qG G) f)) (hk : PE X b (tE (qG G) g)) (hs : PlainIx b := by exact fun _ _ => rfl) : PE X (.Subscript e b pos) (tPl G (plI f g)) := by
  refine pl_q ((pe_ix ix_seq h hk hs).imp fun σ H Q ⟨Hf, ρ, rp, af⟩ => ?_)
  refine tPl.mono ?_ (stepPP (G := qG G) (P := fun ρ Hf H o => AfP (qG G) σ ρ Hf H Q o) (fun n q => q.later n) (fun q => q) (fun q => q) rp af)
  rintro y H1 ⟨p, s, Hf1, ρ1, n1, av, af1⟩
  refine tG.mono ?_ (stepP (R1 := Rep) n1.rp af1)
  rintro z H2 ⟨d, Hf2, ρ2, n2, rz, af2⟩
  have av2 := av.keep n1.rp n2
  rw [av2.trAt] at af2
  simp only [Option.bind_some] at af2
  cases es : ndS s with
  | none => rw [es] at af2; exact False.elim af2
  | some ts =>
    rw [es] at af2
    cases d with
    | int i =>
      dsimp only at af2
      cases en : ixN ts.length i with
      | none => rw [en] at af2; exact False.elim af2
      | some n =>
        rw [en] at af2
        dsimp only at af2
        cases rz
        obtain ⟨M, tr⟩ := av2.tr n2.rp
        have fin : ∀ (pp : Addr) (k : Nk) (vs : List V) (F : List Addr), s = .nd k ts → y = .ref pp → NodeOk H2 pp k vs → TRs Hf2 H2 vs ts F → ∃ v, vs[n]? = some v ∧ vs.length = ts.length ∧ Q v H2 := fun pp k vs F hs hy hk2 hs2 => by
          have hl := hs2.len
          have hn : n < ts.length := ixN_lt en
          obtain ⟨v, hv⟩ : ∃ v, vs[n]? = some v := ⟨vs[n]'(by omega), List.getElem?_eq_getElem (by omega)⟩
          refine ⟨v, hv, hl, af2 v (ts[n]'hn) Hf2 H2 (.refl n2.rp) ?_⟩
          obtain ⟨u, t, e3, e4, a4⟩ := av2
          exact ⟨u, t, e3, e4, a4.snoc hs hy hk2 hv (List.getElem?_eq_getElem hn)⟩
        cases s with
        | nd k ts' =>
          cases tr with
          | @nd pp _ vs _ _ hk2 hs2 =>
            cases k with
            | lst =>
              cases es
              obtain ⟨v, hv, hl, q⟩ := fin pp .lst vs _ rfl rfl hk2 hs2
              exact .inl ⟨pp, vs, i, v, rfl, rfl, SqL.of hk2, by unfold atI; rw [hl, en]; exact hv, q⟩
            | tup =>
              cases es
              obtain ⟨v, hv, hl, q⟩ := fin pp .tup vs _ rfl rfl hk2 hs2
              exact .inr (.inl ⟨pp, vs, i, v, rfl, rfl, SqT.of hk2, by unfold atI; rw [hl, en]; exact hv, q⟩)
            | ins _ => cases es
            | dct _ => cases es
        | fz _ => cases es
        | ow _ => cases es
        | dk _ _ => cases es
        | dt _ _ => cases es
    | _ => exact False.elim af2
def AfTs (G : Gx) (σ : St) (ρ : Rho) (Hf H : Hp) (Q : List V → Hp → Prop) : Res (List Tr) → Prop
  | .ok (ts, ρ') => ∀ vs F Hf' H', Nxt G.q σ ρ Hf H σ ρ' Hf' H' → TRs Hf' H' vs ts F → F.Nodup → (∀ a ∈ F, Fre H σ ρ a ∧ Hf' a = none ∧ ¬ OwnA H' σ ρ' a) → Q vs H'
  | .exc c ρ' => ∀ Hf' H', Nxt G.q σ ρ Hf H σ ρ' Hf' H' → G.W (.ref (G.cA c)) none σ H'
  | .bad => False
def tNs (G : Gx) (r : M (List Tr)) : TA := fun σ H Q => ∃ Hf ρ, Rp Hf H σ ρ ∧ AfTs G σ ρ Hf H Q (r ρ)
@[simp] def tsNil : M (List Tr) := ret []
@[simp] def tsCons (f : M Tr) (r : M (List Tr)) : M (List Tr) := fun ρ => (bnd f fun t => bnd r fun ts => ret (t :: ts)) ρ
theorem pa_tnil : PA X [] (tNs G tsNil) := pa_nil.imp fun σ H Q ⟨Hf, ρ, rp, af⟩ => af [] [] Hf H (.refl rp) .nil List.nodup_nil (fun _ z => nomatch z)
theorem pa_tcons {f : M Tr} {r : M (List Tr)} (hv : PE X e (tN G f)) (hr : PA X es (tNs G r)) (hs : starEach (e :: es) X.env = (false, eval e X.env) :: starEach es X.env := by rfl) : PA X (e :: es) (tNs G (tsCons f r)) := by
  refine (pa_cons hv hr hs).imp fun σ H Q ⟨Hf, ρ, rp, af⟩ => ?_
  show tN G f σ H _
  refine ⟨Hf, ρ, rp, ?_⟩
  unfold tsCons bnd at af
  cases e1 : f ρ with
  | bad => rw [e1] at af; exact af
  | exc c ρ1 => rw [e1] at af; exact af
  | ok z =>
    obtain ⟨t, ρ1⟩ := z
    rw [e1] at af
    dsimp only at af
    intro v F1 Hf1 H1 n1 r1 nd1 hF1
    refine ⟨Hf1, ρ1, n1.rp, ?_⟩
    cases e2 : r ρ1 with
    | bad => rw [e2] at af; exact af
    | exc c ρ2 => rw [e2] at af; exact fun Hf' H' n => af Hf' H' (n1.trans n)
    | ok z =>
      obtain ⟨x, ρ2⟩ := z
      rw [e2] at af
      intro vs F2 Hf2 H2 n2 r2 nd2 hF2
      have nob : ∀ a ∈ F1, H2 a = H1 a ∧ Hf2 a = none ∧ ¬ OwnA H2 σ ρ2 a := fun a m => by
        obtain ⟨o, h1, h2⟩ := r1.obj a m
        obtain ⟨g1, g2, g3⟩ := n2.nob h1 h2 (hF1 a m).2.1 (hF1 a m).2.2
        exact ⟨by rw [g1, h1], g2, g3⟩
      refine af (v :: vs) (F1 ++ F2) Hf2 H2 (n1.trans n2) (.cons (r1.mono n2.sub fun a m => (nob a m).1) r2) ?_ (fun a m => ?_)
      · rw [List.nodup_append]
        refine ⟨nd1, nd2, fun a m b mb eab => ?_⟩
        subst eab
        obtain ⟨o, h1, _⟩ := r1.obj a m
        rcases (hF2 a mb).1 with z | z
        · rw [h1] at z; cases z
        · exact (hF1 a m).2.2 z
      · rcases List.mem_append.mp m with m | m
        · exact ⟨(hF1 a m).1, (nob a m).2.1, (nob a m).2.2⟩
        · exact ⟨(hF2 a m).1.back n1, (hF2 a m).2⟩
@[simp] def nTupT (r : M (List Tr)) : M Tr := fun ρ => (bnd r fun ts => if small ts.length then ret (.nd .tup ts) else fun _ => .bad) ρ
@[simp] def nLstT (r : M (List Tr)) : M Tr := fun ρ => (bnd r fun ts => if small ts.length then ret (.nd .lst ts) else fun _ => .bad) ρ
theorem new_node {r : M (List Tr)} {Q : VK} {k : Nk} {mk : List V → HO} (hk : ∀ (vs : List V) (p : Addr) (H : Hp), NodeOk (upd H p (mk vs)) p k vs) (hm : ∀ vs, NT (mk vs)) (rp : Rp Hf H σ ρ) (af : AfN G σ ρ Hf H Q (bnd r (fun ts => if small ts.length then ret (.nd k ts) else fun _ => .bad) ρ)) :
    tNs G r σ H fun xs H1 => xs.length ≤ sizeLine ∧ ∀ p, H1 p = none → Q (.ref p) (upd H1 p (mk xs)) := by
  refine ⟨Hf, ρ, rp, ?_⟩
  unfold bnd at af
  cases e : r ρ with
  | bad => rw [e] at af; exact af
  | exc c ρ1 => rw [e] at af; exact af
  | ok z =>
    obtain ⟨ts, ρ1⟩ := z
    rw [e] at af
    dsimp only at af
    split at af
    · rename_i hs
      intro vs F Hf1 H1 n1 r1 nd1 hF1
      refine ⟨by rw [r1.len]; exact small_le hs, fun p hp => ?_⟩
      have rp1 := n1.rp
      have hpf : Hf1 p = none := rp1.sub.free hp
      have pF : p ∉ F := fun m => by
        obtain ⟨o, h1, _⟩ := r1.obj p m
        rw [hp] at h1; cases h1
      have n2 : Nxt G.q σ ρ1 Hf1 H1 σ ρ1 Hf1 (upd H1 p (mk vs)) := rp1.newO hp
      have no : ∀ a, ¬ OwnA H1 σ ρ1 a → H1 a ≠ none → ¬ OwnA (upd H1 p (mk vs)) σ ρ1 a := fun a h1 h2 z => (n2.os a z).elim h1 h2
      refine af (.ref p) (p :: F) Hf1 _ (n1.trans n2) (.nd (hk vs p H1) (r1.mono (Same.refl _) fun a m => upd_ne fun z => pF (z ▸ m))) (List.nodup_cons.mpr ⟨pF, nd1⟩) fun a m => ?_
      rcases List.mem_cons.mp m with rfl | m
      · exact ⟨(show Fre H1 σ ρ1 a from .inl hp).back n1, hpf, rp1.notOwnU hp⟩
      · obtain ⟨o, h1, _⟩ := r1.obj a m
        exact ⟨(hF1 a m).1, (hF1 a m).2.1, no a (hF1 a m).2.2 (by rw [h1]; exact fun z => nomatch z)⟩
    · exact False.elim af
theorem fn_tupT {k : Nat} {r : M (List Tr)} (h : PA X es (tNs G r)) : PE X (.Tuple es k pos) (tN G (nTupT r)) :=
  (pe_tup h).imp fun σ H Q ⟨Hf, ρ, rp, af⟩ => new_node (k := .tup) (mk := .tup) (fun vs p H => upd_same) (fun vs => NT.tup) rp af
theorem fn_lstT {r : M (List Tr)} (h : PA X es (tNs G r)) : PE X (.List es pos) (tN G (nLstT r)) :=
  (pe_lst h).imp fun σ H Q ⟨Hf, ρ, rp, af⟩ => new_node (k := .lst) (mk := .lst) (fun vs p H => upd_same) (fun vs => NT.lst) rp af
@[simp] def sClrP (f : M Pth) : Rho → Fl := fun ρ => (sBnd f fun p ρ => if (owP p ρ).isSome = true then .nx (putP p (.ow []) ρ) else .bad) ρ
theorem fs_clearP {ap cp : Pos} {h : M Pth} (ho : PE X o (tPl (qG G) h)) (hbase : attributeBase o "clear" X.env (eval o X.env) = eval o X.env := by rfl) (hline : (ap.endLine == cp.line) = true := by rfl)
    (hsw : swapsWith (.Call (.Attribute o "clear" ap) [] [] cp) none pos.line X.env = pure false := by rfl) : PS X (.Expr (.Call (.Attribute o "clear" ap) [] [] cp) pos) (tS G pn (sClrP h)) := by
  refine (ps_expr (pe_bm0 PySem.F.plainAttrs_list PySem.F.slot_list_clear PySem.F.type_list_clear mt_clear ho hbase hline) hsw).imp fun D σ H ⟨Hf, ρ, rp, af⟩ => ?_
  refine tPl.mono ?_ (stepSP rp af)
  rintro y H1 ⟨p, s, Hf1, ρ1, n1, av, af1⟩
  cases e0 : owP p ρ1 with
  | none => simp only [e0] at af1; exact False.elim af1
  | some ds =>
    simp only [e0, Option.isSome_some, if_true] at af1
    obtain ⟨l, vs, rfl, g1, g2, _, g3⟩ := owP_at n1.rp e0 av
    exact ⟨.inl ⟨rfl, _, SqL.of g1⟩, l, vs, rfl, rfl, g1, af1 σ Hf1 _ (g3 .nil) (.refl _ _)⟩
end
end Fx
namespace Fx
open PySem L2
variable [Tabz]
end Fx
namespace Fx
open PySem L2
variable [Tabz]
section
variable {Hf H Hf1 H1 : Hp} {σ σ1 : St} {ρ ρ1 : Rho}
theorem Rp.bindPa (rp : Rp Hf H σ ρ) {i : Nat} {p : Pth} {v : V} {s : Tr} (hne : p.1 ≠ i) (av : AtV H σ ρ p v s) : Nxt false σ ρ Hf H (σ.set i (some v)) ((killB kNo i ρ).set i (.pa p.1 p.2)) Hf H := by
  by_cases hlt : i < ρ.length
  · have ln : i < σ.length := Nat.lt_of_lt_of_le hlt rp.len
    have n2 : Nxt false σ ρ Hf H (σ.set i (some v)) ((killB kNo i ρ).set i .un) Hf H := by
      refine rp.weak (by rw [List.length_set, killB_len, List.length_set]; exact rp.len) fun j s h => ?_
      by_cases z : j = i
      · subst z
        rw [List.getElem?_set, if_pos rfl, if_pos (by rw [killB_len]; exact hlt)] at h
        cases h
        exact .inr ⟨True.intro, slok_un⟩
      · rw [List.getElem?_set, if_neg fun y => z y.symm] at h
        rcases killB_get h with ⟨h, _⟩ | ⟨h, _⟩
        · exact .inl ⟨h, by rw [List.getElem?_set, if_neg fun y => z y.symm]⟩
        · subst h; exact .inr ⟨True.intro, slok_un⟩
    have gi : ((killB kNo i ρ).set i .un)[i]? = some .un := by rw [List.getElem?_set, if_pos rfl, if_pos (by rw [killB_len]; exact hlt)]
    have gv : (σ.set i (some v))[i]? = some (some v) := by rw [List.getElem?_set, if_pos rfl, if_pos ln]
    have av2 : AtV H (σ.set i (some v)) ((killB kNo i ρ).set i .un) p v s := by
      obtain ⟨u, t, e1, e2, a⟩ := av
      refine ⟨u, t, by rw [List.getElem?_set, if_neg fun y => hne y.symm]; exact e1, ?_, a⟩
      unfold isTr
      rw [List.getElem?_set, if_neg fun y => hne y.symm]
      rcases e2 with e | e
      · exact .inl (killB_at e fun _ _ z => nomatch z)
      · exact .inr (killB_at e fun _ _ z => nomatch z)
    have n3 := n2.rp.mkPa gi gv av2
    rw [List.set_set] at n3
    exact n2.trans n3
  · have e1 : (killB kNo i ρ).set i (.pa p.1 p.2) = killB kNo i ρ := List.set_eq_of_length_le (by rw [killB_len]; omega)
    rw [e1]
    refine rp.weak (by rw [killB_len, List.length_set]; exact rp.len) fun j s h => ?_
    have hj : j ≠ i := fun z => by
      have := (List.getElem?_eq_some_iff.mp h).1
      rw [killB_len] at this
      omega
    rcases killB_get h with ⟨h, _⟩ | ⟨h, _⟩
    · exact .inl ⟨h, by rw [List.getElem?_set, if_neg fun y => hj y.symm]⟩
    · subst h; exact .inr ⟨True.intro, slok_un⟩
def len1 (k : Nat) (ρ : Rho) : Option Nat := match (ρ[k]? : Option Sl) with
  | some (.tr (.nd .lst ts)) => some ts.length
  | some (.ow ds) => some ds.length
  | _ => none
def bnd1 (j k i : Nat) (ρ : Rho) : Option Rho := match (ρ[k]? : Option Sl) with
  | some (.tr (.nd .lst _)) => some ((killB kNo j ρ).set j (.pa k [i]))
  | some (.ow ds) => (ds[i]?).map fun d => ρ.set j (.fz d)
  | _ => none
theorem src1 (rp : Rp Hf H σ ρ) {k n : Nat} (h : len1 k ρ = some n) : ∃ l vs, σ[k]? = some (some (.ref l)) ∧ H l = some (.lst vs) ∧ vs.length = n ∧ ∀ (i : Nat) (v : V), vs[i]? = some v → ∀ (j : Nat) (ρ2 : Rho), j ≠ k → bnd1 j k i ρ = some ρ2 → Nxt false σ ρ Hf H (σ.set j (some v)) ρ2 Hf H := by
  unfold len1 at h
  split at h
  · rename_i ts e
    cases h
    obtain ⟨v, F, e1, r, nd, hf⟩ := slok_tr' (rp.sl k _ e)
    cases r with
    | @nd l _ vs _ _ hk hs =>
      refine ⟨l, vs, e1, hk, hs.len, fun i v hv j ρ2 hj hb => ?_⟩
      unfold bnd1 at hb
      rw [e] at hb
      cases hb
      have hi : i < ts.length := by
        have := (List.getElem?_eq_some_iff.mp hv).1
        rw [hs.len] at this
        exact this
      exact rp.bindPa (p := (k, [i])) (fun z => hj z.symm) ⟨_, _, e1, .inl e, At.cons hk hv (List.getElem?_eq_getElem hi) .nil⟩
  · rename_i ds e
    cases h
    obtain ⟨p, vs, s1, f1, g1, r1⟩ := slok_ow (rp.sl k _ e)
    refine ⟨p, vs, s1, g1, repA_len r1, fun i v hv j ρ2 hj hb => ?_⟩
    unfold bnd1 at hb
    rw [e] at hb
    dsimp only at hb
    cases ed : ds[i]? with
    | none => rw [ed] at hb; cases hb
    | some d =>
      rw [ed] at hb
      cases hb
      obtain ⟨w, e2, r2⟩ := repA_get r1 ed
      rw [hv] at e2; cases e2
      exact rp.put r2
  · cases h
end
def forC (cur : Rho → Option Nat) (g : Nat → Rho → Option Rho) (s : Rho → Fl) : Nat → Nat → Rho → Fl
  | 0, _, _ => .bad
  | f + 1, i, ρ => match cur ρ with
    | none => .bad
    | some n => if i < n then (match g i ρ with
        | none => .bad
        | some ρ1 => match s ρ1 with
          | .nx ρ2 => forC cur g s f (i + 1) ρ2
          | .ct ρ2 => forC cur g s f (i + 1) ρ2
          | .brk ρ2 => .nx ρ2
          | .ret (.fz d) ρ2 => .ret (.fz d) ρ2
          | .exc c ρ2 => .exc c ρ2
          | _ => .bad)
      else .nx ρ
def lcC (cur : Rho → Option Nat) (g : Nat → Rho → Option Rho) (fe : M PyData) (vs : List Nat) : Nat → Nat → Rho → Res (List PyData)
  | 0, _, _ => .bad
  | f + 1, i, ρ => match cur (wipeR ρ vs) with
    | none => .bad
    | some n => if i < n then (match g i (wipeR ρ vs) with
        | none => .bad
        | some ρ1 => match fe ρ1 with
          | .ok (x, ρ2) => (match lcC cur g fe vs f (i + 1) ρ2 with
            | .ok (xs, ρ3) => .ok (x :: xs, ρ3)
            | _ => .bad)
          | _ => .bad)
      else .ok ([], ρ)
def fLcC (cur : Rho → Option Nat) (g : Nat → Rho → Option Rho) (fe : M PyData) (vs : List Nat) : M (List PyData) := fun ρ => if (cur ρ).isSome = true then (match lcC cur g fe vs 1000 0 ρ with
    | .ok (xs, ρ2) => .ok (xs, rest ρ2 ρ vs)
    | _ => .bad) else .bad
section
variable {X : Cx} {G : Gx} {e a b o iter tg elt : Expr} {es : List Expr} {sts : List Stmt} {s : Rho → Fl} {pos p p1 p2 : Pos} {pn pk is vs : List Nat} {cur : Rho → Option Nat} {g : Nat → Rho → Option Rho} {tgt : TG} {wi : TI} {x y : Str} {j k j2 k2 : Nat} {fe : M PyData}
theorem tYes_of {σ : St} {H : Hp} {A B : Hp → Prop} (h : A H) : tYes σ H (fun b H3 => if b = true then A H3 else B H3) := by
  show (if (true = true) then A H else B H)
  rw [if_pos rfl]
  exact h
def SrcOk (pk is : List Nat) (cur : Rho → Option Nat) (g : Nat → Rho → Option Rho) (tgt : TG) (σ : St) (J : It) : Prop := ∀ (σ1 : St) (ρ1 : Rho) (Hf1 H1 : Hp) (n i : Nat), Rp Hf1 H1 σ1 ρ1 → Pin pk σ σ1 → cur ρ1 = some n →
  (i < n → J.go i H1 ∧ ∀ x H', J.yld i H1 x H' → ∀ ρ2, g i ρ1 = some ρ2 → ∀ Q : St → Hp → Prop, (∀ σ2 Hf2 H2, Nxt false σ1 ρ1 Hf1 H1 σ2 ρ2 Hf2 H2 → Only is σ1 σ2 → Q σ2 H2) → tgt x σ1 H' Q) ∧ (n ≤ i → J.stop i H1)
def Starts (pk is : List Nat) (cur : Rho → Option Nat) (g : Nat → Rho → Option Rho) (tgt : TG) (wi : TI) : Prop := ∀ (σ : St) (H Hf : Hp) (ρ : Rho) (R : It → Hp → Prop), Rp Hf H σ ρ → (cur ρ).isSome = true → (∀ J, SrcOk pk is cur g tgt σ J → R J H) → wi σ H R
theorem fs_forC (hp : PassesOwn (model X.prog X.w) X.A X.env X.xe) (hc : X.calm = true) (st : Starts pk is cur g tgt wi) (hpn : ∀ i ∈ is, i ∉ pn ∧ i ∉ pk) (hi : PI X tg iter wi) (hg : PG X tg tgt) (hb : PSs X sts (tS G (pk ++ pn) s))
    (hs : ∀ x, foldedSetIterable iter X.env x = pure x := by intro _; rfl) : PS X (.For tg iter sts [] pos) (tS G pn (forC cur g s 1000 0)) := by
  refine (ps_for hp hc hi hg hb hs).imp fun D σ H ⟨Hf, ρ, rp, af⟩ => ?_
  have hcur : (cur ρ).isSome = true := by
    unfold forC at af
    cases e : cur ρ with
    | none => rw [e] at af; exact False.elim af
    | some n => rfl
  refine st σ H Hf ρ _ rp hcur fun J hJ => ?_
  refine ⟨fun i m σc Hc => Pin pk σ σc ∧ ∃ Hfc ρc, Nxt false σ ρ Hf H σc ρc Hfc Hc ∧ AfS G pn σc ρc Hfc Hc D (forC cur g s m i ρc), ⟨1000, .refl _ _, Hf, ρ, .refl rp, af⟩, ?_⟩
  rintro i m σc Hc ⟨pk1, Hfc, ρc, sm, afc⟩
  cases m with
  | zero => exact False.elim afc
  | succ m =>
    unfold forC at afc
    cases ec : cur ρc with
    | none => simp only [ec] at afc; exact False.elim afc
    | some n =>
      have it := hJ σc ρc Hfc Hc n i sm.rp pk1 ec
      by_cases hlt : i < n
      · obtain ⟨hgo, hy⟩ := it.1 hlt
        simp only [ec, if_pos hlt] at afc
        refine .inr ⟨hgo, fun σ' H' => Pin pk σ σ' ∧ ∃ Hfc ρc, Nxt false σ ρ Hf H σ' ρc Hfc H' ∧ AfS G pn σ' ρc Hfc H' D (forC cur g s m (i + 1) ρc), fun σ' H' q => ⟨m, by omega, q⟩, fun x H' yx => ?_⟩
        cases eg : g i ρc with
        | none => simp only [eg] at afc; exact False.elim afc
        | some ρg =>
          simp only [eg] at afc
          refine hy x H' yx ρg eg _ fun σ2 Hf2 H2 n2 o2 => ⟨Hf2, ρg, n2.rp, ?_⟩
          have p3 : Pin pn σc σ2 := pin_only o2 fun i h => (hpn i h).1
          have p4 : Pin pk σc σ2 := pin_only o2 fun i h => (hpn i h).2
          have lft : ∀ {σ' : St}, Pin (pk ++ pn) σ2 σ' → Pin pk σ2 σ' := fun p5 j z => p5 j (List.mem_append_left _ z)
          have rgt : ∀ {σ' : St}, Pin (pk ++ pn) σ2 σ' → Pin pn σ2 σ' := fun p5 j z => p5 j (List.mem_append_right _ z)
          cases es : s ρg with
          | nx ρ2 =>
            simp only [es] at afc
            exact fun σ' Hf' H' n4 p5 => ⟨pk1.trans (p4.trans (lft p5)), Hf', ρ2, sm.trans (n2.trans n4), afc.later (n2.trans n4) (p3.trans (rgt p5))⟩
          | ct ρ2 =>
            simp only [es] at afc
            exact fun σ' Hf' H' n4 p5 => ⟨pk1.trans (p4.trans (lft p5)), Hf', ρ2, sm.trans (n2.trans n4), afc.later (n2.trans n4) (p3.trans (rgt p5))⟩
          | brk ρ2 =>
            simp only [es] at afc
            exact fun σ' Hf' H' n4 p5 => afc σ' Hf' H' (n2.trans n4) (p3.trans (rgt p5))
          | ret r ρ2 =>
            simp only [es] at afc
            cases r with
            | fz d => exact fun v σ' Hf' H' n4 p5 rt => afc v σ' Hf' H' (n2.trans n4) (p3.trans (rgt p5)) rt
            | ow _ => exact False.elim afc
            | tr _ => exact False.elim afc
          | exc c ρ2 =>
            simp only [es] at afc
            exact fun σ' Hf' H' n4 p5 => afc σ' Hf' H' (n2.trans n4) (p3.trans (rgt p5))
          | bad => simp only [es] at afc; exact False.elim afc
      · simp only [ec, if_neg hlt] at afc
        exact .inl ⟨it.2 (by omega), afc σc Hfc Hc (.refl sm.rp) (.refl _ _)⟩
theorem lcC_run (hgq : G.q = false) (his : ∀ i ∈ is, i ∈ vs) (hpk : ∀ k ∈ pk, k ∉ vs) (st : Starts pk is cur g tgt wi) (σ : St) (H : Hp) (Q : VK) (h : tL G (fLcC cur g fe vs) σ H Q) : tLc wi tgt tYes (tE (G0 G) fe) vs σ H Q := by
  obtain ⟨Hf, ρ, rp, af⟩ := h
  unfold fLcC at af
  split at af
  · rename_i hcur
    cases er : lcC cur g fe vs 1000 0 ρ with
    | exc c _ => rw [er] at af; exact False.elim af
    | bad => rw [er] at af; exact False.elim af
    | ok x =>
      obtain ⟨xs, ρ2⟩ := x
      rw [er] at af
      refine st σ H Hf ρ _ rp hcur fun J hJ => ?_
      intro D0 hD
      have hDf : Hf D0 = none := rp.sub.free hD
      have w1 := rp.wipe vs
      have noD : ¬ OwnA (upd H D0 (.lst [])) (L2.wipe σ vs) (wipeR ρ vs) D0 := w1.rp.notOwnU hD
      have pkw : Pin pk σ (L2.wipe σ vs) := fun j z => by rw [wipe_get, if_neg (hpk j z)]
      refine ⟨fun i m Hc => ∃ Hfc ρc acc accv ys, Nxt false (L2.wipe σ vs) (wipeR ρ vs) Hf H (L2.wipe σ vs) (wipeR ρc vs) Hfc Hc ∧ Hc D0 = some (.lst accv) ∧ Hfc D0 = none ∧ ¬ OwnA Hc (L2.wipe σ vs) (wipeR ρc vs) D0 ∧
          RepA Hfc accv acc ∧ acc.length + m ≤ 1000 ∧ lcC cur g fe vs m i ρc = .ok (ys, ρ2) ∧ acc ++ ys = xs,
        ⟨1000, Hf, ρ, [], [], xs, w1.rp.newO hD, upd_same, hDf, noD, .nil, by simp, er, rfl⟩, ?_⟩
      rintro i m Hc ⟨Hfc, ρc, acc, accv, ys, n, eD, fD, oD, ra, hl, el, ex⟩
      cases m with
      | zero => cases el
      | succ m =>
        unfold lcC at el
        cases ec : cur (wipeR ρc vs) with
        | none => simp only [ec, reduceCtorEq] at el
        | some nn =>
          have it := hJ (L2.wipe σ vs) (wipeR ρc vs) Hfc Hc nn i n.rp pkw ec
          by_cases hlt : i < nn
          · obtain ⟨hgo, hy⟩ := it.1 hlt
            simp only [ec, if_pos hlt] at el
            refine .inr ⟨hgo, fun H' => ∃ Hfc ρc acc accv ys, Nxt false (L2.wipe σ vs) (wipeR ρ vs) Hf H (L2.wipe σ vs) (wipeR ρc vs) Hfc H' ∧ H' D0 = some (.lst accv) ∧ Hfc D0 = none ∧ ¬ OwnA H' (L2.wipe σ vs) (wipeR ρc vs) D0 ∧
              RepA Hfc accv acc ∧ acc.length + m ≤ 1000 ∧ lcC cur g fe vs m (i + 1) ρc = .ok (ys, ρ2) ∧ acc ++ ys = xs, fun H' q => ⟨m, by omega, q⟩, fun x H' yx => ?_⟩
            have carry : ∀ {σ2 : St} {ρ2' : Rho} {Hf2 H2 : Hp}, Nxt false (L2.wipe σ vs) (wipeR ρc vs) Hfc Hc σ2 ρ2' Hf2 H2 → H2 D0 = some (.lst accv) ∧ Hf2 D0 = none ∧ ¬ OwnA H2 σ2 ρ2' D0 := fun nn => by
              refine ⟨nn.keep _ _ eD NT.lst oD, (nn.fr D0 fD).elim id fun q => q.elim (fun z => ?_) fun z => absurd z oD, fun z => (nn.os D0 z).elim oD fun w => ?_⟩
              · rw [eD] at z; cases z
              · rw [eD] at w; cases w
            cases eg : g i (wipeR ρc vs) with
            | none => simp only [eg, reduceCtorEq] at el
            | some ρg =>
              simp only [eg] at el
              refine hy x H' yx ρg eg _ fun σ2 Hf2 H2 n2 o2 => ⟨by rw [o2.wipe his, wipe_wipe], ?_⟩
              have ew : L2.wipe σ2 vs = L2.wipe σ vs := by rw [o2.wipe his, wipe_wipe]
              refine tYes_of (A := fun H3 => tE (G0 G) fe σ2 H3 _) ?_
              refine ⟨Hf2, ρg, n2.rp, ?_⟩
              cases ee : fe ρg with
              | exc c _ => simp only [ee, reduceCtorEq] at el
              | bad => simp only [ee, reduceCtorEq] at el
              | ok z2 =>
                obtain ⟨y, ρe⟩ := z2
                simp only [ee] at el
                intro v Hf7 H7 n7 rv
                have n8 := n2.trans n7
                obtain ⟨c1, c2, c3⟩ := carry n8
                have n9 := n8.trans (n8.rp.wipe vs)
                rw [ew] at n9
                obtain ⟨d1, d2, d3⟩ := carry n9
                refine ⟨accv, c1, ?_, ?_⟩
                · rw [repA_len ra]
                  exact Nat.lt_of_lt_of_le (show acc.length < 1001 by omega) (by decide)
                · cases e5 : lcC cur g fe vs m (i + 1) ρe with
                  | exc c _ => simp only [e5, reduceCtorEq] at el
                  | bad => simp only [e5, reduceCtorEq] at el
                  | ok z3 =>
                    obtain ⟨ys2, ρ5⟩ := z3
                    simp only [e5, Res.ok.injEq, Prod.mk.injEq] at el
                    obtain ⟨e6, e7⟩ := el
                    subst e6 e7
                    refine ⟨Hf7, ρe, acc ++ [y], accv ++ [v], ys2, ((n.trans n9).updNew d1 hD d2 d3).1, upd_same, d2, ((n.trans n9).updNew d1 hD d2 d3).2, repA_append (repA_same n9.sub ra) (.cons rv .nil), ?_, e5, ?_⟩
                    · rw [List.length_append, List.length_singleton]; omega
                    · rw [List.append_assoc]; exact ex
          · simp only [ec, if_neg hlt] at el
            cases el
            rw [List.append_nil] at ex
            subst ex
            refine .inl ⟨it.2 (by omega), ?_⟩
            have nr := Nxt.rest rp n
            rw [← hgq] at nr
            refine af D0 accv Hfc Hc nr (.inl hD) fD (fun z => ?_) eD ra
            exact ((rest_weak rp n.sub n.rp).os D0 z).elim oD fun y => by rw [eD] at y; cases y
  · exact False.elim af
theorem fl_lcC {scope : Scope} {own : List (Str × Nat)} (hc : X.calm = true) (hN : X.N.Nodup) (ok : BlkOk X.N X.env.scope scope own) (his : ∀ i ∈ is, i ∈ own.map (·.2)) (hpk : ∀ k ∈ pk, k ∉ own.map (·.2)) (st : Starts pk is cur g tgt wi) (hi : PI X tg iter wi)
    (hg : ∀ (s : Shared) (H : Hp) (C : Addr) (cl : List (Str × Addr)) (fp : List Addr), PG (X.blk s H scope (compEnvC scope cl C X.env) fp) tg tgt)
    (he : ∀ (s : Shared) (H : Hp) (C : Addr) (cl : List (Str × Addr)) (fp : List Addr), PE (X.blk s H scope (compEnvC scope cl C X.env) fp) elt (tE (G0 G) fe)) (hs : ∀ x, foldedSetIterable iter X.env x = pure x := by intro _; rfl) (hgq : G.q = false := by rfl) :
    PE X (.ListComp elt [⟨tg, iter, [], 0⟩] scope pos) (tL G (fLcC cur g fe (own.map (·.2)))) := (pe_lc hc hN hi ok hg (fun _ _ _ _ _ => pts_nil) he hs).imp (lcC_run hgq his hpk st)
def tVr (k : Nat) : TE := fun σ H Q => ∃ v, σ[k]? = some (some v) ∧ Q v H
theorem starts1 (hj : j ≠ k) : Starts [k] [j] (len1 k) (bnd1 j k) (gName j) (iList X.K (tVr k)) := by
  intro σ H Hf ρ R rp hc hR
  obtain ⟨n, hn⟩ := Option.isSome_iff_exists.mp hc
  obtain ⟨l, vs, e1, e2, e3, _⟩ := src1 rp hn
  refine ⟨_, e1, l, rfl, ⟨vs, SqL.of e2⟩, hR _ fun σ1 ρ1 Hf1 H1 n i rp1 pk1 hn1 => ?_⟩
  obtain ⟨l', vs1, g1, g2, g3, g4⟩ := src1 rp1 hn1
  rw [pk1 k (List.mem_singleton.mpr rfl), e1] at g1
  cases g1
  refine ⟨fun hi => ⟨⟨vs1, vs1[i]'(by omega), SqL.of g2, List.getElem?_eq_getElem (by omega)⟩, fun x H' ⟨eh, hx⟩ ρ2 hb Q hQ => ?_⟩, fun hi => ⟨vs1, SqL.of g2, by omega⟩⟩
  subst eh
  have z := hx vs1 (SqL.of g2)
  refine hQ _ Hf1 _ (g4 i x z j ρ2 hj hb) ⟨List.length_set, fun j' n => ?_⟩
  rw [List.getElem?_set, if_neg fun z => n (by rw [z]; exact List.mem_singleton.mpr rfl)]
@[simp] def curZ (k k2 : Nat) (ρ : Rho) : Option Nat := (len1 k ρ).bind fun a => (len1 k2 ρ).map fun b => min a b
@[simp] def bndZ (j j2 k k2 : Nat) (i : Nat) (ρ : Rho) : Option Rho := (bnd1 j k i ρ).bind (bnd1 j2 k2 i)
end
end Fx
namespace Fx
open PySem L2
variable [Tabz]
section
variable {X : Cx} {G : Gx} {e elt : Expr} {sts : List Stmt} {s : Rho → Fl} {pos : Pos} {pn : List Nat} {fe : M PyData} {f : M Tr}
theorem gn_name (i : Nat) {x : Str} (hN : X.N.Nodup) (hi : X.N[i]? = some x := by rfl) (hx : Loc X.env.scope x := by first | exact Or.inl rfl | exact Or.inr rfl) (hf : X.fn x = true ∨ X.env.scope.names.lookup x = some .local := by first | exact .inl rfl | exact .inr rfl) : PG X (.Name x pos) (gName i) := pg_name hN hi hx hf
theorem fs_forN (k j : Nat) {x y : Str} {p1 p2 : Pos} (hp : PassesOwn (model X.prog X.w) X.A X.env X.xe) (hc : X.calm = true) (hN : X.N.Nodup) (hjk : j ≠ k) (hpn : j ∉ pn) (hb : PSs X sts (tS G (k :: pn) s))
    (hx : X.N[k]? = some x := by rfl) (hv : Vis X.env.scope x := by first | exact Or.inl rfl | exact Or.inr (Or.inl rfl) | exact Or.inr (Or.inr rfl)) (hd : (x == ("__debug__" : Str)) = false := by decide) (hcd : (x == ("__classdict__" : Str)) = false := by decide)
    (hi : X.N[j]? = some y := by rfl) (hy : Loc X.env.scope y := by first | exact Or.inl rfl | exact Or.inr rfl) (hf : X.fn y = true ∨ X.env.scope.names.lookup y = some .local := by first | exact .inl rfl | exact .inr rfl) :
    PS X (.For (.Name y p2) (.Name x p1) sts [] pos) (tS G pn (forC (len1 k) (bnd1 j k) s 1000 0)) :=
  fs_forC (pk := [k]) (is := [j]) (wi := iList X.K (tVr k)) hp hc (starts1 hjk) (fun i h => by rw [List.mem_singleton.mp h]; exact ⟨hpn, fun z => hjk (List.mem_singleton.mp z)⟩) (pi_list (pe_var hx hv hd hcd)) (pg_name hN hi hy hf) hb
theorem fl_lcN (k j : Nat) {x y : Str} {p1 p2 : Pos} {scope : Scope} {own : List (Str × Nat)} (hc : X.calm = true) (hN : X.N.Nodup) (ok : BlkOk X.N X.env.scope scope own) (hjk : j ≠ k) (his : j ∈ own.map (·.2)) (hpk : k ∉ own.map (·.2))
    (hg : ∀ (s : Shared) (H : Hp) (C : Addr) (cl : List (Str × Addr)) (fp : List Addr), PG (X.blk s H scope (compEnvC scope cl C X.env) fp) (.Name y p2) (gName j))
    (he : ∀ (s : Shared) (H : Hp) (C : Addr) (cl : List (Str × Addr)) (fp : List Addr), PE (X.blk s H scope (compEnvC scope cl C X.env) fp) elt (tE (G0 G) fe))
    (hx : X.N[k]? = some x := by rfl) (hv : Vis X.env.scope x := by first | exact Or.inl rfl | exact Or.inr (Or.inl rfl) | exact Or.inr (Or.inr rfl)) (hd : (x == ("__debug__" : Str)) = false := by decide) (hcd : (x == ("__classdict__" : Str)) = false := by decide) (hgq : G.q = false := by rfl) :
    PE X (.ListComp elt [⟨.Name y p2, .Name x p1, [], 0⟩] scope pos) (tL G (fLcC (len1 k) (bnd1 j k) fe (own.map (·.2)))) :=
  fl_lcC (pk := [k]) (is := [j]) (wi := iList X.K (tVr k)) hc hN ok (fun i h => by rw [List.mem_singleton.mp h]; exact his) (fun i h => by rw [List.mem_singleton.mp h]; exact hpk) (starts1 hjk) (pi_list (pe_var hx hv hd hcd)) hg he (hgq := hgq)
@[simp] def ndl (i : Nat) (ρ : Rho) : Option (List Tr) := match (ρ[i]? : Option Sl) with
  | some (.tr (.nd .lst ts)) => some ts
  | _ => none
theorem ndl_is {i : Nat} {ρ : Rho} {ts : List Tr} (h : ndl i ρ = some ts) : ρ[i]? = some (.tr (.nd .lst ts)) := by
  unfold ndl at h
  split at h
  · rename_i e; cases h; exact e
  · cases h
@[simp] def sAppN (i : Nat) (f : M Tr) : Rho → Fl := fun ρ => if (ndl i ρ).isSome = true then (sBnd f fun t ρ1 => match ndl i ρ1 with
    | some ts => if ts.length < 1000 then .nx (killB (kPre []) i (ρ1.set i (.tr (.nd .lst (ts ++ [t]))))) else .bad
    | none => .bad) ρ else .bad
theorem fs_appN (i : Nat) {x : Str} {p1 ap cp : Pos} (he : PE X e (tN G f)) (hN : X.N[i]? = some x := by rfl) (hv : Vis X.env.scope x := by first | exact Or.inl rfl | exact Or.inr (Or.inl rfl) | exact Or.inr (Or.inr rfl)) (hd : (x == ("__debug__" : Str)) = false := by decide)
    (hcd : (x == ("__classdict__" : Str)) = false := by decide) (hbase : attributeBase (.Name x p1) "append" X.env (eval (.Name x p1) X.env) = eval (.Name x p1) X.env := by rfl)
    (hfew : ((backTo cp (starEach [e] X.env)).all (fun x => !x.1) && (backToKw cp (keywordEach [] X.env)).all (fun x => x.1.isSome) && decide (([e] : List Expr).length + ([] : List Keyword).length + (if ([] : List Keyword).isEmpty then 0 else 1) < 30)) = true := by rfl)
    (hline : (ap.endLine == cp.line) = true := by rfl) (hs : starEach [e] X.env = (false, eval e X.env) :: starEach [] X.env := by rfl) (hplain : (backTo cp (starEach [] X.env)).any (·.1) = false := by rfl)
    (hsw : swapsWith (.Call (.Attribute (.Name x p1) "append" ap) [e] [] cp) none pos.line X.env = pure false := by rfl) : PS X (.Expr (.Call (.Attribute (.Name x p1) "append" ap) [e] [] cp) pos) (tS G pn (sAppN i f)) := by
  refine (ps_expr (pe_bm PySem.F.plainAttrs_list PySem.F.slot_list_append PySem.F.type_list_append mt_append (pe_var hN hv hd hcd) (pa_cons he pa_nil hs) hbase hfew hline hs hplain) hsw).imp fun D σ H ⟨Hf, ρ, rp, af⟩ => ?_
  unfold sAppN at af
  split at af
  · rename_i h0
    obtain ⟨ts0, e0⟩ := Option.isSome_iff_exists.mp h0
    obtain ⟨w0, F0, s0, r0, _, _⟩ := slok_tr' (rp.sl i _ (ndl_is e0))
    cases r0 with
    | @nd p _ vs0 _ _ hk0 _ =>
      refine ⟨.ref p, s0, .inl ⟨rfl, _, SqL.of hk0⟩, (stepSN rp af).mono fun v H1 ⟨t, F, Hf1, ρ1, n1, r, nd, hF, af1⟩ => ?_⟩
      cases e1 : ndl i ρ1 with
      | none => rw [e1] at af1; exact False.elim af1
      | some ts =>
        rw [e1] at af1
        dsimp only at af1
        split at af1
        · rename_i hlt
          have hi := ndl_is e1
          obtain ⟨w, F2, s2, r0, nd0, hf0⟩ := slok_tr' (n1.rp.sl i _ hi)
          rw [s0] at s2
          cases s2
          have r00 := r0
          cases r0 with
          | @nd _ _ vs _ Fk hk hs =>
            have hp : H1 p = some (.lst vs) := hk
            have hlen := hs.len
            refine ⟨p, vs, v, rfl, rfl, hp, Nat.lt_of_lt_of_le (show vs.length < 1001 by omega) (by decide), ?_⟩
            have own0 : ∀ c ∈ p :: Fk, OwnA H1 σ ρ1 c := fun c m => ⟨i, (ownI_tr hi s0 r00).mpr m⟩
            have pF : p ∉ F := fun z => (hF p z).2.2 (own0 p List.mem_cons_self)
            obtain ⟨pk, ndk⟩ := List.nodup_cons.mp nd0
            have hup : ∀ c, c ≠ p → upd H1 p (.lst (vs ++ [v])) c = H1 c := fun c z => upd_ne z
            have rt : TR Hf1 (upd H1 p (.lst (vs ++ [v]))) v t F := r.mono (Same.refl _) fun c m => hup c fun z => pF (z ▸ m)
            have hs' : TRs Hf1 (upd H1 p (.lst (vs ++ [v]))) vs ts Fk := hs.mono (Same.refl _) fun c m => hup c fun z => pk (z ▸ m)
            have kids := TRs.app rt hs'
            have ndF : (Fk ++ F).Nodup := by
              rw [List.nodup_append]
              exact ⟨ndk, nd, fun c m c' mc ebc => by subst ebc; exact (hF c mc).2.2 (own0 c (List.mem_cons_of_mem _ m))⟩
            refine af1 σ Hf1 _ (n1.chgTF rp F hF (kPre []) hi s0 r00 (Same.refl _) (fun c o z => ?_) (n1.rp.tb.set hp) n1.rp.nt (fun c o h _ nb => ?_) (fun c h => ?_) (fun c h => .inl h) (.nd upd_same kids) (List.nodup_cons.mpr ⟨fun y => (List.mem_append.mp y).elim pk pF, ndF⟩) (fun c m => ?_) (fun c m => ?_) (fun qs w s hk ha => ?_)) (.refl _ _)
            · rw [hup c fun y => by rw [y, hf0 p List.mem_cons_self] at z; cases z]; exact n1.rp.sub c o z
            · rw [hup c fun y => nb (y ▸ List.mem_cons_self)]; exact h
            · by_cases y : c = p
              · rw [y, upd_same] at h; cases h
              · rw [hup c y] at h; exact h
            · rcases List.mem_cons.mp m with y | y
              · rw [y]; exact hf0 p List.mem_cons_self
              · exact (List.mem_append.mp y).elim (fun z => hf0 c (List.mem_cons_of_mem _ z)) fun z => (hF c z).2.1
            · rcases List.mem_cons.mp m with y | y
              · exact .inl (by rw [y]; exact List.mem_cons_self)
              · exact (List.mem_append.mp y).elim (fun z => .inl (List.mem_cons_of_mem _ z)) fun z => .inr (.inr z)
            · cases qs with
              | nil => cases ha; exact ⟨_, .nil⟩
              | cons m qs => cases hk
        · exact False.elim af1
  · exact False.elim af
@[simp] def fLenN (f : M Pth) : M PyData := fun ρ => (bnd f fun p ρ => match (trAt p ρ).bind ndS with
  | some ts => .ok (.int (ts.length : Int), ρ)
  | none => .bad) ρ
end
end Fx
namespace Fx
open PySem L2
variable [Tabz]
section
variable {X : Cx} {G : Gx} {e e2 : Expr} {pos : Pos} {f g : M PyData}
def oLr2 : PyData → PyData → Option (List PyData)
  | .int i, .int j => if 0 ≤ i ∧ i ≤ 100000 ∧ 0 ≤ j ∧ j ≤ 100000 then some (rng i (j - i).toNat) else none
  | _, _ => none
@[simp] def fLr2 (f g : M PyData) : M (List PyData) := fun ρ => (bnd f fun a => bnd g fun b => opt (oLr2 a b)) ρ
end
end Fx
namespace Fx
open PySem L2
variable [Tabz]
section
variable {X : Cx} {G : Gx} {e elt a o : Expr} {pos p2 : Pos} {pn : List Nat} {lo hi : Option Expr} {l h : M (Option Int)}
@[simp] def tyT : Tr → Option D
  | .nd .lst _ => some (.list [])
  | .nd .tup _ => some (.tuple [])
  | .ow _ => some (.list [])
  | _ => none
@[simp] def fIsP (T : String) (f : M Pth) : M PyData := fun ρ => (bnd f fun p ρ => match (trAt p ρ).bind tyT with
  | some d => .ok (.bool (isTy d T), ρ)
  | none => .bad) ρ
theorem fe_isiP {f : M Pth} {T : String} {x : Str} {p q : Pos} (hT : tyOk T = true) (hg : Gl X "isinstance") (hm : X.mg "isinstance" = none) (hgx : Gl X x) (hmx : X.mg x = none) (hx : bootBuiltins x = some (.type T)) (ha : PE X a (tPl G f)) (hnx : x ≠ "__name__" := by decide) (hdx : (x == ("__debug__" : Str)) = false := by decide)
    (he : starEach [a, .Name x q] X.env = (false, eval a X.env) :: starEach [.Name x q] X.env := by rfl) (he2 : starEach [.Name x q] X.env = (false, eval (.Name x q) X.env) :: starEach [] X.env := by rfl) (hpl : (backTo pos (starEach [.Name x q] X.env)).any (·.1) = false := by rfl) :
    PE X (.Call (.Name "isinstance" p) [a, .Name x q] [] pos) (tE G (fIsP T f)) := by
  refine (pe_callB call_isi hg hm (by decide +kernel) (pa_cons ha (pa_cons (pe_bltn (v := .ty T) hgx hmx hx rfl hnx hdx) pa_nil he2) he) (by decide) (by decide) he hpl).imp fun σ H Q ⟨Hf, ρ, rp, af⟩ => ?_
  refine tPl.mono ?_ (stepPP (P := fun ρ Hf H o => AfG G Rep σ ρ Hf H Q o) (fun n q => q.later n) (fun q => q) (fun q => q) rp af)
  rintro y H1 ⟨pp, s, Hf1, ρ1, n1, av, af1⟩
  rw [av.trAt] at af1
  simp only [Option.bind_some] at af1
  cases es : tyT s with
  | none => rw [es] at af1; exact False.elim af1
  | some d =>
    rw [es] at af1
    obtain ⟨M, tr⟩ := av.tr n1.rp
    obtain ⟨nd, ty⟩ : isDc d = false ∧ TyX X.K H1 y (.type (tyName d)) := by
      cases tr with
      | @nd pp k vs _ _ hk _ =>
        cases k with
        | lst => cases es; exact ⟨rfl, .base (.lst hk)⟩
        | tup => cases es; exact ⟨rfl, .base (.tup hk)⟩
        | ins _ => cases es
        | dct _ => cases es
      | ow h1 h2 => cases es; exact ⟨rfl, .base (.lst h1)⟩
      | _ => cases es
    exact ⟨y, .ty T, .type (tyName d), .type T, isTy d T, rfl, .ty T, ty, kit_at hT (isDc_nd nd), fin (R := Rep) n1.rp af1 (.bl _)⟩
@[simp] def fzs : List Tr → Option (List D)
  | [] => some []
  | .fz d :: ts => (fzs ts).map (d :: ·)
  | _ => none
theorem fzs_rep {Hf H : Hp} : ∀ {vs : List V} {ts : List Tr} {F : List Addr}, TRs Hf H vs ts F → ∀ ds, fzs ts = some ds → RepA Hf vs ds
  | _, _, _, .nil, ds, e => by cases e; exact .nil
  | _, _, _, .cons (t := t) r rs, ds, e => by
    cases r with
    | fz r =>
      unfold fzs at e
      obtain ⟨es, e1, rfl⟩ := Option.map_eq_some_iff.mp e
      exact .cons r (fzs_rep rs es e1)
    | _ => cases e
theorem trs_drop {Hf H : Hp} : ∀ (n : Nat) {vs : List V} {ts : List Tr} {F : List Addr}, TRs Hf H vs ts F → ∃ F', TRs Hf H (vs.drop n) (ts.drop n) F'
  | 0, _, _, F, r => ⟨F, r⟩
  | n + 1, _, _, _, .nil => ⟨[], .nil⟩
  | n + 1, _, _, _, .cons _ rs => trs_drop n rs
theorem trs_take {Hf H : Hp} : ∀ (n : Nat) {vs : List V} {ts : List Tr} {F : List Addr}, TRs Hf H vs ts F → ∃ F', TRs Hf H (vs.take n) (ts.take n) F'
  | 0, _, _, _, _ => ⟨[], .nil⟩
  | n + 1, _, _, _, .nil => ⟨[], .nil⟩
  | n + 1, _, _, _, .cons r rs => (trs_take n rs).elim fun F' q => ⟨_, .cons r q⟩
theorem trs_cut {Hf H : Hp} {vs : List V} {ts : List Tr} {F : List Addr} (r : TRs Hf H vs ts F) (lo hi : Option Int) {ds : List D} (e : fzs (cut ts lo hi) = some ds) : RepA Hf (cutV vs lo hi) ds := by
  unfold cut at e
  unfold cutV
  rw [r.len]
  obtain ⟨F1, r1⟩ := trs_drop (HT.sIx ts.length 0 lo) r
  obtain ⟨F2, r2⟩ := trs_take (HT.sIx ts.length ts.length hi - HT.sIx ts.length 0 lo) r1
  exact fzs_rep r2 ds e
@[simp] def fSlN (f : M Pth) (l h : M (Option Int)) : M PyData := fun ρ => (bnd f fun p => bnd l fun lo => bnd h fun hi ρ => match trAt p ρ with
  | some (.nd .tup ts) => if HT.sIx ts.length 0 lo = 0 ∧ HT.sIx ts.length ts.length hi = ts.length then .bad else (match fzs (cut ts lo hi) with
    | some ds => .ok (.tuple ds, ρ)
    | none => .bad)
  | _ => .bad) ρ
theorem fe_sliceN {f : M Pth} (he : PE X e (tPl (qG G) f)) (hl : PO X lo (tP (qG G) l)) (hh : PO X hi (tP (qG G) h)) : PE X (.Subscript e (.Slice lo hi none p2) pos) (tE G (fSlN f l h)) := by
  refine fe_q ((pe_slice sl_tupA he hl hh).imp fun σ H Q ⟨Hf, ρ, rp, af⟩ => ?_)
  refine tPl.mono ?_ (stepPP (G := qG G) (P := fun ρ Hf H o => AfG (qG G) Rep σ ρ Hf H Q o) (fun n q => q.later n) (fun q => q) (fun q => q) rp af)
  rintro x H1 ⟨p, s, Hf1, ρ1, n1, av, af1⟩
  refine (step n1.rp af1).mono fun y H2 ⟨i, Hf2, ρ2, n2, rb, af2⟩ => (step n2.rp af2).mono fun z H3 ⟨j, Hf3, ρ3, n3, rc, af3⟩ => ?_
  subst rb rc
  have av3 := (av.keep n1.rp n2).keep n2.rp n3
  rw [av3.trAt] at af3
  obtain ⟨M, tr⟩ := av3.tr n3.rp
  cases tr with
  | @nd pp k vs ts F hk hs =>
    cases k with
    | tup =>
      dsimp only at af3
      split at af3
      · exact False.elim af3
      · rename_i hne
        cases ef : fzs (cut ts y z) with
        | none => rw [ef] at af3; exact False.elim af3
        | some ds =>
          rw [ef] at af3
          have rA := trs_cut hs y z ef
          refine ⟨_, _, rfl, SqT.of hk, fun hw => ?_, fun _ p hp => ?_⟩
          · rw [hs.len] at hw
            exact absurd hw hne
          · exact AfG.new (R := Rep) n3.rp af3 hp (Rep.tup upd_same (repA_same (same_new (n3.rp.sub.free hp)) rA))
    | _ => exact False.elim af3
  | _ => exact False.elim af3
@[simp] def sClrN (i : Nat) : Rho → Fl := fun ρ => match ndl i ρ with
  | some _ => .nx (killB (kPre []) i (ρ.set i (.tr (.nd .lst []))))
  | none => .bad
theorem fs_clrN (i : Nat) {x : Str} {p1 ap cp : Pos} (hN : X.N[i]? = some x := by rfl) (hv : Vis X.env.scope x := by first | exact Or.inl rfl | exact Or.inr (Or.inl rfl) | exact Or.inr (Or.inr rfl)) (hd : (x == ("__debug__" : Str)) = false := by decide)
    (hcd : (x == ("__classdict__" : Str)) = false := by decide) (hbase : attributeBase (.Name x p1) "clear" X.env (eval (.Name x p1) X.env) = eval (.Name x p1) X.env := by rfl)
    (hline : (ap.endLine == cp.line) = true := by rfl)
    (hsw : swapsWith (.Call (.Attribute (.Name x p1) "clear" ap) [] [] cp) none pos.line X.env = pure false := by rfl) : PS X (.Expr (.Call (.Attribute (.Name x p1) "clear" ap) [] [] cp) pos) (tS G pn (sClrN i)) := by
  refine (ps_expr (pe_bm0 PySem.F.plainAttrs_list PySem.F.slot_list_clear PySem.F.type_list_clear mt_clear (pe_var hN hv hd hcd) hbase hline) hsw).imp fun D σ H ⟨Hf, ρ, rp, af⟩ => ?_
  unfold sClrN at af
  cases e1 : ndl i ρ with
  | none => rw [e1] at af; exact False.elim af
  | some ts =>
    rw [e1] at af
    have hi := ndl_is e1
    obtain ⟨w, F2, s2, r0, nd0, hf0⟩ := slok_tr' (rp.sl i _ hi)
    have r00 := r0
    cases r0 with
    | @nd p _ vs _ Fk hk hs =>
      have hp : H p = some (.lst vs) := hk
      have hup : ∀ c, c ≠ p → upd H p (.lst []) c = H c := fun c z => upd_ne z
      refine ⟨.ref p, s2, .inl ⟨rfl, _, SqL.of hk⟩, p, vs, rfl, rfl, hp, ?_⟩
      refine af σ Hf _ ((Nxt.refl (q := false) rp).chgTF rp [] (fun _ z => nomatch z) (kPre []) hi s2 r00 (Same.refl _) (fun c o z => ?_) (rp.tb.set hp) rp.nt (fun c o h _ nb => ?_) (fun c h => ?_) (fun c h => .inl h) (.nd upd_same .nil) (List.nodup_cons.mpr ⟨List.not_mem_nil, List.nodup_nil⟩) (fun c m => ?_) (fun c m => ?_) (fun qs w s hk ha => ?_)) (.refl _ _)
      · rw [hup c fun y => by rw [y, hf0 p List.mem_cons_self] at z; cases z]; exact rp.sub c o z
      · rw [hup c fun y => nb (y ▸ List.mem_cons_self)]; exact h
      · by_cases y : c = p
        · rw [y, upd_same] at h; cases h
        · rw [hup c y] at h; exact h
      · rw [List.mem_singleton.mp m]; exact hf0 p List.mem_cons_self
      · exact .inl (by rw [List.mem_singleton.mp m]; exact List.mem_cons_self)
      · cases qs with
        | nil => cases ha; exact ⟨_, .nil⟩
        | cons m qs => cases hk
end
end Fx
namespace K16
open PySem L2 Fx Mm
variable [Tabz]
noncomputable def q_l_paper_so_1 : M (List PyData) := (fLc (fItL (fVar 1)) (gTp (gsCons (gSet 11) (gsCons (gSet 12) gsNil))) (tAndM (fB (fOp oLe (.v 9) (.v 11))) (fB (fOp oLe (.v 11) (.e (fOp oAdd (.v 10) (.v 2)))))) (fVar 12) [11, 12])
noncomputable def b_l_paper_so_1 : Rho → Fl := (sSeq (sIf (tOrM (tNotM (fB (fOp oLt (.v 8) (.v 9)))) (tOrM (tNotM (fB (fOp oLe (.v 9) (.v 10)))) (fB (fOp oGt (.v 10) (.e (ret (.int 999))))))) (sRet (ret (.bool false))) sNil)
    (sSeq (sSet 7 (fOp oAdd (.v 7) (.e (fCB oSum [(.e (fLst q_l_paper_so_1))]))))
    (sSet 8 (fVar 10))))
noncomputable def q_l_paper_so_2 : M (List PyData) := (fLc (fItL (fVar 6)) (gSet 15) (tAndM (fB (fOp oLe (.e (fOp oIx (.v 15) (.e (ret (.int 0))))) (.v 11))) (fB (fOp oLe (.v 11) (.e (fOp oIx (.v 15) (.e (ret (.int 1)))))))) (fVar 15) [15])
noncomputable def b_l_paper_so_2 : Rho → Fl := (sSeq (sSetL 14 q_l_paper_so_2)
    (sSet 7 (fOp oAdd (.v 7) (.e (fOp oMul (.v 12) (.e (fCB oInt1 [(.e (vAnd (fOp oGe (.v 13) (.v 4)) (fOp oEQ (.v 14) (.e (fLst (fLs fNil))))))])))))))
noncomputable def g_l_paper_so : Rho → Fl := (sSeq (sAsg (gTp (gsCons (gSet 4) (gsCons (gSet 5) (gsCons (gSet 6) gsNil)))) (fVar 3))
    (sSeq (sSet 7 (ret (.int 0)))
    (sSeq (sSet 8 (ret (.int 0)))
    (sSeq (sFor (fItL (fVar 6)) (gTp (gsCons (gSet 9) (gsCons (gSet 10) gsNil))) b_l_paper_so_1)
    (sSeq (sFor (fItL (fVar 0)) (gTp (gsCons (gSet 11) (gsCons (gSet 12) (gsCons (gSet 13) gsNil)))) b_l_paper_so_2)
    (sRet (fOp oEQ (.v 7) (.v 5))))))))
noncomputable abbrev F_l_paper_so := runP 16 g_l_paper_so 4
noncomputable def q_papers_of_vT_1 : M (List PyData) := (fLc (fItL (fVar 0)) (gSet 6) (ret true) (fOp oIx (.v 6) (.e (ret (.int 2)))) [6])
noncomputable def q_papers_of_vT_2 : M (List PyData) := (fLc (fAB oRng1 (fCons (fCB oLen [(.v 0)]) fNil)) (gSet 8) (fB (fOp oGe (.e (fOp oIx (.e (fOp oIx (.v 0) (.v 8))) (.e (ret (.int 2))))) (.v 5))) (fVar 8) [8])
noncomputable def q_papers_of_vT_3 : M (List PyData) := (fLc (fItL (fVar 7)) (gSet 8) (ret true) (fOp oIx (.v 0) (.v 8)) [8])
noncomputable def q_papers_of_vT_4 : M (List PyData) := (fLc (fItL (fVar 7)) (gSet 8) (ret true) (fOp oIx (.v 3) (.v 8)) [8])
noncomputable def b_papers_of_vT_1 : Rho → Fl := (sSeq (sSetL 7 q_papers_of_vT_2)
    (sSeq (sSetL 9 q_papers_of_vT_3)
    (sSeq (sSetL 10 q_papers_of_vT_4)
    (sAppN 4 (nTupT (tsCons (nE (fVar 5)) (tsCons (nE (fCB oSum [(.v 10)])) (tsCons (nL (fCallL F_barring (fCons (fVar 9) (fCons (fVar 1) (fCons (fVar 2) (fCons (fVar 10) fNil)))))) tsNil))))))))
noncomputable def g_papers_of_vT : Rho → Fl := (sSeq (sSet 3 (fLst (fCallL F_best_counts (fCons (fVar 0) (fCons (fVar 1) (fCons (fVar 2) fNil))))))
    (sSeq (sSetT 4 (nLstT tsNil))
    (sSeq (sFor (fItL (fLst (fRev (fLst (fSortU (fLst q_papers_of_vT_1)))))) (gSet 5) b_papers_of_vT_1)
    (sRetG 4))))
noncomputable def F_papers_of_vT := runT 11 g_papers_of_vT [0, 0, 0]
noncomputable def g_papers_vT : Rho → Fl := (sSeq (sSet 3 (fLst (fCallL F_checked_lots (fCons (fVar 0) fNil))))
    (sSeq (sSet 4 (fLst (fCallL F_checked_outs (fCons (fVar 1) fNil))))
    (sSeq (sDrop (fCall F_need_term (fCons (fVar 2) fNil)))
    (sRetT (nR (fCallT F_papers_of_vT [(.e (fVar 3)), (.e (fVar 4)), (.e (fVar 2))]))))))
noncomputable def F_papers_vT := runT 5 g_papers_vT [0, 0, 0]
noncomputable def q_law_1 : M (List PyData) := (fLc (fItL (fLst (fSl (.e (fLst (fOpL oCat (.v 2) (.e (fOp oIx (.v 5) (.e (ret (.int 0)))))))) fNoP (fP (ret (.int 30)))))) (gTp (gsCons (gSet 6) (gsCons (gSet 7) (gsCons (gSet 8) gsNil)))) (ret true) (fTup (fCons (fVar 6) (fCons (fVar 7) (fCons (fOp oAdd (.e (ret (.int 1))) (.e (fOp oMod (.v 8) (.e (ret (.int 3)))))) fNil)))) [6, 7, 8])
noncomputable def q_law_2 : M (List PyData) := (fLc (fItL (fVar 2)) (gSet 12) (ret true) (fOp oIx (.v 12) (.e (ret (.int 2)))) [12])
noncomputable def q_law_3 : M (List PyData) := (fLc (fAB oRng1 (fCons (fCB oLen [(.v 2)]) fNil)) (gSet 13) (fB (fOp oGe (.e (fOp oIx (.e (fOp oIx (.v 2) (.v 13))) (.e (ret (.int 2))))) (.v 8))) (fOp oIx (.v 10) (.v 13)) [13])
noncomputable def b_law_1 : Rho → Fl := (sMut 11 (fTup (fCons (fVar 8) (fCons (fCB oSum [(.e (fLst q_law_3))]) fNil))) kAppend)
noncomputable def q_law_4 : M (List PyData) := (fLcC (len1 15) (bnd1 16 15) (fSlN (plN 16) fNoP (fP (ret (.int 2)))) [16])
noncomputable def q_law_5 : M (List PyData) := (fLc (fItP (plI (plN 16) (ret (.int 2)))) (gSet 17) (ret true) (fUn (oIs "tuple") (.v 17)) [17])
noncomputable def b_law_2 : Rho → Fl := (sSeq (sIf (tOrM (tNotM (fB (fIsP "tuple" (plN 16)))) (tNotM (fB (fUn (oIs "list") (.p (plI (plN 16) (ret (.int 2)))))))) (sRet (ret (.bool false))) sNil)
    (sSeq (sIf (tNotM (fB (fCB oAll [(.e (fLst (fBrw 15 q_law_5)))]))) (sRet (ret (.bool false))) sNil)
    (sSeq (sIf (tNotM (fB (fCallZ F_l_paper_so [(.e (fVar 2)), (.e (fVar 3)), (.e (fVar 4)), (.lp (plN 16))]))) (sRet (ret (.bool false))) sNil)
    (sClrP (plI (plN 16) (ret (.int 2)))))))
noncomputable def b_law_3 : Rho → Fl := (sSeq (sSetT 15 (nR (fCallT F_papers_vT [(.e (fVar 2)), (.e (fVar 3)), (.e (fVar 4))])))
    (sSeq (sIf (tOrM (tNotM (fB (fIsP "list" (plN 15)))) (tNotM (fB (fCallP F_l_same [(.e (fLst q_law_4)), (.v 11)])))) (sRet (ret (.bool false))) sNil)
    (sSeq (forC (len1 15) (bnd1 16 15) b_law_2 1000 0)
    (sClrN 15))))
noncomputable def g_law : Rho → Fl := (sSeq (sAsg (gTp (gsCons (gSet 2) (gsCons (gSet 3) (gsCons (gSet 4) gsNil)))) (fCallI 1 F_l_case (fCons (ret (.int 10)) fNil)))
    (sSeq (sIf (fB (fOp oEQ (.e (fCallI 1 F_l_pick (fCons (ret (.int 6)) fNil))) (.e (ret (.int 1))))) (sSeq (sSet 5 (fCallI 1 F_l_case (fCons (ret (.int 30)) fNil)))
    (sSeq (sSetL 2 q_law_1)
    (sSet 3 (fLst (fSl (.e (fLst (fOpL oCat (.v 3) (.e (fOp oIx (.v 5) (.e (ret (.int 1)))))))) fNoP (fP (ret (.int 30)))))))) sNil)
    (sSeq (sSet 9 (fTup (fCons (fLst (fLB oList [(.v 2)])) (fCons (fLst (fLB oList [(.v 3)])) fNil))))
    (sSeq (sSet 10 (fLst (fCallL F_l_best (fCons (fVar 2) (fCons (fVar 3) (fCons (fVar 4) fNil))))))
    (sSeq (sSetL 11 (fLs fNil))
    (sSeq (sFor (fItL (fLst (fRev (fLst (fSortU (fLst q_law_2)))))) (gSet 8) b_law_1)
    (sSeq (sFor (fAB oRng1 (fCons (ret (.int 2)) fNil)) (gSet 14) b_law_3)
    (sRet (fOp oEQ (.e (fTup (fCons (fVar 2) (fCons (fVar 3) fNil)))) (.v 9))))))))))
end K16
namespace K16
open PySem L2 Fx Mm
variable [Tabz]
def top (i : Nat) : Stmt := PySem.Challenge.pw_drawback_k16_papers_that_are_told.main.body.getD i (.Pass ⟨0, 0, 0, 0⟩)
abbrev s_need_day : Stmt := top 10
abbrev s_need_term : Stmt := top 11
abbrev s_goes_against : Stmt := top 12
abbrev s_need_count : Stmt := top 17
abbrev s_need_duty : Stmt := top 18
abbrev s_checked_lots : Stmt := top 19
abbrev s_checked_outs : Stmt := top 20
abbrev s_by_duty : Stmt := top 21
abbrev s_out_against : Stmt := top 23
abbrev s_days_of : Stmt := top 24
abbrev s_all_stretches : Stmt := top 25
abbrev s_in_stretch : Stmt := top 26
abbrev s_spare : Stmt := top 27
abbrev s_room_at : Stmt := top 28
abbrev s_best_counts : Stmt := top 30
abbrev s_joined : Stmt := top 32
abbrev s_holds_day : Stmt := top 33
abbrev s_shut_days : Stmt := top 34
abbrev s_barring : Stmt := top 35
abbrev s_papers_of : Stmt := top 36
abbrev s_papers : Stmt := top 37
abbrev s__law_begin : Stmt := top 39
abbrev s__law_pick : Stmt := top 40
abbrev s__law_span : Stmt := top 41
abbrev s__law_some_term : Stmt := top 42
abbrev s__law_some_lots : Stmt := top 43
abbrev s__law_some_outs : Stmt := top 44
abbrev s__law_case : Stmt := top 45
abbrev s__law_dearest : Stmt := top 46
abbrev s__law_eldest : Stmt := top 47
abbrev s__law_deal : Stmt := top 48
abbrev s__law_most : Stmt := top 49
abbrev s__law_best : Stmt := top 50
abbrev s__law_same : Stmt := top 51
abbrev s__law_paper_so : Stmt := top 52
abbrev s_papers_of_vT : Stmt := top 36
abbrev s_papers_vT : Stmt := top 37
abbrev s_law : Stmt := top 53
theorem sc_need_day : FnScope ["day"] ["day"] (defScope s_need_day) := ⟨rfl, rfl, rfl, by decide +kernel, rfl, by decide +kernel, by decide +kernel⟩
theorem sc_need_term : FnScope ["term"] ["term"] (defScope s_need_term) := ⟨rfl, rfl, rfl, by decide +kernel, rfl, by decide +kernel, by decide +kernel⟩
theorem sc_goes_against : FnScope ["stretch", "day", "term", "first", "last"] ["stretch", "day", "term"] (defScope s_goes_against) := ⟨rfl, rfl, rfl, by decide +kernel, rfl, by decide +kernel, by decide +kernel⟩
theorem sc_need_count : FnScope ["count"] ["count"] (defScope s_need_count) := ⟨rfl, rfl, rfl, by decide +kernel, rfl, by decide +kernel, by decide +kernel⟩
theorem sc_need_duty : FnScope ["duty"] ["duty"] (defScope s_need_duty) := ⟨rfl, rfl, rfl, by decide +kernel, rfl, by decide +kernel, by decide +kernel⟩
theorem sc_checked_lots : FnScope ["lots", "day", "count", "duty"] ["lots"] (defScope s_checked_lots) := ⟨rfl, rfl, rfl, by decide +kernel, rfl, by decide +kernel, by decide +kernel⟩
theorem sc_checked_outs : FnScope ["outs", "day", "count"] ["outs"] (defScope s_checked_outs) := ⟨rfl, rfl, rfl, by decide +kernel, rfl, by decide +kernel, by decide +kernel⟩
theorem sc_by_duty : FnScope ["lots"] ["lots"] (defScope s_by_duty) := ⟨rfl, rfl, rfl, by decide +kernel, rfl, by decide +kernel, by decide +kernel⟩
theorem sc_out_against : FnScope ["outs", "term", "stretch", "day", "count"] ["outs", "term", "stretch"] (defScope s_out_against) := ⟨rfl, rfl, rfl, by decide +kernel, rfl, by decide +kernel, by decide +kernel⟩
theorem sc_days_of : FnScope ["lots", "lot"] ["lots"] (defScope s_days_of) := ⟨rfl, rfl, rfl, by decide +kernel, rfl, by decide +kernel, by decide +kernel⟩
theorem sc_all_stretches : FnScope ["lots", "days", "found", "at", "first", "last"] ["lots"] (defScope s_all_stretches) := ⟨rfl, rfl, rfl, by decide +kernel, rfl, by decide +kernel, by decide +kernel⟩
theorem sc_in_stretch : FnScope ["lots", "taken", "stretch", "first", "last", "at"] ["lots", "taken", "stretch"] (defScope s_in_stretch) := ⟨rfl, rfl, rfl, by decide +kernel, rfl, by decide +kernel, by decide +kernel⟩
theorem sc_spare : FnScope ["lots", "outs", "term", "taken", "stretch"] ["lots", "outs", "term", "taken", "stretch"] (defScope s_spare) := ⟨rfl, rfl, rfl, by decide +kernel, rfl, by decide +kernel, by decide +kernel⟩
theorem sc_room_at : FnScope ["lots", "outs", "term", "taken", "at", "day", "found", "stretch"] ["lots", "outs", "term", "taken", "at"] (defScope s_room_at) := ⟨rfl, rfl, rfl, by decide +kernel, rfl, by decide +kernel, by decide +kernel⟩
theorem sc_best_counts : FnScope ["lots", "outs", "term", "taken", "at"] ["lots", "outs", "term"] (defScope s_best_counts) := ⟨rfl, rfl, rfl, by decide +kernel, rfl, by decide +kernel, by decide +kernel⟩
theorem sc_joined : FnScope ["stretches", "found", "first", "last"] ["stretches"] (defScope s_joined) := ⟨rfl, rfl, rfl, by decide +kernel, rfl, by decide +kernel, by decide +kernel⟩
theorem sc_holds_day : FnScope ["stretch", "day"] ["stretch", "day"] (defScope s_holds_day) := ⟨rfl, rfl, rfl, by decide +kernel, rfl, by decide +kernel, by decide +kernel⟩
theorem sc_shut_days : FnScope ["dear", "taken", "at"] ["dear", "taken"] (defScope s_shut_days) := ⟨rfl, rfl, rfl, by decide +kernel, rfl, by decide +kernel, by decide +kernel⟩
theorem sc_barring : FnScope ["dear", "outs", "term", "taken", "shut", "found", "stretch", "day"] ["dear", "outs", "term", "taken"] (defScope s_barring) := ⟨rfl, rfl, rfl, by decide +kernel, rfl, by decide +kernel, by decide +kernel⟩
theorem sc__law_begin : FnScope ["_law_script"] ["_law_script"] (defScope s__law_begin) := ⟨rfl, rfl, rfl, by decide +kernel, rfl, by decide +kernel, by decide +kernel⟩
theorem sc__law_pick : FnScope ["_law_draw", "_law_many", "_law_cell", "_law_got"] ["_law_draw", "_law_many"] (defScope s__law_pick) := ⟨rfl, rfl, rfl, by decide +kernel, rfl, by decide +kernel, by decide +kernel⟩
theorem sc__law_span : FnScope ["_law_draw", "_law_span_here"] ["_law_draw"] (defScope s__law_span) := ⟨rfl, rfl, rfl, by decide +kernel, rfl, by decide +kernel, by decide +kernel⟩
theorem sc__law_some_term : FnScope ["_law_draw"] ["_law_draw"] (defScope s__law_some_term) := ⟨rfl, rfl, rfl, by decide +kernel, rfl, by decide +kernel, by decide +kernel⟩
theorem sc__law_some_lots : FnScope ["_law_draw", "_law_most_here", "_law_days", "_law_scale", "_law_dear", "_law_found", "_law_k", "_law_day", "_law_count"] ["_law_draw", "_law_most_here", "_law_days", "_law_scale"] (defScope s__law_some_lots) := ⟨rfl, rfl, rfl, by decide +kernel, rfl, by decide +kernel, by decide +kernel⟩
theorem sc__law_some_outs : FnScope ["_law_draw", "_law_most_here", "_law_days", "_law_scale", "_law_found", "_law_k", "_law_day"] ["_law_draw", "_law_most_here", "_law_days", "_law_scale"] (defScope s__law_some_outs) := ⟨rfl, rfl, rfl, by decide +kernel, rfl, by decide +kernel, by decide +kernel⟩
theorem sc__law_case : FnScope ["_law_draw", "_law_most_here", "_law_days", "_law_term", "_law_scale", "_law_lots"] ["_law_draw", "_law_most_here"] (defScope s__law_case) := ⟨rfl, rfl, rfl, by decide +kernel, rfl, by decide +kernel, by decide +kernel⟩
theorem sc__law_dearest : FnScope ["_law_lots"] ["_law_lots"] (defScope s__law_dearest) := ⟨rfl, rfl, rfl, by decide +kernel, rfl, by decide +kernel, by decide +kernel⟩
theorem sc__law_eldest : FnScope ["_law_rows"] ["_law_rows"] (defScope s__law_eldest) := ⟨rfl, rfl, rfl, by decide +kernel, rfl, by decide +kernel, by decide +kernel⟩
theorem sc__law_deal : FnScope ["_law_lots", "_law_outs", "_law_term", "_law_taken", "_law_left", "_law_found", "_law_order", "_law_out", "_law_day", "_law_count", "_law_lot", "_law_some"] ["_law_lots", "_law_outs", "_law_term", "_law_taken"] (defScope s__law_deal) := ⟨rfl, rfl, rfl, by decide +kernel, rfl, by decide +kernel, by decide +kernel⟩
theorem sc__law_most : FnScope ["_law_lots", "_law_outs", "_law_term", "_law_taken", "_law_at", "_law_low", "_law_high", "_law_middle", "_law_tried"] ["_law_lots", "_law_outs", "_law_term", "_law_taken", "_law_at"] (defScope s__law_most) := ⟨rfl, rfl, rfl, by decide +kernel, rfl, by decide +kernel, by decide +kernel⟩
theorem sc__law_best : FnScope ["_law_lots", "_law_outs", "_law_term", "_law_taken", "_law_at"] ["_law_lots", "_law_outs", "_law_term"] (defScope s__law_best) := ⟨rfl, rfl, rfl, by decide +kernel, rfl, by decide +kernel, by decide +kernel⟩
theorem sc__law_same : FnScope ["_law_found", "_law_due", "_law_one", "_law_other"] ["_law_found", "_law_due"] (defScope s__law_same) := ⟨rfl, rfl, rfl, by decide +kernel, rfl, by decide +kernel, by decide +kernel⟩
theorem sc__law_paper_so : FnScope ["_law_lots", "_law_outs", "_law_term", "_law_paper", "_law_duty", "_law_units", "_law_stretches", "_law_found", "_law_ahead", "_law_first", "_law_last", "_law_day", "_law_count", "_law_own", "_law_inside", "_law_one"] ["_law_lots", "_law_outs", "_law_term", "_law_paper"] (defScope s__law_paper_so) := ⟨rfl, rfl, rfl, by decide +kernel, rfl, by decide +kernel, by decide +kernel⟩
theorem sc_papers_of_vT : FnScope ["lots", "outs", "term", "taken", "found", "duty", "lot", "places", "at", "dear", "some"] ["lots", "outs", "term"] (defScope s_papers_of_vT) := ⟨rfl, rfl, rfl, by decide +kernel, rfl, by decide +kernel, by decide +kernel⟩
theorem sc_papers_vT : FnScope ["lots", "outs", "term", "mine", "theirs"] ["lots", "outs", "term"] (defScope s_papers_vT) := ⟨rfl, rfl, rfl, by decide +kernel, rfl, by decide +kernel, by decide +kernel⟩
theorem sc_law : FnScope ["_law_script", "_law_draw", "_law_lots", "_law_outs", "_law_term", "_law_more", "_law_day", "_law_count", "_law_duty", "_law_kept", "_law_most_here", "_law_due", "_law_lot", "_law_at", "_law_turn", "_law_found", "_law_paper", "_law_one"] ["_law_script"] (defScope s_law) := ⟨rfl, rfl, rfl, by decide +kernel, rfl, by decide +kernel, by decide +kernel⟩
def fa : List Fq := [.f (.int "LAST_DAY" 999),
  .f (.exc "BadDay"),
  .f (.glo "BadDay"),
  .f (.int "LONGEST" 400),
  .f (.exc "BadTerm"),
  .f (.glo "BadTerm"),
  .f (.int "MOST_UNITS" 10000000000),
  .f (.exc "BadCount"),
  .f (.glo "BadCount"),
  .f (.int "MOST_DUTY" 1000000),
  .f (.exc "BadDuty"),
  .f (.glo "BadDuty"),
  .f (.free "len"),
  .f (.int "MOST_ROWS" 30),
  .f (.exc "BadRows"),
  .f (.glo "BadRows"),
  .f (.free "list"),
  .f (.free "range"),
  .f (.free "sorted"),
  .f (.free "sum"),
  .f (.free "set"),
  .f (.free "enumerate"),
  .f (.free "min"),
  .f (.free "max"),
  .f (.free "any"),
  .f (.free "isinstance"),
  .f (.free "bool"),
  .f (.free "int"),
  .f (.free "str"),
  .f (.free "tuple"),
  .f (.free "zip"),
  .f (.free "all"),
  .f (.glo "need_day"),
  .f (.glo "need_term"),
  .f (.glo "goes_against"),
  .f (.glo "need_count"),
  .f (.glo "need_duty"),
  .f (.glo "checked_lots"),
  .f (.glo "checked_outs"),
  .f (.glo "by_duty"),
  .f (.glo "out_against"),
  .f (.glo "days_of"),
  .f (.glo "all_stretches"),
  .f (.glo "in_stretch"),
  .f (.glo "spare"),
  .f (.glo "room_at"),
  .f (.glo "best_counts"),
  .f (.glo "joined"),
  .f (.glo "holds_day"),
  .f (.glo "shut_days"),
  .f (.glo "barring"),
  .f (.glo "papers_of"),
  .f (.glo "papers"),
  .f (.glo "_law_begin"),
  .f (.glo "_law_pick"),
  .f (.glo "_law_span"),
  .f (.glo "_law_some_term"),
  .f (.glo "_law_some_lots"),
  .f (.glo "_law_some_outs"),
  .f (.glo "_law_case"),
  .f (.glo "_law_dearest"),
  .f (.glo "_law_eldest"),
  .f (.glo "_law_deal"),
  .f (.glo "_law_most"),
  .f (.glo "_law_best"),
  .f (.glo "_law_same"),
  .f (.glo "_law_paper_so"),
  .f (.glo "law")]
def tf : List Str := ["by_duty", "_law_dearest", "_law_eldest"]
def fn : List He.FnD := [mkD "need_day" s_need_day, mkD "need_term" s_need_term, mkD "goes_against" s_goes_against, mkD "need_count" s_need_count, mkD "need_duty" s_need_duty, mkD "checked_lots" s_checked_lots, mkD "checked_outs" s_checked_outs, mkD "by_duty" s_by_duty, mkD "out_against" s_out_against, mkD "days_of" s_days_of, mkD "all_stretches" s_all_stretches, mkD "in_stretch" s_in_stretch, mkD "spare" s_spare, mkD "room_at" s_room_at, mkD "best_counts" s_best_counts, mkD "joined" s_joined, mkD "holds_day" s_holds_day, mkD "shut_days" s_shut_days, mkD "barring" s_barring, mkD "papers_of" s_papers_of, mkD "papers" s_papers, mkD "_law_begin" s__law_begin, mkD "_law_pick" s__law_pick, mkD "_law_span" s__law_span, mkD "_law_some_term" s__law_some_term, mkD "_law_some_lots" s__law_some_lots, mkD "_law_some_outs" s__law_some_outs, mkD "_law_case" s__law_case, mkD "_law_dearest" s__law_dearest, mkD "_law_eldest" s__law_eldest, mkD "_law_deal" s__law_deal, mkD "_law_most" s__law_most, mkD "_law_best" s__law_best, mkD "_law_same" s__law_same, mkD "_law_paper_so" s__law_paper_so, mkD "law" s_law]
section
variable {P : Program} {w : World} {K : PySem.W.Frag} {mg : Str → Option Value} {base : Heap}
theorem c_need_day (T : Tp fa fn tf K mg base) : Cal P w K mg base "need_day" 1 ["day"] (spP (He.ga K) 1 F_need_day) := by
  refine cal_pure (x := "need_day") (sd := s_need_day) (N := ["day"]) (ps := ["day"]) (k := 0) (g := g_need_day) T.toTop 32 0 rfl rfl sc_need_day (fun _ _ _ _ _ _ => ln1 fun _ => by kernel_rfl) (fun cdv A outer s H E hr => ?_)
  exact (fss_one (fs_if (ft_pw (fw_or (ft_cmp op_lt rd_lt (vO 0) (eO fe_int) (nomark _)) (fw_or1 (ft_cmp op_gt rd_gt (vO 0) (eO (fe_globI (by rfl) (T.int 0).choose_spec)) (nomark _))))) (fss_one (fs_raise rfl (takes_of rfl rfl rfl rfl) PySem.F.excBase_ValueError (T.exc 1).1 (T.glo 2) (T.exc 1).2.1 (raises_own (T.exc 1).2.2.1 (T.exc 1).2.2.2) (by rfl))) fss_nil))
theorem c_need_term (T : Tp fa fn tf K mg base) : Cal P w K mg base "need_term" 1 ["term"] (spP (He.ga K) 1 F_need_term) := by
  refine cal_pure (x := "need_term") (sd := s_need_term) (N := ["term"]) (ps := ["term"]) (k := 0) (g := g_need_term) T.toTop 33 1 rfl rfl sc_need_term (fun _ _ _ _ _ _ => ln1 fun _ => by kernel_rfl) (fun cdv A outer s H E hr => ?_)
  exact (fss_one (fs_if (ft_pw (fw_or (ft_cmp op_lt rd_lt (vO 0) (eO fe_int) (nomark _)) (fw_or1 (ft_cmp op_gt rd_gt (vO 0) (eO (fe_globI (by rfl) (T.int 3).choose_spec)) (nomark _))))) (fss_one (fs_raise rfl (takes_of rfl rfl rfl rfl) PySem.F.excBase_ValueError (T.exc 4).1 (T.glo 5) (T.exc 4).2.1 (raises_own (T.exc 4).2.2.1 (T.exc 4).2.2.2) (by rfl))) fss_nil))
theorem c_goes_against (T : Tp fa fn tf K mg base) : Cal P w K mg base "goes_against" 1 ["stretch", "day", "term"] (spP (He.ga K) 3 F_goes_against) := by
  refine cal_pure (x := "goes_against") (sd := s_goes_against) (N := ["stretch", "day", "term", "first", "last"]) (ps := ["stretch", "day", "term"]) (k := 0) (g := g_goes_against) T.toTop 34 2 rfl rfl sc_goes_against (fun _ _ _ _ _ _ => ln3 fun _ _ _ => by kernel_rfl) (fun cdv A outer s H E hr => ?_)
  exact (fss_cons (fs_asg (by decide) (fe_var 0) (fg_tup rfl (fgs_cons (fg_name 3 sc_goes_against.nd) (fgs_cons (fg_name 4 sc_goes_against.nd) fgs_nil)) (gs_len (gs_len gs_len0))))
      (fss_one (fs_ret (fe_and (fe_cmp op_le rd_le (vO 3) (vO 1) (nomark _)) (fe_one (fe_cmp op_le rd_le (vO 1) (eO (fe_add (vO 4) (vO 2))) (nomark _)))))))
theorem c_need_count (T : Tp fa fn tf K mg base) : Cal P w K mg base "need_count" 1 ["count"] (spP (He.ga K) 1 F_need_count) := by
  refine cal_pure (x := "need_count") (sd := s_need_count) (N := ["count"]) (ps := ["count"]) (k := 0) (g := g_need_count) T.toTop 35 3 rfl rfl sc_need_count (fun _ _ _ _ _ _ => ln1 fun _ => by kernel_rfl) (fun cdv A outer s H E hr => ?_)
  exact (fss_one (fs_if (ft_pw (fw_or (ft_cmp op_lt rd_lt (vO 0) (eO fe_int) (nomark _)) (fw_or1 (ft_cmp op_gt rd_gt (vO 0) (eO (fe_globI (by rfl) (T.int 6).choose_spec)) (nomark _))))) (fss_one (fs_raise rfl (takes_of rfl rfl rfl rfl) PySem.F.excBase_ValueError (T.exc 7).1 (T.glo 8) (T.exc 7).2.1 (raises_own (T.exc 7).2.2.1 (T.exc 7).2.2.2) (by rfl))) fss_nil))
theorem c_need_duty (T : Tp fa fn tf K mg base) : Cal P w K mg base "need_duty" 1 ["duty"] (spP (He.ga K) 1 F_need_duty) := by
  refine cal_pure (x := "need_duty") (sd := s_need_duty) (N := ["duty"]) (ps := ["duty"]) (k := 0) (g := g_need_duty) T.toTop 36 4 rfl rfl sc_need_duty (fun _ _ _ _ _ _ => ln1 fun _ => by kernel_rfl) (fun cdv A outer s H E hr => ?_)
  exact (fss_one (fs_if (ft_pw (fw_or (ft_cmp op_lt rd_lt (vO 0) (eO fe_int) (nomark _)) (fw_or1 (ft_cmp op_gt rd_gt (vO 0) (eO (fe_globI (by rfl) (T.int 9).choose_spec)) (nomark _))))) (fss_one (fs_raise rfl (takes_of rfl rfl rfl rfl) PySem.F.excBase_ValueError (T.exc 10).1 (T.glo 11) (T.exc 10).2.1 (raises_own (T.exc 10).2.2.1 (T.exc 10).2.2.2) (by rfl))) fss_nil))
theorem c_checked_lots (T : Tp fa fn tf K mg base) : Cal P w K mg base "checked_lots" 2 ["lots"] (spP (He.ga K) 1 F_checked_lots) := by
  refine cal_pure (x := "checked_lots") (sd := s_checked_lots) (N := ["lots", "day", "count", "duty"]) (ps := ["lots"]) (k := 1) (g := g_checked_lots) T.toTop 37 5 rfl rfl sc_checked_lots (fun _ _ _ _ _ _ => ln1 fun _ => by kernel_rfl) (fun cdv A outer s H E hr => ?_)
  exact (fss_cons (fs_if (ft_cmp op_gt rd_gt (eO (fe_len (by rfl) (T.free 12) (oa_cons (vO 0) oa_nil))) (eO (fe_globI (by rfl) (T.int 13).choose_spec)) (nomark _)) (fss_one (fs_raise rfl (takes_of rfl rfl rfl rfl) PySem.F.excBase_ValueError (T.exc 14).1 (T.glo 15) (T.exc 14).2.1 (raises_own (T.exc 14).2.2.1 (T.exc 14).2.2.2) (by rfl))) fss_nil)
      (fss_cons (fs_for (passes_of rfl) rfl (by decide) (fi_list (fe_var 0)) (fg_tup rfl (fgs_cons (fg_name 1 sc_checked_lots.nd) (fgs_cons (fg_name 2 sc_checked_lots.nd) (fgs_cons (fg_name 3 sc_checked_lots.nd) fgs_nil))) (gs_len (gs_len (gs_len gs_len0)))) (fss_cons (fs_expr (fe_cal (c_need_day T) (hr.mono (by decide)) (by rfl) (takes_of rfl rfl rfl rfl) (fa_cons (fe_var 1) fa_nil)))
      (fss_cons (fs_expr (fe_cal (c_need_count T) (hr.mono (by decide)) (by rfl) (takes_of rfl rfl rfl rfl) (fa_cons (fe_var 2) fa_nil)))
      (fss_one (fs_expr (fe_cal (c_need_duty T) (hr.mono (by decide)) (by rfl) (takes_of rfl rfl rfl rfl) (fa_cons (fe_var 3) fa_nil)))))))
      (fss_one (fs_retL rfl (fl_list (by rfl) (T.free 16) (oa_cons (vO 0) oa_nil))))))
theorem c_checked_outs (T : Tp fa fn tf K mg base) : Cal P w K mg base "checked_outs" 2 ["outs"] (spP (He.ga K) 1 F_checked_outs) := by
  refine cal_pure (x := "checked_outs") (sd := s_checked_outs) (N := ["outs", "day", "count"]) (ps := ["outs"]) (k := 1) (g := g_checked_outs) T.toTop 38 6 rfl rfl sc_checked_outs (fun _ _ _ _ _ _ => ln1 fun _ => by kernel_rfl) (fun cdv A outer s H E hr => ?_)
  exact (fss_cons (fs_if (ft_cmp op_gt rd_gt (eO (fe_len (by rfl) (T.free 12) (oa_cons (vO 0) oa_nil))) (eO (fe_globI (by rfl) (T.int 13).choose_spec)) (nomark _)) (fss_one (fs_raise rfl (takes_of rfl rfl rfl rfl) PySem.F.excBase_ValueError (T.exc 14).1 (T.glo 15) (T.exc 14).2.1 (raises_own (T.exc 14).2.2.1 (T.exc 14).2.2.2) (by rfl))) fss_nil)
      (fss_cons (fs_for (passes_of rfl) rfl (by decide) (fi_list (fe_var 0)) (fg_tup rfl (fgs_cons (fg_name 1 sc_checked_outs.nd) (fgs_cons (fg_name 2 sc_checked_outs.nd) fgs_nil)) (gs_len (gs_len gs_len0))) (fss_cons (fs_expr (fe_cal (c_need_day T) (hr.mono (by decide)) (by rfl) (takes_of rfl rfl rfl rfl) (fa_cons (fe_var 1) fa_nil)))
      (fss_one (fs_expr (fe_cal (c_need_count T) (hr.mono (by decide)) (by rfl) (takes_of rfl rfl rfl rfl) (fa_cons (fe_var 2) fa_nil))))))
      (fss_one (fs_retL rfl (fl_list (by rfl) (T.free 16) (oa_cons (vO 0) oa_nil))))))
theorem c_by_duty (T : Tp fa fn tf K mg base) : Cal P w K mg base "by_duty" 1 ["lots"] (spP (He.ga K) 1 F_by_duty) := by
  refine cal_pureT (x := "by_duty") (sd := s_by_duty) (N := ["lots"]) (ps := ["lots"]) (k := 0) (g := g_by_duty) T.toTop 39 7 rfl rfl sc_by_duty (fun _ _ _ _ _ _ => ln1 fun _ => by kernel_rfl) (fun cdv ci A outer s H E hr => ?_)
  exact (fss_one (fs_retL rfl (fl_sortK (kx := [.zsub 2, .col 0, .pl]) (r := "lots") (a := "at") 0 rfl (.cons (kx_zsub (by decide)) (.cons (kx_col (by decide)) (.cons kx_pl .nil))) (by decide) (by decide) (by rfl) (T.free 18) hr (T.tbs "by_duty" (show ("by_duty" : Str) ∈ tf by decide +kernel)) (cd_code ci) (tp_tab T (show ("by_duty" : Str) ∈ tf by decide +kernel)).1 (tp_tab T (show ("by_duty" : Str) ∈ tf by decide +kernel)).2 rfl (fun _ _ _ _ _ _ => rfl) rfl rfl rfl (by decide +kernel) rfl rfl (by decide +kernel) rfl (fe_ofL (fl_lrange1 rfl (by rfl) (T.free 16) (by rfl) (T.free 17) (fe_len (by rfl) (T.free 12) (oa_cons (vO 0) oa_nil)))))))
theorem c_out_against (T : Tp fa fn tf K mg base) : Cal P w K mg base "out_against" 2 ["outs", "term", "stretch"] (spP (He.ga K) 3 F_out_against) := by
  refine cal_pure (x := "out_against") (sd := s_out_against) (N := ["outs", "term", "stretch", "day", "count"]) (ps := ["outs", "term", "stretch"]) (k := 1) (g := g_out_against) T.toTop 40 8 rfl rfl sc_out_against (fun _ _ _ _ _ _ => ln3 fun _ _ _ => by kernel_rfl) (fun cdv A outer s H E hr => ?_)
  exact (fss_one (fs_ret (fe_sum rfl (by rfl) (T.free 19) (oa_cons (eO (fe_ofL (fl_lc (own := [("day", 3), ("count", 4)]) rfl sc_out_against.nd (blkOk_by (own := [("day", 3), ("count", 4)]) (N := ["outs", "term", "stretch", "day", "count"]) (sc := (defScope s_out_against)) (by decide +kernel)) (by decide) (fi_list (fe_var 0)) (fun _ _ _ _ _ => (fg_tup rfl (fgs_cons (fg_name 3 sc_out_against.nd) (fgs_cons (fg_name 4 sc_out_against.nd) fgs_nil)) (gs_len (gs_len gs_len0)))) (fun _ _ _ _ _ => (fts_one (ft_val (fe_cal (c_goes_against T) (hr.mono (by decide)) (by rfl) takes0 (fa_cons (fe_var 2) (fa_cons (fe_var 3) (fa_cons (fe_var 1) fa_nil))))))) (fun _ _ _ _ _ => (fe_var 4))))) oa_nil))))
theorem c_days_of (T : Tp fa fn tf K mg base) : Cal P w K mg base "days_of" 1 ["lots"] (spP (He.ga K) 1 F_days_of) := by
  refine cal_pure (x := "days_of") (sd := s_days_of) (N := ["lots", "lot"]) (ps := ["lots"]) (k := 0) (g := g_days_of) T.toTop 41 9 rfl rfl sc_days_of (fun _ _ _ _ _ _ => ln1 fun _ => by kernel_rfl) (fun cdv A outer s H E hr => ?_)
  exact (fss_one (fs_retL rfl (fl_sortU rfl (by rfl) (T.free 18) (by rfl) (T.free 20) (fe_ofL (fl_lc (own := [("lot", 1)]) rfl sc_days_of.nd (blkOk_by (own := [("lot", 1)]) (N := ["lots", "lot"]) (sc := (defScope s_days_of)) (by decide +kernel)) (by decide) (fi_list (fe_var 0)) (fun _ _ _ _ _ => (fg_name 1 sc_days_of.nd)) (fun _ _ _ _ _ => fts_nil) (fun _ _ _ _ _ => (fe_ix (vO 1) (eO fe_int))))))))
theorem c_all_stretches (T : Tp fa fn tf K mg base) : Cal P w K mg base "all_stretches" 2 ["lots"] (spP (He.ga K) 1 F_all_stretches) := by
  refine cal_pure (x := "all_stretches") (sd := s_all_stretches) (N := ["lots", "days", "found", "at", "first", "last"]) (ps := ["lots"]) (k := 1) (g := g_all_stretches) T.toTop 42 10 rfl rfl sc_all_stretches (fun _ _ _ _ _ _ => ln1 fun _ => by kernel_rfl) (fun cdv A outer s H E hr => ?_)
  exact (fss_cons (fs_set 1 sc_all_stretches.nd (by decide) (fe_ofL (fl_cal (c_days_of T) (hr.mono (by decide)) (by rfl) (takes_of rfl rfl rfl rfl) (fa_cons (fe_var 0) fa_nil))))
      (fss_cons (fs_setL 2 sc_all_stretches.nd (by decide) (fl_lst fa_nil))
      (fss_cons (fs_for (passes_of rfl) rfl (by decide) (fi_enum (by rfl) (T.free 21) (fa_cons (fe_var 1) fa_nil)) (fg_tup rfl (fgs_cons (fg_name 3 sc_all_stretches.nd) (fgs_cons (fg_name 4 sc_all_stretches.nd) fgs_nil)) (gs_len (gs_len gs_len0))) (fss_one (fs_extend 2 (fe_ofL (fl_lc (own := [("last", 5)]) rfl sc_all_stretches.nd (blkOk_by (own := [("last", 5)]) (N := ["lots", "days", "found", "at", "first", "last"]) (sc := (defScope s_all_stretches)) (by decide +kernel)) (by decide) (fi_list (fe_ofL (fl_slice (vO 1) (fp_some (fe_var 3)) fp_none))) (fun _ _ _ _ _ => (fg_name 5 sc_all_stretches.nd)) (fun _ _ _ _ _ => fts_nil) (fun _ _ _ _ _ => (fe_tup (fa_cons (fe_var 4) (fa_cons (fe_var 5) fa_nil)))))))))
      (fss_one (fs_retV 2 rfl)))))
theorem c_in_stretch (T : Tp fa fn tf K mg base) : Cal P w K mg base "in_stretch" 1 ["lots", "taken", "stretch"] (spP (He.ga K) 3 F_in_stretch) := by
  refine cal_pure (x := "in_stretch") (sd := s_in_stretch) (N := ["lots", "taken", "stretch", "first", "last", "at"]) (ps := ["lots", "taken", "stretch"]) (k := 0) (g := g_in_stretch) T.toTop 43 11 rfl rfl sc_in_stretch (fun _ _ _ _ _ _ => ln3 fun _ _ _ => by kernel_rfl) (fun cdv A outer s H E hr => ?_)
  exact (fss_cons (fs_asg (by decide) (fe_var 2) (fg_tup rfl (fgs_cons (fg_name 3 sc_in_stretch.nd) (fgs_cons (fg_name 4 sc_in_stretch.nd) fgs_nil)) (gs_len (gs_len gs_len0))))
      (fss_one (fs_ret (fe_sum rfl (by rfl) (T.free 19) (oa_cons (eO (fe_ofL (fl_lc (own := [("at", 5)]) rfl sc_in_stretch.nd (blkOk_by (own := [("at", 5)]) (N := ["lots", "taken", "stretch", "first", "last", "at"]) (sc := (defScope s_in_stretch)) (by decide +kernel)) (by decide) (fi_rng1 (by rfl) (T.free 17) (fa_cons (fe_len (by rfl) (T.free 12) (oa_cons (vO 0) oa_nil)) fa_nil)) (fun _ _ _ _ _ => (fg_name 5 sc_in_stretch.nd)) (fun _ _ _ _ _ => (fts_one (ft_pw (fw_and (ft_cmp op_le rd_le (vO 3) (eO (fe_ix (eO (fe_ix (vO 0) (vO 5))) (eO fe_int))) (nomark _)) (fw_and1 (ft_cmp op_le rd_le (eO (fe_ix (eO (fe_ix (vO 0) (vO 5))) (eO fe_int))) (vO 4) (nomark _))))))) (fun _ _ _ _ _ => (fe_ix (vO 1) (vO 5)))))) oa_nil)))))
theorem c_spare (T : Tp fa fn tf K mg base) : Cal P w K mg base "spare" 3 ["lots", "outs", "term", "taken", "stretch"] (spP (He.ga K) 5 F_spare) := by
  refine cal_pure (x := "spare") (sd := s_spare) (N := ["lots", "outs", "term", "taken", "stretch"]) (ps := ["lots", "outs", "term", "taken", "stretch"]) (k := 2) (g := g_spare) T.toTop 44 12 rfl rfl sc_spare (fun _ _ _ _ _ _ => ln5 fun _ _ _ _ _ => by kernel_rfl) (fun cdv A outer s H E hr => ?_)
  exact (fss_one (fs_ret (fe_sub (eO (fe_cal (c_out_against T) (hr.mono (by decide)) (by rfl) (takes_of rfl rfl rfl rfl) (fa_cons (fe_var 1) (fa_cons (fe_var 2) (fa_cons (fe_var 4) fa_nil))))) (eO (fe_cal (c_in_stretch T) (hr.mono (by decide)) (by rfl) (takes_of rfl rfl rfl rfl) (fa_cons (fe_var 0) (fa_cons (fe_var 3) (fa_cons (fe_var 4) fa_nil))))))))
theorem c_room_at (T : Tp fa fn tf K mg base) : Cal P w K mg base "room_at" 4 ["lots", "outs", "term", "taken", "at"] (spP (He.ga K) 5 F_room_at) := by
  refine cal_pure (x := "room_at") (sd := s_room_at) (N := ["lots", "outs", "term", "taken", "at", "day", "found", "stretch"]) (ps := ["lots", "outs", "term", "taken", "at"]) (k := 3) (g := g_room_at) T.toTop 45 13 rfl rfl sc_room_at (fun _ _ _ _ _ _ => ln5 fun _ _ _ _ _ => by kernel_rfl) (fun cdv A outer s H E hr => ?_)
  exact (fss_cons (fs_set 5 sc_room_at.nd (by decide) (fe_ix (eO (fe_ix (vO 0) (vO 4))) (eO fe_int)))
      (fss_cons (fs_set 6 sc_room_at.nd (by decide) (fe_sub (eO (fe_ix (eO (fe_ix (vO 0) (vO 4))) (eO fe_int))) (eO (fe_ix (vO 3) (vO 4)))))
      (fss_cons (fs_for (passes_of rfl) rfl (by decide) (fi_list (fe_ofL (fl_cal (c_all_stretches T) (hr.mono (by decide)) (by rfl) (takes_of rfl rfl rfl rfl) (fa_cons (fe_var 0) fa_nil)))) (fg_name 7 sc_room_at.nd) (fss_one (fs_if (ft_pw (fw_and (ft_cmp op_le rd_le (eO (fe_ix (vO 7) (eO fe_int))) (vO 5) (nomark _)) (fw_and1 (ft_cmp op_le rd_le (vO 5) (eO (fe_ix (vO 7) (eO fe_int))) (nomark _))))) (fss_one (fs_set 6 sc_room_at.nd (by decide) (fe_min2 rfl (by rfl) (T.free 22) (oa_cons (vO 6) (oa_cons (eO (fe_cal (c_spare T) (hr.mono (by decide)) (by rfl) (takes_of rfl rfl rfl rfl) (fa_cons (fe_var 0) (fa_cons (fe_var 1) (fa_cons (fe_var 2) (fa_cons (fe_var 3) (fa_cons (fe_var 7) fa_nil))))))) oa_nil))))) fss_nil)))
      (fss_one (fs_retV 6 rfl)))))
theorem c_best_counts (T : Tp fa fn tf K mg base) : Cal P w K mg base "best_counts" 5 ["lots", "outs", "term"] (spP (He.ga K) 3 F_best_counts) := by
  refine cal_pure (x := "best_counts") (sd := s_best_counts) (N := ["lots", "outs", "term", "taken", "at"]) (ps := ["lots", "outs", "term"]) (k := 4) (g := g_best_counts) T.toTop 46 14 rfl rfl sc_best_counts (fun _ _ _ _ _ _ => ln3 fun _ _ _ => by kernel_rfl) (fun cdv A outer s H E hr => ?_)
  exact (fss_cons (fs_setL 3 sc_best_counts.nd (by decide) (fl_rep (eO (fe_ofL (fl_lst (fa_cons fe_int fa_nil)))) (eO (fe_len (by rfl) (T.free 12) (oa_cons (vO 0) oa_nil)))))
      (fss_cons (fs_for (passes_of rfl) rfl (by decide) (fi_list (fe_ofL (fl_cal (c_by_duty T) (hr.mono (by decide)) (by rfl) (takes_of rfl rfl rfl rfl) (fa_cons (fe_var 0) fa_nil)))) (fg_name 4 sc_best_counts.nd) (fss_one (fs_setIx 3 (fe_calP runP_len (c_room_at T) (hr.mono (by decide)) (by rfl) (takes_of rfl rfl rfl rfl) (oa_cons (vO 0) (oa_cons (vO 1) (oa_cons (vO 2) (oa_cons (vO 3) (oa_cons (vO 4) oa_nil)))))) (fe_var 4))))
      (fss_one (fs_retV 3 rfl))))
theorem c_joined (T : Tp fa fn tf K mg base) : Cal P w K mg base "joined" 1 ["stretches"] (spP (He.ga K) 1 F_joined) := by
  refine cal_pure (x := "joined") (sd := s_joined) (N := ["stretches", "found", "first", "last"]) (ps := ["stretches"]) (k := 0) (g := g_joined) T.toTop 47 15 rfl rfl sc_joined (fun _ _ _ _ _ _ => ln1 fun _ => by kernel_rfl) (fun cdv A outer s H E hr => ?_)
  exact (fss_cons (fs_setL 1 sc_joined.nd (by decide) (fl_lst fa_nil))
      (fss_cons (fs_for (passes_of rfl) rfl (by decide) (fi_list (fe_ofL (fl_sortP (by rfl) (T.free 18) (oa_cons (vO 0) oa_nil)))) (fg_tup rfl (fgs_cons (fg_name 2 sc_joined.nd) (fgs_cons (fg_name 3 sc_joined.nd) fgs_nil)) (gs_len (gs_len gs_len0))) (fss_one (fs_if (ft_pw (fw_and (ft_cmp op_gt rd_gt (eO (fe_len (by rfl) (T.free 12) (oa_cons (vO 1) oa_nil))) (eO fe_int) (nomark _)) (fw_and1 (ft_cmp op_le rd_le (vO 2) (eO (fe_ix (eO (fe_ix (vO 1) (eO (fe_neg (eO fe_int))))) (eO fe_int))) (nomark _))))) (fss_one (fs_setIx 1 (fe_tup (fa_cons (fe_ix (eO (fe_ix (vO 1) (eO (fe_neg (eO fe_int))))) (eO fe_int)) (fa_cons (fe_max2 rfl (by rfl) (T.free 23) (oa_cons (eO (fe_ix (eO (fe_ix (vO 1) (eO (fe_neg (eO fe_int))))) (eO fe_int))) (oa_cons (vO 3) oa_nil))) fa_nil))) (fe_neg (eO fe_int)))) (fss_one (fs_append 1 (fe_tup (fa_cons (fe_var 2) (fa_cons (fe_var 3) fa_nil))))))))
      (fss_one (fs_retV 1 rfl))))
theorem c_holds_day (T : Tp fa fn tf K mg base) : Cal P w K mg base "holds_day" 1 ["stretch", "day"] (spP (He.ga K) 2 F_holds_day) := by
  refine cal_pure (x := "holds_day") (sd := s_holds_day) (N := ["stretch", "day"]) (ps := ["stretch", "day"]) (k := 0) (g := g_holds_day) T.toTop 48 16 rfl rfl sc_holds_day (fun _ _ _ _ _ _ => ln2 fun _ _ => by kernel_rfl) (fun cdv A outer s H E hr => ?_)
  exact (fss_one (fs_ret (fe_and (fe_cmp op_le rd_le (eO (fe_ix (vO 0) (eO fe_int))) (vO 1) (nomark _)) (fe_one (fe_cmp op_le rd_le (vO 1) (eO (fe_ix (vO 0) (eO fe_int))) (nomark _))))))
theorem c_shut_days (T : Tp fa fn tf K mg base) : Cal P w K mg base "shut_days" 1 ["dear", "taken"] (spP (He.ga K) 2 F_shut_days) := by
  refine cal_pure (x := "shut_days") (sd := s_shut_days) (N := ["dear", "taken", "at"]) (ps := ["dear", "taken"]) (k := 0) (g := g_shut_days) T.toTop 49 17 rfl rfl sc_shut_days (fun _ _ _ _ _ _ => ln2 fun _ _ => by kernel_rfl) (fun cdv A outer s H E hr => ?_)
  exact (fss_one (fs_retL rfl (fl_lc (own := [("at", 2)]) rfl sc_shut_days.nd (blkOk_by (own := [("at", 2)]) (N := ["dear", "taken", "at"]) (sc := (defScope s_shut_days)) (by decide +kernel)) (by decide) (fi_rng1 (by rfl) (T.free 17) (fa_cons (fe_len (by rfl) (T.free 12) (oa_cons (vO 0) oa_nil)) fa_nil)) (fun _ _ _ _ _ => (fg_name 2 sc_shut_days.nd)) (fun _ _ _ _ _ => (fts_one (ft_cmp op_lt rd_lt (eO (fe_ix (vO 1) (vO 2))) (eO (fe_ix (eO (fe_ix (vO 0) (vO 2))) (eO fe_int))) (nomark _)))) (fun _ _ _ _ _ => (fe_ix (eO (fe_ix (vO 0) (vO 2))) (eO fe_int))))))
theorem c_barring (T : Tp fa fn tf K mg base) : Cal P w K mg base "barring" 4 ["dear", "outs", "term", "taken"] (spP (He.ga K) 4 F_barring) := by
  refine cal_pure (x := "barring") (sd := s_barring) (N := ["dear", "outs", "term", "taken", "shut", "found", "stretch", "day"]) (ps := ["dear", "outs", "term", "taken"]) (k := 3) (g := g_barring) T.toTop 50 18 rfl rfl sc_barring (fun _ _ _ _ _ _ => ln4 fun _ _ _ _ => by kernel_rfl) (fun cdv A outer s H E hr => ?_)
  exact (fss_cons (fs_set 4 sc_barring.nd (by decide) (fe_ofL (fl_cal (c_shut_days T) (hr.mono (by decide)) (by rfl) (takes_of rfl rfl rfl rfl) (fa_cons (fe_var 0) (fa_cons (fe_var 3) fa_nil)))))
      (fss_cons (fs_setL 5 sc_barring.nd (by decide) (fl_lst fa_nil))
      (fss_cons (fs_for (passes_of rfl) rfl (by decide) (fi_list (fe_ofL (fl_cal (c_all_stretches T) (hr.mono (by decide)) (by rfl) (takes_of rfl rfl rfl rfl) (fa_cons (fe_var 0) fa_nil)))) (fg_name 6 sc_barring.nd) (fss_one (fs_if (ft_pw (fw_and (ft_cmp (op_EQ (u64s hr)) rd_EQ (eO (fe_cal (c_spare T) (hr.mono (by decide)) (by rfl) (takes_of rfl rfl rfl rfl) (fa_cons (fe_var 0) (fa_cons (fe_var 1) (fa_cons (fe_var 2) (fa_cons (fe_var 3) (fa_cons (fe_var 6) fa_nil))))))) (eO fe_int) (nomark _)) (fw_and1 (ft_val (fe_any rfl (by rfl) (T.free 24) (oa_cons (eO (fe_ofL (fl_lc (own := [("day", 7)]) rfl sc_barring.nd (blkOk_by (own := [("day", 7)]) (N := ["dear", "outs", "term", "taken", "shut", "found", "stretch", "day"]) (sc := (defScope s_barring)) (by decide +kernel)) (by decide) (fi_list (fe_var 4)) (fun _ _ _ _ _ => (fg_name 7 sc_barring.nd)) (fun _ _ _ _ _ => fts_nil) (fun _ _ _ _ _ => (fe_cal (c_holds_day T) (hr.mono (by decide)) (by rfl) takes0 (fa_cons (fe_var 6) (fa_cons (fe_var 7) fa_nil))))))) oa_nil)))))) (fss_one (fs_append 5 (fe_var 6))) fss_nil)))
      (fss_one (fs_retL rfl (fl_cal (c_joined T) (hr.mono (by decide)) (by rfl) (takes_of rfl rfl rfl rfl) (fa_cons (fe_var 5) fa_nil)))))))
theorem c__law_begin (T : Tp fa fn tf K mg base) : Cal P w K mg base "_law_begin" 1 ["_law_script"] (spBegin K) := by
  have F := T.def_ (x := "_law_begin") (st := s__law_begin) 21
  exact ⟨_, _, ok_begin F sc__law_begin (T.free 16) (.inl rfl) (fun _ _ _ _ _ _ => by rfl) rfl, T.glo 53, F.kp, F.binds (fun _ _ _ _ _ _ us hl => match us, hl with | [_], _ => rfl)⟩
theorem c__law_pick (T : Tp fa fn tf K mg base) : Cal P w K mg base "_law_pick" 1 ["_law_draw", "_law_many"] (spI (He.ga K) 2 F_l_pick) := by
  refine cal_io (x := "_law_pick") (sd := s__law_pick) (N := ["_law_draw", "_law_many", "_law_cell", "_law_got"]) (ps := ["_law_draw", "_law_many"]) (k := 0) (g := g_l_pick) T.toTop 54 22 rfl rfl sc__law_pick (fun _ _ _ _ _ _ => ln2 fun _ _ => by kernel_rfl) (fun cdv A outer s H E hr => ?_)
  exact (fss_cons (fs_if (ft_pw (fw_and (ft_cmp op_lt rd_lt (eO (fe_ix (vO 0) (eO fe_int))) (vO 1) (nomark _)) (fw_and1 (ft_cmp op_lt rd_lt (eO (fe_ix (vO 0) (eO fe_int))) (eO (fe_len (by rfl) (T.free 12) (oa_cons (eO (fe_ix (vO 0) (eO fe_int))) oa_nil))) (nomark _))))) (fss_cons (fs_set 2 sc__law_pick.nd (by decide) (fe_ix (eO (fe_ix (vO 0) (eO fe_int))) (eO (fe_ix (vO 0) (eO fe_int)))))
      (fss_cons (fs_setIx 0 (fe_add (eO (fe_ix (vO 0) (eO fe_int))) (eO fe_int)) fe_int)
      (fss_cons (fs_setIx 0 fe_int fe_int)
      (fss_one (fs_if (ft_cmp op_ge rd_ge (vO 2) (eO (fe_pow (eO fe_int) (eO fe_int))) (nomark _)) (fss_one (fs_setIx 0 (fe_var 2) fe_int)) (fss_one (fs_setIx 0 (fe_mod (eO (fe_add (eO (fe_ix (vO 0) (eO fe_int))) (vO 2))) (eO fe_int)) fe_int))))))) fss_nil)
      (fss_cons (fs_if (ft_cmp op_ge rd_ge (eO (fe_ix (vO 0) (eO fe_int))) (vO 1) (nomark _)) (fss_cons (fs_set 3 sc__law_pick.nd (by decide) (fe_mod (eO (fe_ix (vO 0) (eO fe_int))) (vO 1)))
      (fss_cons (fs_setIx 0 (fe_div (eO (fe_ix (vO 0) (eO fe_int))) (vO 1)) fe_int)
      (fss_one (fs_retV0 3 rfl (by decide))))) fss_nil)
      (fss_cons (fs_setIx 0 (fe_add (eO (fe_ix (vO 0) (eO fe_int))) (eO fe_int)) fe_int)
      (fss_cons (fs_setIx 0 (fe_mod (eO (fe_add (eO (fe_add (eO (fe_pow (eO (fe_ix (vO 0) (eO fe_int))) (eO fe_int))) (eO (fe_mul (eO fe_int) (eO (fe_ix (vO 0) (eO fe_int))))))) (eO fe_int))) (eO fe_int)) fe_int)
      (fss_one (fs_ret (fe_mod (eO (fe_div (eO (fe_ix (vO 0) (eO fe_int))) (eO fe_int))) (vO 1))))))))
theorem c__law_span (T : Tp fa fn tf K mg base) : Cal P w K mg base "_law_span" 2 ["_law_draw"] (spI (He.ga K) 1 F_l_span) := by
  refine cal_io (x := "_law_span") (sd := s__law_span) (N := ["_law_draw", "_law_span_here"]) (ps := ["_law_draw"]) (k := 1) (g := g_l_span) T.toTop 55 23 rfl rfl sc__law_span (fun _ _ _ _ _ _ => ln1 fun _ => by kernel_rfl) (fun cdv A outer s H E hr => ?_)
  exact (fss_cons (fs_set 1 sc__law_span.nd (by decide) (fe_ix (eO (fe_tup (fa_cons fe_int (fa_cons fe_int (fa_cons fe_int (fa_cons fe_int fa_nil)))))) (eO (fe_calI 0 (c__law_pick T) (hr.mono (by decide)) (by rfl) (takes_of rfl rfl rfl rfl) (fa_cons fe_int fa_nil)))))
      (fss_one (fs_ret (fe_tup (fa_cons (fe_add (eO fe_int) (eO (fe_calI 0 (c__law_pick T) (hr.mono (by decide)) (by rfl) (takes_of rfl rfl rfl rfl) (fa_cons (fe_sub (eO fe_int) (vO 1)) fa_nil)))) (fa_cons (fe_var 1) fa_nil))))))
theorem c__law_some_term (T : Tp fa fn tf K mg base) : Cal P w K mg base "_law_some_term" 2 ["_law_draw"] (spI (He.ga K) 1 F_l_some_term) := by
  refine cal_io (x := "_law_some_term") (sd := s__law_some_term) (N := ["_law_draw"]) (ps := ["_law_draw"]) (k := 1) (g := g_l_some_term) T.toTop 56 24 rfl rfl sc__law_some_term (fun _ _ _ _ _ _ => ln1 fun _ => by kernel_rfl) (fun cdv A outer s H E hr => ?_)
  exact (fss_one (fs_ret (fe_ix (eO (fe_tup (fa_cons fe_int (fa_cons fe_int (fa_cons fe_int (fa_cons (fe_calI 0 (c__law_pick T) (hr.mono (by decide)) (by rfl) (takes_of rfl rfl rfl rfl) (fa_cons fe_int fa_nil)) (fa_cons (fe_calI 0 (c__law_pick T) (hr.mono (by decide)) (by rfl) (takes_of rfl rfl rfl rfl) (fa_cons fe_int fa_nil)) (fa_cons fe_int fa_nil)))))))) (eO (fe_calI 0 (c__law_pick T) (hr.mono (by decide)) (by rfl) (takes_of rfl rfl rfl rfl) (fa_cons fe_int fa_nil))))))
theorem c__law_some_lots (T : Tp fa fn tf K mg base) : Cal P w K mg base "_law_some_lots" 2 ["_law_draw", "_law_most_here", "_law_days", "_law_scale"] (spI (He.ga K) 4 F_l_some_lots) := by
  refine cal_io (x := "_law_some_lots") (sd := s__law_some_lots) (N := ["_law_draw", "_law_most_here", "_law_days", "_law_scale", "_law_dear", "_law_found", "_law_k", "_law_day", "_law_count"]) (ps := ["_law_draw", "_law_most_here", "_law_days", "_law_scale"]) (k := 1) (g := g_l_some_lots) T.toTop 57 25 rfl rfl sc__law_some_lots (fun _ _ _ _ _ _ => ln4 fun _ _ _ _ => by kernel_rfl) (fun cdv A outer s H E hr => ?_)
  exact (fss_cons (fs_set 4 sc__law_some_lots.nd (by decide) (fe_ix (eO (fe_tup (fa_cons fe_int (fa_cons fe_int (fa_cons fe_int (fa_cons (fe_pow (eO fe_int) (eO fe_int)) fa_nil)))))) (eO (fe_calI 0 (c__law_pick T) (hr.mono (by decide)) (by rfl) (takes_of rfl rfl rfl rfl) (fa_cons fe_int fa_nil)))))
      (fss_cons (fs_setL 5 sc__law_some_lots.nd (by decide) (fl_lst fa_nil))
      (fss_cons (fs_for (passes_of rfl) rfl (by decide) (fi_rng1 (by rfl) (T.free 17) (fa_cons (fe_calI 0 (c__law_pick T) (hr.mono (by decide)) (by rfl) (takes_of rfl rfl rfl rfl) (fa_cons (fe_add (vO 1) (eO fe_int)) fa_nil)) fa_nil)) (fg_name 6 sc__law_some_lots.nd) (fss_cons (fs_set 7 sc__law_some_lots.nd (by decide) (fe_add (eO (fe_ix (vO 2) (eO fe_int))) (eO (fe_calI 0 (c__law_pick T) (hr.mono (by decide)) (by rfl) (takes_of rfl rfl rfl rfl) (fa_cons (fe_ix (vO 2) (eO fe_int)) fa_nil)))))
      (fss_cons (fs_set 8 sc__law_some_lots.nd (by decide) (fe_add (eO fe_int) (eO (fe_calI 0 (c__law_pick T) (hr.mono (by decide)) (by rfl) (takes_of rfl rfl rfl rfl) (fa_cons (fe_var 3) fa_nil)))))
      (fss_one (fs_append 5 (fe_tup (fa_cons (fe_var 7) (fa_cons (fe_var 8) (fa_cons (fe_add (eO fe_int) (eO (fe_calI 0 (c__law_pick T) (hr.mono (by decide)) (by rfl) (takes_of rfl rfl rfl rfl) (fa_cons (fe_var 4) fa_nil)))) fa_nil)))))))))
      (fss_one (fs_retV0 5 rfl (by decide))))))
theorem c__law_some_outs (T : Tp fa fn tf K mg base) : Cal P w K mg base "_law_some_outs" 2 ["_law_draw", "_law_most_here", "_law_days", "_law_scale"] (spI (He.ga K) 4 F_l_some_outs) := by
  refine cal_io (x := "_law_some_outs") (sd := s__law_some_outs) (N := ["_law_draw", "_law_most_here", "_law_days", "_law_scale", "_law_found", "_law_k", "_law_day"]) (ps := ["_law_draw", "_law_most_here", "_law_days", "_law_scale"]) (k := 1) (g := g_l_some_outs) T.toTop 58 26 rfl rfl sc__law_some_outs (fun _ _ _ _ _ _ => ln4 fun _ _ _ _ => by kernel_rfl) (fun cdv A outer s H E hr => ?_)
  exact (fss_cons (fs_setL 4 sc__law_some_outs.nd (by decide) (fl_lst fa_nil))
      (fss_cons (fs_for (passes_of rfl) rfl (by decide) (fi_rng1 (by rfl) (T.free 17) (fa_cons (fe_calI 0 (c__law_pick T) (hr.mono (by decide)) (by rfl) (takes_of rfl rfl rfl rfl) (fa_cons (fe_add (vO 1) (eO fe_int)) fa_nil)) fa_nil)) (fg_name 5 sc__law_some_outs.nd) (fss_cons (fs_set 6 sc__law_some_outs.nd (by decide) (fe_add (eO (fe_ix (vO 2) (eO fe_int))) (eO (fe_calI 0 (c__law_pick T) (hr.mono (by decide)) (by rfl) (takes_of rfl rfl rfl rfl) (fa_cons (fe_ix (vO 2) (eO fe_int)) fa_nil)))))
      (fss_one (fs_append 4 (fe_tup (fa_cons (fe_var 6) (fa_cons (fe_add (eO fe_int) (eO (fe_calI 0 (c__law_pick T) (hr.mono (by decide)) (by rfl) (takes_of rfl rfl rfl rfl) (fa_cons (fe_var 3) fa_nil)))) fa_nil)))))))
      (fss_one (fs_retV0 4 rfl (by decide)))))
theorem c__law_case (T : Tp fa fn tf K mg base) : Cal P w K mg base "_law_case" 3 ["_law_draw", "_law_most_here"] (spI (He.ga K) 2 F_l_case) := by
  refine cal_io (x := "_law_case") (sd := s__law_case) (N := ["_law_draw", "_law_most_here", "_law_days", "_law_term", "_law_scale", "_law_lots"]) (ps := ["_law_draw", "_law_most_here"]) (k := 2) (g := g_l_case) T.toTop 59 27 rfl rfl sc__law_case (fun _ _ _ _ _ _ => ln2 fun _ _ => by kernel_rfl) (fun cdv A outer s H E hr => ?_)
  exact (fss_cons (fs_set 2 sc__law_case.nd (by decide) (fe_calI 0 (c__law_span T) (hr.mono (by decide)) (by rfl) (takes_of rfl rfl rfl rfl) fa_nil))
      (fss_cons (fs_set 3 sc__law_case.nd (by decide) (fe_calI 0 (c__law_some_term T) (hr.mono (by decide)) (by rfl) (takes_of rfl rfl rfl rfl) fa_nil))
      (fss_cons (fs_set 4 sc__law_case.nd (by decide) (fe_ix (eO (fe_tup (fa_cons fe_int (fa_cons fe_int (fa_cons fe_int (fa_cons (fe_pow (eO fe_int) (eO fe_int)) fa_nil)))))) (eO (fe_calI 0 (c__law_pick T) (hr.mono (by decide)) (by rfl) (takes_of rfl rfl rfl rfl) (fa_cons fe_int fa_nil)))))
      (fss_cons (fs_set 5 sc__law_case.nd (by decide) (fe_calI 0 (c__law_some_lots T) (hr.mono (by decide)) (by rfl) (takes_of rfl rfl rfl rfl) (fa_cons (fe_var 1) (fa_cons (fe_var 2) (fa_cons (fe_var 4) fa_nil)))))
      (fss_one (fs_ret (fe_tup (fa_cons (fe_var 5) (fa_cons (fe_calI 0 (c__law_some_outs T) (hr.mono (by decide)) (by rfl) (takes_of rfl rfl rfl rfl) (fa_cons (fe_var 1) (fa_cons (fe_var 2) (fa_cons (fe_var 4) fa_nil)))) (fa_cons (fe_var 3) fa_nil))))))))))
theorem c__law_dearest (T : Tp fa fn tf K mg base) : Cal P w K mg base "_law_dearest" 1 ["_law_lots"] (spP (He.ga K) 1 F_l_dearest) := by
  refine cal_pureT (x := "_law_dearest") (sd := s__law_dearest) (N := ["_law_lots"]) (ps := ["_law_lots"]) (k := 0) (g := g_l_dearest) T.toTop 60 28 rfl rfl sc__law_dearest (fun _ _ _ _ _ _ => ln1 fun _ => by kernel_rfl) (fun cdv ci A outer s H E hr => ?_)
  exact (fss_one (fs_retL rfl (fl_sortK (kx := [.neg 2, .col 0, .pl]) (r := "_law_lots") (a := "_law_at") 0 rfl (.cons (kx_neg (by decide)) (.cons (kx_col (by decide)) (.cons kx_pl .nil))) (by decide) (by decide) (by rfl) (T.free 18) hr (T.tbs "_law_dearest" (show ("_law_dearest" : Str) ∈ tf by decide +kernel)) (cd_code ci) (tp_tab T (show ("_law_dearest" : Str) ∈ tf by decide +kernel)).1 (tp_tab T (show ("_law_dearest" : Str) ∈ tf by decide +kernel)).2 rfl (fun _ _ _ _ _ _ => rfl) rfl rfl rfl (by decide +kernel) rfl rfl (by decide +kernel) rfl (fe_ofL (fl_lrange1 rfl (by rfl) (T.free 16) (by rfl) (T.free 17) (fe_len (by rfl) (T.free 12) (oa_cons (vO 0) oa_nil)))))))
theorem c__law_eldest (T : Tp fa fn tf K mg base) : Cal P w K mg base "_law_eldest" 1 ["_law_rows"] (spP (He.ga K) 1 F_l_eldest) := by
  refine cal_pureT (x := "_law_eldest") (sd := s__law_eldest) (N := ["_law_rows"]) (ps := ["_law_rows"]) (k := 0) (g := g_l_eldest) T.toTop 61 29 rfl rfl sc__law_eldest (fun _ _ _ _ _ _ => ln1 fun _ => by kernel_rfl) (fun cdv ci A outer s H E hr => ?_)
  exact (fss_one (fs_retL rfl (fl_sortK (kx := [.col 0, .pl]) (r := "_law_rows") (a := "_law_at") 0 rfl (.cons (kx_col (by decide)) (.cons kx_pl .nil)) (by decide) (by decide) (by rfl) (T.free 18) hr (T.tbs "_law_eldest" (show ("_law_eldest" : Str) ∈ tf by decide +kernel)) (cd_code ci) (tp_tab T (show ("_law_eldest" : Str) ∈ tf by decide +kernel)).1 (tp_tab T (show ("_law_eldest" : Str) ∈ tf by decide +kernel)).2 rfl (fun _ _ _ _ _ _ => rfl) rfl rfl rfl (by decide +kernel) rfl rfl (by decide +kernel) rfl (fe_ofL (fl_lrange1 rfl (by rfl) (T.free 16) (by rfl) (T.free 17) (fe_len (by rfl) (T.free 12) (oa_cons (vO 0) oa_nil)))))))
theorem c__law_deal (T : Tp fa fn tf K mg base) : Cal P w K mg base "_law_deal" 2 ["_law_lots", "_law_outs", "_law_term", "_law_taken"] (spP (He.ga K) 4 F_l_deal) := by
  refine cal_pure (x := "_law_deal") (sd := s__law_deal) (N := ["_law_lots", "_law_outs", "_law_term", "_law_taken", "_law_left", "_law_found", "_law_order", "_law_out", "_law_day", "_law_count", "_law_lot", "_law_some"]) (ps := ["_law_lots", "_law_outs", "_law_term", "_law_taken"]) (k := 1) (g := g_l_deal) T.toTop 62 30 rfl rfl sc__law_deal (fun _ _ _ _ _ _ => ln4 fun _ _ _ _ => by kernel_rfl) (fun cdv A outer s H E hr => ?_)
  exact (fss_cons (fs_setL 4 sc__law_deal.nd (by decide) (fl_list (by rfl) (T.free 16) (oa_cons (vO 3) oa_nil)))
      (fss_cons (fs_setL 5 sc__law_deal.nd (by decide) (fl_lst fa_nil))
      (fss_cons (fs_set 6 sc__law_deal.nd (by decide) (fe_ofL (fl_cal (c__law_eldest T) (hr.mono (by decide)) (by rfl) (takes_of rfl rfl rfl rfl) (fa_cons (fe_var 0) fa_nil))))
      (fss_cons (fs_for (passes_of rfl) rfl (by decide) (fi_list (fe_ofL (fl_cal (c__law_eldest T) (hr.mono (by decide)) (by rfl) (takes_of rfl rfl rfl rfl) (fa_cons (fe_var 1) fa_nil)))) (fg_name 7 sc__law_deal.nd) (fss_cons (fs_asg (by decide) (fe_ix (vO 1) (vO 7)) (fg_tup rfl (fgs_cons (fg_name 8 sc__law_deal.nd) (fgs_cons (fg_name 9 sc__law_deal.nd) fgs_nil)) (gs_len (gs_len gs_len0))))
      (fss_one (fs_for (passes_of rfl) rfl (by decide) (fi_list (fe_var 6)) (fg_name 10 sc__law_deal.nd) (fss_cons (fs_set 11 sc__law_deal.nd (by decide) (fe_min2 rfl (by rfl) (T.free 22) (oa_cons (vO 9) (oa_cons (eO (fe_ix (vO 4) (vO 10))) oa_nil))))
      (fss_one (fs_if (ft_pw (fw_and (ft_cmp op_gt rd_gt (vO 11) (eO fe_int) (nomark _)) (fw_and (ft_cmp op_le rd_le (eO (fe_sub (vO 8) (vO 2))) (eO (fe_ix (eO (fe_ix (vO 0) (vO 10))) (eO fe_int))) (nomark _)) (fw_and1 (ft_cmp op_le rd_le (eO (fe_ix (eO (fe_ix (vO 0) (vO 10))) (eO fe_int))) (vO 8) (nomark _)))))) (fss_cons (fs_append 5 (fe_tup (fa_cons (fe_var 10) (fa_cons (fe_var 7) (fa_cons (fe_var 11) fa_nil)))))
      (fss_cons (fs_setIx 4 (fe_sub (eO (fe_ix (vO 4) (vO 10))) (vO 11)) (fe_var 10))
      (fss_one (fs_set 9 sc__law_deal.nd (by decide) (fe_sub (vO 9) (vO 11)))))) fss_nil)))))))
      (fss_one (fs_ret (fe_tup (fa_cons (fe_var 5) (fa_cons (fe_sum rfl (by rfl) (T.free 19) (oa_cons (vO 4) oa_nil)) fa_nil)))))))))
theorem c__law_most (T : Tp fa fn tf K mg base) : Cal P w K mg base "_law_most" 3 ["_law_lots", "_law_outs", "_law_term", "_law_taken", "_law_at"] (spP (He.ga K) 5 F_l_most) := by
  refine cal_pure (x := "_law_most") (sd := s__law_most) (N := ["_law_lots", "_law_outs", "_law_term", "_law_taken", "_law_at", "_law_low", "_law_high", "_law_middle", "_law_tried"]) (ps := ["_law_lots", "_law_outs", "_law_term", "_law_taken", "_law_at"]) (k := 2) (g := g_l_most) T.toTop 63 31 rfl rfl sc__law_most (fun _ _ _ _ _ _ => ln5 fun _ _ _ _ _ => by kernel_rfl) (fun cdv A outer s H E hr => ?_)
  exact (fss_cons (fs_set 5 sc__law_most.nd (by decide) fe_int)
      (fss_cons (fs_set 6 sc__law_most.nd (by decide) (fe_sub (eO (fe_ix (eO (fe_ix (vO 0) (vO 4))) (eO fe_int))) (eO (fe_ix (vO 3) (vO 4)))))
      (fss_cons (fs_while 1000 (passes_of rfl) (ft_cmp op_lt rd_lt (vO 5) (vO 6) (nomark _)) (fss_cons (fs_set 7 sc__law_most.nd (by decide) (fe_div (eO (fe_add (eO (fe_add (vO 5) (vO 6))) (eO fe_int))) (eO fe_int)))
      (fss_cons (fs_set 8 sc__law_most.nd (by decide) (fe_ofL (fl_cat (eO (fe_ofL (fl_cat (eO (fe_ofL (fl_slice (vO 3) fp_none (fp_some (fe_var 4))))) (eO (fe_ofL (fl_lst (fa_cons (fe_add (eO (fe_ix (vO 3) (vO 4))) (vO 7)) fa_nil))))))) (eO (fe_ofL (fl_slice (vO 3) (fp_some (fe_add (vO 4) (eO fe_int))) fp_none))))))
      (fss_one (fs_if (ft_cmp (op_EQ (u64s hr)) rd_EQ (eO (fe_ix (eO (fe_cal (c__law_deal T) (hr.mono (by decide)) (by rfl) (takes_of rfl rfl rfl rfl) (fa_cons (fe_var 0) (fa_cons (fe_var 1) (fa_cons (fe_var 2) (fa_cons (fe_var 8) fa_nil)))))) (eO fe_int))) (eO fe_int) (nomark _)) (fss_one (fs_set 5 sc__law_most.nd (by decide) (fe_var 7))) (fss_one (fs_set 6 sc__law_most.nd (by decide) (fe_sub (vO 7) (eO fe_int)))))))))
      (fss_one (fs_retV 5 rfl)))))
theorem c__law_best (T : Tp fa fn tf K mg base) : Cal P w K mg base "_law_best" 4 ["_law_lots", "_law_outs", "_law_term"] (spP (He.ga K) 3 F_l_best) := by
  refine cal_pure (x := "_law_best") (sd := s__law_best) (N := ["_law_lots", "_law_outs", "_law_term", "_law_taken", "_law_at"]) (ps := ["_law_lots", "_law_outs", "_law_term"]) (k := 3) (g := g_l_best) T.toTop 64 32 rfl rfl sc__law_best (fun _ _ _ _ _ _ => ln3 fun _ _ _ => by kernel_rfl) (fun cdv A outer s H E hr => ?_)
  exact (fss_cons (fs_setL 3 sc__law_best.nd (by decide) (fl_rep (eO (fe_ofL (fl_lst (fa_cons fe_int fa_nil)))) (eO (fe_len (by rfl) (T.free 12) (oa_cons (vO 0) oa_nil)))))
      (fss_cons (fs_for (passes_of rfl) rfl (by decide) (fi_list (fe_ofL (fl_cal (c__law_dearest T) (hr.mono (by decide)) (by rfl) (takes_of rfl rfl rfl rfl) (fa_cons (fe_var 0) fa_nil)))) (fg_name 4 sc__law_best.nd) (fss_one (fs_setIx 3 (fe_calP runP_len (c__law_most T) (hr.mono (by decide)) (by rfl) (takes_of rfl rfl rfl rfl) (oa_cons (vO 0) (oa_cons (vO 1) (oa_cons (vO 2) (oa_cons (vO 3) (oa_cons (vO 4) oa_nil)))))) (fe_var 4))))
      (fss_one (fs_retV 3 rfl))))
theorem cr__law_same (T : Tp fa fn tf K mg base) : ∀ n, Cal P w K mg base "_law_same" n ["_law_found", "_law_due"] (spP (He.ga K) 2 (F_l_same_at n))
  | 0 => cal_bad T.toTop 65 33 rfl rfl (fun _ _ _ _ _ _ => ln2 fun _ _ => by kernel_rfl) 0
  | n + 1 => by
    have ih : Cal P w K mg base "_law_same" n ["_law_found", "_law_due"] (spP (He.ga K) 2 (F_l_same_at n)) := cr__law_same T n
    refine cal_pure (x := "_law_same") (sd := s__law_same) (N := ["_law_found", "_law_due", "_law_one", "_law_other"]) (ps := ["_law_found", "_law_due"]) (k := n) (g := (g_l_same (F_l_same_at n))) T.toTop 65 33 rfl rfl sc__law_same (fun _ _ _ _ _ _ => ln2 fun _ _ => by kernel_rfl) (fun cdv A outer s H E hr => ?_)
    exact (fss_cons (fs_if (ft_isN (vO 1)) (fss_one (fs_ret (fe_isN (vO 0)))) fss_nil)
      (fss_cons (fs_if (ft_pw (fw_or (ft_val (fe_isi (T := "bool") rfl (by rfl) (T.free 25) (by rfl) (T.free 26) (by decide +kernel) (vO 1))) (fw_or1 (ft_val (fe_isi (T := "bool") rfl (by rfl) (T.free 25) (by rfl) (T.free 26) (by decide +kernel) (vO 0)))))) (fss_one (fs_ret (fe_and (fe_isi (T := "bool") rfl (by rfl) (T.free 25) (by rfl) (T.free 26) (by decide +kernel) (vO 1)) (fe_and (fe_isi (T := "bool") rfl (by rfl) (T.free 25) (by rfl) (T.free 26) (by decide +kernel) (vO 0)) (fe_one (fe_cmp (op_EQ (u64s hr)) rd_EQ (vO 0) (vO 1) (nomark _))))))) fss_nil)
      (fss_cons (fs_if (ft_val (fe_isi2 (T := "int") (U := "str") rfl rfl (by rfl) (T.free 25) (by rfl) (T.free 27) (by decide +kernel) (by rfl) (T.free 28) (by decide +kernel) (vO 1))) (fss_one (fs_ret (fe_and (fe_cmp (op_EQ (u64s hr)) rd_EQ (eO (fe_isi (T := "int") rfl (by rfl) (T.free 25) (by rfl) (T.free 27) (by decide +kernel) (vO 0))) (eO (fe_isi (T := "int") rfl (by rfl) (T.free 25) (by rfl) (T.free 27) (by decide +kernel) (vO 1))) (nomark _)) (fe_and (fe_isi2 (T := "int") (U := "str") rfl rfl (by rfl) (T.free 25) (by rfl) (T.free 27) (by decide +kernel) (by rfl) (T.free 28) (by decide +kernel) (vO 0)) (fe_one (fe_cmp (op_EQ (u64s hr)) rd_EQ (vO 0) (vO 1) (nomark _))))))) fss_nil)
      (fss_cons (fs_if (ft_pw (fw_or (ft_cmp (op_NE (u64s hr)) rd_NE (eO (fe_isi (T := "list") rfl (by rfl) (T.free 25) (by rfl) (T.free 16) (by decide +kernel) (vO 0))) (eO (fe_isi (T := "list") rfl (by rfl) (T.free 25) (by rfl) (T.free 16) (by decide +kernel) (vO 1))) (nomark _)) (fw_or1 (ft_cmp (op_NE (u64s hr)) rd_NE (eO (fe_isi (T := "tuple") rfl (by rfl) (T.free 25) (by rfl) (T.free 29) (by decide +kernel) (vO 0))) (eO (fe_isi (T := "tuple") rfl (by rfl) (T.free 25) (by rfl) (T.free 29) (by decide +kernel) (vO 1))) (nomark _))))) (fss_one (fs_ret fe_bool)) fss_nil)
      (fss_cons (fs_if (ft_cmp (op_NE (u64s hr)) rd_NE (eO (fe_len (by rfl) (T.free 12) (oa_cons (vO 0) oa_nil))) (eO (fe_len (by rfl) (T.free 12) (oa_cons (vO 1) oa_nil))) (nomark _)) (fss_one (fs_ret fe_bool)) fss_nil)
      (fss_one (fs_ret (fe_all rfl (by rfl) (T.free 31) (oa_cons (eO (fe_ofL (fl_lc (own := [("_law_one", 2), ("_law_other", 3)]) rfl sc__law_same.nd (blkOk_by (own := [("_law_one", 2), ("_law_other", 3)]) (N := ["_law_found", "_law_due", "_law_one", "_law_other"]) (sc := (defScope s__law_same)) (by decide +kernel)) (by decide) (fi_zip (by rfl) (T.free 30) (fa_cons (fe_var 0) (fa_cons (fe_var 1) fa_nil))) (fun _ _ _ _ _ => (fg_tup rfl (fgs_cons (fg_name 2 sc__law_same.nd) (fgs_cons (fg_name 3 sc__law_same.nd) fgs_nil)) (gs_len (gs_len gs_len0)))) (fun _ _ _ _ _ => fts_nil) (fun _ _ _ _ _ => (fe_calF (F_l_same_len n) ih (hr.mono (Nat.le_refl _)) (by rfl) takes0 (fa_cons (fe_var 2) (fa_cons (fe_var 3) fa_nil))))))) oa_nil)))))))))
theorem c__law_same (T : Tp fa fn tf K mg base) : Cal P w K mg base "_law_same" 8 ["_law_found", "_law_due"] (spP (He.ga K) 2 F_l_same) := cr__law_same T 8
theorem c__law_paper_so (T : Tp fa fn tf K mg base) : Cal P w K mg base "_law_paper_so" 1 ["_law_lots", "_law_outs", "_law_term", "_law_paper"] (spP (He.ga K) 4 F_l_paper_so) := by
  refine cal_pure (x := "_law_paper_so") (sd := s__law_paper_so) (N := ["_law_lots", "_law_outs", "_law_term", "_law_paper", "_law_duty", "_law_units", "_law_stretches", "_law_found", "_law_ahead", "_law_first", "_law_last", "_law_day", "_law_count", "_law_own", "_law_inside", "_law_one"]) (ps := ["_law_lots", "_law_outs", "_law_term", "_law_paper"]) (k := 0) (g := g_l_paper_so) T.toTop 66 34 rfl rfl sc__law_paper_so (fun _ _ _ _ _ _ => ln4 fun _ _ _ _ => by kernel_rfl) (fun cdv A outer s H E hr => ?_)
  exact (fss_cons (fs_asg (by decide) (fe_var 3) (fg_tup rfl (fgs_cons (fg_name 4 sc__law_paper_so.nd) (fgs_cons (fg_name 5 sc__law_paper_so.nd) (fgs_cons (fg_name 6 sc__law_paper_so.nd) fgs_nil))) (gs_len (gs_len (gs_len gs_len0)))))
      (fss_cons (fs_set 7 sc__law_paper_so.nd (by decide) fe_int)
      (fss_cons (fs_set 8 sc__law_paper_so.nd (by decide) fe_int)
      (fss_cons (fs_for (passes_of rfl) rfl (by decide) (fi_list (fe_var 6)) (fg_tup rfl (fgs_cons (fg_name 9 sc__law_paper_so.nd) (fgs_cons (fg_name 10 sc__law_paper_so.nd) fgs_nil)) (gs_len (gs_len gs_len0))) (fss_cons (fs_if (ft_pw (fw_or (ft_not (ft_cmp op_lt rd_lt (vO 8) (vO 9) (nomark _))) (fw_or (ft_not (ft_cmp op_le rd_le (vO 9) (vO 10) (nomark _))) (fw_or1 (ft_cmp op_gt rd_gt (vO 10) (eO fe_int) (nomark _)))))) (fss_one (fs_ret fe_bool)) fss_nil)
      (fss_cons (fs_set 7 sc__law_paper_so.nd (by decide) (fe_add (vO 7) (eO (fe_sum rfl (by rfl) (T.free 19) (oa_cons (eO (fe_ofL (fl_lc (own := [("_law_day", 11), ("_law_count", 12)]) rfl sc__law_paper_so.nd (blkOk_by (own := [("_law_day", 11), ("_law_count", 12)]) (N := ["_law_lots", "_law_outs", "_law_term", "_law_paper", "_law_duty", "_law_units", "_law_stretches", "_law_found", "_law_ahead", "_law_first", "_law_last", "_law_day", "_law_count", "_law_own", "_law_inside", "_law_one"]) (sc := (defScope s__law_paper_so)) (by decide +kernel)) (by decide) (fi_list (fe_var 1)) (fun _ _ _ _ _ => (fg_tup rfl (fgs_cons (fg_name 11 sc__law_paper_so.nd) (fgs_cons (fg_name 12 sc__law_paper_so.nd) fgs_nil)) (gs_len (gs_len gs_len0)))) (fun _ _ _ _ _ => (fts_one (ft_pw (fw_and (ft_cmp op_le rd_le (vO 9) (vO 11) (nomark _)) (fw_and1 (ft_cmp op_le rd_le (vO 11) (eO (fe_add (vO 10) (vO 2))) (nomark _))))))) (fun _ _ _ _ _ => (fe_var 12))))) oa_nil)))))
      (fss_one (fs_set 8 sc__law_paper_so.nd (by decide) (fe_var 10))))))
      (fss_cons (fs_for (passes_of rfl) rfl (by decide) (fi_list (fe_var 0)) (fg_tup rfl (fgs_cons (fg_name 11 sc__law_paper_so.nd) (fgs_cons (fg_name 12 sc__law_paper_so.nd) (fgs_cons (fg_name 13 sc__law_paper_so.nd) fgs_nil))) (gs_len (gs_len (gs_len gs_len0)))) (fss_cons (fs_setLc 14 (own := [("_law_one", 15)]) rfl sc__law_paper_so.nd (by decide) rfl rfl (sw_true rfl rfl rfl (by decide +kernel)) (blkOk_by (own := [("_law_one", 15)]) (N := ["_law_lots", "_law_outs", "_law_term", "_law_paper", "_law_duty", "_law_units", "_law_stretches", "_law_found", "_law_ahead", "_law_first", "_law_last", "_law_day", "_law_count", "_law_own", "_law_inside", "_law_one"]) (sc := (defScope s__law_paper_so)) (by decide +kernel)) (by decide) (fi_list (fe_var 6)) (fun _ _ _ _ _ => (fg_name 15 sc__law_paper_so.nd)) (fun _ _ _ _ _ => (fts_one (ft_pw (fw_and (ft_cmp op_le rd_le (eO (fe_ix (vO 15) (eO fe_int))) (vO 11) (nomark _)) (fw_and1 (ft_cmp op_le rd_le (vO 11) (eO (fe_ix (vO 15) (eO fe_int))) (nomark _))))))) (fun _ _ _ _ _ => (fe_var 15)))
      (fss_one (fs_set 7 sc__law_paper_so.nd (by decide) (fe_add (vO 7) (eO (fe_mul (vO 12) (eO (fe_int1 (by rfl) (T.free 27) (oa_cons (eO (fe_and (fe_cmp op_ge rd_ge (vO 13) (vO 4) (nomark _)) (fe_one (fe_cmp (op_EQ (u64s hr)) rd_EQ (vO 14) (eO (fe_ofL (fl_lst fa_nil))) (nomark _))))) oa_nil))))))))))
      (fss_one (fs_ret (fe_cmp (op_EQ (u64s hr)) rd_EQ (vO 7) (vO 5) (nomark _)))))))))
theorem c_papers_of_vT (T : Tp fa fn tf K mg base) : Cal P w K mg base "papers_of" 6 ["lots", "outs", "term"] (spT (He.ga K) 3 F_papers_of_vT) := by
  refine cal_T (x := "papers_of") (sd := s_papers_of_vT) (N := ["lots", "outs", "term", "taken", "found", "duty", "lot", "places", "at", "dear", "some"]) (ps := ["lots", "outs", "term"]) (k := 5) (g := g_papers_of_vT) [0, 0, 0] [] T.toTop 51 19 rfl rfl sc_papers_of_vT rfl (pn_ok (by decide)) (fun _ _ _ _ _ _ => ln3 fun _ _ _ => by kernel_rfl) (fun cdv A outer s H E hr => ?_)
  exact (fss_cons (fs_set 3 sc_papers_of_vT.nd (by decide) (fe_ofL (fl_cal (c_best_counts T) (hr.mono (by decide)) (by rfl) (takes_of rfl rfl rfl rfl) (fa_cons (fe_var 0) (fa_cons (fe_var 1) (fa_cons (fe_var 2) fa_nil))))))
      (fss_cons (fs_setT 4 sc_papers_of_vT.nd (by decide) (fn_lstT pa_tnil))
      (fss_cons (fs_for (passes_of rfl) rfl (by decide) (fi_list (fe_ofL (fl_rev (fe_ofL (fl_sortU rfl (by rfl) (T.free 18) (by rfl) (T.free 20) (fe_ofL (fl_lc (own := [("lot", 6)]) rfl sc_papers_of_vT.nd (blkOk_by (own := [("lot", 6)]) (N := ["lots", "outs", "term", "taken", "found", "duty", "lot", "places", "at", "dear", "some"]) (sc := (defScope s_papers_of_vT)) (by decide +kernel)) (by decide) (fi_list (fe_var 0)) (fun _ _ _ _ _ => (fg_name 6 sc_papers_of_vT.nd)) (fun _ _ _ _ _ => fts_nil) (fun _ _ _ _ _ => (fe_ix (vO 6) (eO fe_int)))))))))) (fg_name 5 sc_papers_of_vT.nd) (fss_cons (fs_setLc 7 (own := [("at", 8)]) rfl sc_papers_of_vT.nd (by decide) rfl rfl (sw_true rfl rfl rfl (by decide +kernel)) (blkOk_by (own := [("at", 8)]) (N := ["lots", "outs", "term", "taken", "found", "duty", "lot", "places", "at", "dear", "some"]) (sc := (defScope s_papers_of_vT)) (by decide +kernel)) (by decide) (fi_rng1 (by rfl) (T.free 17) (fa_cons (fe_len (by rfl) (T.free 12) (oa_cons (vO 0) oa_nil)) fa_nil)) (fun _ _ _ _ _ => (fg_name 8 sc_papers_of_vT.nd)) (fun _ _ _ _ _ => (fts_one (ft_cmp op_ge rd_ge (eO (fe_ix (eO (fe_ix (vO 0) (vO 8))) (eO fe_int))) (vO 5) (nomark _)))) (fun _ _ _ _ _ => (fe_var 8)))
      (fss_cons (fs_setLc 9 (own := [("at", 8)]) rfl sc_papers_of_vT.nd (by decide) rfl rfl (sw_true rfl rfl rfl (by decide +kernel)) (blkOk_by (own := [("at", 8)]) (N := ["lots", "outs", "term", "taken", "found", "duty", "lot", "places", "at", "dear", "some"]) (sc := (defScope s_papers_of_vT)) (by decide +kernel)) (by decide) (fi_list (fe_var 7)) (fun _ _ _ _ _ => (fg_name 8 sc_papers_of_vT.nd)) (fun _ _ _ _ _ => fts_nil) (fun _ _ _ _ _ => (fe_ix (vO 0) (vO 8))))
      (fss_cons (fs_setLc 10 (own := [("at", 8)]) rfl sc_papers_of_vT.nd (by decide) rfl rfl (sw_true rfl rfl rfl (by decide +kernel)) (blkOk_by (own := [("at", 8)]) (N := ["lots", "outs", "term", "taken", "found", "duty", "lot", "places", "at", "dear", "some"]) (sc := (defScope s_papers_of_vT)) (by decide +kernel)) (by decide) (fi_list (fe_var 7)) (fun _ _ _ _ _ => (fg_name 8 sc_papers_of_vT.nd)) (fun _ _ _ _ _ => fts_nil) (fun _ _ _ _ _ => (fe_ix (vO 3) (vO 8))))
      (fss_one (fs_appN 4 (fn_tupT (pa_tcons (fn_E (fe_var 5)) (pa_tcons (fn_E (fe_sum rfl (by rfl) (T.free 19) (oa_cons (vO 10) oa_nil))) (pa_tcons (fn_L (fl_cal (c_barring T) (hr.mono (by decide)) (by rfl) (takes_of rfl rfl rfl rfl) (fa_cons (fe_var 9) (fa_cons (fe_var 1) (fa_cons (fe_var 2) (fa_cons (fe_var 10) fa_nil)))))) pa_tnil))))))))))
      (fss_one (fs_retG 4)))))
theorem c_papers_vT (T : Tp fa fn tf K mg base) : Cal P w K mg base "papers" 7 ["lots", "outs", "term"] (spT (He.ga K) 3 F_papers_vT) := by
  refine cal_T (x := "papers") (sd := s_papers_vT) (N := ["lots", "outs", "term", "mine", "theirs"]) (ps := ["lots", "outs", "term"]) (k := 6) (g := g_papers_vT) [0, 0, 0] [] T.toTop 52 20 rfl rfl sc_papers_vT rfl (pn_ok (by decide)) (fun _ _ _ _ _ _ => ln3 fun _ _ _ => by kernel_rfl) (fun cdv A outer s H E hr => ?_)
  exact (fss_cons (fs_set 3 sc_papers_vT.nd (by decide) (fe_ofL (fl_cal (c_checked_lots T) (hr.mono (by decide)) (by rfl) (takes_of rfl rfl rfl rfl) (fa_cons (fe_var 0) fa_nil))))
      (fss_cons (fs_set 4 sc_papers_vT.nd (by decide) (fe_ofL (fl_cal (c_checked_outs T) (hr.mono (by decide)) (by rfl) (takes_of rfl rfl rfl rfl) (fa_cons (fe_var 1) fa_nil))))
      (fss_cons (fs_expr (fe_cal (c_need_term T) (hr.mono (by decide)) (by rfl) (takes_of rfl rfl rfl rfl) (fa_cons (fe_var 2) fa_nil)))
      (fss_one (fs_retT (fn_R (fr_callG (fun as h => runT_len as h) (c_papers_of_vT T) (hr.mono (by decide)) (by rfl) (takes_of rfl rfl rfl rfl) (ga_cons (gE (fe_var 3)) (ga_cons (gE (fe_var 4)) (ga_cons (gE (fe_var 2)) ga_nil))))))))))
theorem c_law (T : Tp fa fn tf K mg base) : FnOk P w K mg base CX0 10 (He.ga K "law") (fdOf K "law") ["_law_script"] (spLaw K 18 g_law) := by
  refine ok_law (st := (defBody s_law).head (by decide)) (rest := (defBody s_law).tail) (T.def_ (x := "law") (st := s_law) 35) sc_law (by decide) rfl (fun cdv A outer s H E hr => ?_) (fun cdv A outer s H E hr => ?_)
  · obtain ⟨f, fd, F, hm, hk, hb⟩ := c__law_begin (P := P) (w := w) (base := base) T
    exact ps_set (i := 1) sc_law.nd rfl (Or.inl rfl) (pe_callS F (hr.mono (by decide)) (by rfl) hm hk hb (fun σ => passAt takes0 σ) (pa_cons (pv 0) pa_nil))
  · exact (fss_cons (fs_asg (by decide) (fe_calI 1 (c__law_case T) (hr.mono (by decide)) (by rfl) takes0 (fa_cons fe_int fa_nil)) (fg_tup rfl (fgs_cons (fg_name 2 sc_law.nd) (fgs_cons (fg_name 3 sc_law.nd) (fgs_cons (fg_name 4 sc_law.nd) fgs_nil))) (gs_len (gs_len (gs_len gs_len0)))))
      (fss_cons (fs_if (ft_cmp (op_EQ (u64s hr)) rd_EQ (eO (fe_calI 1 (c__law_pick T) (hr.mono (by decide)) (by rfl) takes0 (fa_cons fe_int fa_nil))) (eO fe_int) (nomark _)) (fss_cons (fs_set 5 sc_law.nd (by decide) (fe_calI 1 (c__law_case T) (hr.mono (by decide)) (by rfl) takes0 (fa_cons fe_int fa_nil)))
      (fss_cons (fs_setL 2 sc_law.nd (by decide) (fl_lc (own := [("_law_day", 6), ("_law_count", 7), ("_law_duty", 8)]) rfl sc_law.nd (blkOk_by (own := [("_law_day", 6), ("_law_count", 7), ("_law_duty", 8)]) (N := ["_law_script", "_law_draw", "_law_lots", "_law_outs", "_law_term", "_law_more", "_law_day", "_law_count", "_law_duty", "_law_kept", "_law_most_here", "_law_due", "_law_lot", "_law_at", "_law_turn", "_law_found", "_law_paper", "_law_one"]) (sc := (defScope s_law)) (by decide +kernel)) (by decide) (fi_list (fe_ofL (fl_slice (eO (fe_ofL (fl_cat (vO 2) (eO (fe_ix (vO 5) (eO fe_int)))))) fp_none (fp_some fe_int)))) (fun _ _ _ _ _ => (fg_tup rfl (fgs_cons (fg_name 6 sc_law.nd) (fgs_cons (fg_name 7 sc_law.nd) (fgs_cons (fg_name 8 sc_law.nd) fgs_nil))) (gs_len (gs_len (gs_len gs_len0))))) (fun _ _ _ _ _ => fts_nil) (fun _ _ _ _ _ => (fe_tup (fa_cons (fe_var 6) (fa_cons (fe_var 7) (fa_cons (fe_add (eO fe_int) (eO (fe_mod (vO 8) (eO fe_int)))) fa_nil)))))))
      (fss_one (fs_set 3 sc_law.nd (by decide) (fe_ofL (fl_slice (eO (fe_ofL (fl_cat (vO 3) (eO (fe_ix (vO 5) (eO fe_int)))))) fp_none (fp_some fe_int))))))) fss_nil)
      (fss_cons (fs_set 9 sc_law.nd (by decide) (fe_tup (fa_cons (fe_ofL (fl_list (by rfl) (T.free 16) (oa_cons (vO 2) oa_nil))) (fa_cons (fe_ofL (fl_list (by rfl) (T.free 16) (oa_cons (vO 3) oa_nil))) fa_nil))))
      (fss_cons (fs_set 10 sc_law.nd (by decide) (fe_ofL (fl_cal (c__law_best T) (hr.mono (by decide)) (by rfl) takes0 (fa_cons (fe_var 2) (fa_cons (fe_var 3) (fa_cons (fe_var 4) fa_nil))))))
      (fss_cons (fs_setL 11 sc_law.nd (by decide) (fl_lst fa_nil))
      (fss_cons (fs_for PassesOwn.never rfl (by decide) (fi_list (fe_ofL (fl_rev (fe_ofL (fl_sortU rfl (by rfl) (T.free 18) (by rfl) (T.free 20) (fe_ofL (fl_lc (own := [("_law_lot", 12)]) rfl sc_law.nd (blkOk_by (own := [("_law_lot", 12)]) (N := ["_law_script", "_law_draw", "_law_lots", "_law_outs", "_law_term", "_law_more", "_law_day", "_law_count", "_law_duty", "_law_kept", "_law_most_here", "_law_due", "_law_lot", "_law_at", "_law_turn", "_law_found", "_law_paper", "_law_one"]) (sc := (defScope s_law)) (by decide +kernel)) (by decide) (fi_list (fe_var 2)) (fun _ _ _ _ _ => (fg_name 12 sc_law.nd)) (fun _ _ _ _ _ => fts_nil) (fun _ _ _ _ _ => (fe_ix (vO 12) (eO fe_int)))))))))) (fg_name 8 sc_law.nd) (fss_one (fs_append 11 (fe_tup (fa_cons (fe_var 8) (fa_cons (fe_sum rfl (by rfl) (T.free 19) (oa_cons (eO (fe_ofL (fl_lc (own := [("_law_at", 13)]) rfl sc_law.nd (blkOk_by (own := [("_law_at", 13)]) (N := ["_law_script", "_law_draw", "_law_lots", "_law_outs", "_law_term", "_law_more", "_law_day", "_law_count", "_law_duty", "_law_kept", "_law_most_here", "_law_due", "_law_lot", "_law_at", "_law_turn", "_law_found", "_law_paper", "_law_one"]) (sc := (defScope s_law)) (by decide +kernel)) (by decide) (fi_rng1 (by rfl) (T.free 17) (fa_cons (fe_len (by rfl) (T.free 12) (oa_cons (vO 2) oa_nil)) fa_nil)) (fun _ _ _ _ _ => (fg_name 13 sc_law.nd)) (fun _ _ _ _ _ => (fts_one (ft_cmp op_ge rd_ge (eO (fe_ix (eO (fe_ix (vO 2) (vO 13))) (eO fe_int))) (vO 8) (nomark _)))) (fun _ _ _ _ _ => (fe_ix (vO 10) (vO 13)))))) oa_nil)) fa_nil))))))
      (fss_cons (fs_for PassesOwn.never rfl (by decide) (fi_rng1 (by rfl) (T.free 17) (fa_cons fe_int fa_nil)) (fg_name 14 sc_law.nd) (fss_cons (fs_setT 15 sc_law.nd (by decide) (fn_R (fr_callG (fun as h => runT_len as h) (c_papers_vT T) (hr.mono (by decide)) (by rfl) takes0 (ga_cons (gE (fe_var 2)) (ga_cons (gE (fe_var 3)) (ga_cons (gE (fe_var 4)) ga_nil))))))
      (fss_cons (fs_if (ft_pw (fw_or (ft_not (ft_val (fe_isiP (T := "list") rfl (by rfl) (T.free 25) (by rfl) (T.free 16) (by decide +kernel) (pl_name 15)))) (fw_or1 (ft_not (ft_val (fe_calP (F_l_same_len _) (c__law_same T) (hr.mono (by decide)) (by rfl) takes0 (oa_cons (eO (fe_ofL (fl_lcN 15 16 (own := [("_law_paper", 16)]) rfl sc_law.nd (blkOk_by (own := [("_law_paper", 16)]) (N := ["_law_script", "_law_draw", "_law_lots", "_law_outs", "_law_term", "_law_more", "_law_day", "_law_count", "_law_duty", "_law_kept", "_law_most_here", "_law_due", "_law_lot", "_law_at", "_law_turn", "_law_found", "_law_paper", "_law_one"]) (sc := (defScope s_law)) (by decide +kernel)) (by decide) (by decide) (by decide) (fun _ _ _ _ _ => gn_name 16 sc_law.nd) (fun _ _ _ _ _ => (fe_sliceN (pl_name 16) fp_none (fp_some fe_int)))))) (oa_cons (vO 11) oa_nil)))))))) (fss_one (fs_ret fe_bool)) fss_nil)
      (fss_cons (fs_forN 15 16 PassesOwn.never rfl sc_law.nd (by decide) (by decide) (fss_cons (fs_if (ft_pw (fw_or (ft_not (ft_val (fe_isiP (T := "tuple") rfl (by rfl) (T.free 25) (by rfl) (T.free 29) (by decide +kernel) (pl_name 16)))) (fw_or1 (ft_not (ft_val (fe_q (fe_isi (T := "list") rfl (by rfl) (T.free 25) (by rfl) (T.free 16) (by decide +kernel) (pO (pl_idx (pl_name 16) fe_int))))))))) (fss_one (fs_ret fe_bool)) fss_nil)
      (fss_cons (fs_if (ft_not (ft_val (fe_all rfl (by rfl) (T.free 31) (oa_cons (eO (fe_ofL (fl_brw 15 (fl_lc (own := [("_law_one", 17)]) rfl sc_law.nd (blkOk_by (own := [("_law_one", 17)]) (N := ["_law_script", "_law_draw", "_law_lots", "_law_outs", "_law_term", "_law_more", "_law_day", "_law_count", "_law_duty", "_law_kept", "_law_most_here", "_law_due", "_law_lot", "_law_at", "_law_turn", "_law_found", "_law_paper", "_law_one"]) (sc := (defScope s_law)) (by decide +kernel)) (by decide) (fi_listP (pl_idx (pl_name 16) fe_int)) (fun _ _ _ _ _ => (fg_name 17 sc_law.nd)) (fun _ _ _ _ _ => fts_nil) (fun _ _ _ _ _ => (fe_isi (T := "tuple") rfl (by rfl) (T.free 25) (by rfl) (T.free 29) (by decide +kernel) (vO 17))))))) oa_nil)))) (fss_one (fs_ret fe_bool)) fss_nil)
      (fss_cons (fs_if (ft_not (ft_val (fe_calZG runP_len (c__law_paper_so T) (hr.mono (by decide)) (by rfl) takes0 (ga_cons (gE (fe_var 2)) (ga_cons (gE (fe_var 3)) (ga_cons (gE (fe_var 4)) (ga_cons (gLp (pl_name 16)) ga_nil))))))) (fss_one (fs_ret fe_bool)) fss_nil)
      (fss_one (fs_clearP (pl_idx (pl_name 16) fe_int)))))))
      (fss_one (fs_clrN 15))))))
      (fss_one (fs_ret (fe_cmp (op_EQ (u64s hr)) rd_EQ (eO (fe_tup (fa_cons (fe_var 2) (fa_cons (fe_var 3) fa_nil)))) (vO 9) (nomark _)))))))))))
end
end K16
namespace Mm
open PySem L2 Fx
variable [Tabz]
theorem F_need_day_eq (d : Int) : F_need_day [.int d] = if d < 1 ∨ 999 < d then .exc "BadDay" else .ok (.fz .none) := by
  show toOut (g_need_day _) = _
  by_cases h1 : d < 1
  · simp [g_need_day, h1]
  · by_cases h2 : 999 < d <;> simp [g_need_day, h1, h2]
theorem F_need_term_eq (d : Int) : F_need_term [.int d] = if d < 0 ∨ 400 < d then .exc "BadTerm" else .ok (.fz .none) := by
  show toOut (g_need_term _) = _
  by_cases h1 : d < 0
  · simp [g_need_term, h1]
  · by_cases h2 : 400 < d <;> simp [g_need_term, h1, h2]
theorem F_goes_against_eq (a b d t : Int) : F_goes_against [.tuple [.int a, .int b], .int d, .int t] = .ok (.fz (.bool (decide (a ≤ d ∧ d ≤ b + t)))) := by
  show toOut (g_goes_against _) = _
  by_cases h1 : a ≤ d
  · by_cases h2 : d ≤ b + t <;> simp [g_goes_against, h1, h2]
  · simp [g_goes_against, h1]
def drw (cs : List Int) (i j a b : Int) : List PyData := [.list (cs.map PyData.int), .int i, .int j, .int a, .int b]
def Dw (io : List PyData) : Prop := ∃ cs i j a b, io = drw cs i j a b ∧ 0 ≤ i ∧ 0 ≤ j ∧ 0 ≤ a ∧ a < 1000000007 ∧ 0 ≤ b
theorem drw_ix0 (cs : List Int) (i j a b : Int) : atI (drw cs i j a b) 0 = some (.list (cs.map PyData.int)) := rfl
theorem drw_ix1 (cs : List Int) (i j a b : Int) : atI (drw cs i j a b) 1 = some (.int i) := rfl
theorem drw_ix2 (cs : List Int) (i j a b : Int) : atI (drw cs i j a b) 2 = some (.int j) := rfl
theorem drw_ix3 (cs : List Int) (i j a b : Int) : atI (drw cs i j a b) 3 = some (.int a) := rfl
theorem drw_ix4 (cs : List Int) (i j a b : Int) : atI (drw cs i j a b) 4 = some (.int b) := rfl
theorem drw_set1 (cs : List Int) (i j a b x : Int) : kSet (.int x) (.int 1) (drw cs i j a b) = some (drw cs x j a b) := rfl
theorem drw_set2 (cs : List Int) (i j a b x : Int) : kSet (.int x) (.int 2) (drw cs i j a b) = some (drw cs i x a b) := rfl
theorem drw_set3 (cs : List Int) (i j a b x : Int) : kSet (.int x) (.int 3) (drw cs i j a b) = some (drw cs i j x b) := rfl
theorem drw_set4 (cs : List Int) (i j a b x : Int) : kSet (.int x) (.int 4) (drw cs i j a b) = some (drw cs i j a x) := rfl
def g_pick2 : Rho → Fl := (sSeq (sIf (fB (fOp oGe (.e (fOp oIx (.v 0) (.e (ret (.int 2))))) (.v 1))) (sSeq (sSet 3 (fOp oMod (.e (fOp oIx (.v 0) (.e (ret (.int 2))))) (.v 1)))
    (sSeq (sSetIx 0 (fOp oDiv (.e (fOp oIx (.v 0) (.e (ret (.int 2))))) (.v 1)) (ret (.int 2)))
    (sRetV0 3))) sNil)
    (sSeq (sSetIx 0 (fOp oAdd (.e (fOp oIx (.v 0) (.e (ret (.int 4))))) (.e (ret (.int 1)))) (ret (.int 4)))
    (sSeq (sSetIx 0 (fOp oMod (.e (fOp oAdd (.e (fOp oAdd (.e (fOp oPow (.e (fOp oIx (.v 0) (.e (ret (.int 3))))) (.e (ret (.int 3))))) (.e (fOp oMul (.e (ret (.int 40503))) (.e (fOp oIx (.v 0) (.e (ret (.int 4))))))))) (.e (ret (.int 17))))) (.e (ret (.int 1000000007)))) (ret (.int 3)))
    (sRet (fOp oMod (.e (fOp oDiv (.e (fOp oIx (.v 0) (.e (ret (.int 3))))) (.e (ret (.int 5))))) (.v 1))))))
theorem pick2_ok (cs : List Int) (i j a b m : Int) (s2 : Sl) (hi : 0 ≤ i) (hj : 0 ≤ j) (ha : 0 ≤ a) (ha2 : a < 1000000007) (hb : 0 ≤ b) (hm : 0 < m) (hm2 : m.natAbs.log2 < 9000) :
    ∃ r io, toOutI (g_pick2 [.ow (drw cs i j a b), .fz (.int m), s2, .un]) = .ok (.fz (.int r), io) ∧ Dw io ∧ 0 ≤ r ∧ r < m := by
  have d1 : cMod j m = true := decide_eq_true hm
  have d2 : cDiv j m = true := decide_eq_true ⟨hm, hm2⟩
  by_cases h : m ≤ j
  · refine ⟨j % m, drw cs i (j / m) a b, ?_, ⟨cs, i, j / m, a, b, rfl, hi, Int.ediv_nonneg hj (by omega), ha, ha2, hb⟩, Int.emod_nonneg _ (by omega), Int.emod_lt_of_pos _ hm⟩
    simp [g_pick2, drw_ix0, drw_ix1, drw_ix2, drw_ix3, drw_ix4, drw_set1, drw_set2, drw_set3, drw_set4, h, d1, d2]
  · have p1 : cPow a 3 = true := decide_eq_true ⟨by decide, by decide, by omega⟩
    have p2 : ∀ x, cMul 40503 x = true := fun x => decide_eq_true (.inl (by decide))
    have p3 : ∀ x, cMod x 1000000007 = true := fun x => decide_eq_true (by decide)
    have p4 : ∀ x, cDiv x 5 = true := fun x => decide_eq_true ⟨by decide, by decide +kernel⟩
    have p5 : ∀ x, cMod x m = true := fun x => decide_eq_true hm
    refine ⟨((a ^ 3 + 40503 * (b + 1) + 17) % 1000000007) / 5 % m, drw cs i j ((a ^ 3 + 40503 * (b + 1) + 17) % 1000000007) (b + 1), ?_, ⟨cs, i, j, _, b + 1, rfl, hi, hj, Int.emod_nonneg _ (by decide), Int.emod_lt_of_pos _ (by decide), by omega⟩, Int.emod_nonneg _ (by omega), Int.emod_lt_of_pos _ hm⟩
    simp [g_pick2, drw_ix0, drw_ix1, drw_ix2, drw_ix3, drw_ix4, drw_set1, drw_set2, drw_set3, drw_set4, h, p1, p2, p3, p4, p5]
theorem pick_ok {io : List PyData} {m : Int} (hd : Dw io) (hm : 0 < m) (hm2 : m ≤ 10 ^ 40) : ∃ r io', F_l_pick io [.int m] = .ok (.fz (.int r), io') ∧ Dw io' ∧ 0 ≤ r ∧ r < m := by
  have hl : m.natAbs.log2 < 9000 := by
    have h1 : m.natAbs < 2 ^ 200 := by omega
    have := PySem.Flt.log2_lt_of (k := 200) (by decide) h1
    omega
  obtain ⟨cs, i, j, a, b, rfl, hi, hj, ha, ha2, hb⟩ := hd
  show ∃ r io', toOutI (g_l_pick [.ow (drw cs i j a b), .fz (.int m), .un, .un]) = .ok (.fz (.int r), io') ∧ Dw io' ∧ 0 ≤ r ∧ r < m
  have eg : g_l_pick = sSeq (sIf (tAndM (fB (fOp oLt (.e (fOp oIx (.v 0) (.e (ret (.int 2))))) (.v 1))) (fB (fOp oLt (.e (fOp oIx (.v 0) (.e (ret (.int 1))))) (.e (fCB oLen [(.e (fOp oIx (.v 0) (.e (ret (.int 0)))))]))))) (sSeq (sSet 2 (fOp oIx (.e (fOp oIx (.v 0) (.e (ret (.int 0))))) (.e (fOp oIx (.v 0) (.e (ret (.int 1)))))))
    (sSeq (sSetIx 0 (fOp oAdd (.e (fOp oIx (.v 0) (.e (ret (.int 1))))) (.e (ret (.int 1)))) (ret (.int 1)))
    (sSeq (sSetIx 0 (ret (.int 0)) (ret (.int 2)))
    (sIf (fB (fOp oGe (.v 2) (.e (fOp oPow (.e (ret (.int 10))) (.e (ret (.int 18))))))) (sSetIx 0 (fVar 2) (ret (.int 2))) (sSetIx 0 (fOp oMod (.e (fOp oAdd (.e (fOp oIx (.v 0) (.e (ret (.int 3))))) (.v 2))) (.e (ret (.int 1000000007)))) (ret (.int 3))))))) sNil) g_pick2 := rfl
  have p2 : cPow 10 18 = true := by decide
  have p3 : ∀ x, cMod x 1000000007 = true := fun x => decide_eq_true (by decide)
  by_cases h1 : j < m
  · by_cases h2 : i < (cs.length : Int)
    · obtain ⟨c, hc⟩ : ∃ c, cs[i.toNat]? = some c := ⟨cs[i.toNat]'(by omega), List.getElem?_eq_getElem (by omega)⟩
      have hc2 : atI (cs.map PyData.int) i = some (.int c) := atI_at hi (by rw [List.getElem?_map, hc]; rfl)
      by_cases h3 : (10 : Int) ^ 18 ≤ c
      · have h3' : (1000000000000000000 : Int) ≤ c := by omega
        have e : g_l_pick [.ow (drw cs i j a b), .fz (.int m), .un, .un] = g_pick2 [.ow (drw cs (i + 1) c a b), .fz (.int m), .fz (.int c), .un] := by
          rw [eg]
          simp [drw_ix0, drw_ix1, drw_ix2, drw_ix3, drw_ix4, drw_set1, drw_set2, drw_set3, drw_set4, h1, h2, hc2, h3', p2, p3]
        rw [e]
        exact pick2_ok cs (i + 1) c a b m _ (by omega) (by omega) ha ha2 hb hm hl
      · have h3' : ¬ (1000000000000000000 : Int) ≤ c := by omega
        have e : g_l_pick [.ow (drw cs i j a b), .fz (.int m), .un, .un] = g_pick2 [.ow (drw cs (i + 1) 0 ((a + c) % 1000000007) b), .fz (.int m), .fz (.int c), .un] := by
          rw [eg]
          simp [drw_ix0, drw_ix1, drw_ix2, drw_ix3, drw_ix4, drw_set1, drw_set2, drw_set3, drw_set4, h1, h2, hc2, h3', p2, p3]
        rw [e]
        exact pick2_ok cs (i + 1) 0 _ b m _ (by omega) (by omega) (Int.emod_nonneg _ (by decide)) (Int.emod_lt_of_pos _ (by decide)) hb hm hl
    · have e : g_l_pick [.ow (drw cs i j a b), .fz (.int m), .un, .un] = g_pick2 [.ow (drw cs i j a b), .fz (.int m), .un, .un] := by
        rw [eg]
        simp [drw_ix0, drw_ix1, drw_ix2, drw_ix3, drw_ix4, h1, h2]
      rw [e]
      exact pick2_ok cs i j a b m _ hi hj ha ha2 hb hm hl
  · have e : g_l_pick [.ow (drw cs i j a b), .fz (.int m), .un, .un] = g_pick2 [.ow (drw cs i j a b), .fz (.int m), .un, .un] := by
      rw [eg]
      simp [drw_ix0, drw_ix1, drw_ix2, drw_ix3, drw_ix4, h1]
    rw [e]
    exact pick2_ok cs i j a b m _ hi hj ha ha2 hb hm hl
theorem dw_cells (ns : List Int) : Dw (cells ns) := ⟨ns, 0, 0, 1, 0, rfl, by decide, by decide, by decide, by decide, by decide⟩
theorem pick_item {ds : List PyData} {P : PyData → Prop} (h : ∀ d ∈ ds, P d) {r : Int} (h0 : 0 ≤ r) (h1 : r < (ds.length : Int)) : ∃ d, atI ds r = some d ∧ P d :=
  ⟨ds[r.toNat]'(by omega), atI_at h0 (List.getElem?_eq_getElem (by omega)), h _ (List.getElem_mem _)⟩
theorem some_term_ok {io : List PyData} (hd : Dw io) : ∃ r io', F_l_some_term io [] = .ok (.fz (.int r), io') ∧ Dw io' ∧ 0 ≤ r ∧ r ≤ 400 := by
  obtain ⟨r1, io1, e1, d1, a1, b1⟩ := pick_ok (m := 12) hd (by decide) (by decide)
  obtain ⟨r2, io2, e2, d2, a2, b2⟩ := pick_ok (m := 60) d1 (by decide) (by decide)
  obtain ⟨r3, io3, e3, d3, a3, b3⟩ := pick_ok (m := 6) d2 (by decide) (by decide)
  obtain ⟨x, ex, v, rfl, hv0, hv1⟩ := pick_item (ds := [.int 0, .int 1, .int 3, .int r1, .int r2, .int 400]) (P := fun d => ∃ v, d = .int v ∧ 0 ≤ v ∧ v ≤ 400) (by
    intro d hm
    simp only [List.mem_cons, List.not_mem_nil, or_false] at hm
    rcases hm with rfl | rfl | rfl | rfl | rfl | rfl
    · exact ⟨_, rfl, by decide, by decide⟩
    · exact ⟨_, rfl, by decide, by decide⟩
    · exact ⟨_, rfl, by decide, by decide⟩
    · exact ⟨_, rfl, by omega, by omega⟩
    · exact ⟨_, rfl, by omega, by omega⟩
    · exact ⟨_, rfl, by decide, by decide⟩) a3 (by simpa using b3)
  refine ⟨v, io3, ?_, d3, hv0, hv1⟩
  show toOutI (g_l_some_term _) = _
  simp [g_l_some_term, e1, e2, e3, mkT, small, ex]
theorem zipD_self (ds : List PyData) : zipD ds ds = ds.map fun d => PyData.tuple [d, d] := by
  unfold zipD
  rw [List.zip_eq_zipWith, List.zipWith_self, List.map_map]
  rfl
theorem all_map_true (ds : List PyData) : asBools (ds.map fun _ => PyData.bool true) = some (ds.map fun _ => true) := by
  induction ds with
  | nil => rfl
  | cons d ds ih => simp only [List.map_cons, asBools, ih, Option.map_some]
theorem same_refl : ∀ (n : Nat) (d : PyData), gd n d = true → F_l_same_at n [d, d] = .ok (.fz (.bool true))
  | 0, _, h => by cases h
  | n + 1, d, h => by
    show toOut (g_l_same (F_l_same_at n) _) = _
    have step : ∀ (ds : List PyData) (x : PyData), ds.all (gd n) = true → small ds.length = true → (x = .list ds ∨ x = .tuple ds) →
        fLc (fAB oZip (fCons (fVar 0) (fCons (fVar 1) fNil))) (gTp (gsCons (gSet 2) (gsCons (gSet 3) gsNil))) (ret true) (fCall (F_l_same_at n) (fCons (fVar 2) (fCons (fVar 3) fNil))) [2, 3] [.fz x, .fz x, .un, .un] = .ok (ds.map fun _ => .bool true, [.fz x, .fz x, .un, .un]) := by
      intro ds x hds hs hx
      have hl : ds.length ≤ 100000 := of_decide_eq_true hs
      rw [lc_map (fun _ => .bool true) (ds := zipD ds ds) (ρ := [.fz x, .fz x, .un, .un]) (by rcases hx with rfl | rfl <;> simp [oZip]) (by rw [zipD_self, List.length_map]; exact hl) ?_]
      · rw [zipD_self, List.map_map]
        simp
      · intro d hd
        rw [zipD_self] at hd
        obtain ⟨y, hy, rfl⟩ := List.mem_map.mp hd
        have ey := same_refl n y (List.all_eq_true.mp hds y hy)
        refine ⟨[.fz x, .fz x, .fz y, .fz y], by simp, [.fz x, .fz x, .fz y, .fz y], by simp [ey], by simp⟩
    cases d with
    | none => simp [g_l_same]
    | bool b => simp [g_l_same, isTy, isTyN, tyName, oEQ]
    | int i => simp [g_l_same, isTy, isTyN, tyName, oEQ]
    | str x => simp [g_l_same, isTy, isTyN, tyName, oEQ]
    | dict kvs => cases h
    | list ds =>
      obtain ⟨h1, h2⟩ := Bool.and_eq_true_iff.mp (show (small ds.length && ds.all (gd n)) = true from h)
      simp [g_l_same, isTy, isTyN, tyName, oEQ, oNE, step ds (.list ds) h2 h1 (.inl rfl), all_map_true]
    | tuple ds =>
      obtain ⟨h1, h2⟩ := Bool.and_eq_true_iff.mp (show (small ds.length && ds.all (gd n)) = true from h)
      simp [g_l_same, isTy, isTyN, tyName, oEQ, oNE, step ds (.tuple ds) h2 h1 (.inr rfl), all_map_true]
theorem F_same_refl {d : PyData} (h : gd 8 d = true) : F_l_same [d, d] = .ok (.fz (.bool true)) := same_refl 8 d h
end Mm
namespace Mm
open PySem L2 Fx
variable [Tabz]
abbrev Lot := Int × Int × Int
abbrev Ot := Int × Int
def encL (l : Lot) : PyData := .tuple [.int l.1, .int l.2.1, .int l.2.2]
def encO (o : Ot) : PyData := .tuple [.int o.1, .int o.2]
structure GoodL (l : Lot) : Prop where
  d1 : 1 ≤ l.1
  d2 : l.1 ≤ 999
  c1 : 1 ≤ l.2.1
  c2 : l.2.1 ≤ 10000000000
  u1 : 1 ≤ l.2.2
  u2 : l.2.2 ≤ 1000000
structure GoodO (l : Ot) : Prop where
  d1 : 1 ≤ l.1
  d2 : l.1 ≤ 999
  c1 : 1 ≤ l.2
  c2 : l.2 ≤ 10000000000
theorem F_need_count_eq (d : Int) : F_need_count [.int d] = if d < 1 ∨ 10000000000 < d then .exc "BadCount" else .ok (.fz .none) := by
  show toOut (g_need_count _) = _
  by_cases h1 : d < 1
  · simp [g_need_count, h1]
  · by_cases h2 : 10000000000 < d <;> simp [g_need_count, h1, h2]
theorem F_need_duty_eq (d : Int) : F_need_duty [.int d] = if d < 1 ∨ 1000000 < d then .exc "BadDuty" else .ok (.fz .none) := by
  show toOut (g_need_duty _) = _
  by_cases h1 : d < 1
  · simp [g_need_duty, h1]
  · by_cases h2 : 1000000 < d <;> simp [g_need_duty, h1, h2]
def errL (l : Lot) : Option Str := if l.1 < 1 ∨ 999 < l.1 then some "BadDay" else if l.2.1 < 1 ∨ 10000000000 < l.2.1 then some "BadCount" else if l.2.2 < 1 ∨ 1000000 < l.2.2 then some "BadDuty" else none
def errO (l : Ot) : Option Str := if l.1 < 1 ∨ 999 < l.1 then some "BadDay" else if l.2 < 1 ∨ 10000000000 < l.2 then some "BadCount" else none
def errLs (ls : List Lot) : Option Str := if 30 < ls.length then some "BadRows" else ls.findSome? errL
def errOs (ls : List Ot) : Option Str := if 30 < ls.length then some "BadRows" else ls.findSome? errO
def outE (c : Option Str) (r : Rt) : Out Rt := match c with
  | some c => .exc c
  | none => .ok r
theorem lots_turn (x : Sl) (l : Lot) : b_checked_lots_1 [x, .fz (.int l.1), .fz (.int l.2.1), .fz (.int l.2.2)] = match errL l with
    | some c => .exc c [x, .fz (.int l.1), .fz (.int l.2.1), .fz (.int l.2.2)]
    | none => .nx [x, .fz (.int l.1), .fz (.int l.2.1), .fz (.int l.2.2)] := by
  unfold errL
  by_cases h1 : l.1 < 1 ∨ 999 < l.1
  · simp [b_checked_lots_1, F_need_day_eq, h1]
  · by_cases h2 : l.2.1 < 1 ∨ 10000000000 < l.2.1
    · simp [b_checked_lots_1, F_need_day_eq, F_need_count_eq, h1, h2]
    · by_cases h3 : l.2.2 < 1 ∨ 1000000 < l.2.2 <;> simp [b_checked_lots_1, F_need_day_eq, F_need_count_eq, F_need_duty_eq, h1, h2, h3]
theorem lots_loop (x : Sl) : ∀ (ls : List Lot) (a b c : Sl), (∃ a' b' c', forE (gTp (gsCons (gSet 1) (gsCons (gSet 2) (gsCons (gSet 3) gsNil)))) b_checked_lots_1 (ls.map encL) [x, a, b, c] = match ls.findSome? errL with
    | some e => .exc e [x, a', b', c']
    | none => .nx [x, a', b', c'])
  | [], a, b, c => ⟨a, b, c, rfl⟩
  | l :: ls, a, b, c => by
    rw [List.map_cons, List.findSome?_cons]
    unfold forE
    have e : gTp (gsCons (gSet 1) (gsCons (gSet 2) (gsCons (gSet 3) gsNil))) (encL l) [x, a, b, c] = some [x, .fz (.int l.1), .fz (.int l.2.1), .fz (.int l.2.2)] := rfl
    simp only [e, lots_turn]
    cases errL l with
    | some c => exact ⟨_, _, _, rfl⟩
    | none => exact lots_loop x ls _ _ _
theorem F_checked_lots_eq (ls : List Lot) : F_checked_lots [.list (ls.map encL)] = outE (errLs ls) (.ow (ls.map encL)) := by
  show toOut (g_checked_lots _) = _
  unfold errLs
  by_cases h : 30 < ls.length
  · have h' : (30 : Int) < (ls.length : Int) := by omega
    simp [g_checked_lots, h, h', outE]
  · have h' : ¬ (30 : Int) < (ls.length : Int) := by omega
    obtain ⟨a, b, c, e⟩ := lots_loop (.fz (.list (ls.map encL))) ls .un .un .un
    have e2 : sFor (fItL (fVar 0)) (gTp (gsCons (gSet 1) (gsCons (gSet 2) (gsCons (gSet 3) gsNil)))) b_checked_lots_1 [.fz (.list (ls.map encL)), .un, .un, .un] = _ := (sFor_eq (by simp)).trans e
    cases q : ls.findSome? errL with
    | some c => rw [q] at e2; simp [g_checked_lots, h, h', e2, q, outE]
    | none => rw [q] at e2; simp [g_checked_lots, h, h', e2, q, outE]
theorem outs_turn (x : Sl) (l : Ot) : b_checked_outs_1 [x, .fz (.int l.1), .fz (.int l.2)] = match errO l with
    | some c => .exc c [x, .fz (.int l.1), .fz (.int l.2)]
    | none => .nx [x, .fz (.int l.1), .fz (.int l.2)] := by
  unfold errO
  by_cases h1 : l.1 < 1 ∨ 999 < l.1
  · simp [b_checked_outs_1, F_need_day_eq, h1]
  · by_cases h2 : l.2 < 1 ∨ 10000000000 < l.2 <;> simp [b_checked_outs_1, F_need_day_eq, F_need_count_eq, h1, h2]
theorem outs_loop (x : Sl) : ∀ (ls : List Ot) (a b : Sl), (∃ a' b', forE (gTp (gsCons (gSet 1) (gsCons (gSet 2) gsNil))) b_checked_outs_1 (ls.map encO) [x, a, b] = match ls.findSome? errO with
    | some e => .exc e [x, a', b']
    | none => .nx [x, a', b'])
  | [], a, b => ⟨a, b, rfl⟩
  | l :: ls, a, b => by
    rw [List.map_cons, List.findSome?_cons]
    unfold forE
    have e : gTp (gsCons (gSet 1) (gsCons (gSet 2) gsNil)) (encO l) [x, a, b] = some [x, .fz (.int l.1), .fz (.int l.2)] := rfl
    simp only [e, outs_turn]
    cases errO l with
    | some c => exact ⟨_, _, rfl⟩
    | none => exact outs_loop x ls _ _
theorem F_checked_outs_eq (ls : List Ot) : F_checked_outs [.list (ls.map encO)] = outE (errOs ls) (.ow (ls.map encO)) := by
  show toOut (g_checked_outs _) = _
  unfold errOs
  by_cases h : 30 < ls.length
  · have h' : (30 : Int) < (ls.length : Int) := by omega
    simp [g_checked_outs, h, h', outE]
  · have h' : ¬ (30 : Int) < (ls.length : Int) := by omega
    obtain ⟨a, b, e⟩ := outs_loop (.fz (.list (ls.map encO))) ls .un .un
    have e2 : sFor (fItL (fVar 0)) (gTp (gsCons (gSet 1) (gsCons (gSet 2) gsNil))) b_checked_outs_1 [.fz (.list (ls.map encO)), .un, .un] = _ := (sFor_eq (by simp)).trans e
    cases q : ls.findSome? errO with
    | some c => rw [q] at e2; simp [g_checked_outs, h, h', e2, q, outE]
    | none => rw [q] at e2; simp [g_checked_outs, h, h', e2, q, outE]
theorem errLs_good {ls : List Lot} (hl : ls.length ≤ 30) (h : ∀ l ∈ ls, GoodL l) : errLs ls = none := by
  unfold errLs
  rw [if_neg (by omega), List.findSome?_eq_none_iff]
  intro l hm
  obtain ⟨a, b, c, d, e, f⟩ := h l hm
  unfold errL
  rw [if_neg (by omega), if_neg (by omega), if_neg (by omega)]
theorem errOs_good {ls : List Ot} (hl : ls.length ≤ 30) (h : ∀ l ∈ ls, GoodO l) : errOs ls = none := by
  unfold errOs
  rw [if_neg (by omega), List.findSome?_eq_none_iff]
  intro l hm
  obtain ⟨a, b, c, d⟩ := h l hm
  unfold errO
  rw [if_neg (by omega), if_neg (by omega)]
theorem span_ok {io : List PyData} (hd : Dw io) : ∃ a b io', F_l_span io [] = .ok (.fz (.tuple [.int a, .int b]), io') ∧ Dw io' ∧ 1 ≤ a ∧ 1 ≤ b ∧ a + b ≤ 1000 := by
  obtain ⟨r1, io1, e1, d1, a1, b1⟩ := pick_ok (m := 4) hd (by decide) (by decide)
  obtain ⟨x, ex, v, rfl, hv0, hv1⟩ := pick_item (ds := [.int 6, .int 20, .int 60, .int 999]) (P := fun d => ∃ v, d = .int v ∧ 1 ≤ v ∧ v ≤ 999) (by
    intro d hm
    simp only [List.mem_cons, List.not_mem_nil, or_false] at hm
    rcases hm with rfl | rfl | rfl | rfl <;> exact ⟨_, rfl, by decide, by decide⟩) a1 (by simpa using b1)
  obtain ⟨r2, io2, e2, d2, a2, b2⟩ := pick_ok (m := 1000 - v) d1 (by omega) (by omega)
  refine ⟨1 + r2, v, io2, ?_, d2, by omega, by omega, by omega⟩
  show toOutI (g_l_span _) = _
  simp [g_l_span, e1, e2, mkT, small, ex]
theorem kAppend_of {d : PyData} {ds : List PyData} (h : ds.length ≤ 100000) : kAppend d ds = some (ds ++ [d]) := by
  unfold kAppend
  rw [if_pos (small_of h)]
theorem rng_len (a : Int) (n : Nat) : (rng a n).length = n := by simp [rng]
theorem oRng1_of {j : Int} (h0 : 0 ≤ j) (h : j < 100000) : oRng1 [.int j] = some (rng 0 j.toNat) := by
  have e : small j.natAbs = true := decide_eq_true (by omega)
  simp [oRng1, e]
theorem rng_get {a : Int} {n j : Nat} {x : PyData} (h : (rng a n)[j]? = some x) : j < n ∧ x = .int (a + j) := by
  unfold rng at h
  rw [List.getElem?_map] at h
  cases q : (List.range n)[j]? with
  | none => rw [q] at h; cases h
  | some m =>
    rw [q] at h
    cases h
    obtain ⟨h1, h2⟩ := List.getElem?_eq_some_iff.mp q
    rw [List.length_range] at h1
    rw [List.getElem_range] at h2
    exact ⟨h1, by rw [h2]⟩
structure DrawL (a b sc : Int) (l : Lot) : Prop where
  d1 : a ≤ l.1
  d2 : l.1 < a + b
  c1 : 1 ≤ l.2.1
  c2 : l.2.1 ≤ sc
  u1 : 1 ≤ l.2.2
  u2 : l.2.2 ≤ 1000000
structure DrawO (a b sc : Int) (l : Ot) : Prop where
  d1 : a ≤ l.1
  d2 : l.1 < a + b
  c1 : 1 ≤ l.2
  c2 : l.2 ≤ sc
theorem two_ix0 (a b : Int) : atI [PyData.int a, .int b] 0 = some (.int a) := rfl
theorem two_ix1 (a b : Int) : atI [PyData.int a, .int b] 1 = some (.int b) := rfl
theorem some_lots_ok {io : List PyData} {most a b sc : Int} (hd : Dw io) (hm : 0 ≤ most) (hm2 : most ≤ 1000) (hb : 1 ≤ b) (hb2 : b ≤ 1000) (hs : 1 ≤ sc) (hs2 : sc ≤ 10 ^ 30) :
    ∃ (ls : List Lot) (io' : List PyData), F_l_some_lots io [.int most, .tuple [.int a, .int b], .int sc] = .ok (.ow (ls.map encL), io') ∧ Dw io' ∧ (ls.length : Int) ≤ most ∧ ∀ l ∈ ls, DrawL a b sc l := by
  obtain ⟨r1, io1, e1, d1, a1, b1⟩ := pick_ok (m := 4) hd (by decide) (by decide)
  obtain ⟨x, ex, dear, rfl, hv0, hv1⟩ := pick_item (ds := [.int 2, .int 5, .int 40, .int 1000000]) (P := fun d => ∃ v, d = .int v ∧ 1 ≤ v ∧ v ≤ 1000000) (by
    intro d hm
    simp only [List.mem_cons, List.not_mem_nil, or_false] at hm
    rcases hm with rfl | rfl | rfl | rfl <;> exact ⟨_, rfl, by decide, by decide⟩) a1 (by simpa using b1)
  obtain ⟨n, io2, e2, d2, a2, b2⟩ := pick_ok (m := most + 1) d1 (by omega) (by omega)
  have p6 : cPow 10 6 = true := by decide
  obtain ⟨ρ', ef, io3, ls, s6, s7, s8, rfl, d3, hl, hg⟩ := forE_inv (g := gSet 6) (s := b_l_some_lots_1) (fun k ρ => ∃ (io : List PyData) (ls : List Lot) (s6 s7 s8 : Sl), ρ = [.ow io, .fz (.int most), .fz (.tuple [.int a, .int b]), .fz (.int sc), .fz (.int dear), .ow ((ls : List Lot).map encL), s6, s7, s8] ∧ Dw io ∧ ls.length = k ∧ ∀ l ∈ ls, DrawL a b sc l) (rng 0 n.toNat) 0
    [.ow io2, .fz (.int most), .fz (.tuple [.int a, .int b]), .fz (.int sc), .fz (.int dear), .ow [], .un, .un, .un] ⟨io2, [], _, _, _, rfl, d2, rfl, fun l h => absurd h List.not_mem_nil⟩ (by
      rintro j y ρ hy ⟨io, ls, s6, s7, s8, rfl, d, hl, hg⟩
      obtain ⟨hj, rfl⟩ := rng_get hy
      obtain ⟨x1, i1, p1, q1, l1, u1⟩ := pick_ok (m := b) d (by omega) (by omega)
      obtain ⟨x2, i2, p2, q2, l2, u2⟩ := pick_ok (m := sc) q1 (by omega) (by omega)
      obtain ⟨x3, i3, p3, q3, l3, u3⟩ := pick_ok (m := dear) q2 (by omega) (by omega)
      refine ⟨_, [.ow i3, .fz (.int most), .fz (.tuple [.int a, .int b]), .fz (.int sc), .fz (.int dear), .ow ((ls ++ [(a + x1, 1 + x2, 1 + x3)]).map encL), .fz (.int (0 + j)), .fz (.int (a + x1)), .fz (.int (1 + x2))], rfl, .inl ?_, i3, ls ++ [(a + x1, 1 + x2, 1 + x3)], _, _, _, rfl, q3, by simp [hl], ?_⟩
      · have hk : kAppend (.tuple [.int (a + x1), .int (1 + x2), .int (1 + x3)]) (ls.map encL) = some (ls.map encL ++ [.tuple [.int (a + x1), .int (1 + x2), .int (1 + x3)]]) := kAppend_of (by rw [List.length_map]; omega)
        simp [b_l_some_lots_1, two_ix0, two_ix1, p1, p2, p3, mkT, small, hk, encL]
      · intro l h
        rw [List.mem_append, List.mem_singleton] at h
        rcases h with h | rfl
        · exact hg l h
        · exact ⟨by dsimp; omega, by dsimp; omega, by dsimp; omega, by dsimp; omega, by dsimp; omega, by dsimp; omega⟩)
  refine ⟨ls, io3, ?_, d3, by rw [hl, rng_len]; omega, hg⟩
  show toOutI (g_l_some_lots _) = _
  have e3 : sFor (fAB oRng1 (fCons (fCallI 0 F_l_pick (fCons (fOp oAdd (.v 1) (.e (ret (.int 1)))) fNil)) fNil)) (gSet 6) b_l_some_lots_1 [.ow io1, .fz (.int most), .fz (.tuple [.int a, .int b]), .fz (.int sc), .fz (.int dear), .ow [], .un, .un, .un] = _ := (sFor_eq (by simp [e2, oRng1_of a2 (by omega)])).trans ef
  simp [g_l_some_lots, e1, p6, mkT, small, ex, mkL, e3]
theorem some_outs_ok {io : List PyData} {most a b sc : Int} (hd : Dw io) (hm : 0 ≤ most) (hm2 : most ≤ 1000) (hb : 1 ≤ b) (hb2 : b ≤ 1000) (hs : 1 ≤ sc) (hs2 : sc ≤ 10 ^ 30) :
    ∃ (ls : List Ot) (io' : List PyData), F_l_some_outs io [.int most, .tuple [.int a, .int b], .int sc] = .ok (.ow (ls.map encO), io') ∧ Dw io' ∧ (ls.length : Int) ≤ most ∧ ∀ l ∈ ls, DrawO a b sc l := by
  obtain ⟨n, io2, e2, d2, a2, b2⟩ := pick_ok (m := most + 1) hd (by omega) (by omega)
  obtain ⟨ρ', ef, io3, ls, s6, s7, rfl, d3, hl, hg⟩ := forE_inv (g := gSet 5) (s := b_l_some_outs_1) (fun k ρ => ∃ (io : List PyData) (ls : List Ot) (s6 s7 : Sl), ρ = [.ow io, .fz (.int most), .fz (.tuple [.int a, .int b]), .fz (.int sc), .ow ((ls : List Ot).map encO), s6, s7] ∧ Dw io ∧ ls.length = k ∧ ∀ l ∈ ls, DrawO a b sc l) (rng 0 n.toNat) 0
    [.ow io2, .fz (.int most), .fz (.tuple [.int a, .int b]), .fz (.int sc), .ow [], .un, .un] ⟨io2, [], _, _, rfl, d2, rfl, fun l h => absurd h List.not_mem_nil⟩ (by
      rintro j y ρ hy ⟨io, ls, s6, s7, rfl, d, hl, hg⟩
      obtain ⟨hj, rfl⟩ := rng_get hy
      obtain ⟨x1, i1, p1, q1, l1, u1⟩ := pick_ok (m := b) d (by omega) (by omega)
      obtain ⟨x2, i2, p2, q2, l2, u2⟩ := pick_ok (m := sc) q1 (by omega) (by omega)
      refine ⟨_, [.ow i2, .fz (.int most), .fz (.tuple [.int a, .int b]), .fz (.int sc), .ow ((ls ++ [(a + x1, 1 + x2)]).map encO), .fz (.int (0 + j)), .fz (.int (a + x1))], rfl, .inl ?_, i2, ls ++ [(a + x1, 1 + x2)], _, _, rfl, q2, by simp [hl], ?_⟩
      · have hk : kAppend (.tuple [.int (a + x1), .int (1 + x2)]) (ls.map encO) = some (ls.map encO ++ [.tuple [.int (a + x1), .int (1 + x2)]]) := kAppend_of (by rw [List.length_map]; omega)
        simp [b_l_some_outs_1, two_ix0, two_ix1, p1, p2, mkT, small, hk, encO]
      · intro l h
        rw [List.mem_append, List.mem_singleton] at h
        rcases h with h | rfl
        · exact hg l h
        · exact ⟨by dsimp; omega, by dsimp; omega, by dsimp; omega, by dsimp; omega⟩)
  refine ⟨ls, io3, ?_, d3, by rw [hl, rng_len]; omega, hg⟩
  show toOutI (g_l_some_outs _) = _
  have e3 : sFor (fAB oRng1 (fCons (fCallI 0 F_l_pick (fCons (fOp oAdd (.v 1) (.e (ret (.int 1)))) fNil)) fNil)) (gSet 5) b_l_some_outs_1 [.ow io, .fz (.int most), .fz (.tuple [.int a, .int b]), .fz (.int sc), .ow [], .un, .un] = _ := (sFor_eq (by simp [e2, oRng1_of a2 (by omega)])).trans ef
  simp [g_l_some_outs, mkL, small, e3]
theorem case_ok {io : List PyData} {most : Int} (hd : Dw io) (hm : 0 ≤ most) (hm2 : most ≤ 1000) :
    ∃ (ls : List Lot) (os : List Ot) (t : Int) (io' : List PyData), F_l_case io [.int most] = .ok (.fz (.tuple [.list (ls.map encL), .list (os.map encO), .int t]), io') ∧ Dw io' ∧ (ls.length : Int) ≤ most ∧ (os.length : Int) ≤ most ∧ (∀ l ∈ ls, GoodL l) ∧ (∀ o ∈ os, GoodO o) ∧ 0 ≤ t ∧ t ≤ 400 := by
  obtain ⟨a, b, io1, e1, d1, ha, hb, hab⟩ := span_ok hd
  obtain ⟨t, io2, e2, d2, ht0, ht1⟩ := some_term_ok d1
  obtain ⟨r1, io3, e3, d3, a3, b3⟩ := pick_ok (m := 4) d2 (by decide) (by decide)
  obtain ⟨x, ex, sc, rfl, hv0, hv1⟩ := pick_item (ds := [.int 3, .int 12, .int 1000, .int 10000000000]) (P := fun d => ∃ v, d = .int v ∧ 1 ≤ v ∧ v ≤ 10000000000) (by
    intro d hm
    simp only [List.mem_cons, List.not_mem_nil, or_false] at hm
    rcases hm with rfl | rfl | rfl | rfl <;> exact ⟨_, rfl, by decide, by decide⟩) a3 (by simpa using b3)
  obtain ⟨ls, io4, e4, d4, l4, g4⟩ := some_lots_ok (most := most) (a := a) (b := b) (sc := sc) d3 hm hm2 hb (by omega) hv0 (by omega)
  obtain ⟨os, io5, e5, d5, l5, g5⟩ := some_outs_ok (most := most) (a := a) (b := b) (sc := sc) d4 hm hm2 hb (by omega) hv0 (by omega)
  have p10 : cPow 10 10 = true := by decide
  refine ⟨ls, os, t, io5, ?_, d5, l4, l5, fun l h => ?_, fun o h => ?_, ht0, ht1⟩
  · show toOutI (g_l_case _) = _
    simp [g_l_case, e1, e2, e3, p10, mkT, small, ex, e4, e5]
  · obtain ⟨h1, h2, h3, h4, h5, h6⟩ := g4 l h
    exact ⟨by omega, by omega, h3, by omega, h5, h6⟩
  · obtain ⟨h1, h2, h3, h4⟩ := g5 o h
    exact ⟨by omega, by omega, h3, by omega⟩
end Mm
namespace Mm
open PySem L2 Fx
variable [Tabz]
def gi : Nat → PyData → Bool
  | 0, _ => false
  | _ + 1, .none => true
  | _ + 1, .bool _ => true
  | _ + 1, .int _ => true
  | n + 1, .list ds => ds.all (gi n)
  | n + 1, .tuple ds => ds.all (gi n)
  | _ + 1, _ => false
theorem gi_all {n : Nat} (ih : ∀ d, gi n d = true → d.canLay0 = true ∧ d.depth ≤ n) : ∀ ds : List PyData, ds.all (gi n) = true → PyData.canLayAll0 ds = true ∧ PyData.depthAll ds ≤ n
  | [], _ => ⟨by simp [PyData.canLayAll0], by simp [PyData.depthAll]⟩
  | d :: ds, h => by
    rw [List.all_cons, Bool.and_eq_true] at h
    obtain ⟨h1, h2⟩ := ih d h.1
    obtain ⟨h3, h4⟩ := gi_all ih ds h.2
    refine ⟨by simp [PyData.canLayAll0, h1, h3], ?_⟩
    simp only [PyData.depthAll]
    omega
theorem gi_ok : ∀ (n : Nat) (d : PyData), gi n d = true → d.canLay0 = true ∧ d.depth ≤ n
  | 0, _, h => by cases h
  | n + 1, d, h => by
    cases d with
    | none => exact ⟨by simp [PyData.canLay0], by simp [PyData.depth]⟩
    | bool b => exact ⟨by simp [PyData.canLay0], by simp [PyData.depth]⟩
    | int b => exact ⟨by simp [PyData.canLay0], by simp [PyData.depth]⟩
    | str b => cases h
    | dict b => cases h
    | list ds =>
      obtain ⟨h3, h4⟩ := gi_all (gi_ok n) ds h
      exact ⟨by simp [PyData.canLay0, h3], by simp only [PyData.depth]; omega⟩
    | tuple ds =>
      obtain ⟨h3, h4⟩ := gi_all (gi_ok n) ds h
      exact ⟨by simp [PyData.canLay0, h3], by simp only [PyData.depth]; omega⟩
theorem gi_shaped {n : Nat} {d : PyData} (hn : n ≤ 64) (h : gi n d = true) : SeqAt.shaped d = true := by
  obtain ⟨h1, h2⟩ := gi_ok n d h
  show (d.canLay0 && decide (d.depth ≤ 64)) = true
  rw [Bool.and_eq_true]
  exact ⟨h1, decide_eq_true (by omega)⟩
theorem gi_encL (n : Nat) (ls : List Lot) : (ls.map encL).all (gi (n + 2)) = true := by
  rw [List.all_map, List.all_eq_true]
  intro l _
  simp [encL, gi]
theorem gi_encO (n : Nat) (ls : List Ot) : (ls.map encO).all (gi (n + 2)) = true := by
  rw [List.all_map, List.all_eq_true]
  intro l _
  simp [encO, gi]
theorem oEQ_self {n : Nat} {d : PyData} (hn : n ≤ 64) (h : gi n d = true) : oEQ d d = some (.bool true) := by
  have hs := gi_shaped hn h
  have he := SeqAt.eqv_refl d (gi_ok n d h).1
  cases d with
  | int i => simp [oEQ]
  | bool i => simp [oEQ]
  | str i => cases n <;> cases h
  | dict i => cases n <;> cases h
  | none => simp [oEQ, hs, he]
  | list ds => simp [oEQ, hs, he]
  | tuple ds => simp [oEQ, hs, he]
theorem oEQ_nil {n : Nat} {ds : List PyData} (hn : n ≤ 64) (h : gi n (.list ds) = true) : oEQ (.list ds) (.list []) = some (.bool ds.isEmpty) := by
  have hs := gi_shaped hn h
  have hs0 : SeqAt.shaped (.list []) = true := gi_shaped (n := 1) (by decide) rfl
  cases ds with
  | nil =>
    have he := SeqAt.eqv_refl (.list []) (gi_ok 1 (.list []) rfl).1
    simp [oEQ, hs0, he]
  | cons d ds => simp [oEQ, hs, hs0, PyData.eqv, PyData.eqvAll]
def outAgL (os : List Ot) (t a b : Int) : List Int := (os.filter fun o => decide (a ≤ o.1 ∧ o.1 ≤ b + t)).map fun o => o.2
def outAg (os : List Ot) (t a b : Int) : Int := (outAgL os t a b).sum
theorem q_out_against (os : List Ot) (t a b : Int) (hl : os.length ≤ 100000) : q_out_against_1 [.fz (.list (os.map encO)), .fz (.int t), .fz (.tuple [.int a, .int b]), .un, .un] =
    .ok ((outAgL os t a b).map PyData.int, [.fz (.list (os.map encO)), .fz (.int t), .fz (.tuple [.int a, .int b]), .un, .un]) := by
  unfold q_out_against_1 outAgL
  rw [lc_if os encO (fun o => decide (a ≤ o.1 ∧ o.1 ≤ b + t)) (fun o => PyData.int o.2) (ρ := [.fz (.list (os.map encO)), .fz (.int t), .fz (.tuple [.int a, .int b]), .un, .un]) (by simp) hl ?_]
  · simp
  · intro o _
    refine ⟨[.fz (.list (os.map encO)), .fz (.int t), .fz (.tuple [.int a, .int b]), .fz (.int o.1), .fz (.int o.2)], rfl, [.fz (.list (os.map encO)), .fz (.int t), .fz (.tuple [.int a, .int b]), .fz (.int o.1), .fz (.int o.2)], ?_, fun _ => ⟨[.fz (.list (os.map encO)), .fz (.int t), .fz (.tuple [.int a, .int b]), .fz (.int o.1), .fz (.int o.2)], by simp, by simp⟩, fun _ => by simp⟩
    simp [F_goes_against_eq]
theorem F_out_against_eq (os : List Ot) (t a b : Int) (hl : os.length ≤ 100000) : F_out_against [.list (os.map encO), .int t, .tuple [.int a, .int b]] = .ok (.fz (.int (outAg os t a b))) := by
  show toOut (g_out_against _) = _
  simp [g_out_against, q_out_against os t a b hl, asInts_map, outAg]
end Mm
namespace Mm
open PySem L2 Fx
variable [Tabz]
theorem at_map {α : Type} (f : α → PyData) {xs : List α} {k : Nat} {x : α} (h : xs[k]? = some x) : atI (xs.map f) (k : Int) = some (f x) :=
  atI_nat (by rw [List.getElem?_map, h]; rfl)
theorem encL_ix0 (l : Lot) : atI [PyData.int l.1, .int l.2.1, .int l.2.2] 0 = some (.int l.1) := rfl
theorem encL_ix1 (l : Lot) : atI [PyData.int l.1, .int l.2.1, .int l.2.2] 1 = some (.int l.2.1) := rfl
theorem encL_ix2 (l : Lot) : atI [PyData.int l.1, .int l.2.1, .int l.2.2] 2 = some (.int l.2.2) := rfl
def okTk : List Lot → List Int → Bool
  | [], [] => true
  | l :: ls, t :: ts => decide (0 ≤ t ∧ t ≤ l.2.1) && okTk ls ts
  | _, _ => false
def valL : List Lot → List Int → List Int
  | l :: ls, t :: ts => l.2.2 * t :: valL ls ts
  | _, _ => []
def val (ls : List Lot) (ts : List Int) : Int := (valL ls ts).sum
theorem errLs_len {ls : List Lot} (h : errLs ls = none) : ls.length ≤ 30 := by
  unfold errLs at h
  by_cases hl : 30 < ls.length
  · rw [if_pos hl] at h; cases h
  · omega
theorem errOs_len {ls : List Ot} (h : errOs ls = none) : ls.length ≤ 30 := by
  unfold errOs at h
  by_cases hl : 30 < ls.length
  · rw [if_pos hl] at h; cases h
  · omega
theorem errL_good {l : Lot} (h : errL l = none) : GoodL l := by
  unfold errL at h
  split at h
  · cases h
  split at h
  · cases h
  split at h
  · cases h
  exact ⟨by omega, by omega, by omega, by omega, by omega, by omega⟩
theorem errO_good {l : Ot} (h : errO l = none) : GoodO l := by
  unfold errO at h
  split at h
  · cases h
  split at h
  · cases h
  exact ⟨by omega, by omega, by omega, by omega⟩
theorem good_errLs {ls : List Lot} (h : errLs ls = none) : ∀ l ∈ ls, GoodL l := by
  have hl := errLs_len h
  unfold errLs at h
  rw [if_neg (by omega), List.findSome?_eq_none_iff] at h
  exact fun l m => errL_good (h l m)
theorem good_errOs {ls : List Ot} (h : errOs ls = none) : ∀ l ∈ ls, GoodO l := by
  have hl := errOs_len h
  unfold errOs at h
  rw [if_neg (by omega), List.findSome?_eq_none_iff] at h
  exact fun l m => errO_good (h l m)
end Mm
namespace Mm
open PySem L2 Fx
variable [Tabz]
inductive A2 {α β : Type} (R : α → β → Prop) : List α → List β → Prop
  | nil : A2 R [] []
  | cons {a b as bs} : R a b → A2 R as bs → A2 R (a :: as) (b :: bs)
theorem A2.len {α β : Type} {R : α → β → Prop} : ∀ {xs : List α} {ys : List β}, A2 R xs ys → ys.length = xs.length
  | _, _, .nil => rfl
  | _, _, .cons _ t => by simp [t.len]
theorem cut_take {α : Type} (xs : List α) (k : Nat) : cut xs none (some (k : Int)) = xs.take k := by
  unfold cut
  rw [HT.sIx_none, HT.sIx_nat, List.drop_zero, Nat.sub_zero]
  by_cases h : k ≤ xs.length
  · rw [Nat.min_eq_left h]
  · rw [Nat.min_eq_right (by omega), List.take_length, List.take_of_length_le (by omega)]
theorem cut_drop {α : Type} (xs : List α) (k : Nat) : cut xs (some (k : Int)) none = xs.drop k := by
  unfold cut
  rw [HT.sIx_none, HT.sIx_nat, List.take_of_length_le (by rw [List.length_drop]; omega)]
  by_cases h : k ≤ xs.length
  · rw [Nat.min_eq_left h]
  · rw [Nat.min_eq_right (by omega), List.drop_length, List.drop_of_length_le (by omega)]
theorem cut_dropS {α : Type} (xs : List α) (k : Nat) : cut xs (some ((k : Int) + 1)) none = xs.drop (k + 1) := cut_drop xs (k + 1)
end Mm
namespace Mm
open PySem L2 Fx
variable [Tabz]
theorem rep_zero (n : Nat) : (List.replicate n [PyData.int 0]).flatten = ((List.range n).map fun _ => (0 : Int)).map PyData.int := by
  induction n with
  | zero => rfl
  | succ n ih =>
    rw [List.replicate_succ, List.flatten_cons, ih, List.range_succ_eq_map]
    simp [Function.comp_def]
end Mm
namespace Mm
def S (o : List Nat) (g : Nat → Int) : Int := (o.map g).sum
@[simp] theorem S_nil (g : Nat → Int) : S [] g = 0 := rfl
@[simp] theorem S_cons (i : Nat) (o : List Nat) (g : Nat → Int) : S (i :: o) g = g i + S o g := by simp [S]
theorem S_le {o : List Nat} {g h : Nat → Int} (k : ∀ i ∈ o, g i ≤ h i) : S o g ≤ S o h := by
  induction o with
  | nil => simp
  | cons i o ih =>
    have h1 := k i List.mem_cons_self
    have h2 := ih fun j hj => k j (List.mem_cons_of_mem _ hj)
    simp only [S_cons]
    omega
theorem S_congr {o : List Nat} {g h : Nat → Int} (k : ∀ i ∈ o, g i = h i) : S o g = S o h := Int.le_antisymm (S_le fun i hi => Int.le_of_eq (k i hi)) (S_le fun i hi => Int.le_of_eq (k i hi).symm)
theorem S_add {o : List Nat} {g h : Nat → Int} : S o (fun i => g i + h i) = S o g + S o h := by
  induction o with
  | nil => simp
  | cons i o ih => simp only [S_cons, ih]; omega
theorem S_zero {o : List Nat} {g : Nat → Int} (k : ∀ i ∈ o, g i = 0) : S o g = 0 := by
  induction o with
  | nil => rfl
  | cons i o ih => rw [S_cons, k i List.mem_cons_self, ih fun j hj => k j (List.mem_cons_of_mem _ hj)]; rfl
theorem S_nonneg {o : List Nat} {g : Nat → Int} (k : ∀ i ∈ o, 0 ≤ g i) : 0 ≤ S o g := by
  have := S_le (o := o) (g := fun _ => 0) (h := g) k
  rwa [S_zero (fun _ _ => rfl)] at this
theorem S_one {o : List Nat} {g : Nat → Int} {i : Nat} (hi : i ∈ o) (k : ∀ i ∈ o, 0 ≤ g i) : g i ≤ S o g := by
  induction o with
  | nil => cases hi
  | cons j o ih =>
    rw [S_cons]
    have h0 := S_nonneg fun x hx => k x (List.mem_cons_of_mem _ hx)
    have h1 := k j List.mem_cons_self
    rcases List.mem_cons.mp hi with e | e
    · rw [e]; omega
    · have := ih e fun x hx => k x (List.mem_cons_of_mem _ hx); omega
theorem S_perm {o p : List Nat} (h : o.Perm p) (g : Nat → Int) : S o g = S p g := by
  induction h with
  | nil => rfl
  | cons x _ ih => simp only [S_cons, ih]
  | swap x y l => simp only [S_cons]; omega
  | trans _ _ h1 h2 => rw [h1, h2]
theorem outAg_cons (o : Ot) (os : List Ot) (t f l : Int) : outAg (o :: os) t f l = (if f ≤ o.1 ∧ o.1 ≤ l + t then o.2 else 0) + outAg os t f l := by
  unfold outAg outAgL
  by_cases h : f ≤ o.1 ∧ o.1 ≤ l + t
  · rw [List.filter_cons_of_pos (by simp [h]), if_pos h]; simp
  · rw [List.filter_cons_of_neg (by simp only [decide_eq_true_eq]; exact h), if_neg h]; simp
theorem outAg_nil (t f l : Int) : outAg [] t f l = 0 := rfl
theorem outAg_perm {os ps : List Ot} (h : os.Perm ps) (t f l : Int) : outAg os t f l = outAg ps t f l := by
  induction h with
  | nil => rfl
  | cons x _ ih => rw [outAg_cons, outAg_cons, ih]
  | swap x y l => simp only [outAg_cons]; omega
  | trans _ _ h1 h2 => rw [h1, h2]
theorem outAg_mono {os : List Ot} {t f l f' l' : Int} (hc : ∀ o ∈ os, 0 ≤ o.2) (k : ∀ o ∈ os, f ≤ o.1 → o.1 ≤ l + t → f' ≤ o.1 ∧ o.1 ≤ l' + t) : outAg os t f l ≤ outAg os t f' l' := by
  induction os with
  | nil => exact Int.le_refl _
  | cons o os ih =>
    rw [outAg_cons, outAg_cons]
    have h1 := ih (fun x hx => hc x (List.mem_cons_of_mem _ hx)) fun x hx => k x (List.mem_cons_of_mem _ hx)
    have h2 := hc o List.mem_cons_self
    have h3 := k o List.mem_cons_self
    by_cases q : f ≤ o.1 ∧ o.1 ≤ l + t
    · rw [if_pos q, if_pos (h3 q.1 q.2)]; omega
    · rw [if_neg q]; split <;> omega
theorem outAg_nonneg {os : List Ot} {t f l : Int} (hc : ∀ o ∈ os, 0 ≤ o.2) : 0 ≤ outAg os t f l := by
  induction os with
  | nil => exact Int.le_refl _
  | cons o os ih =>
    rw [outAg_cons]
    have h1 := ih fun x hx => hc x (List.mem_cons_of_mem _ hx)
    have h2 := hc o List.mem_cons_self
    split <;> omega
theorem outAg_none {os : List Ot} {t f l : Int} (k : ∀ o ∈ os, ¬ (f ≤ o.1 ∧ o.1 ≤ l + t)) : outAg os t f l = 0 := by
  induction os with
  | nil => rfl
  | cons o os ih => rw [outAg_cons, if_neg (k o List.mem_cons_self), ih fun x hx => k x (List.mem_cons_of_mem _ hx)]; rfl
abbrev at0 (xs : List Int) (i : Nat) : Int := xs.getD i 0
theorem at0_set (xs : List Int) (i j : Nat) (v : Int) (hi : i < xs.length) : at0 (xs.set i v) j = if i = j then v else at0 xs j := by
  unfold at0
  rw [List.getD_eq_getElem?_getD, List.getD_eq_getElem?_getD, List.getElem?_set]
  by_cases h : i = j
  · subst h; simp [hi]
  · simp [h]
def give (dy : Nat → Int) (e t : Int) : List Nat → List Int → Int → List Int × List (Nat × Int)
  | [], left, _ => (left, [])
  | i :: r, left, c => if (e - t ≤ dy i ∧ dy i ≤ e) ∧ 0 < min c (at0 left i) then
      ((give dy e t r (left.set i (at0 left i - min c (at0 left i))) (c - min c (at0 left i))).1, (i, min c (at0 left i)) :: (give dy e t r (left.set i (at0 left i - min c (at0 left i))) (c - min c (at0 left i))).2)
    else give dy e t r left c
structure Gv (dy : Nat → Int) (e t : Int) (o : List Nat) (left left' : List Int) (c : Int) : Prop where
  len : left'.length = left.length
  out : ∀ j, j ∉ o → at0 left' j = at0 left j
  bd : ∀ j ∈ o, 0 ≤ at0 left' j ∧ at0 left' j ≤ at0 left j
  off : ∀ j, ¬ (e - t ≤ dy j ∧ dy j ≤ e) → at0 left' j = at0 left j
  sum : ∀ l, S o (fun i => if (e - t ≤ dy i ∧ dy i ≤ e) ∧ dy i ≤ l then at0 left' i else 0) = S o (fun i => if (e - t ≤ dy i ∧ dy i ≤ e) ∧ dy i ≤ l then at0 left i else 0) - min c (S o (fun i => if (e - t ≤ dy i ∧ dy i ≤ e) ∧ dy i ≤ l then at0 left i else 0))
theorem give_ok (dy : Nat → Int) (e t : Int) : ∀ (o : List Nat) (left : List Int) (c : Int), o.Nodup → o.Pairwise (fun i j => dy i ≤ dy j) → (∀ i ∈ o, i < left.length ∧ 0 ≤ at0 left i) → 0 ≤ c → Gv dy e t o left (give dy e t o left c).1 c
  | [], left, c, _, _, _, hc => ⟨rfl, fun _ _ => rfl, (fun _ h => by cases h), fun _ _ => rfl, (fun l => by rw [S_nil, S_nil]; omega)⟩
  | i :: r, left, c, nd, pw, hl, hc => by
    rw [List.nodup_cons] at nd
    rw [List.pairwise_cons] at pw
    obtain ⟨hi, hi0⟩ := hl i List.mem_cons_self
    unfold give
    split
    · rename_i hw
      obtain ⟨hw, hs⟩ := hw
      have hne : ∀ j ∈ r, i ≠ j := fun j hj z => nd.1 (z ▸ hj)
      have e1 : ∀ j, i ≠ j → at0 (left.set i (at0 left i - min c (at0 left i))) j = at0 left j := fun j hj => by rw [at0_set _ _ _ _ hi, if_neg hj]
      have ih := give_ok dy e t r (left.set i (at0 left i - min c (at0 left i))) (c - min c (at0 left i)) nd.2 pw.2 (fun j hj => by
        rw [List.length_set, e1 j (hne j hj)]
        exact hl j (List.mem_cons_of_mem _ hj)) (by omega)
      have ei : at0 (give dy e t r (left.set i (at0 left i - min c (at0 left i))) (c - min c (at0 left i))).1 i = at0 left i - min c (at0 left i) := by
        rw [ih.out i nd.1, at0_set _ _ _ _ hi, if_pos rfl]
      refine ⟨by rw [ih.len, List.length_set], fun j hj => ?_, fun j hj => ?_, fun j hj => ?_, fun l => ?_⟩
      · rw [List.mem_cons, not_or] at hj
        rw [ih.out j hj.2, e1 j (Ne.symm hj.1)]
      · rcases List.mem_cons.mp hj with z | z
        · rw [z, ei]; omega
        · have := ih.bd j z
          rw [e1 j (hne j z)] at this
          exact this
      · rw [ih.off j hj, e1 j fun z => hj (z ▸ hw)]
      · have hs := ih.sum l
        have hc1 : S r (fun j => if (e - t ≤ dy j ∧ dy j ≤ e) ∧ dy j ≤ l then at0 (left.set i (at0 left i - min c (at0 left i))) j else 0) = S r (fun j => if (e - t ≤ dy j ∧ dy j ≤ e) ∧ dy j ≤ l then at0 left j else 0) := S_congr fun j hj => by rw [e1 j (hne j hj)]
        rw [hc1] at hs
        have h0 : 0 ≤ S r (fun j => if (e - t ≤ dy j ∧ dy j ≤ e) ∧ dy j ≤ l then at0 left j else 0) := S_nonneg fun j hj => by
          have := (hl j (List.mem_cons_of_mem _ hj)).2
          split <;> omega
        simp only [S_cons, ei, hs]
        by_cases hl1 : dy i ≤ l
        · simp only [hw, hl1, and_self, if_true]; omega
        · have hz : S r (fun j => if (e - t ≤ dy j ∧ dy j ≤ e) ∧ dy j ≤ l then at0 left j else 0) = 0 := S_zero fun j hj => by
            have := pw.1 j hj
            rw [if_neg]
            omega
          rw [hz]
          simp only [hl1, and_false, if_false]; omega
    · rename_i hw
      have ih := give_ok dy e t r left c nd.2 pw.2 (fun j hj => hl j (List.mem_cons_of_mem _ hj)) hc
      have ei : at0 (give dy e t r left c).1 i = at0 left i := ih.out i nd.1
      refine ⟨ih.len, fun j hj => ?_, fun j hj => ?_, fun j hj => ih.off j hj, fun l => ?_⟩
      · rw [List.mem_cons, not_or] at hj
        exact ih.out j hj.2
      · rcases List.mem_cons.mp hj with z | z
        · rw [z, ei]; omega
        · exact ih.bd j z
      · simp only [S_cons, ei, ih.sum l]
        have h0 : 0 ≤ S r (fun j => if (e - t ≤ dy j ∧ dy j ≤ e) ∧ dy j ≤ l then at0 left j else 0) := S_nonneg fun j hj => by
          have := (hl j (List.mem_cons_of_mem _ hj)).2
          split <;> omega
        by_cases hw1 : (e - t ≤ dy i ∧ dy i ≤ e) ∧ dy i ≤ l
        · have hz : c = 0 ∨ at0 left i = 0 := by
            have : ¬ 0 < min c (at0 left i) := fun z => hw ⟨hw1.1, z⟩
            omega
          rw [if_pos hw1]
          omega
        · rw [if_neg hw1]; omega
def Hall (dy : Nat → Int) (o : List Nat) (t : Int) (left : List Int) (os : List Ot) : Prop := ∀ f l, S o (fun i => if f ≤ dy i ∧ dy i ≤ l then at0 left i else 0) ≤ outAg os t f l
theorem hall_step {dy : Nat → Int} {o : List Nat} {t : Int} {left left' : List Int} {x : Ot} {os : List Ot} (ht : 0 ≤ t) (h0 : ∀ i ∈ o, 0 ≤ at0 left i) (hx : 0 ≤ x.2) (hc : ∀ y ∈ os, 0 ≤ y.2) (hs : ∀ y ∈ os, x.1 ≤ y.1) (g : Gv dy x.1 t o left left' x.2) :
    Hall dy o t left (x :: os) ↔ Hall dy o t left' os := by
  constructor
  · intro H f l
    have pt : ∀ p : Nat → Prop, ∀ [∀ i, Decidable (p i)], S o (fun i => if p i then at0 left' i else 0) ≤ S o (fun i => if p i then at0 left i else 0) := fun p _ => S_le fun i hi => by
      have := g.bd i hi
      split <;> omega
    by_cases q : f ≤ x.1 ∧ x.1 ≤ l + t
    · by_cases hB : x.2 ≤ S o (fun i => if (x.1 - t ≤ dy i ∧ dy i ≤ x.1) ∧ dy i ≤ l then at0 left i else 0)
      · have hf := H (min f (x.1 - t)) l
        rw [outAg_cons, if_pos (by omega)] at hf
        have h1 : S o (fun i => if f ≤ dy i ∧ dy i ≤ l then at0 left' i else 0) ≤ S o (fun i => if min f (x.1 - t) ≤ dy i ∧ dy i ≤ l then at0 left' i else 0) := S_le fun i hi => by
          have := g.bd i hi
          by_cases z : f ≤ dy i ∧ dy i ≤ l
          · rw [if_pos z, if_pos (by omega)]; exact Int.le_refl _
          · rw [if_neg z]; split <;> omega
        have split2 : ∀ (ts : List Int), S o (fun i => if min f (x.1 - t) ≤ dy i ∧ dy i ≤ l then at0 ts i else 0) = S o (fun i => if (x.1 - t ≤ dy i ∧ dy i ≤ x.1) ∧ dy i ≤ l then at0 ts i else 0) + S o (fun i => if (min f (x.1 - t) ≤ dy i ∧ dy i ≤ l) ∧ ¬ (x.1 - t ≤ dy i ∧ dy i ≤ x.1) then at0 ts i else 0) := fun ts => by
          rw [← S_add]
          refine S_congr fun i hi => ?_
          by_cases z1 : min f (x.1 - t) ≤ dy i ∧ dy i ≤ l <;> by_cases z2 : x.1 - t ≤ dy i ∧ dy i ≤ x.1
          · rw [if_pos z1, if_pos ⟨z2, z1.2⟩, if_neg (fun w => w.2 z2)]; omega
          · rw [if_pos z1, if_neg (fun w => z2 w.1), if_pos ⟨z1, z2⟩]; omega
          · rw [if_neg z1, if_neg (fun w => z1 ⟨by omega, w.2⟩), if_neg (fun w => z1 w.1)]; omega
          · rw [if_neg z1, if_neg (fun w => z2 w.1), if_neg (fun w => z1 w.1)]; omega
        have h2 : S o (fun i => if (min f (x.1 - t) ≤ dy i ∧ dy i ≤ l) ∧ ¬ (x.1 - t ≤ dy i ∧ dy i ≤ x.1) then at0 left' i else 0) = S o (fun i => if (min f (x.1 - t) ≤ dy i ∧ dy i ≤ l) ∧ ¬ (x.1 - t ≤ dy i ∧ dy i ≤ x.1) then at0 left i else 0) := S_congr fun i hi => by
          by_cases z : (min f (x.1 - t) ≤ dy i ∧ dy i ≤ l) ∧ ¬ (x.1 - t ≤ dy i ∧ dy i ≤ x.1)
          · rw [if_pos z, if_pos z, g.off i z.2]
          · rw [if_neg z, if_neg z]
        have h3 := g.sum l
        have h4 : outAg os t (min f (x.1 - t)) l ≤ outAg os t f l := outAg_mono hc fun y hy _ z => ⟨by have := hs y hy; omega, z⟩
        have h5 := split2 left
        have h6 := split2 left'
        omega
      · have h3 := g.sum l
        have hA := H f (x.1 - t - 1)
        have hB2 := H (x.1 + 1) l
        rw [outAg_none (fun y hy => by
          rcases List.mem_cons.mp hy with z | z
          · rw [z]; omega
          · have := hs y z; omega)] at hA
        rw [outAg_cons, if_neg (by omega)] at hB2
        have h4 : outAg os t (x.1 + 1) l ≤ outAg os t f l := outAg_mono hc fun y hy _ z => ⟨by have := hs y hy; omega, z⟩
        have h5 : S o (fun i => if f ≤ dy i ∧ dy i ≤ l then at0 left' i else 0) ≤ S o (fun i => if (x.1 - t ≤ dy i ∧ dy i ≤ x.1) ∧ dy i ≤ l then at0 left' i else 0) + (S o (fun i => if f ≤ dy i ∧ dy i ≤ x.1 - t - 1 then at0 left i else 0) + S o (fun i => if x.1 + 1 ≤ dy i ∧ dy i ≤ l then at0 left i else 0)) := by
          rw [← S_add, ← S_add]
          refine S_le fun i hi => ?_
          have hb := g.bd i hi
          have h0i := h0 i hi
          by_cases z1 : f ≤ dy i ∧ dy i ≤ l
          · rw [if_pos z1]
            by_cases z2 : x.1 - t ≤ dy i ∧ dy i ≤ x.1
            · rw [if_pos ⟨z2, z1.2⟩]; split <;> split <;> omega
            · by_cases z3 : dy i ≤ x.1 - t - 1
              · rw [if_pos (show f ≤ dy i ∧ dy i ≤ x.1 - t - 1 from ⟨z1.1, z3⟩)]; split <;> split <;> omega
              · rw [if_pos (show x.1 + 1 ≤ dy i ∧ dy i ≤ l from by omega)]; split <;> split <;> omega
          · rw [if_neg z1]; split <;> split <;> split <;> omega
        omega
    · have h1 := H f l
      rw [outAg_cons, if_neg q] at h1
      have := pt fun i => f ≤ dy i ∧ dy i ≤ l
      omega
  · intro H f l
    have h1 := H f l
    rw [outAg_cons]
    by_cases q : f ≤ x.1 ∧ x.1 ≤ l + t
    · rw [if_pos q]
      have h2 : S o (fun i => if f ≤ dy i ∧ dy i ≤ l then at0 left i else 0) ≤ S o (fun i => if f ≤ dy i ∧ dy i ≤ l then at0 left' i else 0) + x.2 := by
        have hw : S o (fun i => if f ≤ dy i ∧ dy i ≤ l then at0 left i else 0) + S o (fun i => if (x.1 - t ≤ dy i ∧ dy i ≤ x.1) ∧ dy i ≤ l then at0 left' i else 0) ≤ S o (fun i => if f ≤ dy i ∧ dy i ≤ l then at0 left' i else 0) + S o (fun i => if (x.1 - t ≤ dy i ∧ dy i ≤ x.1) ∧ dy i ≤ l then at0 left i else 0) := by
          rw [← S_add, ← S_add]
          refine S_le fun i hi => ?_
          have hb := g.bd i hi
          by_cases z2 : x.1 - t ≤ dy i ∧ dy i ≤ x.1
          · by_cases z3 : dy i ≤ l
            · by_cases z4 : f ≤ dy i
              · simp only [z2, z3, z4, and_self, if_true]; omega
              · simp only [z2, z3, z4, and_self, false_and, if_true, if_false]; omega
            · rw [if_neg (fun w => z3 w.2), if_neg (fun w => z3 w.2), if_neg (fun w => z3 w.2), if_neg (fun w => z3 w.2)]; omega
          · rw [g.off i z2]; omega
        have h3 := g.sum l
        omega
      omega
    · rw [if_neg q]
      have h2 : S o (fun i => if f ≤ dy i ∧ dy i ≤ l then at0 left i else 0) = S o (fun i => if f ≤ dy i ∧ dy i ≤ l then at0 left' i else 0) := S_congr fun i hi => by
        by_cases z : f ≤ dy i ∧ dy i ≤ l
        · rw [if_pos z, if_pos z, g.off i (by omega)]
        · rw [if_neg z, if_neg z]
      omega
def dealG (dy : Nat → Int) (ot : Nat → Ot) (t : Int) (o : List Nat) : List Nat → List Int → List Int × List (Nat × Nat × Int)
  | [], left => (left, [])
  | j :: r, left => ((dealG dy ot t o r (give dy (ot j).1 t o left (ot j).2).1).1, ((give dy (ot j).1 t o left (ot j).2).2.map fun p => (p.1, j, p.2)) ++ (dealG dy ot t o r (give dy (ot j).1 t o left (ot j).2).1).2)
theorem deal_ok {dy : Nat → Int} {ot : Nat → Ot} {t : Int} {o : List Nat} (ht : 0 ≤ t) (nd : o.Nodup) (pw : o.Pairwise (fun i j => dy i ≤ dy j)) : ∀ (p : List Nat) (left : List Int), p.Pairwise (fun i j => (ot i).1 ≤ (ot j).1) → (∀ j ∈ p, 0 ≤ (ot j).2) → (∀ i ∈ o, i < left.length ∧ 0 ≤ at0 left i) →
    (Hall dy o t left (p.map ot) ↔ ∀ i ∈ o, at0 (dealG dy ot t o p left).1 i = 0) ∧ (dealG dy ot t o p left).1.length = left.length ∧ (∀ i ∈ o, 0 ≤ at0 (dealG dy ot t o p left).1 i ∧ at0 (dealG dy ot t o p left).1 i ≤ at0 left i) ∧ ∀ i, i ∉ o → at0 (dealG dy ot t o p left).1 i = at0 left i
  | [], left, _, _, hl => by
    refine ⟨⟨fun H i hi => ?_, fun H f l => ?_⟩, rfl, fun i hi => ⟨(hl i hi).2, Int.le_refl _⟩, fun _ _ => rfl⟩
    · have h1 := H (dy i) (dy i)
      rw [List.map_nil, outAg_nil] at h1
      have h2 := S_one (g := fun j => if dy i ≤ dy j ∧ dy j ≤ dy i then at0 left j else 0) hi fun j hj => by
        have := (hl j hj).2
        split <;> omega
      simp only [Int.le_refl, and_self, if_true] at h2
      have := (hl i hi).2
      show at0 left i = 0
      omega
    · rw [List.map_nil, outAg_nil, S_zero (fun i hi => ?_)]
      · exact Int.le_refl _
      · have h1 : at0 left i = 0 := H i hi
        rw [h1]; split <;> rfl
  | j :: r, left, ps, hc, hl => by
    rw [List.pairwise_cons] at ps
    have g := give_ok dy (ot j).1 t o left (ot j).2 nd pw hl (hc j List.mem_cons_self)
    obtain ⟨i1, i2, i3, i4⟩ := deal_ok ht nd pw r (give dy (ot j).1 t o left (ot j).2).1 ps.2 (fun x hx => hc x (List.mem_cons_of_mem _ hx)) (fun i hi => ⟨by rw [g.len]; exact (hl i hi).1, (g.bd i hi).1⟩)
    refine ⟨?_, i2.trans g.len, fun i hi => ⟨(i3 i hi).1, Int.le_trans (i3 i hi).2 (g.bd i hi).2⟩, fun i hi => (i4 i hi).trans (g.out i hi)⟩
    rw [List.map_cons]
    exact (hall_step ht (fun i hi => (hl i hi).2) (hc j List.mem_cons_self) (fun y hy => by
      obtain ⟨k, hk, rfl⟩ := List.mem_map.mp hy
      exact hc k (List.mem_cons_of_mem _ hk)) (fun y hy => by
      obtain ⟨k, hk, rfl⟩ := List.mem_map.mp hy
      exact ps.1 k hk) g).trans i1
end Mm
namespace Mm
open PySem L2 Fx
variable [Tabz]
abbrev dI (xs : List Int) : List PyData := xs.map PyData.int
abbrev dN (xs : List Nat) : List PyData := xs.map fun i => PyData.int (i : Nat)
theorem lexLe_trans : ∀ {a b c : List Int}, lexLe a b = true → lexLe b c = true → lexLe a c = true
  | [], _, _, _, _ => by simp
  | _ :: _, [], _, h, _ => by simp at h
  | _ :: _, _ :: _, [], _, h => by simp at h
  | a :: as, b :: bs, c :: cs, h1, h2 => by
    simp only [lexLe, Bool.or_eq_true, Bool.and_eq_true, decide_eq_true_eq] at h1 h2 ⊢
    rcases h1 with h1 | ⟨h1, h1'⟩ <;> rcases h2 with h2 | ⟨h2, h2'⟩
    · exact .inl (by omega)
    · exact .inl (by omega)
    · exact .inl (by omega)
    · exact .inr ⟨by omega, lexLe_trans h1' h2'⟩
theorem lexLe_total : ∀ (a b : List Int), (lexLe a b || lexLe b a) = true
  | [], _ => by simp
  | _ :: _, [] => by simp
  | a :: as, b :: bs => by
    have ih := lexLe_total as bs
    simp only [lexLe, Bool.or_eq_true, Bool.and_eq_true, decide_eq_true_eq] at ih ⊢
    by_cases h1 : a < b
    · exact .inl (.inl h1)
    · by_cases h2 : b < a
      · exact .inr (.inl h2)
      · have e : a = b := by omega
        rcases ih with ih | ih
        · exact .inl (.inr ⟨e, ih⟩)
        · exact .inr (.inr ⟨e.symm, ih⟩)
noncomputable def byK (n : Nat) (key : Nat → List Int) : List Nat := (List.range n).mergeSort fun a b => lexLe (key a) (key b)
theorem byK_perm (n : Nat) (key : Nat → List Int) : (byK n key).Perm (List.range n) := List.mergeSort_perm _ _
theorem byK_pw (n : Nat) (key : Nat → List Int) : (byK n key).Pairwise fun a b => lexLe (key a) (key b) = true := List.pairwise_mergeSort (le := fun a b => lexLe (key a) (key b)) (fun _ _ _ h1 h2 => lexLe_trans h1 h2) (fun a b => lexLe_total (key a) (key b)) _
theorem byK_mem {n : Nat} {key : Nat → List Int} {i : Nat} : i ∈ byK n key ↔ i < n := by rw [(byK_perm n key).mem_iff, List.mem_range]
theorem byK_nodup (n : Nat) (key : Nat → List Int) : (byK n key).Nodup := (byK_perm n key).nodup_iff.mpr List.nodup_range
abbrev dyL (ls : List Lot) (i : Nat) : Int := (ls.getD i (0, 0, 0)).1
abbrev otO (os : List Ot) (i : Nat) : Ot := os.getD i (0, 0)
noncomputable def ageL (ls : List Lot) : List Nat := byK ls.length fun i => [dyL ls i, (i : Int)]
noncomputable def ageO (os : List Ot) : List Nat := byK os.length fun i => [(otO os i).1, (i : Int)]
noncomputable def dutyL (ls : List Lot) : List Nat := byK ls.length fun i => [-(ls.getD i (0, 0, 0)).2.2, dyL ls i, (i : Int)]
theorem byK_day {n : Nat} {d : Nat → Int} : (byK n fun i => [d i, (i : Int)]).Pairwise fun a b => d a ≤ d b := (byK_pw n _).imp fun {a b} h => by
  simp only [lexLe, Bool.or_eq_true, Bool.and_eq_true, decide_eq_true_eq] at h
  omega
theorem sortKy_nat {kx : List Kx} {rows : List PyData} {n : Nat} {key : Nat → List Int} (h : ∀ i, i < n → keyI kx rows (i : Int) = key i) : sortKy kx rows ((List.range n).map fun i : Nat => (i : Int)) = (byK n key).map fun i : Nat => (i : Int) := by
  unfold sortKy byK
  rw [List.map_mergeSort (s := fun a b => lexLe (keyI kx rows a) (keyI kx rows b)) (f := fun i : Nat => (i : Int)) fun a ha b hb => ?_]
  rw [List.mem_range] at ha hb
  rw [h a ha, h b hb]
theorem oSortK_nat {kx : List Kx} {rows : List PyData} {n : Nat} {key : Nat → List Int} (h : ∀ i, i < n → Fx.keyOf kx rows (i : Int) = some (key i)) : oSortK kx (.list rows) (.list (dN (List.range n))) = some (dN (byK n key)) := by
  have e1 : dN (List.range n) = dI ((List.range n).map fun i : Nat => (i : Int)) := by simp [dN, dI]
  have e2 : dN (byK n key) = dI ((byK n key).map fun i : Nat => (i : Int)) := by simp [dN, dI]
  rw [e1, e2]
  unfold oSortK
  simp only [asInts_map]
  rw [sortKy_nat (key := key) (fun i hi => by rw [keyI, h i hi]; rfl), if_pos]
  rw [List.all_eq_true]
  intro k hk
  obtain ⟨i, hi, rfl⟩ := List.mem_map.mp hk
  rw [h i (List.mem_range.mp hi)]
  rfl
theorem sort_def {kx : List Kx} {rows : List PyData} {key : Nat → List Int} (hn : rows.length ≤ 100000) (h : ∀ i, i < rows.length → Fx.keyOf kx rows (i : Int) = some (key i)) : toOut (sRetL (fSortK 0 kx (fLst (fLr1 (fCB oLen [(.v 0)])))) [.fz (.list rows)]) = .ok (.ow (dN (byK rows.length key))) := by
  have q := oSortK_nat h
  have hs : small rows.length = true := small_of hn
  simp only [dN] at q ⊢
  simp [hs, q, -oSortK]
theorem keyOf_row {kx : List Kx} {rows : List PyData} {i : Nat} {ds : List PyData} (h : rows[i]? = some (.tuple ds)) : Fx.keyOf kx rows (i : Int) = valsK ds i kx := by
  unfold Fx.keyOf
  rw [if_pos (by omega), Int.toNat_natCast, h]
theorem get_lot {ls : List Lot} {i : Nat} (h : i < ls.length) : (ls.map encL)[i]? = some (encL (ls.getD i (0, 0, 0))) := by simp [h]
theorem get_out {os : List Ot} {i : Nat} (h : i < os.length) : (os.map encO)[i]? = some (encO (os.getD i (0, 0))) := by simp [h]
theorem F_by_ageL_eq (ls : List Lot) (h : ls.length ≤ 100000) : F_by_age [.list (ls.map encL)] = .ok (.ow (dN (ageL ls))) := by
  show toOut (g_by_age _) = _
  have q := sort_def (kx := [.col 0, .pl]) (rows := ls.map encL) (key := fun i => [dyL ls i, (i : Int)]) (by simpa using h) fun i hi => by
    rw [List.length_map] at hi
    rw [keyOf_row (get_lot hi)]
    rfl
  rw [List.length_map] at q
  exact q
theorem F_by_ageO_eq (os : List Ot) (h : os.length ≤ 100000) : F_by_age [.list (os.map encO)] = .ok (.ow (dN (ageO os))) := by
  show toOut (g_by_age _) = _
  have q := sort_def (kx := [.col 0, .pl]) (rows := os.map encO) (key := fun i => [(otO os i).1, (i : Int)]) (by simpa using h) fun i hi => by
    rw [List.length_map] at hi
    rw [keyOf_row (get_out hi)]
    rfl
  rw [List.length_map] at q
  exact q
theorem F_l_eldestL_eq (ls : List Lot) (h : ls.length ≤ 100000) : F_l_eldest [.list (ls.map encL)] = .ok (.ow (dN (ageL ls))) := F_by_ageL_eq ls h
theorem F_l_eldestO_eq (os : List Ot) (h : os.length ≤ 100000) : F_l_eldest [.list (os.map encO)] = .ok (.ow (dN (ageO os))) := F_by_ageO_eq os h
theorem F_by_duty_eq (ls : List Lot) (h : ls.length ≤ 100000) : F_by_duty [.list (ls.map encL)] = .ok (.ow (dN (dutyL ls))) := by
  show toOut (g_by_duty _) = _
  have q := sort_def (kx := [.zsub 2, .col 0, .pl]) (rows := ls.map encL) (key := fun i => [-(ls.getD i (0, 0, 0)).2.2, dyL ls i, (i : Int)]) (by simpa using h) fun i hi => by
    rw [List.length_map] at hi
    rw [keyOf_row (get_lot hi)]
    show some [0 - (ls.getD i (0, 0, 0)).2.2, dyL ls i, (i : Int)] = _
    rw [Int.zero_sub]
  rw [List.length_map] at q
  exact q
theorem F_l_dearest_eq (ls : List Lot) (h : ls.length ≤ 100000) : F_l_dearest [.list (ls.map encL)] = .ok (.ow (dN (dutyL ls))) := by
  show toOut (g_l_dearest _) = _
  have q := sort_def (kx := [.neg 2, .col 0, .pl]) (rows := ls.map encL) (key := fun i => [-(ls.getD i (0, 0, 0)).2.2, dyL ls i, (i : Int)]) (by simpa using h) fun i hi => by
    rw [List.length_map] at hi
    rw [keyOf_row (get_lot hi)]
    rfl
  rw [List.length_map] at q
  exact q
theorem F_days_of_eq (ls : List Lot) (h : ls.length < 64) : F_days_of [.list (ls.map encL)] = .ok (.ow (dI (sortU (ls.map (·.1))))) := by
  show toOut (g_days_of _) = _
  have q : q_days_of_1 [.fz (.list (ls.map encL)), .un] = .ok (dI (ls.map (·.1)), [.fz (.list (ls.map encL)), .un]) := by
    unfold q_days_of_1
    rw [lc_all ls encL (fun l => PyData.int l.1) (ρ := [.fz (.list (ls.map encL)), .un]) (by simp) (by omega) fun l hl => ⟨[.fz (.list (ls.map encL)), .fz (encL l)], rfl, [.fz (.list (ls.map encL)), .fz (encL l)], by simp [encL, encL_ix0], rfl⟩]
    simp [dI]
  simp only [dI] at q
  have hl : (ls.map (fun l : Lot => l.1)).length < 64 := by simpa using h
  show toOut (g_days_of [.fz (.list (ls.map encL)), .un]) = _
  generalize ls.map (fun l : Lot => l.1) = xs at q hl ⊢
  simp [g_days_of, q, asInts_map, hl]
def prs : List Int → List (Int × Int)
  | [] => []
  | d :: r => ((d :: r).map fun l => (d, l)) ++ prs r
def encP (p : Int × Int) : PyData := .tuple [.int p.1, .int p.2]
theorem mem_prs {f l : Int} : ∀ {ds : List Int}, ds.Pairwise (· < ·) → ((f, l) ∈ prs ds ↔ f ∈ ds ∧ l ∈ ds ∧ f ≤ l)
  | [], _ => by simp [prs]
  | d :: r, h => by
    rw [List.pairwise_cons] at h
    unfold prs
    rw [List.mem_append, mem_prs h.2, List.mem_map]
    constructor
    · rintro (⟨x, hx, e⟩ | ⟨h1, h2, h3⟩)
      · cases e
        refine ⟨List.mem_cons_self, hx, ?_⟩
        rcases List.mem_cons.mp hx with e | e
        · omega
        · have := h.1 l e; omega
      · exact ⟨List.mem_cons_of_mem _ h1, List.mem_cons_of_mem _ h2, h3⟩
    · rintro ⟨h1, h2, h3⟩
      rcases List.mem_cons.mp h1 with e | e
      · exact .inl ⟨l, h2, by rw [e]⟩
      · rcases List.mem_cons.mp h2 with e2 | e2
        · have := h.1 f e; omega
        · exact .inr ⟨e, e2, h3⟩
theorem prs_len : ∀ ds : List Int, (prs ds).length ≤ ds.length * ds.length
  | [] => by simp [prs]
  | d :: r => by
    have ih := prs_len r
    simp only [prs, List.length_append, List.length_map, List.length_cons]
    have : (r.length + 1) * (r.length + 1) = r.length * r.length + 2 * r.length + 1 := by
      rw [Nat.add_mul, Nat.mul_add]; omega
    omega
end Mm
namespace Mm
open PySem L2 Fx
variable [Tabz]
theorem q_strs (x y : Sl) (ds : List Int) (k : Nat) (d : Int) (hl : ds.length ≤ 1000) : q_all_stretches_1 [x, .fz (.list (dI ds)), y, .fz (.int (k : Int)), .fz (.int d), .un] =
    .ok (((ds.drop k).map fun l => (d, l)).map encP, [x, .fz (.list (dI ds)), y, .fz (.int (k : Int)), .fz (.int d), .un]) := by
  unfold q_all_stretches_1
  have hc : cut (dI ds) (some (k : Int)) none = dI (ds.drop k) := by
    unfold dI
    rw [cut_drop, List.map_drop]
  rw [lc_all (ds.drop k) PyData.int (fun l => encP (d, l)) (ρ := [x, .fz (.list (dI ds)), y, .fz (.int (k : Int)), .fz (.int d), .un]) ?_ (by simp; omega) fun l _ => ⟨[x, .fz (.list (dI ds)), y, .fz (.int (k : Int)), .fz (.int d), .fz (.int l)], rfl, [x, .fz (.list (dI ds)), y, .fz (.int (k : Int)), .fz (.int d), .fz (.int l)], by simp [encP, mkT, small], rfl⟩]
  · rw [List.map_map]; rfl
  · show _ = Res.ok (dI (ds.drop k), _)
    generalize dI (ds.drop k) = zs at hc ⊢
    generalize dI ds = ws at hc ⊢
    simp [hc]
theorem strs_loop (x : Sl) (ds : List Int) (hl : ds.length ≤ 100) : ∀ (r : List Int) (k : Nat) (acc : List (Int × Int)) (s3 s4 s5 : Sl), ds.drop k = r → acc.length + (prs r).length ≤ 100000 → (s5 = .un ∨ True) → ∃ s3' s4' s5',
    forE (gTp (gsCons (gSet 3) (gsCons (gSet 4) gsNil))) b_all_stretches_1 ((dI r).zipIdx k |>.map fun (p : PyData × Nat) => PyData.tuple [.int (p.2 : Nat), p.1]) [x, .fz (.list (dI ds)), .ow (acc.map encP), s3, s4, .un] =
      .nx [x, .fz (.list (dI ds)), .ow ((acc ++ prs r).map encP), s3', s4', s5']
  | [], k, acc, s3, s4, s5, _, _, _ => ⟨s3, s4, .un, by simp [forE, prs]⟩
  | d :: r, k, acc, s3, s4, s5, hd, hn, _ => by
    unfold dI
    rw [List.map_cons, List.zipIdx_cons, List.map_cons]
    unfold forE
    have e : gTp (gsCons (gSet 3) (gsCons (gSet 4) gsNil)) (PyData.tuple [.int ((k : Nat) : Int), .int d]) [x, .fz (.list (dI ds)), .ow (acc.map encP), s3, s4, .un] = some [x, .fz (.list (dI ds)), .ow (acc.map encP), .fz (.int ((k : Nat) : Int)), .fz (.int d), .un] := rfl
    have hp : (prs (d :: r)).length = (r.length + 1) + (prs r).length := by simp [prs]; omega
    have t : b_all_stretches_1 [x, .fz (.list (dI ds)), .ow (acc.map encP), .fz (.int ((k : Nat) : Int)), .fz (.int d), .un] = .nx [x, .fz (.list (dI ds)), .ow ((acc ++ (d :: r).map fun l => (d, l)).map encP), .fz (.int ((k : Nat) : Int)), .fz (.int d), .un] := by
      have q := q_strs x (.ow (acc.map encP)) ds k d (by omega)
      rw [hd] at q
      have hs : small ((acc.map encP).length + (((d :: r).map fun l => (d, l)).map encP).length) = true := small_of (by simp; omega)
      rw [List.map_append]
      generalize ((d :: r).map fun l => (d, l)).map encP = zs at q hs ⊢
      generalize acc.map encP = ws at q hs ⊢
      simp [b_all_stretches_1, q, kExtend, hs, mutO]
    simp only [e, t]
    obtain ⟨a, b, c, q⟩ := strs_loop x ds hl r (k + 1) (acc ++ (d :: r).map fun l => (d, l)) (.fz (.int ((k : Nat) : Int))) (.fz (.int d)) .un (by rw [← List.drop_drop, hd]; rfl) (by simp [prs] at hn ⊢; omega) (.inr trivial)
    refine ⟨a, b, c, q.trans ?_⟩
    simp [prs]
noncomputable def strL (ls : List Lot) : List (Int × Int) := prs (sortU (ls.map (·.1)))
theorem insU_len (x : Int) : ∀ ys : List Int, (insU x ys).length ≤ ys.length + 1
  | [] => by simp [insU]
  | y :: ys => by
    unfold insU
    have := insU_len x ys
    split
    · simp
    · split
      · simp
      · simp; omega
theorem sortU_len : ∀ ns : List Int, (sortU ns).length ≤ ns.length
  | [] => by simp [sortU]
  | n :: ns => by
    have h1 := insU_len n (sortU ns)
    have h2 := sortU_len ns
    show (insU n (sortU ns)).length ≤ _
    simp
    omega
theorem strL_len {ls : List Lot} (h : ls.length < 64) : (strL ls).length ≤ 5000 := by
  have h1 := prs_len (sortU (ls.map (·.1)))
  have h2 := sortU_len (ls.map (·.1))
  rw [List.length_map] at h2
  have h3 : (sortU (ls.map (·.1))).length * (sortU (ls.map (·.1))).length ≤ 63 * 63 := Nat.mul_le_mul (by omega) (by omega)
  unfold strL
  omega
theorem F_all_stretches_eq (ls : List Lot) (h : ls.length < 64) : F_all_stretches [.list (ls.map encL)] = .ok (.ow ((strL ls).map encP)) := by
  show toOut (g_all_stretches _) = _
  have h2 := sortU_len (ls.map (·.1))
  rw [List.length_map] at h2
  have hl := strL_len h
  obtain ⟨a, b, c, q⟩ := strs_loop (.fz (.list (ls.map encL))) (sortU (ls.map (·.1))) (by omega) (sortU (ls.map (·.1))) 0 [] .un .un .un rfl (by unfold strL at hl; simp; omega) (.inr trivial)
  have f := F_days_of_eq ls h
  unfold strL
  rw [List.nil_append, List.map_nil] at q
  generalize sortU (ls.map (·.1)) = ds at q f ⊢
  show toOut (g_all_stretches [.fz (.list (ls.map encL)), .un, .un, .un, .un, .un]) = _
  unfold g_all_stretches
  have e1 : oEnum [.list (dI ds)] = some ((dI ds).zipIdx 0 |>.map fun (p : PyData × Nat) => PyData.tuple [.int (p.2 : Nat), p.1]) := rfl
  generalize ((dI ds).zipIdx 0 |>.map fun (p : PyData × Nat) => PyData.tuple [.int (p.2 : Nat), p.1]) = es at q e1
  generalize (prs ds).map encP = ps at q ⊢
  generalize dI ds = dd at q e1 f ⊢
  simp [f, e1, q, sFor, mkL, small]
noncomputable def inS (ls : List Lot) (ts : List Int) (f l : Int) : Int := S (List.range ls.length) fun i => if f ≤ dyL ls i ∧ dyL ls i ≤ l then at0 ts i else 0
theorem sum_filter (o : List Nat) (p : Nat → Bool) (g : Nat → Int) : ((o.filter p).map g).sum = S o fun i => if p i = true then g i else 0 := by
  induction o with
  | nil => rfl
  | cons i o ih =>
    rw [S_cons]
    by_cases h : p i = true
    · rw [List.filter_cons_of_pos h, if_pos h, List.map_cons, List.sum_cons, ih]
    · rw [List.filter_cons_of_neg h, if_neg h, ih]; omega
theorem F_in_stretch_eq (ls : List Lot) (ts : List Int) (f l : Int) (hn : ls.length ≤ 1000) (hl : ts.length = ls.length) : F_in_stretch [.list (ls.map encL), .list (dI ts), encP (f, l)] = .ok (.fz (.int (inS ls ts f l))) := by
  show toOut (g_in_stretch [.fz (.list (ls.map encL)), .fz (.list (dI ts)), .fz (.tuple [.int f, .int l]), .un, .un, .un]) = _
  have q : q_in_stretch_1 [.fz (.list (ls.map encL)), .fz (.list (dI ts)), .fz (.tuple [.int f, .int l]), .fz (.int f), .fz (.int l), .un] = .ok (dI (((List.range ls.length).filter fun i => decide (f ≤ dyL ls i ∧ dyL ls i ≤ l)).map fun i => at0 ts i), [.fz (.list (ls.map encL)), .fz (.list (dI ts)), .fz (.tuple [.int f, .int l]), .fz (.int f), .fz (.int l), .un]) := by
    unfold q_in_stretch_1
    rw [lc_if (List.range ls.length) (fun i => PyData.int (i : Nat)) (fun i => decide (f ≤ dyL ls i ∧ dyL ls i ≤ l)) (fun i => PyData.int (at0 ts i)) (ρ := [.fz (.list (ls.map encL)), .fz (.list (dI ts)), .fz (.tuple [.int f, .int l]), .fz (.int f), .fz (.int l), .un]) (by
      simp [oRng1_of (j := (ls.length : Int)) (by omega) (by omega), rng]) (by rw [List.length_range]; omega) ?_]
    · simp
    · intro i hi
      rw [List.mem_range] at hi
      have e1 : ls[i]? = some (ls.getD i (0, 0, 0)) := by simp [hi]
      have e2 : ts[i]? = some (at0 ts i) := by simp [hl, hi]
      have a1 := at_map encL e1
      have a2 := at_map PyData.int e2
      unfold dyL
      generalize ls.getD i (0, 0, 0) = z at *
      generalize at0 ts i = u at *
      refine ⟨[.fz (.list (ls.map encL)), .fz (.list (dI ts)), .fz (.tuple [.int f, .int l]), .fz (.int f), .fz (.int l), .fz (.int (i : Nat))], rfl, [.fz (.list (ls.map encL)), .fz (.list (dI ts)), .fz (.tuple [.int f, .int l]), .fz (.int f), .fz (.int l), .fz (.int (i : Nat))], ?_, fun _ => ⟨[.fz (.list (ls.map encL)), .fz (.list (dI ts)), .fz (.tuple [.int f, .int l]), .fz (.int f), .fz (.int l), .fz (.int (i : Nat))], by simp [a2], rfl⟩, fun _ => rfl⟩
      by_cases z1 : f ≤ z.1
      · simp [a1, encL, encL_ix0, z1]
      · simp [a1, encL, encL_ix0, z1]
  have hs : inS ls ts f l = (((List.range ls.length).filter fun i => decide (f ≤ dyL ls i ∧ dyL ls i ≤ l)).map fun i => at0 ts i).sum := by
    rw [sum_filter]
    unfold inS
    simp only [decide_eq_true_eq]
  rw [hs]
  generalize ((List.range ls.length).filter fun i => decide (f ≤ dyL ls i ∧ dyL ls i ≤ l)).map (fun i => at0 ts i) = zs at q ⊢
  generalize dI ts = tt at q ⊢
  simp [g_in_stretch, q, asInts_map]
noncomputable def spr (ls : List Lot) (os : List Ot) (t : Int) (ts : List Int) (p : Int × Int) : Int := outAg os t p.1 p.2 - inS ls ts p.1 p.2
theorem F_spare_eq (ls : List Lot) (os : List Ot) (t : Int) (ts : List Int) (p : Int × Int) (hn : ls.length ≤ 1000) (ho : os.length ≤ 1000) (hl : ts.length = ls.length) : F_spare [.list (ls.map encL), .list (os.map encO), .int t, .list (dI ts), encP p] = .ok (.fz (.int (spr ls os t ts p))) := by
  have f1 := F_out_against_eq os t p.1 p.2 (by omega)
  have f2 := F_in_stretch_eq ls ts p.1 p.2 hn hl
  show toOut (g_spare [.fz (.list (ls.map encL)), .fz (.list (os.map encO)), .fz (.int t), .fz (.list (dI ts)), .fz (encP p)]) = _
  unfold spr
  have e : encP p = .tuple [.int p.1, .int p.2] := rfl
  rw [← e] at f1
  generalize encP p = pp at f1 f2 ⊢
  generalize dI ts = tt at f2 ⊢
  simp [g_spare, f1, f2]
def fitB (ls : List Lot) (os : List Ot) (t : Int) (ts : List Int) : Prop := ∀ p ∈ strL ls, 0 ≤ spr ls os t ts p
noncomputable def roomF (ls : List Lot) (os : List Ot) (t : Int) (ts : List Int) (d : Int) : List (Int × Int) → Int → Int
  | [], m => m
  | p :: r, m => roomF ls os t ts d r (if p.1 ≤ d ∧ d ≤ p.2 then (if spr ls os t ts p < m then spr ls os t ts p else m) else m)
noncomputable def roomAt (ls : List Lot) (os : List Ot) (t : Int) (ts : List Int) (k : Nat) : Int := roomF ls os t ts (dyL ls k) (strL ls) ((ls.getD k (0, 0, 0)).2.1 - at0 ts k)
theorem room_loop (ls : List Lot) (os : List Ot) (t : Int) (ts : List Int) (k d : Int) (hn : ls.length ≤ 1000) (ho : os.length ≤ 1000) (hl : ts.length = ls.length) : ∀ (ps : List (Int × Int)) (m : Int) (s7 : Sl), ∃ s7',
    forE (gSet 7) b_room_at_1 (ps.map encP) [.fz (.list (ls.map encL)), .fz (.list (os.map encO)), .fz (.int t), .fz (.list (dI ts)), .fz (.int k), .fz (.int d), .fz (.int m), s7] =
      .nx [.fz (.list (ls.map encL)), .fz (.list (os.map encO)), .fz (.int t), .fz (.list (dI ts)), .fz (.int k), .fz (.int d), .fz (.int (roomF ls os t ts d ps m)), s7']
  | [], m, s7 => ⟨s7, rfl⟩
  | p :: r, m, s7 => by
    rw [List.map_cons]
    unfold forE
    have e : gSet 7 (encP p) [.fz (.list (ls.map encL)), .fz (.list (os.map encO)), .fz (.int t), .fz (.list (dI ts)), .fz (.int k), .fz (.int d), .fz (.int m), s7] = some [.fz (.list (ls.map encL)), .fz (.list (os.map encO)), .fz (.int t), .fz (.list (dI ts)), .fz (.int k), .fz (.int d), .fz (.int m), .fz (encP p)] := rfl
    have tn : b_room_at_1 [.fz (.list (ls.map encL)), .fz (.list (os.map encO)), .fz (.int t), .fz (.list (dI ts)), .fz (.int k), .fz (.int d), .fz (.int m), .fz (encP p)] = .nx [.fz (.list (ls.map encL)), .fz (.list (os.map encO)), .fz (.int t), .fz (.list (dI ts)), .fz (.int k), .fz (.int d), .fz (.int (if p.1 ≤ d ∧ d ≤ p.2 then (if spr ls os t ts p < m then spr ls os t ts p else m) else m)), .fz (encP p)] := by
      have f2 := F_spare_eq ls os t ts p hn ho hl
      generalize dI ts = tt at f2 ⊢
      unfold encP at f2 ⊢
      by_cases z1 : p.1 ≤ d
      · by_cases z2 : d ≤ p.2
        · simp [b_room_at_1, two_ix0, two_ix1, z1, z2, f2]
        · simp [b_room_at_1, two_ix0, two_ix1, z1, z2]
      · simp [b_room_at_1, two_ix0, two_ix1, z1]
    simp only [e, tn]
    exact room_loop ls os t ts k d hn ho hl r _ _
theorem F_room_at_eq (ls : List Lot) (os : List Ot) (t : Int) (ts : List Int) (k : Nat) (hn : ls.length < 64) (ho : os.length ≤ 1000) (hl : ts.length = ls.length) (hk : k < ls.length) : F_room_at [.list (ls.map encL), .list (os.map encO), .int t, .list (dI ts), .int (k : Int)] = .ok (.fz (.int (roomAt ls os t ts k))) := by
  show toOut (g_room_at [.fz (.list (ls.map encL)), .fz (.list (os.map encO)), .fz (.int t), .fz (.list (dI ts)), .fz (.int (k : Int)), .un, .un, .un]) = _
  have e1 : ls[k]? = some (ls.getD k (0, 0, 0)) := by simp [hk]
  have e2 : ts[k]? = some (at0 ts k) := by simp [hl, hk]
  have a1 := at_map encL e1
  have a2 : atI (dI ts) (k : Int) = some (.int (at0 ts k)) := at_map PyData.int e2
  obtain ⟨s7', q⟩ := room_loop ls os t ts (k : Int) (dyL ls k) (by omega) ho hl (strL ls) ((ls.getD k (0, 0, 0)).2.1 - at0 ts k) .un
  have f := F_all_stretches_eq ls hn
  unfold roomAt
  unfold dyL at q ⊢
  generalize ls.getD k (0, 0, 0) = z at *
  generalize (strL ls).map encP = ps at *
  generalize at0 ts k = u at *
  generalize dI ts = tt at *
  simp [g_room_at, a1, a2, encL, encL_ix0, encL_ix1, f, q, sFor]
end Mm
namespace Mm
open PySem L2 Fx
variable [Tabz]
def tri (j : Nat) (p : Nat × Int) : Lot := ((p.1 : Int), (j : Int), p.2)
theorem min2_eq (c l : Int) : (if l < c then l else c) = min c l := by split <;> omega
theorem at_int {xs : List Int} {i : Nat} (h : i < xs.length) : atI (dI xs) (i : Int) = some (.int (at0 xs i)) := at_map PyData.int (by simp [h])
theorem at_lot {ls : List Lot} {i : Nat} (h : i < ls.length) : atI (ls.map encL) (i : Int) = some (encL (ls.getD i (0, 0, 0))) := at_map encL (by simp [h])
theorem at_out {os : List Ot} {i : Nat} (h : i < os.length) : atI (os.map encO) (i : Int) = some (encO (otO os i)) := at_map encO (by simp [h])
theorem set_int {xs : List Int} {i : Nat} {v : Int} (h : i < xs.length) : kSet (.int v) (.int (i : Int)) (dI xs) = some (dI (xs.set i v)) := by
  rw [kSet_in (by omega) (by simpa using h), Int.toNat_natCast]
  unfold dI
  rw [List.map_set]
theorem deal_turn (ls : List Lot) (s1 s3 s6 s11 : Sl) (t e c : Int) (j i : Nat) (left : List Int) (found : List Lot) (hi : i < ls.length) (hl : i < left.length) (hf : found.length ≤ 99999) :
    b_l_deal_1 [.fz (.list (ls.map encL)), s1, .fz (.int t), s3, .ow (dI left), .ow (found.map encL), s6, .fz (.int (j : Int)), .fz (.int e), .fz (.int c), .fz (.int (i : Int)), s11] =
      if (e - t ≤ dyL ls i ∧ dyL ls i ≤ e) ∧ 0 < min c (at0 left i) then .nx [.fz (.list (ls.map encL)), s1, .fz (.int t), s3, .ow (dI (left.set i (at0 left i - min c (at0 left i)))), .ow ((found ++ [tri j (i, min c (at0 left i))]).map encL), s6, .fz (.int (j : Int)), .fz (.int e), .fz (.int (c - min c (at0 left i))), .fz (.int (i : Int)), .fz (.int (min c (at0 left i)))]
      else .nx [.fz (.list (ls.map encL)), s1, .fz (.int t), s3, .ow (dI left), .ow (found.map encL), s6, .fz (.int (j : Int)), .fz (.int e), .fz (.int c), .fz (.int (i : Int)), .fz (.int (min c (at0 left i)))] := by
  have a1 := at_int hl
  have a2 := at_lot hi
  have a3 := set_int (v := at0 left i - min c (at0 left i)) hl
  have a4 : (found ++ [tri j (i, min c (at0 left i))]).map encL = found.map encL ++ [.tuple [.int (i : Int), .int (j : Int), .int (min c (at0 left i))]] := by simp [encL, tri]
  have a5 : ∀ d, kAppend d (found.map encL) = some (found.map encL ++ [d]) := fun d => kAppend_of (by simpa using by omega)
  rw [a4]
  unfold dyL
  generalize dI (left.set i (at0 left i - min c (at0 left i))) = nl at *
  generalize ls.getD i (0, 0, 0) = z at *
  generalize found.map encL = fd at *
  have hm := min2_eq c (at0 left i)
  generalize min c (at0 left i) = m at *
  generalize at0 left i = u at *
  generalize dI left = ld at *
  by_cases h1 : 0 < m
  · by_cases h2 : e - t ≤ z.1
    · by_cases h3 : z.1 ≤ e
      · simp [b_l_deal_1, a1, a2, a3, a5, hm, h1, h2, h3, encL, encL_ix0, mkT, small, mutO, sMut]
      · simp [b_l_deal_1, a1, a2, a3, a5, hm, h1, h2, h3, encL, encL_ix0, mkT, small, mutO, sMut]
    · simp [b_l_deal_1, a1, a2, a3, a5, hm, h1, h2, encL, encL_ix0, mkT, small, mutO, sMut]
  · simp [b_l_deal_1, a1, a2, a3, a5, hm, h1, encL, encL_ix0, mkT, small, mutO, sMut]
theorem deal_inner (ls : List Lot) (s1 s3 s6 : Sl) (t e : Int) (j : Nat) : ∀ (o : List Nat) (left : List Int) (c : Int) (found : List Lot) (s10 s11 : Sl), (∀ i ∈ o, i < ls.length ∧ i < left.length) → found.length + o.length ≤ 99999 → ∃ s9' s10' s11',
    forE (gSet 10) b_l_deal_1 (dN o) [.fz (.list (ls.map encL)), s1, .fz (.int t), s3, .ow (dI left), .ow (found.map encL), s6, .fz (.int (j : Int)), .fz (.int e), .fz (.int c), s10, s11] =
      .nx [.fz (.list (ls.map encL)), s1, .fz (.int t), s3, .ow (dI (give (dyL ls) e t o left c).1), .ow ((found ++ (give (dyL ls) e t o left c).2.map (tri j)).map encL), s6, .fz (.int (j : Int)), .fz (.int e), s9', s10', s11']
  | [], left, c, found, s10, s11, _, _ => ⟨.fz (.int c), s10, s11, by simp [forE, give]⟩
  | i :: o, left, c, found, s10, s11, h, hf => by
    obtain ⟨h1, h2⟩ := h i List.mem_cons_self
    unfold dN
    rw [List.map_cons]
    unfold forE
    have e0 : gSet 10 (.int ((i : Nat) : Int)) [.fz (.list (ls.map encL)), s1, .fz (.int t), s3, .ow (dI left), .ow (found.map encL), s6, .fz (.int (j : Int)), .fz (.int e), .fz (.int c), s10, s11] = some [.fz (.list (ls.map encL)), s1, .fz (.int t), s3, .ow (dI left), .ow (found.map encL), s6, .fz (.int (j : Int)), .fz (.int e), .fz (.int c), .fz (.int ((i : Nat) : Int)), s11] := rfl
    simp only [e0, deal_turn ls s1 s3 s6 s11 t e c j i left found h1 h2 (by simp at hf; omega)]
    unfold give
    by_cases hw : (e - t ≤ dyL ls i ∧ dyL ls i ≤ e) ∧ 0 < min c (at0 left i)
    · simp only [if_pos hw]
      obtain ⟨a, b, d, q⟩ := deal_inner ls s1 s3 s6 t e j o (left.set i (at0 left i - min c (at0 left i))) (c - min c (at0 left i)) (found ++ [tri j (i, min c (at0 left i))]) (.fz (.int ((i : Nat) : Int))) (.fz (.int (min c (at0 left i)))) (fun k hk => by rw [List.length_set]; exact h k (List.mem_cons_of_mem _ hk)) (by simp only [List.length_append, List.length_map, List.length_cons, List.length_nil] at hf ⊢; omega)
      refine ⟨a, b, d, q.trans ?_⟩
      simp
    · simp only [if_neg hw]
      exact deal_inner ls s1 s3 s6 t e j o left c found (.fz (.int ((i : Nat) : Int))) (.fz (.int (min c (at0 left i)))) (fun k hk => h k (List.mem_cons_of_mem _ hk)) (by simp at hf; omega)
theorem give_len (dy : Nat → Int) (e t : Int) : ∀ (o : List Nat) (left : List Int) (c : Int), (give dy e t o left c).1.length = left.length ∧ (give dy e t o left c).2.length ≤ o.length
  | [], left, c => ⟨rfl, Nat.le_refl _⟩
  | i :: o, left, c => by
    unfold give
    split
    · have ih := give_len dy e t o (left.set i (at0 left i - min c (at0 left i))) (c - min c (at0 left i))
      rw [List.length_set] at ih
      exact ⟨ih.1, by simp only [List.length_cons]; omega⟩
    · have ih := give_len dy e t o left c
      exact ⟨ih.1, by simp only [List.length_cons]; omega⟩
def triL (p : Nat × Nat × Int) : Lot := ((p.1 : Int), (p.2.1 : Int), p.2.2)
theorem deal_outer (ls : List Lot) (os : List Ot) (s3 : Sl) (t : Int) (o : List Nat) (ho : ∀ i ∈ o, i < ls.length) (hol : o.length ≤ 100) : ∀ (p : List Nat) (left : List Int) (found : List Lot) (s7 s8 s9 s10 s11 : Sl), left.length = ls.length → (∀ j ∈ p, j < os.length) → found.length + 100 * p.length ≤ 99000 → ∃ s7' s8' s9' s10' s11',
    forE (gSet 7) b_l_deal_2 (dN p) [.fz (.list (ls.map encL)), .fz (.list (os.map encO)), .fz (.int t), s3, .ow (dI left), .ow (found.map encL), .fz (.list (dN o)), s7, s8, s9, s10, s11] =
      .nx [.fz (.list (ls.map encL)), .fz (.list (os.map encO)), .fz (.int t), s3, .ow (dI (dealG (dyL ls) (otO os) t o p left).1), .ow ((found ++ (dealG (dyL ls) (otO os) t o p left).2.map triL).map encL), .fz (.list (dN o)), s7', s8', s9', s10', s11']
  | [], left, found, s7, s8, s9, s10, s11, _, _, _ => ⟨s7, s8, s9, s10, s11, by simp [forE, dealG]⟩
  | j :: p, left, found, s7, s8, s9, s10, s11, hl, hp, hf => by
    have hj := hp j List.mem_cons_self
    unfold dN
    rw [List.map_cons]
    unfold forE
    have e0 : gSet 7 (.int ((j : Nat) : Int)) [.fz (.list (ls.map encL)), .fz (.list (os.map encO)), .fz (.int t), s3, .ow (dI left), .ow (found.map encL), .fz (.list (dN o)), s7, s8, s9, s10, s11] = some [.fz (.list (ls.map encL)), .fz (.list (os.map encO)), .fz (.int t), s3, .ow (dI left), .ow (found.map encL), .fz (.list (dN o)), .fz (.int ((j : Nat) : Int)), s8, s9, s10, s11] := rfl
    obtain ⟨a9, a10, a11, q⟩ := deal_inner ls (.fz (.list (os.map encO))) s3 (.fz (.list (dN o))) t (otO os j).1 j o left (otO os j).2 found s10 s11 (fun i hi => ⟨ho i hi, by rw [hl]; exact ho i hi⟩) (by simp at hf; omega)
    have tn : b_l_deal_2 [.fz (.list (ls.map encL)), .fz (.list (os.map encO)), .fz (.int t), s3, .ow (dI left), .ow (found.map encL), .fz (.list (dN o)), .fz (.int ((j : Nat) : Int)), s8, s9, s10, s11] = .nx [.fz (.list (ls.map encL)), .fz (.list (os.map encO)), .fz (.int t), s3, .ow (dI (give (dyL ls) (otO os j).1 t o left (otO os j).2).1), .ow ((found ++ (give (dyL ls) (otO os j).1 t o left (otO os j).2).2.map (tri j)).map encL), .fz (.list (dN o)), .fz (.int (j : Int)), .fz (.int (otO os j).1), a9, a10, a11] := by
      have a2 := at_out hj
      generalize (found ++ (give (dyL ls) (otO os j).1 t o left (otO os j).2).2.map (tri j)).map encL = nf at *
      generalize dI (give (dyL ls) (otO os j).1 t o left (otO os j).2).1 = nl at *
      generalize otO os j = z at *
      generalize found.map encL = fd at *
      generalize dI left = ld at *
      generalize dN o = od at *
      simp [b_l_deal_2, a2, encO, q, sFor]
    simp only [e0, tn]
    have g := give_len (dyL ls) (otO os j).1 t o left (otO os j).2
    obtain ⟨b7, b8, b9, b10, b11, q2⟩ := deal_outer ls os s3 t o ho hol p (give (dyL ls) (otO os j).1 t o left (otO os j).2).1 (found ++ (give (dyL ls) (otO os j).1 t o left (otO os j).2).2.map (tri j)) (.fz (.int (j : Int))) (.fz (.int (otO os j).1)) a9 a10 a11 (by rw [g.1, hl]) (fun k hk => hp k (List.mem_cons_of_mem _ hk)) (by simp only [List.length_append, List.length_map, List.length_cons, List.length_nil] at hf ⊢; omega)
    refine ⟨b7, b8, b9, b10, b11, q2.trans ?_⟩
    simp only [dealG]
    have e : ((give (dyL ls) (otO os j).1 t o left (otO os j).2).2.map (fun p => (p.1, j, p.2)) ++ (dealG (dyL ls) (otO os) t o p (give (dyL ls) (otO os j).1 t o left (otO os j).2).1).2).map triL = (give (dyL ls) (otO os j).1 t o left (otO os j).2).2.map (tri j) ++ (dealG (dyL ls) (otO os) t o p (give (dyL ls) (otO os j).1 t o left (otO os j).2).1).2.map triL := by
      rw [List.map_append, List.map_map]
      rfl
    rw [e, List.append_assoc]
noncomputable def dealR (ls : List Lot) (os : List Ot) (t : Int) (ts : List Int) : List Int × List (Nat × Nat × Int) := dealG (dyL ls) (otO os) t (ageL ls) (ageO os) ts
noncomputable def dealT (ls : List Lot) (os : List Ot) (t : Int) (ts : List Int) : List Lot := (dealR ls os t ts).2.map triL
theorem ageL_len (ls : List Lot) : (ageL ls).length = ls.length := by rw [ageL, (byK_perm _ _).length_eq, List.length_range]
theorem ageO_len (os : List Ot) : (ageO os).length = os.length := by rw [ageO, (byK_perm _ _).length_eq, List.length_range]
theorem F_l_deal_eq (ls : List Lot) (os : List Ot) (t : Int) (ts : List Int) (hn : ls.length ≤ 100) (ho : os.length ≤ 100) (hl : ts.length = ls.length) : F_l_deal [.list (ls.map encL), .list (os.map encO), .int t, .list (dI ts)] = .ok (.fz (.tuple [.list ((dealT ls os t ts).map encL), .int (dealR ls os t ts).1.sum])) := by
  show toOut (g_l_deal [.fz (.list (ls.map encL)), .fz (.list (os.map encO)), .fz (.int t), .fz (.list (dI ts)), .un, .un, .un, .un, .un, .un, .un, .un]) = _
  obtain ⟨s7, s8, s9, s10, s11, q⟩ := deal_outer ls os (.fz (.list (dI ts))) t (ageL ls) (fun i hi => byK_mem.mp hi) (by rw [ageL_len]; omega) (ageO os) ts [] .un .un .un .un .un hl (fun j hj => byK_mem.mp hj) (by rw [ageO_len]; simp; omega)
  have f1 := F_l_eldestL_eq ls (by omega)
  have f2 := F_l_eldestO_eq os (by omega)
  rw [List.nil_append, List.map_nil] at q
  unfold dealT
  change forE _ _ _ _ = .nx [_, _, _, _, .ow (dI (dealR ls os t ts).1), .ow (((dealR ls os t ts).2.map triL).map encL), _, _, _, _, _, _] at q
  generalize ((dealR ls os t ts).2.map triL).map encL = nf at *
  generalize (dealR ls os t ts).1 = nl at *
  generalize dN (ageL ls) = o1 at *
  generalize dN (ageO os) = o2 at *
  generalize dI ts = tt at *
  have hs := asInts_map nl
  unfold dI at q
  generalize nl.map PyData.int = nd at *
  simp [g_l_deal, f1, f2, q, sFor, mkL, mkT, small, hs]
end Mm
namespace Mm
open PySem L2 Fx
variable [Tabz]
theorem range_getD {α : Type} (xs : List α) (d : α) : (List.range xs.length).map (fun i => xs.getD i d) = xs := by
  apply List.ext_getElem?
  intro i
  rw [List.getElem?_map]
  by_cases h : i < xs.length
  · rw [List.getElem?_range h]; simp [h]
  · rw [List.getElem?_eq_none (by simpa using h), List.getElem?_eq_none (by omega)]; rfl
theorem ageO_perm (os : List Ot) : ((ageO os).map (otO os)).Perm os := by
  have h := (byK_perm os.length fun i => [(otO os i).1, (i : Int)]).map (otO os)
  have e : (List.range os.length).map (otO os) = os := range_getD os (0, 0)
  rw [e] at h
  exact h
theorem sum_at0 (xs : List Int) : xs.sum = S (List.range xs.length) (at0 xs) := by
  unfold S
  rw [show (List.range xs.length).map (at0 xs) = xs from range_getD xs 0]
theorem sum_zero {xs : List Int} (h : ∀ i, i < xs.length → 0 ≤ at0 xs i) : xs.sum = 0 ↔ ∀ i, i < xs.length → at0 xs i = 0 := by
  rw [sum_at0]
  constructor
  · intro e i hi
    have h1 := S_one (g := at0 xs) (List.mem_range.mpr hi) fun j hj => h j (List.mem_range.mp hj)
    have := h i hi
    omega
  · intro e
    exact S_zero fun i hi => e i (List.mem_range.mp hi)
structure Okk (ls : List Lot) (os : List Ot) (t : Int) : Prop where
  nl : ls.length ≤ 62
  no : os.length ≤ 62
  co : ∀ o ∈ os, 0 ≤ o.2
  ht : 0 ≤ t
structure Tk (ls : List Lot) (ts : List Int) : Prop where
  len : ts.length = ls.length
  pos : ∀ i, i < ls.length → 0 ≤ at0 ts i
section
variable {ls : List Lot} {os : List Ot} {t : Int} {ts : List Int}
theorem hall_fit (O : Okk ls os t) (T : Tk ls ts) : Hall (dyL ls) (ageL ls) t ts ((ageO os).map (otO os)) ↔ fitB ls os t ts := by
  have ep : ∀ g, S (ageL ls) g = S (List.range ls.length) g := fun g => S_perm (byK_perm _ _) g
  constructor
  · intro H p hp
    have h := H p.1 p.2
    rw [ep, outAg_perm (ageO_perm os)] at h
    unfold spr inS
    omega
  · intro H f l
    rw [ep, outAg_perm (ageO_perm os)]
    rcases hx : (ls.map (·.1)).filter (fun d => decide (f ≤ d ∧ d ≤ l)) with _ | ⟨x, xs⟩
    · rw [S_zero]
      · exact outAg_nonneg O.co
      · intro i hi
        rw [List.mem_range] at hi
        rw [if_neg]
        intro z
        have hm : dyL ls i ∈ (ls.map (·.1)).filter (fun d => decide (f ≤ d ∧ d ≤ l)) := List.mem_filter.mpr ⟨List.mem_map.mpr ⟨ls.getD i (0, 0, 0), List.mem_of_getElem? (i := i) (by simp [hi]), rfl⟩, by simpa using z⟩
        rw [hx] at hm
        cases hm
    · obtain ⟨m1, m2⟩ := foldMin xs x
      obtain ⟨M1, M2⟩ := foldMax xs x
      generalize xs.foldl (fun a b => if b < a then b else a) x = lo at m1 m2
      generalize xs.foldl (fun a b => if b > a then b else a) x = hi at M1 M2
      rw [← hx] at m1 m2 M1 M2
      obtain ⟨a1, a2⟩ := List.mem_filter.mp m1
      obtain ⟨b1, b2⟩ := List.mem_filter.mp M1
      simp only [decide_eq_true_eq] at a2 b2
      have hle : lo ≤ hi := m2 hi M1
      have hp := H (lo, hi) ((mem_prs (sortU_pw _)).mpr ⟨mem_sortU.mpr a1, mem_sortU.mpr b1, hle⟩)
      unfold spr inS at hp
      dsimp only at hp
      have e1 : S (List.range ls.length) (fun i => if f ≤ dyL ls i ∧ dyL ls i ≤ l then at0 ts i else 0) = S (List.range ls.length) (fun i => if lo ≤ dyL ls i ∧ dyL ls i ≤ hi then at0 ts i else 0) := S_congr fun i hi' => by
        rw [List.mem_range] at hi'
        by_cases z : f ≤ dyL ls i ∧ dyL ls i ≤ l
        · have hm : dyL ls i ∈ (ls.map (·.1)).filter (fun d => decide (f ≤ d ∧ d ≤ l)) := List.mem_filter.mpr ⟨List.mem_map.mpr ⟨ls.getD i (0, 0, 0), List.mem_of_getElem? (i := i) (by simp [hi']), rfl⟩, by simpa using z⟩
          rw [if_pos z, if_pos ⟨m2 _ hm, M2 _ hm⟩]
        · rw [if_neg z, if_neg (by omega)]
      rw [e1]
      have h2 : outAg os t lo hi ≤ outAg os t f l := outAg_mono O.co fun o _ h1 h2 => by omega
      omega
theorem deal_facts (O : Okk ls os t) (T : Tk ls ts) : ((dealR ls os t ts).1.sum = 0 ↔ fitB ls os t ts) ∧ (dealR ls os t ts).1.length = ls.length ∧ ∀ i, i < ls.length → 0 ≤ at0 (dealR ls os t ts).1 i ∧ at0 (dealR ls os t ts).1 i ≤ at0 ts i := by
  obtain ⟨h1, h2, h3, h4⟩ := deal_ok (dy := dyL ls) (ot := otO os) (t := t) (o := ageL ls) O.ht (byK_nodup _ _) byK_day (ageO os) ts byK_day (fun j hj => O.co _ (List.mem_of_getElem? (i := j) (by have := byK_mem.mp hj; simp [this]))) (fun i hi => by
    have hi := byK_mem.mp hi
    exact ⟨by rw [T.len]; exact hi, T.pos i hi⟩)
  have h2' : (dealR ls os t ts).1.length = ls.length := h2.trans T.len
  refine ⟨?_, h2', fun i hi => h3 i (byK_mem.mpr hi)⟩
  rw [← hall_fit O T, sum_zero (xs := (dealR ls os t ts).1) fun i hi => (h3 i (byK_mem.mpr (by rw [h2'] at hi; exact hi))).1]
  refine Iff.trans ?_ h1.symm
  constructor
  · intro z i hi
    exact z i (by rw [h2']; exact byK_mem.mp hi)
  · intro z i hi
    exact z i (byK_mem.mpr (by rw [h2'] at hi; exact hi))
theorem le_roomF {d x : Int} : ∀ {ps : List (Int × Int)} {m : Int}, x ≤ roomF ls os t ts d ps m ↔ x ≤ m ∧ ∀ p ∈ ps, p.1 ≤ d ∧ d ≤ p.2 → x ≤ spr ls os t ts p
  | [], m => by simp [roomF]
  | p :: r, m => by
    unfold roomF
    rw [le_roomF (ps := r)]
    constructor
    · rintro ⟨h1, h2⟩
      refine ⟨?_, fun q hq hc => ?_⟩
      · split at h1
        · split at h1 <;> omega
        · exact h1
      · rcases List.mem_cons.mp hq with e | e
        · subst e
          rw [if_pos hc] at h1
          split at h1 <;> omega
        · exact h2 q e hc
    · rintro ⟨h1, h2⟩
      refine ⟨?_, fun q hq hc => h2 q (List.mem_cons_of_mem _ hq) hc⟩
      split
      · rename_i hc
        have := h2 p List.mem_cons_self hc
        split <;> omega
      · exact h1
theorem inS_set {k : Nat} {v f l : Int} (hl : ts.length = ls.length) (hk : k < ls.length) : inS ls (ts.set k v) f l = inS ls ts f l + if f ≤ dyL ls k ∧ dyL ls k ≤ l then v - at0 ts k else 0 := by
  unfold inS
  have key : ∀ (o : List Nat), o.Nodup → S o (fun i => if f ≤ dyL ls i ∧ dyL ls i ≤ l then at0 (ts.set k v) i else 0) = S o (fun i => if f ≤ dyL ls i ∧ dyL ls i ≤ l then at0 ts i else 0) + if k ∈ o ∧ f ≤ dyL ls k ∧ dyL ls k ≤ l then v - at0 ts k else 0 := by
    intro o
    induction o with
    | nil => simp
    | cons i o ih =>
      intro nd
      rw [List.nodup_cons] at nd
      have ih := ih nd.2
      simp only [S_cons, ih]
      rw [at0_set _ _ _ _ (by omega)]
      by_cases h : k = i
      · subst h
        simp only [nd.1, List.mem_cons, true_or, true_and, false_and, if_false, if_true]
        split <;> omega
      · have h2 : (k ∈ i :: o) = (k ∈ o) := by simp [h]
        rw [if_neg h]
        simp only [h2]
        omega
  have := key (List.range ls.length) List.nodup_range
  rw [this]
  simp [hk]
theorem fit_more {k : Nat} {m : Int} (T : Tk ls ts) (hk : k < ls.length) (hf : fitB ls os t ts) (hm : m ≤ (ls.getD k (0, 0, 0)).2.1 - at0 ts k) : fitB ls os t (ts.set k (at0 ts k + m)) ↔ m ≤ roomAt ls os t ts k := by
  unfold roomAt
  rw [le_roomF]
  constructor
  · intro h
    refine ⟨hm, fun p hp hc => ?_⟩
    have h1 := h p hp
    unfold spr at h1 ⊢
    rw [inS_set T.len hk, if_pos hc] at h1
    omega
  · rintro ⟨_, h⟩ p hp
    have h1 := hf p hp
    unfold spr at h1 ⊢
    rw [inS_set T.len hk]
    by_cases hc : p.1 ≤ dyL ls k ∧ dyL ls k ≤ p.2
    · have h2 := h p hp hc
      unfold spr at h2
      rw [if_pos hc]
      omega
    · rw [if_neg hc]
      omega
theorem room_nonneg {k : Nat} (hf : fitB ls os t ts) (hm : 0 ≤ (ls.getD k (0, 0, 0)).2.1 - at0 ts k) : 0 ≤ roomAt ls os t ts k := by
  unfold roomAt
  rw [le_roomF]
  exact ⟨hm, fun p hp _ => hf p hp⟩
theorem room_le {k : Nat} : roomAt ls os t ts k ≤ (ls.getD k (0, 0, 0)).2.1 - at0 ts k := by
  unfold roomAt
  exact (le_roomF.mp (Int.le_refl _)).1
theorem Tk.set {k : Nat} {v : Int} (T : Tk ls ts) (hv : 0 ≤ v) (hk : k < ls.length) : Tk ls (ts.set k v) := by
  refine ⟨by rw [List.length_set, T.len], fun i hi => ?_⟩
  rw [at0_set _ _ _ _ (by rw [T.len]; exact hk)]
  split
  · exact hv
  · exact T.pos i hi
theorem take_set_drop (xs : List Int) (k : Nat) (v : Int) (hk : k < xs.length) : xs.take k ++ [v] ++ xs.drop (k + 1) = xs.set k v := by
  rw [List.set_eq_take_append_cons_drop, if_pos hk, List.append_assoc]
  rfl
theorem cDiv2 (a : Int) : cDiv a 2 = true := by
  exact decide_eq_true ⟨by decide, by decide +kernel⟩
theorem most_turn (O : Okk ls os t) (T : Tk ls ts) {k : Nat} (hk : k < ls.length) (low high : Int) (s7 s8 : Sl) (hm : 0 ≤ (low + high + 1) / 2) : ∃ s8', b_l_most_1 [.fz (.list (ls.map encL)), .fz (.list (os.map encO)), .fz (.int t), .fz (.list (dI ts)), .fz (.int (k : Int)), .fz (.int low), .fz (.int high), s7, s8] =
    if (dealR ls os t (ts.set k (at0 ts k + (low + high + 1) / 2))).1.sum = 0 then .nx [.fz (.list (ls.map encL)), .fz (.list (os.map encO)), .fz (.int t), .fz (.list (dI ts)), .fz (.int (k : Int)), .fz (.int ((low + high + 1) / 2)), .fz (.int high), .fz (.int ((low + high + 1) / 2)), s8']
    else .nx [.fz (.list (ls.map encL)), .fz (.list (os.map encO)), .fz (.int t), .fz (.list (dI ts)), .fz (.int (k : Int)), .fz (.int low), .fz (.int ((low + high + 1) / 2 - 1)), .fz (.int ((low + high + 1) / 2)), s8'] := by
  refine ⟨.fz (.list (dI (ts.set k (at0 ts k + (low + high + 1) / 2)))), ?_⟩
  have f := F_l_deal_eq ls os t (ts.set k (at0 ts k + (low + high + 1) / 2)) (by have := O.nl; omega) (by have := O.no; omega) (by rw [List.length_set, T.len])
  have a1 := at_int (xs := ts) (i := k) (by rw [T.len]; exact hk)
  have c1 : cut (dI ts) none (some (k : Int)) = dI (ts.take k) := by unfold dI; rw [cut_take, List.map_take]
  have c2 : cut (dI ts) (some ((k : Int) + 1)) none = dI (ts.drop (k + 1)) := by unfold dI; rw [cut_dropS, List.map_drop]
  have n1 := O.nl
  have n2 := T.len
  have s1 : small ((dI (ts.take k)).length + 1) = true := small_of (by simp; omega)
  have s2 : small ((dI (ts.take k)).length + 1 + (dI (ts.drop (k + 1))).length) = true := small_of (by simp; omega)
  have c3 : dI (ts.take k) ++ (.int (at0 ts k + (low + high + 1) / 2) :: dI (ts.drop (k + 1))) = dI (ts.set k (at0 ts k + (low + high + 1) / 2)) := by
    rw [← take_set_drop ts k _ (by omega)]
    simp [dI]
  have hd : cDiv (low + high + 1) 2 = true := cDiv2 _
  generalize em : (low + high + 1) / 2 = m at *
  generalize (dealR ls os t (ts.set k (at0 ts k + m))).1.sum = sm at *
  generalize (dealT ls os t (ts.set k (at0 ts k + m))).map encL = nf at *
  generalize dI (ts.set k (at0 ts k + m)) = nt at *
  generalize at0 ts k = u at *
  generalize dI (ts.take k) = d1 at *
  generalize dI (ts.drop (k + 1)) = d2 at *
  generalize dI ts = tt at *
  have i1 : atI [PyData.list nf, .int sm] 1 = some (.int sm) := rfl
  have hs1 : small 1 = true := rfl
  by_cases h : sm = 0
  · subst h
    simp [b_l_most_1, a1, c1, c2, c3, s1, s2, f, i1, mkL, hs1, oEQ, hd, em]
  · simp [b_l_most_1, a1, c1, c2, c3, s1, s2, f, i1, mkL, hs1, oEQ, h, hd, em]
theorem most_loop (O : Okk ls os t) (T : Tk ls ts) {k : Nat} (hk : k < ls.length) (hf : fitB ls os t ts) : ∀ (n : Nat) (low high : Int) (s7 s8 : Sl), 0 ≤ low → low ≤ roomAt ls os t ts k → roomAt ls os t ts k ≤ high → high ≤ (ls.getD k (0, 0, 0)).2.1 - at0 ts k → (high - low).toNat < 2 ^ n → ∃ s6' s7' s8',
    whE t_l_most_1 b_l_most_1 (n + 1) [.fz (.list (ls.map encL)), .fz (.list (os.map encO)), .fz (.int t), .fz (.list (dI ts)), .fz (.int (k : Int)), .fz (.int low), .fz (.int high), s7, s8] =
      .nx [.fz (.list (ls.map encL)), .fz (.list (os.map encO)), .fz (.int t), .fz (.list (dI ts)), .fz (.int (k : Int)), .fz (.int (roomAt ls os t ts k)), s6', s7', s8'] := by
  intro n
  induction n with
  | zero =>
    intro low high s7 s8 h0 h1 h2 h3 h4
    have e : low = high := by simp at h4; omega
    subst e
    have e2 : roomAt ls os t ts k = low := by omega
    refine ⟨.fz (.int low), s7, s8, ?_⟩
    unfold whE
    rw [e2]
    simp [t_l_most_1]
  | succ n ih =>
    intro low high s7 s8 h0 h1 h2 h3 h4
    by_cases hlt : low < high
    · obtain ⟨s8', tn⟩ := most_turn O T hk low high s7 s8 (by omega)
      have hT : Tk ls (ts.set k (at0 ts k + (low + high + 1) / 2)) := T.set (by have := T.pos k hk; omega) hk
      have hd := (deal_facts O hT).1
      have hm := fit_more (os := os) (t := t) (m := (low + high + 1) / 2) T hk hf (by omega)
      have hw : (2 : Nat) ^ (n + 1) = 2 * 2 ^ n := by rw [Nat.pow_succ]; omega
      rw [hw] at h4
      unfold whE
      have tt : t_l_most_1 [.fz (.list (ls.map encL)), .fz (.list (os.map encO)), .fz (.int t), .fz (.list (dI ts)), .fz (.int (k : Int)), .fz (.int low), .fz (.int high), s7, s8] = .ok (true, [.fz (.list (ls.map encL)), .fz (.list (os.map encO)), .fz (.int t), .fz (.list (dI ts)), .fz (.int (k : Int)), .fz (.int low), .fz (.int high), s7, s8]) := by simp [t_l_most_1, hlt]
      rw [tt]
      simp only [tn]
      by_cases hz : (dealR ls os t (ts.set k (at0 ts k + (low + high + 1) / 2))).1.sum = 0
      · simp only [if_pos hz]
        have := hm.mp (hd.mp hz)
        exact ih _ _ _ _ (by omega) this h2 h3 (by omega)
      · simp only [if_neg hz]
        have : ¬ (low + high + 1) / 2 ≤ roomAt ls os t ts k := fun z => hz (hd.mpr (hm.mpr z))
        exact ih _ _ _ _ h0 h1 (by omega) (by omega) (by omega)
    · have e : low = high := by omega
      subst e
      have e2 : roomAt ls os t ts k = low := by omega
      refine ⟨.fz (.int low), s7, s8, ?_⟩
      unfold whE
      rw [e2]
      simp [t_l_most_1]
theorem F_l_most_eq (O : Okk ls os t) (T : Tk ls ts) {k : Nat} (hk : k < ls.length) (hf : fitB ls os t ts) (hc : at0 ts k ≤ (ls.getD k (0, 0, 0)).2.1) (hb : (ls.getD k (0, 0, 0)).2.1 ≤ 10000000000) : F_l_most [.list (ls.map encL), .list (os.map encO), .int t, .list (dI ts), .int (k : Int)] = .ok (.fz (.int (roomAt ls os t ts k))) := by
  show toOut (g_l_most [.fz (.list (ls.map encL)), .fz (.list (os.map encO)), .fz (.int t), .fz (.list (dI ts)), .fz (.int (k : Int)), .un, .un, .un, .un]) = _
  have h0 := T.pos k hk
  obtain ⟨s6, s7, s8, q⟩ := most_loop O T hk hf 999 0 ((ls.getD k (0, 0, 0)).2.1 - at0 ts k) .un .un (by omega) (room_nonneg hf (by omega)) room_le (Int.le_refl _) (Nat.lt_of_le_of_lt (m := 10000000000) (by omega) (by decide +kernel))
  have a1 := at_int (xs := ts) (i := k) (by rw [T.len]; exact hk)
  have a2 := at_lot hk
  generalize roomAt ls os t ts k = r at *
  generalize ls.getD k (0, 0, 0) = z at *
  generalize at0 ts k = u at *
  generalize dI ts = tt at *
  simp [g_l_most, a1, a2, encL, encL_ix1, q]
noncomputable def bestG (ls : List Lot) (os : List Ot) (t : Int) : List Nat → List Int → List Int
  | [], ts => ts
  | k :: r, ts => bestG ls os t r (ts.set k (roomAt ls os t ts k))
noncomputable def zer (n : Nat) : List Int := (List.range n).map fun _ => 0
noncomputable def best (ls : List Lot) (os : List Ot) (t : Int) : List Int := bestG ls os t (dutyL ls) (zer ls.length)
theorem zer_len (n : Nat) : (zer n).length = n := by simp [zer]
theorem zer_at (n i : Nat) : at0 (zer n) i = 0 := by
  unfold at0 zer
  rw [List.getD_eq_getElem?_getD, List.getElem?_map]
  by_cases h : i < n
  · rw [List.getElem?_range h]; rfl
  · rw [List.getElem?_eq_none (by simpa using h)]; rfl
theorem rep_zer (n : Nat) : (List.replicate n [PyData.int 0]).flatten = dI (zer n) := rep_zero n
theorem best_loop (n1 : ls.length < 64) (n2 : os.length ≤ 1000) : ∀ (o : List Nat) (ts : List Int) (s4 : Sl), ts.length = ls.length → (∀ k ∈ o, k < ls.length) → ∃ s4',
    forE (gSet 4) b_best_counts_1 (dN o) [.fz (.list (ls.map encL)), .fz (.list (os.map encO)), .fz (.int t), .ow (dI ts), s4] = .nx [.fz (.list (ls.map encL)), .fz (.list (os.map encO)), .fz (.int t), .ow (dI (bestG ls os t o ts)), s4']
  | [], ts, s4, _, _ => ⟨s4, rfl⟩
  | k :: o, ts, s4, hl, hk => by
    have hk0 := hk k List.mem_cons_self
    unfold dN
    rw [List.map_cons]
    unfold forE
    have e0 : gSet 4 (.int ((k : Nat) : Int)) [.fz (.list (ls.map encL)), .fz (.list (os.map encO)), .fz (.int t), .ow (dI ts), s4] = some [.fz (.list (ls.map encL)), .fz (.list (os.map encO)), .fz (.int t), .ow (dI ts), .fz (.int ((k : Nat) : Int))] := rfl
    have tn : b_best_counts_1 [.fz (.list (ls.map encL)), .fz (.list (os.map encO)), .fz (.int t), .ow (dI ts), .fz (.int ((k : Nat) : Int))] = .nx [.fz (.list (ls.map encL)), .fz (.list (os.map encO)), .fz (.int t), .ow (dI (ts.set k (roomAt ls os t ts k))), .fz (.int ((k : Nat) : Int))] := by
      have f := F_room_at_eq ls os t ts k n1 n2 hl hk0
      have a3 := set_int (xs := ts) (i := k) (v := roomAt ls os t ts k) (by omega)
      generalize dI (ts.set k (roomAt ls os t ts k)) = nt at *
      generalize roomAt ls os t ts k = r at *
      generalize dI ts = tt at *
      simp [b_best_counts_1, f, a3, mutO, sc]
    simp only [e0, tn]
    exact best_loop n1 n2 o (ts.set k (roomAt ls os t ts k)) _ (by rw [List.length_set, hl]) fun j hj => hk j (List.mem_cons_of_mem _ hj)
theorem F_best_counts_eq (n1 : ls.length < 64) (n2 : os.length ≤ 1000) : F_best_counts [.list (ls.map encL), .list (os.map encO), .int t] = .ok (.ow (dI (best ls os t))) := by
  show toOut (g_best_counts [.fz (.list (ls.map encL)), .fz (.list (os.map encO)), .fz (.int t), .un, .un]) = _
  obtain ⟨s4, q⟩ := best_loop (ls := ls) (os := os) (t := t) n1 n2 (dutyL ls) (zer ls.length) .un (zer_len _) fun k hk => byK_mem.mp hk
  have f := F_by_duty_eq ls (by omega)
  change forE _ _ _ _ = .nx [_, _, _, .ow (dI (best ls os t)), _] at q
  have hz := rep_zer ls.length
  have hr : oRep (.list [PyData.int 0]) (.int (ls.length : Int)) = some (dI (zer ls.length)) := by
    rw [← hz]
    simp [oRep, small_of (show ls.length ≤ 100000 by omega)]
  generalize dI (best ls os t) = nb at *
  generalize dI (zer ls.length) = zz at *
  generalize dN (dutyL ls) = dd at *
  simp [g_best_counts, f, q, sFor, mkL, small, hr]
end
end Mm
namespace Mm
open PySem L2 Fx
variable [Tabz]
abbrev ctL (ls : List Lot) (i : Nat) : Int := (ls.getD i (0, 0, 0)).2.1
structure Bi (ls : List Lot) (os : List Ot) (t : Int) (ts : List Int) : Prop where
  tk : Tk ls ts
  le : ∀ i, i < ls.length → at0 ts i ≤ ctL ls i
  fit : fitB ls os t ts
section
variable {ls : List Lot} {os : List Ot} {t : Int} {ts : List Int}
theorem Bi.zero (O : Okk ls os t) (hg : ∀ l ∈ ls, GoodL l) : Bi ls os t (zer ls.length) := by
  refine ⟨⟨zer_len _, fun i _ => by rw [zer_at]; exact Int.le_refl _⟩, fun i hi => ?_, fun p _ => ?_⟩
  · rw [zer_at]
    have := (hg _ (List.mem_of_getElem? (i := i) (show ls[i]? = some (ls.getD i (0, 0, 0)) by simp [hi]))).c1
    show 0 ≤ (ls.getD i (0, 0, 0)).2.1
    omega
  · unfold spr inS
    rw [S_zero fun i _ => by rw [zer_at]; split <;> rfl]
    have := outAg_nonneg (t := t) (f := p.1) (l := p.2) O.co
    omega
theorem Bi.step {k : Nat} (B : Bi ls os t ts) (hk : k < ls.length) (h0 : at0 ts k = 0) : Bi ls os t (ts.set k (roomAt ls os t ts k)) := by
  have hc := B.le k hk
  have hr : 0 ≤ roomAt ls os t ts k := room_nonneg B.fit (by have : (ls.getD k (0, 0, 0)).2.1 = ctL ls k := rfl; omega)
  have hr2 : roomAt ls os t ts k ≤ ctL ls k := by
    have := room_le (ls := ls) (os := os) (t := t) (ts := ts) (k := k)
    rw [h0] at this
    have e : ctL ls k = (ls.getD k (0, 0, 0)).2.1 := rfl
    omega
  refine ⟨B.tk.set hr hk, fun i hi => ?_, ?_⟩
  · rw [at0_set _ _ _ _ (by rw [B.tk.len]; exact hk)]
    split
    · rename_i e; rw [← e]; exact hr2
    · exact B.le i hi
  · have := (fit_more (os := os) (t := t) (m := roomAt ls os t ts k) B.tk hk B.fit room_le).mpr (Int.le_refl _)
    rw [h0, Int.zero_add] at this
    exact this
theorem bestG_bi : ∀ (o : List Nat) (ts : List Int), o.Nodup → (∀ k ∈ o, k < ls.length ∧ at0 ts k = 0) → Bi ls os t ts → Bi ls os t (bestG ls os t o ts)
  | [], ts, _, _, B => B
  | k :: o, ts, nd, h, B => by
    rw [List.nodup_cons] at nd
    obtain ⟨h1, h2⟩ := h k List.mem_cons_self
    refine bestG_bi o _ nd.2 (fun j hj => ⟨(h j (List.mem_cons_of_mem _ hj)).1, ?_⟩) (B.step h1 h2)
    rw [at0_set _ _ _ _ (by rw [B.tk.len]; exact h1), if_neg (show ¬ k = j from fun z => nd.1 (z ▸ hj))]
    exact (h j (List.mem_cons_of_mem _ hj)).2
theorem best_bi (O : Okk ls os t) (hg : ∀ l ∈ ls, GoodL l) : Bi ls os t (best ls os t) := bestG_bi _ _ (byK_nodup _ _) (fun k hk => ⟨byK_mem.mp hk, zer_at _ _⟩) (Bi.zero O hg)
theorem lbest_loop (O : Okk ls os t) (hg : ∀ l ∈ ls, GoodL l) : ∀ (o : List Nat) (ts : List Int) (s4 : Sl), o.Nodup → (∀ k ∈ o, k < ls.length ∧ at0 ts k = 0) → Bi ls os t ts → ∃ s4',
    forE (gSet 4) b_l_best_1 (dN o) [.fz (.list (ls.map encL)), .fz (.list (os.map encO)), .fz (.int t), .ow (dI ts), s4] = .nx [.fz (.list (ls.map encL)), .fz (.list (os.map encO)), .fz (.int t), .ow (dI (bestG ls os t o ts)), s4']
  | [], ts, s4, _, _, _ => ⟨s4, rfl⟩
  | k :: o, ts, s4, nd, h, B => by
    rw [List.nodup_cons] at nd
    obtain ⟨h1, h2⟩ := h k List.mem_cons_self
    have hl := B.tk.len
    unfold dN
    rw [List.map_cons]
    unfold forE
    have e0 : gSet 4 (.int ((k : Nat) : Int)) [.fz (.list (ls.map encL)), .fz (.list (os.map encO)), .fz (.int t), .ow (dI ts), s4] = some [.fz (.list (ls.map encL)), .fz (.list (os.map encO)), .fz (.int t), .ow (dI ts), .fz (.int ((k : Nat) : Int))] := rfl
    have tn : b_l_best_1 [.fz (.list (ls.map encL)), .fz (.list (os.map encO)), .fz (.int t), .ow (dI ts), .fz (.int ((k : Nat) : Int))] = .nx [.fz (.list (ls.map encL)), .fz (.list (os.map encO)), .fz (.int t), .ow (dI (ts.set k (roomAt ls os t ts k))), .fz (.int ((k : Nat) : Int))] := by
      have gk := hg _ (List.mem_of_getElem? (i := k) (show ls[k]? = some (ls.getD k (0, 0, 0)) by simp [h1]))
      have f := F_l_most_eq O B.tk h1 B.fit (B.le k h1) gk.c2
      have a3 := set_int (xs := ts) (i := k) (v := roomAt ls os t ts k) (by omega)
      generalize dI (ts.set k (roomAt ls os t ts k)) = nt at *
      generalize roomAt ls os t ts k = r at *
      generalize dI ts = tt at *
      simp [b_l_best_1, f, a3, mutO, sc]
    simp only [e0, tn]
    refine lbest_loop O hg o (ts.set k (roomAt ls os t ts k)) _ nd.2 (fun j hj => ⟨(h j (List.mem_cons_of_mem _ hj)).1, ?_⟩) (B.step h1 h2)
    rw [at0_set _ _ _ _ (by omega), if_neg (show ¬ k = j from fun z => nd.1 (z ▸ hj))]
    exact (h j (List.mem_cons_of_mem _ hj)).2
theorem F_l_best_eq (O : Okk ls os t) (hg : ∀ l ∈ ls, GoodL l) : F_l_best [.list (ls.map encL), .list (os.map encO), .int t] = .ok (.ow (dI (best ls os t))) := by
  show toOut (g_l_best [.fz (.list (ls.map encL)), .fz (.list (os.map encO)), .fz (.int t), .un, .un]) = _
  have n1 := O.nl
  obtain ⟨s4, q⟩ := lbest_loop O hg (dutyL ls) (zer ls.length) .un (byK_nodup _ _) (fun k hk => ⟨byK_mem.mp hk, zer_at _ _⟩) (Bi.zero O hg)
  have f := F_l_dearest_eq ls (by omega)
  change forE _ _ _ _ = .nx [_, _, _, .ow (dI (best ls os t)), _] at q
  have hz := rep_zer ls.length
  have hr : oRep (.list [PyData.int 0]) (.int (ls.length : Int)) = some (dI (zer ls.length)) := by
    rw [← hz]
    simp [oRep, small_of (show ls.length ≤ 100000 by omega)]
  generalize dI (best ls os t) = nb at *
  generalize dI (zer ls.length) = zz at *
  generalize dN (dutyL ls) = dd at *
  simp [g_l_best, f, q, sFor, mkL, small, hr]
theorem okTk_of : ∀ {ls : List Lot} {ts : List Int}, ts.length = ls.length → (∀ i, i < ls.length → 0 ≤ at0 ts i ∧ at0 ts i ≤ ctL ls i) → okTk ls ts = true
  | [], [], _, _ => rfl
  | l :: ls, t :: ts, hl, h => by
    have h0 := h 0 (by simp)
    unfold okTk
    rw [Bool.and_eq_true]
    refine ⟨decide_eq_true h0, okTk_of (by simpa using hl) fun i hi => ?_⟩
    exact h (i + 1) (by simpa using hi)
  | [], _ :: _, hl, _ => by cases hl
  | _ :: _, [], hl, _ => by cases hl
theorem Bi.ok (B : Bi ls os t ts) : okTk ls ts = true := okTk_of B.tk.len fun i hi => ⟨B.tk.pos i hi, B.le i hi⟩
end
end Mm
namespace Mm
open PySem L2 Fx
variable [Tabz]
theorem okk_of {ls : List Lot} {os : List Ot} {t : Int} (h1 : errLs ls = none) (h2 : errOs os = none) (h3 : ¬ (t < 0 ∨ 400 < t)) : Okk ls os t :=
  ⟨by have := errLs_len h1; omega, by have := errOs_len h2; omega, fun o ho => by have := (good_errOs h2 o ho).c1; omega, by omega⟩
def err3 (ls : List Lot) (os : List Ot) (t : Int) : Option Str := match errLs ls with
  | some c => some c
  | none => match errOs os with
    | some c => some c
    | none => if t < 0 ∨ 400 < t then some "BadTerm" else none
theorem err3_none {ls : List Lot} {os : List Ot} {t : Int} (h : err3 ls os t = none) : errLs ls = none ∧ errOs os = none ∧ ¬ (t < 0 ∨ 400 < t) := by
  unfold err3 at h
  cases h1 : errLs ls with
  | some c => rw [h1] at h; cases h
  | none =>
    rw [h1] at h
    cases h2 : errOs os with
    | some c => rw [h2] at h; cases h
    | none =>
      rw [h2] at h
      dsimp only at h
      by_cases h3 : t < 0 ∨ 400 < t
      · rw [if_pos h3] at h; cases h
      · exact ⟨rfl, rfl, h3⟩
theorem err3_good {ls : List Lot} {os : List Ot} {t : Int} (n1 : ls.length ≤ 30) (n2 : os.length ≤ 30) (h1 : ∀ l ∈ ls, GoodL l) (h2 : ∀ o ∈ os, GoodO o) (h3 : 0 ≤ t) (h4 : t ≤ 400) : err3 ls os t = none := by
  unfold err3
  rw [errLs_good n1 h1, errOs_good n2 h2]
  dsimp only
  rw [if_neg (by omega)]
theorem heads {ls : List Lot} {os : List Ot} {t : Int} : (∃ c, err3 ls os t = some c ∧ (F_checked_lots [.list (ls.map encL)] = .exc c ∨ (F_checked_lots [.list (ls.map encL)] = .ok (.ow (ls.map encL)) ∧ F_checked_outs [.list (os.map encO)] = .exc c) ∨
    (F_checked_lots [.list (ls.map encL)] = .ok (.ow (ls.map encL)) ∧ F_checked_outs [.list (os.map encO)] = .ok (.ow (os.map encO)) ∧ F_need_term [.int t] = .exc c))) ∨
    (err3 ls os t = none ∧ F_checked_lots [.list (ls.map encL)] = .ok (.ow (ls.map encL)) ∧ F_checked_outs [.list (os.map encO)] = .ok (.ow (os.map encO)) ∧ F_need_term [.int t] = .ok (.fz .none)) := by
  unfold err3
  rw [F_checked_lots_eq, F_checked_outs_eq, F_need_term_eq]
  cases h1 : errLs ls with
  | some c => exact .inl ⟨c, rfl, .inl rfl⟩
  | none =>
    cases h2 : errOs os with
    | some c => exact .inl ⟨c, rfl, .inr (.inl ⟨rfl, rfl⟩)⟩
    | none =>
      by_cases h3 : t < 0 ∨ 400 < t
      · refine .inl ⟨"BadTerm", ?_, .inr (.inr ⟨rfl, rfl, if_pos h3⟩)⟩
        dsimp only
        rw [if_pos h3]
      · refine .inr ⟨?_, rfl, rfl, if_neg h3⟩
        dsimp only
        rw [if_neg h3]
theorem best_len (ls : List Lot) (os : List Ot) (t : Int) : (best ls os t).length = ls.length := by
  have key : ∀ (o : List Nat) (ts : List Int), (bestG ls os t o ts).length = ts.length := by
    intro o
    induction o with
    | nil => intro ts; rfl
    | cons k o ih => intro ts; unfold bestG; rw [ih, List.length_set]
  unfold best
  rw [key, zer_len]
end Mm
namespace Mm
open PySem L2 Fx
variable [Tabz]
theorem gi_two (ls : List Lot) (os : List Ot) : gi 5 (.tuple [.list (ls.map encL), .list (os.map encO)]) = true := by
  have h1 := gi_encL 1 ls
  have h2 := gi_encO 1 os
  show ([PyData.list (ls.map encL), .list (os.map encO)]).all (gi 4) = true
  simp only [List.all_cons, List.all_nil, Bool.and_true, Bool.and_eq_true]
  exact ⟨h1, h2⟩
end Mm
namespace Mm
open PySem L2 Fx
variable [Tabz]
end Mm
namespace Mm
open PySem L2 Fx
variable [Tabz]
end Mm
namespace Mm
open PySem L2 Fx
variable [Tabz]
def heldL (ps : List Ot) (w d : Int) : List Int := (ps.filter fun p => decide (d - w ≤ p.1 ∧ p.1 ≤ d)).map fun p => p.2
def held (ps : List Ot) (w d : Int) : Int := (heldL ps w d).sum
end Mm
namespace Mm
open PySem L2 Fx
variable [Tabz]
end Mm
namespace Mm
open PySem L2 Fx
variable [Tabz]
end Mm
namespace Mm
open PySem L2 Fx
variable [Tabz]
end Mm
namespace Mm
open PySem L2 Fx
variable [Tabz]
def inOrd : Int → List (Int × Int) → Bool
  | _, [] => true
  | a, s :: r => decide (a < s.1 ∧ s.1 ≤ s.2 ∧ s.2 ≤ 999) && inOrd s.2 r
def inAny (ss : List (Int × Int)) (d : Int) : Bool := ss.any fun s => decide (s.1 ≤ d ∧ d ≤ s.2)
theorem F_holds_day_eq (s : Int × Int) (d : Int) : F_holds_day [encP s, .int d] = .ok (.fz (.bool (decide (s.1 ≤ d ∧ d ≤ s.2)))) := by
  show toOut (g_holds_day [.fz (encP s), .fz (.int d)]) = _
  by_cases h1 : s.1 ≤ d <;> by_cases h2 : d ≤ s.2 <;> simp [g_holds_day, encP, two_ix0, two_ix1, h1, h2]
def outS (u : Int) (ss : List (Int × Int)) : List Lot → Int
  | [] => 0
  | l :: ls => (if u ≤ l.2.2 ∧ inAny ss l.1 = false then l.2.1 else 0) + outS u ss ls
def barS (os : List Ot) (t : Int) (ss : List (Int × Int)) : Int := (ss.map fun s => outAg os t s.1 s.2).sum
end Mm
namespace Mm
open PySem L2 Fx
variable [Tabz]
theorem getD_map {α β : Type} (g : α → β) (xs : List α) (i : Nat) (a : α) (b : β) (h : i < xs.length) : (xs.map g).getD i b = g (xs.getD i a) := by
  simp [h]
section
variable {ls : List Lot} {os : List Ot} {t : Int}
theorem get_mem {i : Nat} (h : i < ls.length) : ls.getD i (0, 0, 0) ∈ ls := List.mem_of_getElem? (i := i) (show ls[i]? = some (ls.getD i (0, 0, 0)) by simp [h])
end
end Mm
namespace Mm
open PySem L2 Fx
open Classical in
noncomputable def iv (p : Prop) (x : Int) : Int := if p then x else 0
theorem iv_t {p : Prop} (h : p) (x : Int) : iv p x = x := if_pos h
theorem iv_f {p : Prop} (h : ¬ p) (x : Int) : iv p x = 0 := if_neg h
theorem iv_if {p : Prop} [Decidable p] (x : Int) : (if p then x else 0) = iv p x := by
  by_cases h : p
  · rw [iv_t h, if_pos h]
  · rw [iv_f h, if_neg h]
def sumM {α : Type} (xs : List α) (g : α → Int) : Int := (xs.map g).sum
theorem sumM_cons {α : Type} (x : α) (xs : List α) (g : α → Int) : sumM (x :: xs) g = g x + sumM xs g := by unfold sumM; rw [List.map_cons, List.sum_cons]
theorem sumM_le {α : Type} {g h : α → Int} : ∀ {xs : List α}, (∀ x ∈ xs, g x ≤ h x) → sumM xs g ≤ sumM xs h
  | [], _ => Int.le_refl _
  | x :: xs, k => by
    rw [sumM_cons, sumM_cons]
    have h1 := k x List.mem_cons_self
    have h2 := sumM_le (xs := xs) fun y hy => k y (List.mem_cons_of_mem _ hy)
    omega
theorem sumM_add {α : Type} {g h : α → Int} : ∀ {xs : List α}, sumM xs (fun x => g x + h x) = sumM xs g + sumM xs h
  | [] => rfl
  | x :: xs => by
    rw [sumM_cons, sumM_cons, sumM_cons, sumM_add (xs := xs)]
    omega
theorem sumM_perm {α : Type} {xs ys : List α} (h : xs.Perm ys) (g : α → Int) : sumM xs g = sumM ys g := by
  induction h with
  | nil => rfl
  | cons x _ ih => rw [sumM_cons, sumM_cons, ih]
  | swap x y l => rw [sumM_cons, sumM_cons, sumM_cons, sumM_cons]; omega
  | trans _ _ i1 i2 => exact i1.trans i2
theorem give_set {dy : Nat → Int} {e t c : Int} {o : List Nat} {left left' : List Int} (g : Gv dy e t o left left' c) (h0 : ∀ i ∈ o, 0 ≤ at0 left i) (hc : 0 ≤ c) (A : Nat → Prop) :
    S o (fun i => iv (A i) (at0 left i)) ≤ iv (∃ i ∈ o, A i ∧ dy i ≤ e ∧ e ≤ dy i + t) c + S o (fun i => iv (A i) (at0 left' i)) := by
  by_cases h : ∃ i ∈ o, A i ∧ dy i ≤ e ∧ e ≤ dy i + t
  · rw [iv_t h]
    have h1 : S o (fun i => iv (A i) (at0 left i) + iv ((e - t ≤ dy i ∧ dy i ≤ e) ∧ dy i ≤ e) (at0 left' i)) ≤ S o (fun i => iv (A i) (at0 left' i) + iv ((e - t ≤ dy i ∧ dy i ≤ e) ∧ dy i ≤ e) (at0 left i)) := S_le fun i hi => by
      have h2 := g.bd i hi
      by_cases hw : e - t ≤ dy i ∧ dy i ≤ e
      · have hw2 : (e - t ≤ dy i ∧ dy i ≤ e) ∧ dy i ≤ e := ⟨hw, hw.2⟩
        rw [iv_t hw2, iv_t hw2]
        by_cases ha : A i
        · rw [iv_t ha, iv_t ha]; omega
        · rw [iv_f ha, iv_f ha]; omega
      · rw [g.off i hw]
        omega
    rw [S_add, S_add] at h1
    have h2 := g.sum e
    simp only [iv_if] at h2
    omega
  · rw [iv_f h]
    have h1 : S o (fun i => iv (A i) (at0 left i)) = S o (fun i => iv (A i) (at0 left' i)) := S_congr fun i hi => by
      by_cases ha : A i
      · rw [g.off i fun hw => h ⟨i, hi, ha, hw.2, by omega⟩]
      · rw [iv_f ha, iv_f ha]
    omega
theorem deal_set {dy : Nat → Int} {ot : Nat → Ot} {t : Int} {o : List Nat} (nd : o.Nodup) (pw : o.Pairwise (fun i j => dy i ≤ dy j)) (A : Nat → Prop) : ∀ (p : List Nat) (left : List Int), (∀ j ∈ p, 0 ≤ (ot j).2) → (∀ i ∈ o, i < left.length ∧ 0 ≤ at0 left i) →
    S o (fun i => iv (A i) (at0 left i)) ≤ sumM p (fun j => iv (∃ i ∈ o, A i ∧ dy i ≤ (ot j).1 ∧ (ot j).1 ≤ dy i + t) (ot j).2) + S o (fun i => iv (A i) (at0 (dealG dy ot t o p left).1 i))
  | [], left, _, _ => by
    show _ ≤ 0 + S o (fun i => iv (A i) (at0 left i))
    omega
  | j :: r, left, hc, hl => by
    have g := give_ok dy (ot j).1 t o left (ot j).2 nd pw hl (hc j List.mem_cons_self)
    have ih := deal_set (t := t) nd pw A r (give dy (ot j).1 t o left (ot j).2).1 (fun x hx => hc x (List.mem_cons_of_mem _ hx)) (fun i hi => ⟨by rw [g.len]; exact (hl i hi).1, (g.bd i hi).1⟩)
    have h1 := give_set g (fun i hi => (hl i hi).2) (hc j List.mem_cons_self) A
    rw [sumM_cons]
    show _ ≤ _ + S o (fun i => iv (A i) (at0 (dealG dy ot t o r (give dy (ot j).1 t o left (ot j).2).1).1 i))
    omega
section
variable {ls : List Lot} {os : List Ot} {t : Int} {ts : List Int}
noncomputable def sumA (ls : List Lot) (ts : List Int) (A : Nat → Prop) : Int := S (List.range ls.length) fun i => iv (A i) (at0 ts i)
noncomputable def cov (ls : List Lot) (os : List Ot) (t : Int) (A : Nat → Prop) : Int := sumM os fun o => iv (∃ i, i < ls.length ∧ A i ∧ dyL ls i ≤ o.1 ∧ o.1 ≤ dyL ls i + t) o.2
variable [Tabz]
theorem set_hall (O : Okk ls os t) (T : Tk ls ts) (hf : fitB ls os t ts) (A : Nat → Prop) : sumA ls ts A ≤ cov ls os t A := by
  have q := deal_set (dy := dyL ls) (ot := otO os) (t := t) (o := ageL ls) (byK_nodup _ _) byK_day A (ageO os) ts (fun j hj => O.co _ (List.mem_of_getElem? (i := j) (by have := byK_mem.mp hj; simp [this]))) (fun i hi => by
    have hi := byK_mem.mp hi
    exact ⟨by rw [T.len]; exact hi, T.pos i hi⟩)
  obtain ⟨h1, h2, h3⟩ := deal_facts (os := os) (t := t) O T
  have z := (sum_zero (xs := (dealR ls os t ts).1) fun i hi => (h3 i (by rw [h2] at hi; exact hi)).1).mp (h1.mpr hf)
  rw [S_zero (g := fun i => iv (A i) (at0 (dealG (dyL ls) (otO os) t (ageL ls) (ageO os) ts).1 i)) fun i hi => by
    have e : at0 (dealG (dyL ls) (otO os) t (ageL ls) (ageO os) ts).1 i = 0 := z i (by rw [h2]; exact byK_mem.mp hi)
    rw [e]
    by_cases ha : A i
    · rw [iv_t ha]
    · rw [iv_f ha]] at q
  have e1 : S (ageL ls) (fun i => iv (A i) (at0 ts i)) = sumA ls ts A := S_perm (byK_perm _ _) _
  have e2 : sumM (ageO os) (fun j => iv (∃ i ∈ ageL ls, A i ∧ dyL ls i ≤ (otO os j).1 ∧ (otO os j).1 ≤ dyL ls i + t) (otO os j).2) = cov ls os t A := by
    have h := sumM_perm (ageO_perm os) fun o => iv (∃ i, i < ls.length ∧ A i ∧ dyL ls i ≤ o.1 ∧ o.1 ≤ dyL ls i + t) o.2
    unfold cov
    rw [← h]
    unfold sumM
    rw [List.map_map]
    congr 1
    apply List.map_congr_left
    intro j _
    show iv _ _ = iv _ _
    congr 1
    apply propext
    exact ⟨fun ⟨i, a, b⟩ => ⟨i, byK_mem.mp a, b⟩, fun ⟨i, a, b⟩ => ⟨i, byK_mem.mpr a, b⟩⟩
  rw [e1, e2] at q
  omega
theorem outAg_sum (t a b : Int) : ∀ os : List Ot, outAg os t a b = sumM os fun o => iv (a ≤ o.1 ∧ o.1 ≤ b + t) o.2
  | [] => rfl
  | o :: os => by rw [outAg_cons, sumM_cons, outAg_sum t a b os, iv_if]
theorem cov_stretch (hc : ∀ o ∈ os, 0 ≤ o.2) (a b : Int) : cov ls os t (fun i => a ≤ dyL ls i ∧ dyL ls i ≤ b) ≤ outAg os t a b := by
  rw [outAg_sum]
  refine sumM_le fun o ho => ?_
  have h0 := hc o ho
  by_cases h : ∃ i, i < ls.length ∧ (a ≤ dyL ls i ∧ dyL ls i ≤ b) ∧ dyL ls i ≤ o.1 ∧ o.1 ≤ dyL ls i + t
  · rw [iv_t h]
    obtain ⟨i, _, ⟨h1, h2⟩, h3, h4⟩ := h
    rw [iv_t ⟨by omega, by omega⟩]
    omega
  · rw [iv_f h]
    by_cases q : a ≤ o.1 ∧ o.1 ≤ b + t
    · rw [iv_t q]; exact h0
    · rw [iv_f q]; exact Int.le_refl _
theorem sumA_mono (h0 : ∀ i, i < ls.length → 0 ≤ at0 ts i) {A B : Nat → Prop} (h : ∀ i, i < ls.length → A i → B i) : sumA ls ts A ≤ sumA ls ts B := S_le fun i hi => by
  rw [List.mem_range] at hi
  have := h0 i hi
  by_cases a : A i
  · rw [iv_t a, iv_t (h i hi a)]; omega
  · rw [iv_f a]
    by_cases b : B i
    · rw [iv_t b]; omega
    · rw [iv_f b]; omega
theorem roomF_hit (d : Int) : ∀ (ps : List (Int × Int)) (m : Int), roomF ls os t ts d ps m = m ∨ ∃ p ∈ ps, (p.1 ≤ d ∧ d ≤ p.2) ∧ roomF ls os t ts d ps m = spr ls os t ts p
  | [], m => .inl rfl
  | p :: r, m => by
    unfold roomF
    split
    · rename_i h1
      split
      · rename_i h2
        rcases roomF_hit d r (spr ls os t ts p) with e | ⟨q, hq, h3, h4⟩
        · exact .inr ⟨p, List.mem_cons_self, h1, e⟩
        · exact .inr ⟨q, List.mem_cons_of_mem _ hq, h3, h4⟩
      · rcases roomF_hit d r m with e | ⟨q, hq, h3, h4⟩
        · exact .inl e
        · exact .inr ⟨q, List.mem_cons_of_mem _ hq, h3, h4⟩
    · rcases roomF_hit d r m with e | ⟨q, hq, h3, h4⟩
      · exact .inl e
      · exact .inr ⟨q, List.mem_cons_of_mem _ hq, h3, h4⟩
theorem bestG_off {i : Nat} : ∀ (o : List Nat) (ts : List Int), i ∉ o → (∀ k ∈ o, k < ts.length) → at0 (bestG ls os t o ts) i = at0 ts i
  | [], ts, _, _ => rfl
  | k :: o, ts, h, hl => by
    unfold bestG
    rw [bestG_off o _ (fun z => h (List.mem_cons_of_mem _ z)) (fun j hj => by rw [List.length_set]; exact hl j (List.mem_cons_of_mem _ hj)), at0_set _ _ _ _ (hl k List.mem_cons_self), if_neg]
    intro z
    exact h (z ▸ List.mem_cons_self)
noncomputable def upU (ls : List Lot) (ts : List Int) (u : Int) : Int := sumA ls ts fun i => u ≤ (ls.getD i (0, 0, 0)).2.2
end
end Mm
namespace Mm
open PySem L2 Fx
noncomputable def ctA (ls : List Lot) (A : Nat → Prop) : Int := S (List.range ls.length) fun i => iv (A i) (ctL ls i)
noncomputable def cutV (ls : List Lot) (os : List Ot) (t : Int) (U A : Nat → Prop) : Int := cov ls os t A + ctA ls fun i => ¬ A i ∧ U i
def Cl (ls : List Lot) (U : Nat → Prop) : Prop := (dutyL ls).Pairwise fun a b => U b → U a
section
variable {ls : List Lot} {os : List Ot} {t : Int} {ts : List Int}
variable [Tabz]
theorem cl_up (u : Int) : Cl ls fun i => u ≤ (ls.getD i (0, 0, 0)).2.2 := by
  refine (byK_pw ls.length _).imp fun {a b} h z => ?_
  simp only [lexLe, Bool.or_eq_true, Bool.and_eq_true, decide_eq_true_eq] at h
  have z' : u ≤ (ls.getD b (0, 0, 0)).2.2 := z
  rcases h with h | ⟨h, _⟩ <;> omega
noncomputable abbrev rk (ls : List Lot) (os : List Ot) (t d m : Int) (U : Nat → Prop) : Int := sumA ls (best ls (os ++ [(d, m)]) t) U
variable {d : Int}
end
end Mm
namespace Mm
open PySem L2 Fx
variable [Tabz]
section
variable {ls : List Lot} {os : List Ot} {t d u : Int} {ts : List Int}
abbrev wi (ls : List Lot) (U : Nat → Prop) : Nat → Prop := fun i => U i ∨ i = ls.length
end
end Mm
namespace Mm
open PySem L2 Fx
variable [Tabz]
abbrev Pr := Int × Int
def joinR (c : Pr) : List Pr → List Pr
  | [] => [c]
  | s :: r => if s.1 ≤ c.2 then joinR (c.1, max c.2 s.2) r else c :: joinR s r
def joinS : List Pr → List Pr
  | [] => []
  | s :: r => joinR s r
theorem ix_last (n : Nat) : ixN (n + 1) (-1) = some n := by
  unfold ixN
  rw [if_neg (show ¬ (0 : Int) ≤ -1 by decide), if_pos (by omega)]
  congr 1
  omega
theorem at_snoc (xs : List PyData) (x : PyData) : atI (xs ++ [x]) (-1) = some x := by
  unfold atI
  rw [show (xs ++ [x]).length = xs.length + 1 by simp, ix_last]
  simp
theorem set_snoc (xs : List PyData) (x y : PyData) : kSet y (.int (-1)) (xs ++ [x]) = some (xs ++ [y]) := by
  show ((ixN (xs ++ [x]).length (-1)).map fun n => (xs ++ [x]).set n y) = _
  rw [show (xs ++ [x]).length = xs.length + 1 by simp, ix_last]
  simp
theorem joinR_len : ∀ (r : List Pr) (c : Pr), (joinR c r).length ≤ r.length + 1
  | [], c => by simp [joinR]
  | s :: r, c => by
    unfold joinR
    split
    · have := joinR_len r (c.1, max c.2 s.2); rw [List.length_cons]; omega
    · have := joinR_len r s; rw [List.length_cons, List.length_cons]; omega
theorem join_loop (s0 : Sl) : ∀ (r : List Pr) (acc : List Pr) (c : Pr) (s2 s3 : Sl), acc.length + r.length ≤ 50000 → ∃ s2' s3', forE (gTp (gsCons (gSet 2) (gsCons (gSet 3) gsNil))) b_joined_1 (r.map encP) [s0, .ow ((acc ++ [c]).map encP), s2, s3] = .nx [s0, .ow ((acc ++ joinR c r).map encP), s2', s3']
  | [], acc, c, s2, s3, _ => ⟨s2, s3, rfl⟩
  | s :: r, acc, c, s2, s3, hl => by
    rw [List.length_cons] at hl
    rw [List.map_cons]
    unfold forE
    have e0 : gTp (gsCons (gSet 2) (gsCons (gSet 3) gsNil)) (encP s) [s0, .ow ((acc ++ [c]).map encP), s2, s3] = some [s0, .ow ((acc ++ [c]).map encP), .fz (.int s.1), .fz (.int s.2)] := rfl
    have ea : (acc ++ [c]).map encP = acc.map encP ++ [encP c] := by rw [List.map_append]; rfl
    have hp : (0 : Int) < ((acc.map encP ++ [encP c]).length : Int) := by rw [List.length_append, List.length_singleton]; omega
    have hp2 : ((acc.map encP ++ [encP c]).length : Int) > 0 := hp
    have a1 := at_snoc (acc.map encP) (encP c)
    have hl1 : (acc.map encP ++ [encP c]).length = acc.length + 1 := by simp
    have h2s : small 2 = true := rfl
    have ec : encP c = .tuple [.int c.1, .int c.2] := rfl
    unfold joinR
    by_cases h : s.1 ≤ c.2
    · rw [if_pos h]
      obtain ⟨s2', s3', ih⟩ := join_loop s0 r acc (c.1, max c.2 s.2) (.fz (.int s.1)) (.fz (.int s.2)) (by omega)
      refine ⟨s2', s3', ?_⟩
      have tn : b_joined_1 [s0, .ow ((acc ++ [c]).map encP), .fz (.int s.1), .fz (.int s.2)] = .nx [s0, .ow ((acc ++ [(c.1, max c.2 s.2)]).map encP), .fz (.int s.1), .fz (.int s.2)] := by
        have eb : (acc ++ [((c.1, max c.2 s.2) : Pr)]).map encP = acc.map encP ++ [.tuple [.int c.1, .int (max c.2 s.2)]] := by rw [List.map_append]; rfl
        have em : (if s.2 > c.2 then s.2 else c.2) = max c.2 s.2 := by split <;> omega
        have st := set_snoc (acc.map encP) (encP c) (.tuple [.int c.1, .int (max c.2 s.2)])
        rw [ea, eb]
        rw [ec] at a1 st ⊢
        rw [ec] at hl1
        have hz : (0 : Int) < (acc.length : Int) + 1 := by omega
        generalize acc.map encP = ad at *
        unfold b_joined_1
        simp [hl1, hz, a1, two_ix0, two_ix1, h, em, mkT, h2s, st, sMut, mutO]
      simp only [e0, tn]
      exact ih
    · rw [if_neg h]
      obtain ⟨s2', s3', ih⟩ := join_loop s0 r (acc ++ [c]) s (.fz (.int s.1)) (.fz (.int s.2)) (by simp; omega)
      refine ⟨s2', s3', ?_⟩
      have tn : b_joined_1 [s0, .ow ((acc ++ [c]).map encP), .fz (.int s.1), .fz (.int s.2)] = .nx [s0, .ow (((acc ++ [c]) ++ [s]).map encP), .fz (.int s.1), .fz (.int s.2)] := by
        have eb : ((acc ++ [c]) ++ [s]).map encP = (acc ++ [c]).map encP ++ [.tuple [.int s.1, .int s.2]] := by rw [List.map_append]; rfl
        have ka := kAppend_of (d := .tuple [.int s.1, .int s.2]) (ds := (acc ++ [c]).map encP) (by simp; omega)
        rw [eb]
        rw [ea] at ka ⊢
        rw [ec] at a1 ka ⊢
        rw [ec] at hl1
        have hz : (0 : Int) < (acc.length : Int) + 1 := by omega
        generalize acc.map encP = ad at *
        unfold b_joined_1
        simp [hl1, hz, a1, two_ix0, two_ix1, h, mkT, h2s, ka, sMut, mutO]
      simp only [e0, tn]
      rw [ih]
      simp
theorem F_joined_eq (ps : List Pr) (hl : ps.length ≤ 40000) : F_joined [.list (ps.map encP)] = .ok (.ow ((joinS (sortP ps)).map encP)) := by
  show toOut (g_joined [.fz (.list (ps.map encP)), .un, .un, .un]) = _
  have h0s : small 0 = true := rfl
  have so : oSortP [.list (ps.map encP)] = some ((sortP ps).map encP) := by
    show (asPairs (ps.map encPr)).map _ = _
    rw [asPairs_map]; rfl
  have sl : (sortP ps).length = ps.length := (sortP_perm ps).length_eq
  generalize sortP ps = qs at *
  cases qs with
  | nil =>
    unfold g_joined
    rw [List.map_nil] at so
    generalize ps.map encP = pd at *
    simp [mkL, h0s, so, sFor, forE, joinS, -oSortP]
  | cons s r =>
    rw [List.length_cons] at sl
    obtain ⟨s2, s3, q⟩ := join_loop (.fz (.list (ps.map encP))) r [] s (.fz (.int s.1)) (.fz (.int s.2)) (by simp; omega)
    rw [List.nil_append, List.nil_append] at q
    have ka : kAppend (.tuple [.int s.1, .int s.2]) [] = some [.tuple [.int s.1, .int s.2]] := rfl
    have e0 : gTp (gsCons (gSet 2) (gsCons (gSet 3) gsNil)) (encP s) [.fz (.list (ps.map encP)), .ow [], .un, .un] = some [.fz (.list (ps.map encP)), .ow [], .fz (.int s.1), .fz (.int s.2)] := rfl
    have tn : b_joined_1 [.fz (.list (ps.map encP)), .ow [], .fz (.int s.1), .fz (.int s.2)] = .nx [.fz (.list (ps.map encP)), .ow ([s].map encP), .fz (.int s.1), .fz (.int s.2)] := by
      have h2s : small 2 = true := rfl
      unfold b_joined_1
      simp [mkT, h2s, ka, sMut, mutO, encP]
    have fr : forE (gTp (gsCons (gSet 2) (gsCons (gSet 3) gsNil))) b_joined_1 ((s :: r).map encP) [.fz (.list (ps.map encP)), .ow [], .un, .un] = .nx [.fz (.list (ps.map encP)), .ow ((joinR s r).map encP), s2, s3] := by
      rw [List.map_cons]
      unfold forE
      simp only [e0, tn]
      exact q
    unfold g_joined joinS
    generalize (s :: r).map encP = qd at *
    generalize (joinR s r).map encP = jd at *
    generalize ps.map encP = pd at *
    simp [mkL, h0s, so, sFor, fr, -oSortP]
noncomputable def shutL (ls : List Lot) (ts : List Int) : List Int := ((List.range ls.length).filter fun i => decide (at0 ts i < ctL ls i)).map (dyL ls)
theorem F_shut_days_eq (ls : List Lot) (ts : List Int) (hl : ts.length = ls.length) (hn : ls.length ≤ 1000) : F_shut_days [.list (ls.map encL), .list (dI ts)] = .ok (.ow (dI (shutL ls ts))) := by
  show toOut (g_shut_days [.fz (.list (ls.map encL)), .fz (.list (dI ts)), .un]) = _
  have q : q_shut_days_1 [.fz (.list (ls.map encL)), .fz (.list (dI ts)), .un] = .ok (dI (shutL ls ts), [.fz (.list (ls.map encL)), .fz (.list (dI ts)), .un]) := by
    unfold q_shut_days_1
    rw [lc_if (List.range ls.length) (fun i => PyData.int (i : Nat)) (fun i => decide (at0 ts i < ctL ls i)) (fun i => PyData.int (dyL ls i)) (ρ := [.fz (.list (ls.map encL)), .fz (.list (dI ts)), .un]) (by
      simp [oRng1_of (j := (ls.length : Int)) (by omega) (by omega), rng]) (by rw [List.length_range]; omega) fun i hi => ⟨[.fz (.list (ls.map encL)), .fz (.list (dI ts)), .fz (.int (i : Int))], rfl, [.fz (.list (ls.map encL)), .fz (.list (dI ts)), .fz (.int (i : Int))], by
        rw [List.mem_range] at hi
        have a1 := at_lot (ls := ls) hi
        have a2 := at_int (xs := ts) (i := i) (by omega)
        generalize dI ts = td at *
        generalize ls.map encL = ld at *
        simp [a1, a2, encL, encL_ix1, ctL], fun _ => ⟨[.fz (.list (ls.map encL)), .fz (.list (dI ts)), .fz (.int (i : Int))], by
        rw [List.mem_range] at hi
        have a1 := at_lot (ls := ls) hi
        generalize ls.map encL = ld at *
        simp [a1, encL, encL_ix0, dyL], rfl⟩, fun _ => rfl⟩]
    unfold shutL dI
    rw [List.map_map]; rfl
  unfold g_shut_days
  generalize dI (shutL ls ts) = sd at *
  generalize dI ts = td at *
  generalize ls.map encL = ld at *
  simp [q]
noncomputable def isBar (ls : List Lot) (os : List Ot) (t : Int) (ts : List Int) (p : Pr) : Bool := decide (spr ls os t ts p = 0) && (shutL ls ts).any (fun d => decide (p.1 ≤ d ∧ d ≤ p.2))
noncomputable def barL (ls : List Lot) (os : List Ot) (t : Int) (ts : List Int) : List Pr := (strL ls).filter (isBar ls os t ts)
theorem bar_loop (ls : List Lot) (os : List Ot) (t : Int) (ts : List Int) (hl : ts.length = ls.length) (hn : ls.length ≤ 100) (ho : os.length ≤ 1000) : ∀ (ps acc : List Pr) (s6 : Sl), acc.length + ps.length ≤ 50000 → ∃ s6', forE (gSet 6) b_barring_1 (ps.map encP) [.fz (.list (ls.map encL)), .fz (.list (os.map encO)), .fz (.int t), .fz (.list (dI ts)), .fz (.list (dI (shutL ls ts))), .ow (acc.map encP), s6, .un] = .nx [.fz (.list (ls.map encL)), .fz (.list (os.map encO)), .fz (.int t), .fz (.list (dI ts)), .fz (.list (dI (shutL ls ts))), .ow ((acc ++ ps.filter (isBar ls os t ts)).map encP), s6', .un]
  | [], acc, s6, _ => ⟨s6, by rw [List.filter_nil, List.append_nil]; rfl⟩
  | p :: ps, acc, s6, hc => by
    rw [List.length_cons] at hc
    rw [List.map_cons]
    unfold forE
    have e0 : gSet 6 (encP p) [.fz (.list (ls.map encL)), .fz (.list (os.map encO)), .fz (.int t), .fz (.list (dI ts)), .fz (.list (dI (shutL ls ts))), .ow (acc.map encP), s6, .un] = some [.fz (.list (ls.map encL)), .fz (.list (os.map encO)), .fz (.int t), .fz (.list (dI ts)), .fz (.list (dI (shutL ls ts))), .ow (acc.map encP), .fz (encP p), .un] := rfl
    have f := F_spare_eq ls os t ts p (by omega) ho hl
    have sl : (shutL ls ts).length ≤ 1000 := by
      unfold shutL
      rw [List.length_map]
      have := List.length_filter_le (fun i => decide (at0 ts i < ctL ls i)) (List.range ls.length)
      rw [List.length_range] at this
      omega
    have q : q_barring_1 [.fz (.list (ls.map encL)), .fz (.list (os.map encO)), .fz (.int t), .fz (.list (dI ts)), .fz (.list (dI (shutL ls ts))), .ow (acc.map encP), .fz (encP p), .un] = .ok (((shutL ls ts).map fun d => decide (p.1 ≤ d ∧ d ≤ p.2)).map PyData.bool, [.fz (.list (ls.map encL)), .fz (.list (os.map encO)), .fz (.int t), .fz (.list (dI ts)), .fz (.list (dI (shutL ls ts))), .ow (acc.map encP), .fz (encP p), .un]) := by
      unfold q_barring_1
      rw [lc_all (shutL ls ts) PyData.int (fun d => PyData.bool (decide (p.1 ≤ d ∧ d ≤ p.2))) (ρ := [.fz (.list (ls.map encL)), .fz (.list (os.map encO)), .fz (.int t), .fz (.list (dI ts)), .fz (.list (dI (shutL ls ts))), .ow (acc.map encP), .fz (encP p), .un]) (by simp) (by omega) fun d _ => ⟨[.fz (.list (ls.map encL)), .fz (.list (os.map encO)), .fz (.int t), .fz (.list (dI ts)), .fz (.list (dI (shutL ls ts))), .ow (acc.map encP), .fz (encP p), .fz (.int d)], rfl, [.fz (.list (ls.map encL)), .fz (.list (os.map encO)), .fz (.int t), .fz (.list (dI ts)), .fz (.list (dI (shutL ls ts))), .ow (acc.map encP), .fz (encP p), .fz (.int d)], by simp [F_holds_day_eq], rfl⟩]
      rw [List.map_map]; rfl
    have oa : oAny [.list (((shutL ls ts).map fun d => decide (p.1 ≤ d ∧ d ≤ p.2)).map PyData.bool)] = some (.bool ((shutL ls ts).any fun d => decide (p.1 ≤ d ∧ d ≤ p.2))) := by
      show (asBools _).map _ = _
      rw [asBools_map]
      simp [Function.comp_def]
    have hd : (p :: ps).filter (isBar ls os t ts) = (if isBar ls os t ts p = true then [p] else []) ++ ps.filter (isBar ls os t ts) := by
      by_cases h : isBar ls os t ts p = true
      · rw [if_pos h, List.filter_cons_of_pos h]; rfl
      · rw [if_neg h, List.filter_cons_of_neg h]; rfl
    rw [hd, ← List.append_assoc]
    obtain ⟨s6', ih⟩ := bar_loop ls os t ts hl hn ho ps (acc ++ if isBar ls os t ts p = true then [p] else []) (.fz (encP p)) (by rw [List.length_append]; split <;> simp <;> omega)
    refine ⟨s6', ?_⟩
    have tn : b_barring_1 [.fz (.list (ls.map encL)), .fz (.list (os.map encO)), .fz (.int t), .fz (.list (dI ts)), .fz (.list (dI (shutL ls ts))), .ow (acc.map encP), .fz (encP p), .un] = .nx [.fz (.list (ls.map encL)), .fz (.list (os.map encO)), .fz (.int t), .fz (.list (dI ts)), .fz (.list (dI (shutL ls ts))), .ow ((acc ++ if isBar ls os t ts p = true then [p] else []).map encP), .fz (encP p), .un] := by
      have ka := kAppend_of (d := encP p) (ds := acc.map encP) (by simp; omega)
      have ea : (acc ++ [p]).map encP = acc.map encP ++ [encP p] := by rw [List.map_append]; rfl
      have ei : isBar ls os t ts p = (decide (spr ls os t ts p = 0) && (shutL ls ts).any (fun d => decide (p.1 ≤ d ∧ d ≤ p.2))) := rfl
      rw [ei]
      generalize ((shutL ls ts).map fun d => decide (p.1 ≤ d ∧ d ≤ p.2)).map PyData.bool = bd at *
      generalize ((shutL ls ts).any fun d => decide (p.1 ≤ d ∧ d ≤ p.2)) = b at *
      generalize spr ls os t ts p = v at *
      unfold b_barring_1
      by_cases hv : v = 0
      · subst hv
        cases b with
        | true =>
          rw [if_pos (by simp), ea]
          generalize dI (shutL ls ts) = sd at *
          generalize dI ts = td at *
          generalize ls.map encL = ld at *
          generalize os.map encO = od at *
          generalize acc.map encP = ad at *
          generalize encP p = pd at *
          simp [f, oEQ, q, oa, ka, sMut, mutO, -oAny]
        | false =>
          rw [if_neg (by simp), List.append_nil]
          generalize dI (shutL ls ts) = sd at *
          generalize dI ts = td at *
          generalize ls.map encL = ld at *
          generalize os.map encO = od at *
          generalize acc.map encP = ad at *
          generalize encP p = pd at *
          simp [f, oEQ, q, oa, -oAny]
      · rw [if_neg (by simp [hv]), List.append_nil]
        generalize dI (shutL ls ts) = sd at *
        generalize dI ts = td at *
        generalize ls.map encL = ld at *
        generalize os.map encO = od at *
        generalize acc.map encP = ad at *
        generalize encP p = pd at *
        simp [f, oEQ, hv]
    simp only [e0, tn]
    exact ih
noncomputable def barS' (ls : List Lot) (os : List Ot) (t : Int) (ts : List Int) : List Pr := joinS (sortP (barL ls os t ts))
theorem F_barring_eq (ls : List Lot) (os : List Ot) (t : Int) (ts : List Int) (hl : ts.length = ls.length) (hn : ls.length < 64) (ho : os.length ≤ 1000) : F_barring [.list (ls.map encL), .list (os.map encO), .int t, .list (dI ts)] = .ok (.ow ((barS' ls os t ts).map encP)) := by
  show toOut (g_barring [.fz (.list (ls.map encL)), .fz (.list (os.map encO)), .fz (.int t), .fz (.list (dI ts)), .un, .un, .un, .un]) = _
  have f1 := F_shut_days_eq ls ts hl (by omega)
  have f2 := F_all_stretches_eq ls hn
  have sl := strL_len hn
  obtain ⟨s6, q⟩ := bar_loop ls os t ts hl (by omega) ho (strL ls) [] .un (by simp; omega)
  rw [List.nil_append, List.map_nil] at q
  have f3 := F_joined_eq (barL ls os t ts) (by
    have := List.length_filter_le (isBar ls os t ts) (strL ls)
    unfold barL
    omega)
  have h0s : small 0 = true := rfl
  have eb : (strL ls).filter (isBar ls os t ts) = barL ls os t ts := rfl
  rw [eb] at q
  unfold g_barring barS'
  generalize (joinS (sortP (barL ls os t ts))).map encP = jd at *
  generalize (barL ls os t ts).map encP = bd at *
  generalize (strL ls).map encP = pd at *
  generalize dI (shutL ls ts) = sd at *
  generalize dI ts = td at *
  generalize ls.map encL = ld at *
  generalize os.map encO = od at *
  simp [f1, f2, mkL, h0s, sFor, q, f3]
end Mm
namespace Mm
open PySem L2 Fx
variable [Tabz]
def plU (ls : List Lot) (u : Int) : List Nat := (List.range ls.length).filter fun i => decide (u ≤ (ls.getD i (0, 0, 0)).2.2)
def dearU (ls : List Lot) (u : Int) : List Lot := (plU ls u).map fun i => ls.getD i (0, 0, 0)
def someU (ls : List Lot) (c : List Int) (u : Int) : List Int := (plU ls u).map (at0 c)
abbrev Pap := Int × Int × List Pr
def encPa (p : Pap) : PyData := .tuple [.int p.1, .int p.2.1, .list (p.2.2.map encP)]
noncomputable def papU (ls : List Lot) (os : List Ot) (t u : Int) : Pap := (u, (someU ls (best ls os t) u).sum, barS' (dearU ls u) os t (someU ls (best ls os t) u))
noncomputable def papL (ls : List Lot) (os : List Ot) (t : Int) : List Pap := ((sortU (ls.map (·.2.2))).reverse).map (papU ls os t)
theorem plU_len (ls : List Lot) (u : Int) : (plU ls u).length ≤ ls.length := by
  have := List.length_filter_le (fun i => decide (u ≤ (ls.getD i (0, 0, 0)).2.2)) (List.range ls.length)
  rw [List.length_range] at this
  exact this
theorem plU_mem {ls : List Lot} {u : Int} {i : Nat} : i ∈ plU ls u ↔ i < ls.length ∧ u ≤ (ls.getD i (0, 0, 0)).2.2 := by
  unfold plU
  rw [List.mem_filter, List.mem_range, decide_eq_true_eq]
end Mm
namespace Mm
open PySem L2 Fx
variable [Tabz]
theorem iv_or (p : Prop) (x : Int) : (iv p x = x ∧ p) ∨ (iv p x = 0 ∧ ¬ p) := by
  by_cases h : p
  · exact .inl ⟨iv_t h x, h⟩
  · exact .inr ⟨iv_f h x, h⟩
section
variable {ls : List Lot} {os : List Ot} {t : Int} {ts : List Int}
theorem greedy_st (O : Okk ls os t) {U : Nat → Prop} : ∀ (o : List Nat) (ts : List Int), o.Nodup → o.Pairwise (fun a b => U b → U a) → (∀ k ∈ o, k < ls.length ∧ at0 ts k = 0) → (∀ i, i < ls.length → at0 ts i ≠ 0 → U i ∨ ∀ k ∈ o, ¬ U k) → Bi ls os t ts →
    ∀ k ∈ o, U k → at0 (bestG ls os t o ts) k = ctL ls k ∨ ∃ p : Pr, (p.1 ≤ dyL ls k ∧ dyL ls k ≤ p.2) ∧ outAg os t p.1 p.2 ≤ sumA ls (bestG ls os t o ts) fun i => (p.1 ≤ dyL ls i ∧ dyL ls i ≤ p.2) ∧ U i
  | [], _, _, _, _, _, _, k, hk, _ => by cases hk
  | k0 :: o, ts, nd, pw, h, hn, B, k, hk, hu => by
    have BB := bestG_bi (k0 :: o) ts nd h B
    rw [List.nodup_cons] at nd
    rw [List.pairwise_cons] at pw
    obtain ⟨h1, h2⟩ := h k0 List.mem_cons_self
    have hl0 : k0 < ts.length := by rw [B.tk.len]; exact h1
    have B' := B.step h1 h2
    have hz : ∀ j ∈ o, j < ls.length ∧ at0 (ts.set k0 (roomAt ls os t ts k0)) j = 0 := fun j hj => ⟨(h j (List.mem_cons_of_mem _ hj)).1, by
      rw [at0_set _ _ _ _ hl0, if_neg (show ¬ k0 = j from fun z => nd.1 (z ▸ hj))]
      exact (h j (List.mem_cons_of_mem _ hj)).2⟩
    rcases List.mem_cons.mp hk with z | hk'
    · subst z
      have ek : at0 (bestG ls os t (k :: o) ts) k = roomAt ls os t ts k := by
        unfold bestG
        rw [bestG_off o _ nd.1 (fun j hj => by rw [List.length_set, B.tk.len]; exact (hz j hj).1), at0_set _ _ _ _ hl0, if_pos rfl]
      rcases roomF_hit (ls := ls) (os := os) (t := t) (ts := ts) (dyL ls k) (strL ls) ((ls.getD k (0, 0, 0)).2.1 - at0 ts k) with e | ⟨p, hp, hd, e⟩
      · left
        rw [ek]
        show roomF ls os t ts (dyL ls k) (strL ls) ((ls.getD k (0, 0, 0)).2.1 - at0 ts k) = _
        rw [e, h2, Int.sub_zero]
      · right
        refine ⟨p, hd, ?_⟩
        have c2 := inS_set (ts := ts) (k := k) (v := roomAt ls os t ts k) (f := p.1) (l := p.2) B.tk.len h1
        rw [if_pos hd, h2] at c2
        have c3 : roomAt ls os t ts k = outAg os t p.1 p.2 - inS ls ts p.1 p.2 := e
        have c4 : inS ls (ts.set k (roomAt ls os t ts k)) p.1 p.2 ≤ sumA ls (bestG ls os t (k :: o) ts) (fun i => (p.1 ≤ dyL ls i ∧ dyL ls i ≤ p.2) ∧ U i) := S_le fun i hi => by
          rw [List.mem_range] at hi
          have p0 := BB.tk.pos i hi
          by_cases hw : p.1 ≤ dyL ls i ∧ dyL ls i ≤ p.2
          · rw [if_pos hw]
            by_cases hio : i ∈ o
            · rw [(hz i hio).2]
              by_cases u : U i
              · rw [iv_t ⟨hw, u⟩]; exact p0
              · rw [iv_f fun z => u z.2]; exact Int.le_refl _
            · have ei : at0 (bestG ls os t (k :: o) ts) i = at0 (ts.set k (roomAt ls os t ts k)) i := by
                unfold bestG
                exact bestG_off o _ hio (fun j hj => by rw [List.length_set, B.tk.len]; exact (hz j hj).1)
              by_cases u : U i
              · rw [iv_t ⟨hw, u⟩, ei]; exact Int.le_refl _
              · rw [iv_f fun z => u z.2]
                rw [at0_set _ _ _ _ hl0]
                by_cases z : k = i
                · exact absurd (z ▸ hu) u
                · rw [if_neg z]
                  by_cases y : at0 ts i = 0
                  · omega
                  · rcases hn i hi y with q | q
                    · exact absurd q u
                    · exact absurd hu (q k List.mem_cons_self)
          · rw [if_neg hw]
            by_cases y : (p.1 ≤ dyL ls i ∧ dyL ls i ≤ p.2) ∧ U i
            · exact absurd y.1 hw
            · rw [iv_f y]; exact Int.le_refl _
        omega
    · exact greedy_st O o (ts.set k0 (roomAt ls os t ts k0)) nd.2 pw.2 hz (fun i hi y => by
        rw [at0_set _ _ _ _ hl0] at y
        by_cases z : k0 = i
        · left
          rw [← z]
          exact pw.1 k hk' hu
        · rw [if_neg z] at y
          rcases hn i hi y with q | q
          · exact .inl q
          · exact .inr fun j hj => q j (List.mem_cons_of_mem _ hj)) B' k hk' hu
noncomputable def wS (ls : List Lot) (c : List Int) (u : Int) (s : Pr) : Int := sumA ls c fun i => (s.1 ≤ dyL ls i ∧ dyL ls i ≤ s.2) ∧ u ≤ (ls.getD i (0, 0, 0)).2.2
theorem best_st (O : Okk ls os t) (hg : ∀ l ∈ ls, GoodL l) (u : Int) : ∀ k, k < ls.length → u ≤ (ls.getD k (0, 0, 0)).2.2 → at0 (best ls os t) k = ctL ls k ∨ ∃ p : Pr, (p.1 ≤ dyL ls k ∧ dyL ls k ≤ p.2) ∧ outAg os t p.1 p.2 ≤ wS ls (best ls os t) u p := fun k hk hu =>
  greedy_st O (U := fun i => u ≤ (ls.getD i (0, 0, 0)).2.2) (dutyL ls) (zer ls.length) (byK_nodup _ _) (cl_up u) (fun k hk => ⟨byK_mem.mp hk, zer_at _ _⟩) (fun i _ y => absurd (zer_at _ _) y) (Bi.zero O hg) k (byK_mem.mpr hk) hu
theorem w_le (O : Okk ls os t) (B : Bi ls os t ts) (u : Int) (s : Pr) : wS ls ts u s ≤ outAg os t s.1 s.2 := by
  have h1 := set_hall O B.tk B.fit fun i => s.1 ≤ dyL ls i ∧ dyL ls i ≤ s.2
  have h2 := cov_stretch (ls := ls) (t := t) O.co s.1 s.2
  have h3 : wS ls ts u s ≤ sumA ls ts (fun i => s.1 ≤ dyL ls i ∧ dyL ls i ≤ s.2) := sumA_mono B.tk.pos fun i _ z => z.1
  omega
def Tg (ls : List Lot) (os : List Ot) (t : Int) (ts : List Int) (u : Int) (s : Pr) : Prop := s.1 ≤ s.2 ∧ outAg os t s.1 s.2 = wS ls ts u s
theorem tg_join (O : Okk ls os t) (B : Bi ls os t ts) {u : Int} {a b : Pr} (ha : Tg ls os t ts u a) (hb : Tg ls os t ts u b) (h1 : a.1 ≤ b.1) (h2 : b.1 ≤ a.2) : Tg ls os t ts u (a.1, max a.2 b.2) := by
  have g1 : outAg os t a.1 (max a.2 b.2) + outAg os t b.1 (min a.2 b.2) ≤ outAg os t a.1 a.2 + outAg os t b.1 b.2 := by
    rw [outAg_sum, outAg_sum, outAg_sum, outAg_sum, ← sumM_add, ← sumM_add]
    refine sumM_le fun o ho => ?_
    have h0 := O.co o ho
    have q1 := iv_or (a.1 ≤ o.1 ∧ o.1 ≤ max a.2 b.2 + t) o.2
    have q2 := iv_or (b.1 ≤ o.1 ∧ o.1 ≤ min a.2 b.2 + t) o.2
    have q3 := iv_or (a.1 ≤ o.1 ∧ o.1 ≤ a.2 + t) o.2
    have q4 := iv_or (b.1 ≤ o.1 ∧ o.1 ≤ b.2 + t) o.2
    have ht := O.ht
    omega
  have g2 : wS ls ts u (a.1, max a.2 b.2) + wS ls ts u (b.1, min a.2 b.2) = wS ls ts u a + wS ls ts u b := by
    unfold wS sumA
    rw [← S_add, ← S_add]
    refine S_congr fun i _ => ?_
    dsimp only
    have q1 := iv_or ((a.1 ≤ dyL ls i ∧ dyL ls i ≤ max a.2 b.2) ∧ u ≤ (ls.getD i (0, 0, 0)).2.2) (at0 ts i)
    have q2 := iv_or ((b.1 ≤ dyL ls i ∧ dyL ls i ≤ min a.2 b.2) ∧ u ≤ (ls.getD i (0, 0, 0)).2.2) (at0 ts i)
    have q3 := iv_or ((a.1 ≤ dyL ls i ∧ dyL ls i ≤ a.2) ∧ u ≤ (ls.getD i (0, 0, 0)).2.2) (at0 ts i)
    have q4 := iv_or ((b.1 ≤ dyL ls i ∧ dyL ls i ≤ b.2) ∧ u ≤ (ls.getD i (0, 0, 0)).2.2) (at0 ts i)
    generalize (ls.getD i (0, 0, 0)).2.2 = z at *
    generalize dyL ls i = y at *
    omega
  have w1 := w_le O B u (a.1, max a.2 b.2)
  have w2 := w_le O B u (b.1, min a.2 b.2)
  dsimp only at w1 w2
  refine ⟨by have := ha.1; show a.1 ≤ max a.2 b.2; omega, ?_⟩
  have e1 := ha.2
  have e2 := hb.2
  show outAg os t a.1 (max a.2 b.2) = _
  omega
theorem join_tg (O : Okk ls os t) (B : Bi ls os t ts) {u : Int} : ∀ (r : List Pr) (c : Pr), Tg ls os t ts u c → (∀ s ∈ r, Tg ls os t ts u s ∧ c.1 ≤ s.1) → r.Pairwise (fun a b => a.1 ≤ b.1) → ∀ s ∈ joinR c r, Tg ls os t ts u s
  | [], c, hc, _, _, s, hs => by
    unfold joinR at hs
    rw [List.mem_singleton.mp hs]; exact hc
  | x :: r, c, hc, hr, pw, s, hs => by
    rw [List.pairwise_cons] at pw
    have hx := hr x List.mem_cons_self
    unfold joinR at hs
    by_cases h : x.1 ≤ c.2
    · rw [if_pos h] at hs
      exact join_tg O B r (c.1, max c.2 x.2) (tg_join O B hc hx.1 hx.2 h) (fun y hy => hr y (List.mem_cons_of_mem _ hy)) pw.2 s hs
    · rw [if_neg h] at hs
      rcases List.mem_cons.mp hs with z | z
      · rw [z]; exact hc
      · exact join_tg O B r x hx.1 (fun y hy => ⟨(hr y (List.mem_cons_of_mem _ hy)).1, pw.1 y hy⟩) pw.2 s z
theorem join_ord : ∀ (r : List Pr) (c : Pr) (a : Int), a < c.1 → c.1 ≤ c.2 → c.2 ≤ 999 → (∀ s ∈ r, s.1 ≤ s.2 ∧ s.2 ≤ 999) → inOrd a (joinR c r) = true
  | [], c, a, h1, h2, h3, _ => by
    show (decide (a < c.1 ∧ c.1 ≤ c.2 ∧ c.2 ≤ 999) && true) = true
    rw [decide_eq_true ⟨h1, h2, h3⟩]; rfl
  | x :: r, c, a, h1, h2, h3, hr => by
    have hx := hr x List.mem_cons_self
    unfold joinR
    by_cases h : x.1 ≤ c.2
    · rw [if_pos h]
      exact join_ord r (c.1, max c.2 x.2) a h1 (by dsimp only; omega) (by dsimp only; omega) fun y hy => hr y (List.mem_cons_of_mem _ hy)
    · rw [if_neg h]
      show (decide (a < c.1 ∧ c.1 ≤ c.2 ∧ c.2 ≤ 999) && inOrd c.2 (joinR x r)) = true
      rw [decide_eq_true ⟨h1, h2, h3⟩, join_ord r x c.2 (by omega) hx.1 hx.2 fun y hy => hr y (List.mem_cons_of_mem _ hy)]; rfl
theorem join_cover {d : Int} : ∀ (r : List Pr) (c : Pr), (∃ s ∈ c :: r, s.1 ≤ d ∧ d ≤ s.2) → (∀ s ∈ r, c.1 ≤ s.1) → r.Pairwise (fun a b => a.1 ≤ b.1) → inAny (joinR c r) d = true
  | [], c, ⟨s, hs, h⟩, _, _ => by
    rw [List.mem_singleton] at hs
    subst hs
    show (decide (s.1 ≤ d ∧ d ≤ s.2) || false) = true
    rw [decide_eq_true h]; rfl
  | x :: r, c, ⟨s, hs, h⟩, hc, pw => by
    rw [List.pairwise_cons] at pw
    have hx := hc x List.mem_cons_self
    unfold joinR
    by_cases hj : x.1 ≤ c.2
    · rw [if_pos hj]
      refine join_cover r (c.1, max c.2 x.2) ?_ (fun y hy => hc y (List.mem_cons_of_mem _ hy)) pw.2
      rcases List.mem_cons.mp hs with z | z
      · exact ⟨_, List.mem_cons_self, by rw [← z]; exact h.1, by rw [← z]; show d ≤ max s.2 x.2; omega⟩
      · rcases List.mem_cons.mp z with y | y
        · exact ⟨_, List.mem_cons_self, by rw [y] at h; show c.1 ≤ d; omega, by rw [y] at h; show d ≤ max c.2 x.2; omega⟩
        · exact ⟨s, List.mem_cons_of_mem _ y, h⟩
    · rw [if_neg hj]
      show (decide (c.1 ≤ d ∧ d ≤ c.2) || inAny (joinR x r) d) = true
      rcases List.mem_cons.mp hs with z | z
      · rw [z] at h
        rw [decide_eq_true h]; rfl
      · rw [join_cover r x ⟨s, z, h⟩ pw.1 pw.2, Bool.or_true]
theorem ord_any {d : Int} : ∀ (ss : List Pr) (a : Int), inOrd a ss = true → inAny ss d = true → a < d
  | [], a, _, h => by cases h
  | s :: ss, a, h, k => by
    have h' : (decide (a < s.1 ∧ s.1 ≤ s.2 ∧ s.2 ≤ 999) && inOrd s.2 ss) = true := h
    rw [Bool.and_eq_true, decide_eq_true_eq] at h'
    have k' : (decide (s.1 ≤ d ∧ d ≤ s.2) || inAny ss d) = true := k
    rw [Bool.or_eq_true, decide_eq_true_eq] at k'
    rcases k' with z | z
    · omega
    · have := ord_any ss s.2 h'.2 z
      omega
theorem sum_any {u : Int} : ∀ (ss : List Pr) (a : Int), inOrd a ss = true → (ss.map (wS ls ts u)).sum = sumA ls ts fun i => inAny ss (dyL ls i) = true ∧ u ≤ (ls.getD i (0, 0, 0)).2.2
  | [], _, _ => by
    unfold sumA
    rw [S_zero fun i _ => iv_f (fun z => by cases z.1) _]
    rfl
  | s :: ss, a, h => by
    have h' : (decide (a < s.1 ∧ s.1 ≤ s.2 ∧ s.2 ≤ 999) && inOrd s.2 ss) = true := h
    rw [Bool.and_eq_true, decide_eq_true_eq] at h'
    rw [List.map_cons, List.sum_cons, sum_any ss s.2 h'.2]
    unfold wS sumA
    rw [← S_add]
    refine S_congr fun i _ => ?_
    dsimp only
    have ea : inAny (s :: ss) (dyL ls i) = (decide (s.1 ≤ dyL ls i ∧ dyL ls i ≤ s.2) || inAny ss (dyL ls i)) := rfl
    rw [ea]
    by_cases hu : u ≤ (ls.getD i (0, 0, 0)).2.2
    · by_cases h1 : s.1 ≤ dyL ls i ∧ dyL ls i ≤ s.2
      · have h2 : ¬ inAny ss (dyL ls i) = true := fun z => by
          have := ord_any ss s.2 h'.2 z
          omega
        rw [iv_t ⟨h1, hu⟩, iv_f (fun z => h2 z.1), iv_t ⟨by rw [decide_eq_true h1]; rfl, hu⟩, Int.add_zero]
      · rw [iv_f (fun z => h1 z.1), Int.zero_add, decide_eq_false h1, Bool.false_or]
    · rw [iv_f (fun z => hu z.2), iv_f (fun z => hu z.2), iv_f (fun z => hu z.2)]; rfl
theorem outS_eq (u : Int) (ss : List Pr) (ls : List Lot) : outS u ss ls = ctA ls fun i => inAny ss (dyL ls i) = false ∧ u ≤ (ls.getD i (0, 0, 0)).2.2 := by
  have e1 : ∀ ls : List Lot, outS u ss ls = sumM ls fun l => iv (inAny ss l.1 = false ∧ u ≤ l.2.2) l.2.1 := by
    intro ls
    induction ls with
    | nil => rfl
    | cons l ls ih =>
      rw [sumM_cons, ← ih]
      show (if u ≤ l.2.2 ∧ inAny ss l.1 = false then l.2.1 else 0) + outS u ss ls = _
      rw [iv_if, show (u ≤ l.2.2 ∧ inAny ss l.1 = false) = (inAny ss l.1 = false ∧ u ≤ l.2.2) from propext ⟨fun z => ⟨z.2, z.1⟩, fun z => ⟨z.2, z.1⟩⟩]
  rw [e1]
  have e2 := range_getD ls (0, 0, 0)
  unfold ctA S
  conv => lhs; rw [← e2]
  unfold sumM
  rw [List.map_map]
  rfl
theorem dear_get {u : Int} {j : Nat} (h : j < (plU ls u).length) : (dearU ls u).getD j (0, 0, 0) = ls.getD ((plU ls u).getD j 0) (0, 0, 0) := getD_map (fun i => ls.getD i (0, 0, 0)) (plU ls u) j 0 _ h
theorem some_get {u : Int} {c : List Int} {j : Nat} (h : j < (plU ls u).length) : at0 (someU ls c u) j = at0 c ((plU ls u).getD j 0) := getD_map (at0 c) (plU ls u) j 0 _ h
theorem inS_dear (u : Int) (c : List Int) (f l : Int) : inS (dearU ls u) (someU ls c u) f l = wS ls c u (f, l) := by
  have e : (List.range (dearU ls u).length).map (fun j => if f ≤ dyL (dearU ls u) j ∧ dyL (dearU ls u) j ≤ l then at0 (someU ls c u) j else 0) = (plU ls u).map fun i => if f ≤ dyL ls i ∧ dyL ls i ≤ l then at0 c i else 0 := by
    have dl : (dearU ls u).length = (plU ls u).length := by simp [dearU]
    rw [dl]
    conv => rhs; rw [← range_getD (plU ls u) 0]
    rw [List.map_map]
    apply List.map_congr_left
    intro j hj
    rw [List.mem_range] at hj
    unfold dyL
    rw [dear_get hj, some_get hj]
    rfl
  unfold inS S
  rw [e]
  unfold plU
  rw [sum_filter]
  unfold wS sumA
  refine S_congr fun i _ => ?_
  by_cases hu : u ≤ (ls.getD i (0, 0, 0)).2.2
  · rw [if_pos (decide_eq_true hu), iv_if]
    by_cases h : f ≤ dyL ls i ∧ dyL ls i ≤ l
    · rw [iv_t h, iv_t ⟨h, hu⟩]
    · rw [iv_f h, iv_f fun z => h z.1]
  · rw [if_neg (by rw [decide_eq_false hu]; decide), iv_f fun z => hu z.2]
theorem some_sum (u : Int) (c : List Int) : (someU ls c u).sum = upU ls c u := by
  unfold someU plU
  rw [sum_filter]
  unfold upU sumA
  refine S_congr fun i _ => ?_
  by_cases hu : u ≤ (ls.getD i (0, 0, 0)).2.2
  · rw [if_pos (decide_eq_true hu), iv_t hu]
  · rw [if_neg (by rw [decide_eq_false hu]; decide), iv_f hu]
theorem min_mem : ∀ {xs : List Int}, xs ≠ [] → ∃ m ∈ xs, ∀ x ∈ xs, m ≤ x
  | [], h => absurd rfl h
  | [x], _ => ⟨x, List.mem_singleton.mpr rfl, fun y hy => by rw [List.mem_singleton.mp hy]; exact Int.le_refl _⟩
  | x :: y :: r, _ => by
    obtain ⟨m, hm, h⟩ := min_mem (xs := y :: r) (by simp)
    by_cases z : x ≤ m
    · refine ⟨x, List.mem_cons_self, fun w hw => ?_⟩
      rcases List.mem_cons.mp hw with e | e
      · rw [e]; exact Int.le_refl _
      · have := h w e; omega
    · refine ⟨m, List.mem_cons_of_mem _ hm, fun w hw => ?_⟩
      rcases List.mem_cons.mp hw with e | e
      · rw [e]; omega
      · exact h w e
theorem max_mem : ∀ {xs : List Int}, xs ≠ [] → ∃ m ∈ xs, ∀ x ∈ xs, x ≤ m
  | [], h => absurd rfl h
  | [x], _ => ⟨x, List.mem_singleton.mpr rfl, fun y hy => by rw [List.mem_singleton.mp hy]; exact Int.le_refl _⟩
  | x :: y :: r, _ => by
    obtain ⟨m, hm, h⟩ := max_mem (xs := y :: r) (by simp)
    by_cases z : m ≤ x
    · refine ⟨x, List.mem_cons_self, fun w hw => ?_⟩
      rcases List.mem_cons.mp hw with e | e
      · rw [e]; exact Int.le_refl _
      · have := h w e; omega
    · refine ⟨m, List.mem_cons_of_mem _ hm, fun w hw => ?_⟩
      rcases List.mem_cons.mp hw with e | e
      · rw [e]; omega
      · exact h w e
theorem dear_day {u d : Int} : d ∈ (dearU ls u).map (·.1) ↔ ∃ i, i < ls.length ∧ u ≤ (ls.getD i (0, 0, 0)).2.2 ∧ dyL ls i = d := by
  unfold dearU
  rw [List.map_map, List.mem_map]
  constructor
  · rintro ⟨i, hi, rfl⟩
    exact ⟨i, (plU_mem.mp hi).1, (plU_mem.mp hi).2, rfl⟩
  · rintro ⟨i, h1, h2, rfl⟩
    exact ⟨i, plU_mem.mpr ⟨h1, h2⟩, rfl⟩
theorem bar_has (O : Okk ls os t) (hg : ∀ l ∈ ls, GoodL l) {u : Int} {i : Nat} (hi : i < ls.length) (hu : u ≤ (ls.getD i (0, 0, 0)).2.2) (hc : at0 (best ls os t) i < ctL ls i) : ∃ p ∈ barL (dearU ls u) os t (someU ls (best ls os t) u), p.1 ≤ dyL ls i ∧ dyL ls i ≤ p.2 := by
  rcases best_st O hg u i hi hu with e | ⟨q, hq, hw⟩
  · omega
  have B := best_bi O hg
  -- the days within q
  have ne : ((dearU ls u).map (·.1)).filter (fun d => decide (q.1 ≤ d ∧ d ≤ q.2)) ≠ [] := fun z => by
    have : dyL ls i ∈ ((dearU ls u).map (·.1)).filter (fun d => decide (q.1 ≤ d ∧ d ≤ q.2)) := List.mem_filter.mpr ⟨dear_day.mpr ⟨i, hi, hu, rfl⟩, decide_eq_true hq⟩
    rw [z] at this
    cases this
  obtain ⟨f, hf, f2⟩ := min_mem ne
  obtain ⟨l, hl, l2⟩ := max_mem ne
  have md : dyL ls i ∈ ((dearU ls u).map (·.1)).filter (fun d => decide (q.1 ≤ d ∧ d ≤ q.2)) := List.mem_filter.mpr ⟨dear_day.mpr ⟨i, hi, hu, rfl⟩, decide_eq_true hq⟩
  have a1 := f2 _ md
  have a2 := l2 _ md
  have f3 := List.mem_filter.mp hf
  have l3 := List.mem_filter.mp hl
  have f4 := of_decide_eq_true f3.2
  have l4 := of_decide_eq_true l3.2
  have ew : wS ls (best ls os t) u (f, l) = wS ls (best ls os t) u q := S_congr fun k hk => by
    rw [List.mem_range] at hk
    dsimp only
    by_cases hku : u ≤ (ls.getD k (0, 0, 0)).2.2
    · by_cases hkq : q.1 ≤ dyL ls k ∧ dyL ls k ≤ q.2
      · have mk : dyL ls k ∈ ((dearU ls u).map (·.1)).filter (fun d => decide (q.1 ≤ d ∧ d ≤ q.2)) := List.mem_filter.mpr ⟨dear_day.mpr ⟨k, hk, hku, rfl⟩, decide_eq_true hkq⟩
        rw [iv_t ⟨⟨f2 _ mk, l2 _ mk⟩, hku⟩, iv_t ⟨hkq, hku⟩]
      · rw [iv_f (fun z => hkq ⟨by have := z.1.1; omega, by have := z.1.2; omega⟩), iv_f (fun z => hkq z.1)]
    · rw [iv_f (fun z => hku z.2), iv_f (fun z => hku z.2)]
  have eg : outAg os t f l ≤ outAg os t q.1 q.2 := outAg_mono O.co fun o _ h1 h2 => ⟨by omega, by omega⟩
  have wl := w_le O B u (f, l)
  dsimp only at wl
  refine ⟨(f, l), ?_, a1, a2⟩
  unfold barL
  rw [List.mem_filter]
  refine ⟨(mem_prs (sortU_pw _)).mpr ⟨mem_sortU.mpr f3.1, mem_sortU.mpr l3.1, by omega⟩, ?_⟩
  unfold isBar
  rw [Bool.and_eq_true]
  constructor
  · refine decide_eq_true ?_
    unfold spr
    rw [inS_dear]
    dsimp only
    omega
  · rw [List.any_eq_true]
    refine ⟨dyL ls i, ?_, decide_eq_true ⟨a1, a2⟩⟩
    unfold shutL
    rw [List.mem_map]
    obtain ⟨j, hj, ej⟩ := List.mem_iff_getElem.mp (plU_mem.mpr ⟨hi, hu⟩ : i ∈ plU ls u)
    have dl : (dearU ls u).length = (plU ls u).length := by simp [dearU]
    have ej' : (plU ls u).getD j 0 = i := by simp [hj, ej]
    refine ⟨j, List.mem_filter.mpr ⟨List.mem_range.mpr (by omega), decide_eq_true ?_⟩, ?_⟩
    · unfold ctL
      rw [some_get hj, dear_get hj, ej']
      exact hc
    · unfold dyL
      rw [dear_get hj, ej']
theorem pap_good (O : Okk ls os t) (hg : ∀ l ∈ ls, GoodL l) (u : Int) : inOrd 0 (papU ls os t u).2.2 = true ∧ outS u (papU ls os t u).2.2 ls + barS os t (papU ls os t u).2.2 = (papU ls os t u).2.1 := by
  have B := best_bi O hg
  show inOrd 0 (joinS (sortP (barL (dearU ls u) os t (someU ls (best ls os t) u)))) = true ∧ outS u (joinS (sortP (barL (dearU ls u) os t (someU ls (best ls os t) u)))) ls + barS os t (joinS (sortP (barL (dearU ls u) os t (someU ls (best ls os t) u)))) = (someU ls (best ls os t) u).sum
  rw [some_sum]
  have bl : ∀ p ∈ barL (dearU ls u) os t (someU ls (best ls os t) u), Tg ls os t (best ls os t) u p ∧ 1 ≤ p.1 ∧ p.2 ≤ 999 := fun p hp => by
    unfold barL at hp
    rw [List.mem_filter] at hp
    obtain ⟨h1, h2⟩ := hp
    have hm := (mem_prs (sortU_pw _)).mp (show (p.1, p.2) ∈ prs (sortU ((dearU ls u).map (·.1))) from h1)
    unfold isBar at h2
    rw [Bool.and_eq_true, decide_eq_true_eq] at h2
    have h3 := h2.1
    unfold spr at h3
    rw [inS_dear] at h3
    obtain ⟨i, hi, _, e1⟩ := dear_day.mp (mem_sortU.mp hm.1)
    obtain ⟨j, hj, _, e2⟩ := dear_day.mp (mem_sortU.mp hm.2.1)
    have g1 := (hg _ (get_mem hi)).d1
    have g2 := (hg _ (get_mem hj)).d2
    refine ⟨⟨hm.2.2, ?_⟩, by rw [← e1]; exact g1, by rw [← e2]; exact g2⟩
    show _ = wS ls (best ls os t) u (p.1, p.2)
    omega
  have sm : ∀ p, p ∈ sortP (barL (dearU ls u) os t (someU ls (best ls os t) u)) ↔ p ∈ barL (dearU ls u) os t (someU ls (best ls os t) u) := fun p => (sortP_perm _).mem_iff
  have pw : (sortP (barL (dearU ls u) os t (someU ls (best ls os t) u))).Pairwise (fun a b => a.1 ≤ b.1) := (sortP_pw _).imp fun {a b} h => by
    have := leP_iff.mp h
    omega
  have hs : ∀ p ∈ sortP (barL (dearU ls u) os t (someU ls (best ls os t) u)), Tg ls os t (best ls os t) u p ∧ 1 ≤ p.1 ∧ p.2 ≤ 999 := fun p hp => bl p ((sm p).mp hp)
  have cover : ∀ i, i < ls.length → u ≤ (ls.getD i (0, 0, 0)).2.2 → at0 (best ls os t) i < ctL ls i → ∃ p ∈ sortP (barL (dearU ls u) os t (someU ls (best ls os t) u)), p.1 ≤ dyL ls i ∧ dyL ls i ≤ p.2 := fun i hi hu hc => by
    obtain ⟨p, hp, h⟩ := bar_has O hg hi hu hc
    exact ⟨p, (sm p).mpr hp, h⟩
  generalize sortP (barL (dearU ls u) os t (someU ls (best ls os t) u)) = qs at *
  have key : inOrd 0 (joinS qs) = true ∧ (∀ s ∈ joinS qs, Tg ls os t (best ls os t) u s) ∧ ∀ i, i < ls.length → u ≤ (ls.getD i (0, 0, 0)).2.2 → at0 (best ls os t) i < ctL ls i → inAny (joinS qs) (dyL ls i) = true := by
    cases qs with
    | nil =>
      refine ⟨rfl, fun s hs => ?_, fun i h1 h2 h3 => ?_⟩
      · cases hs
      · obtain ⟨p, hp, _⟩ := cover i h1 h2 h3
        cases hp
    | cons c r =>
      rw [List.pairwise_cons] at pw
      have hc := hs c List.mem_cons_self
      refine ⟨join_ord r c 0 (by omega) hc.1.1 hc.2.2 fun s h => ⟨(hs s (List.mem_cons_of_mem _ h)).1.1, (hs s (List.mem_cons_of_mem _ h)).2.2⟩, join_tg O B r c hc.1 (fun s h => ⟨(hs s (List.mem_cons_of_mem _ h)).1, pw.1 s h⟩) pw.2, fun i h1 h2 h3 => ?_⟩
      exact join_cover r c (cover i h1 h2 h3) pw.1 pw.2
  obtain ⟨k1, k2, k3⟩ := key
  refine ⟨k1, ?_⟩
  have e1 : barS os t (joinS qs) = ((joinS qs).map (wS ls (best ls os t) u)).sum := by
    unfold barS
    congr 1
    exact List.map_congr_left fun s hs => (k2 s hs).2
  rw [e1, sum_any _ 0 k1, outS_eq]
  unfold ctA sumA upU sumA
  rw [← S_add]
  refine S_congr fun i hi => ?_
  rw [List.mem_range] at hi
  by_cases hu : u ≤ (ls.getD i (0, 0, 0)).2.2
  · rw [iv_t hu]
    cases ha : inAny (joinS qs) (dyL ls i) with
    | true => rw [iv_f (fun z => by have z1 := z.1; rw [ha] at z1; cases z1), iv_t ⟨ha, hu⟩, Int.zero_add]
    | false =>
      rw [iv_t ⟨ha, hu⟩, iv_f (fun z => by have z1 := z.1; rw [ha] at z1; cases z1), Int.add_zero]
      have h1 := B.le i hi
      by_cases z : at0 (best ls os t) i < ctL ls i
      · rw [k3 i hi hu z] at ha; cases ha
      · omega
  · rw [iv_f (fun z => hu z.2), iv_f (fun z => hu z.2), iv_f hu]; rfl
end
end Mm
namespace Mm
open PySem L2 Fx
variable [Tabz]
def encPs (l : List Pr) : PyData := .tuple (l.map encP)
abbrev kR (p hd : List PyData) : Tr := .nd (.ins "Kinds") [.ow p, .ow hd]
abbrev kRD (p hd : List PyData) : PyData := instD "Kinds" [.list p, .list hd]
theorem t_at0 (t : Tr) : t.at [] = some t := by cases t <;> rfl
theorem t_at1 {k : Nk} {ts : List Tr} {n : Nat} {q : List Nat} : (Tr.nd k ts).at (n :: q) = (match ts[n]? with
    | some t => t.at q
    | none => none) := rfl
section
variable {p hd : List PyData}
theorem oSum_ints (ns : List Int) : asInts (dI ns) = some ns := asInts_map ns
def badP (n a : Int) (q : Pr) : Prop := q.1 ≤ a ∨ n < q.1 ∨ q.2 < 1 ∨ 100 < q.2
instance (n a : Int) (q : Pr) : Decidable (badP n a q) := by unfold badP; infer_instance
def lookP (m : List Pr) (r : Int) : Option Int := match m with
  | [] => none
  | q :: m => if q.1 = r then some q.2 else lookP m r
structure HdOk (hs : List (List Pr)) : Prop where
  few : hs.length ≤ 12
  len : ∀ l ∈ hs, l.length ≤ 12
  num : ∀ l ∈ hs, ∀ q ∈ l, 1 ≤ q.1 ∧ q.1 ≤ (hs.length : Int) ∧ 1 ≤ q.2 ∧ q.2 ≤ 10000
  nd : ∀ l ∈ hs, (l.map (·.1)).Nodup
  ne : ∀ l ∈ hs, l ≠ []
theorem HdOk.at {hs : List (List Pr)} (h : HdOk hs) (n : Int) : (hs.getD (n - 1).toNat []).length ≤ 12 ∧ (∀ q ∈ hs.getD (n - 1).toNat [], 1 ≤ q.1 ∧ q.1 ≤ (hs.length : Int) ∧ 1 ≤ q.2 ∧ q.2 ≤ 10000) ∧ ((hs.getD (n - 1).toNat []).map (·.1)).Nodup := by
  by_cases hl : (n - 1).toNat < hs.length
  · have e : hs.getD (n - 1).toNat [] = hs[(n - 1).toNat] := by rw [List.getD_eq_getElem?_getD, List.getElem?_eq_getElem hl]; rfl
    have m := List.getElem_mem hl
    rw [e]
    exact ⟨h.len _ m, h.num _ m, h.nd _ m⟩
  · have e : hs.getD (n - 1).toNat [] = [] := by rw [List.getD_eq_getElem?_getD, List.getElem?_eq_none (by omega)]; rfl
    rw [e]
    exact ⟨Nat.zero_le _, (fun q z => absurd z List.not_mem_nil), List.nodup_nil⟩
end
end Mm
namespace Mm
open PySem L2 Fx
variable [Tabz]
def Pn (s : Sl) : Prop := ∀ kf i, killS kf i s = s
theorem pn_un : Pn .un := fun _ _ => rfl
theorem pn_fz {d : PyData} : Pn (.fz d) := fun _ _ => rfl
theorem HdOk.snoc {hs : List (List Pr)} (H : HdOk hs) {l : List Pr} (h5 : l ≠ []) (h1 : hs.length < 12) (h2 : l.length ≤ 12) (h3 : ∀ q ∈ l, 1 ≤ q.1 ∧ q.1 ≤ (hs.length : Int) + 1 ∧ 1 ≤ q.2 ∧ q.2 ≤ 10000) (h4 : (l.map (·.1)).Nodup) : HdOk (hs ++ [l]) := by
  have hl : (hs ++ [l]).length = hs.length + 1 := by simp
  refine ⟨by omega, fun x hx => ?_, fun x hx q hq => ?_, fun x hx => ?_, fun x hx => (List.mem_append.mp hx).elim (H.ne x) fun h => by rw [List.mem_singleton] at h; subst h; exact h5⟩
  · rcases List.mem_append.mp hx with h | h
    · exact H.len x h
    · rw [List.mem_singleton] at h; subst h; exact h2
  · rcases List.mem_append.mp hx with h | h
    · have := H.num x h q hq; omega
    · rw [List.mem_singleton] at h; subst h; have := h3 q hq; omega
  · rcases List.mem_append.mp hx with h | h
    · exact H.nd x h
    · rw [List.mem_singleton] at h; subst h; exact h4
theorem HdOk.nil : HdOk [] := ⟨by decide, (fun x z => absurd z List.not_mem_nil), (fun x z => absurd z List.not_mem_nil), (fun x z => absurd z List.not_mem_nil), (fun x z => absurd z List.not_mem_nil)⟩
theorem HdOk.raw {hs : List (List Pr)} (H : HdOk hs) (h1 : hs.length < 12) : HdOk (hs ++ [[((hs.length : Int) + 1, 1)]]) := H.snoc (by simp) h1 (by simp) (fun q hq => by rw [List.mem_singleton] at hq; subst hq; dsimp; omega) (by simp)
end Mm
namespace Mm
open PySem L2 Fx
variable [Tabz]
abbrev hR (t l s : Int) (p hd lo ou cl pa fu : List PyData) : Tr := .nd (.ins "House") [.fz (.int t), .fz (.int l), .fz (.int s), kR p hd, .ow lo, .ow ou, .ow cl, .ow pa, .ow fu]
abbrev stR (p hd lo ou cl : List PyData) : PyData := .tuple [kRD p hd, .list lo, .list ou, .list cl]
end Mm
namespace Mm
open PySem L2 Fx
variable [Tabz]
structure LotR where
  k : Int
  d : Int
  c : Int
  u : Int
  s : Bool
structure OutR where
  k : Int
  d : Int
  c : Int
  s : Bool
structure ClR where
  k : Int
  d : Int
  pd : Int
  w : Int
  s : Bool
  ts : List Lot
instance : Inhabited LotR := ⟨⟨0, 0, 0, 0, false⟩⟩
instance : Inhabited OutR := ⟨⟨0, 0, 0, false⟩⟩
instance : Inhabited ClR := ⟨⟨0, 0, 0, 0, false, []⟩⟩
def encLR (r : LotR) : PyData := .tuple [.int r.k, .int r.d, .int r.c, .int r.u, .bool r.s]
def encOR (r : OutR) : PyData := .tuple [.int r.k, .int r.d, .int r.c, .bool r.s]
def encTs (ts : List Lot) : PyData := .tuple (ts.map encL)
def encCR (r : ClR) : PyData := .tuple [.int r.k, .int r.d, .int r.pd, .int r.w, .bool r.s, encTs r.ts]
end Mm
namespace Mm
open PySem L2 Fx
variable [Tabz]
theorem zip_get {α : Type} [Inhabited α] {xs : List α} {x : α × Nat} (h : x ∈ xs.zipIdx) : x.2 < xs.length ∧ xs.getD x.2 default = x.1 := by
  have e := List.mem_zipIdx_iff_getElem?.mp h
  have hl := (List.getElem?_eq_some_iff.mp e).1
  exact ⟨hl, by rw [List.getD_eq_getElem?_getD, e]; rfl⟩
end Mm
namespace Mm
open PySem L2 Fx
variable [Tabz]
structure BkOk (hs : List (List Pr)) (ls : List LotR) (os : List OutR) (cs : List ClR) : Prop where
  hd : HdOk hs
  nl : ls.length ≤ 30
  no : os.length ≤ 30
  nc : cs.length ≤ 30
  ct : ∀ c ∈ cs, c.ts.length ≤ 10000
  ok : ∀ r ∈ os, 1 ≤ r.k ∧ r.k ≤ (hs.length : Int) ∧ 1 ≤ r.d ∧ r.d ≤ 999 ∧ 1 ≤ r.c ∧ r.c ≤ 1000000
  lk : ∀ r ∈ ls, 1 ≤ r.k ∧ r.k ≤ (hs.length : Int) ∧ 1 ≤ r.d ∧ r.d ≤ 999 ∧ 1 ≤ r.c ∧ r.c ≤ 1000000 ∧ 1 ≤ r.u ∧ r.u ≤ 1000000
  cp : ∀ c ∈ cs, ∀ x ∈ c.ts, 1 ≤ x.2.2 ∧ 1 ≤ x.1 ∧ x.1 ≤ (ls.length : Int) ∧ (ls.getD (x.1 - 1).toNat default).k = c.k
end Mm
namespace Mm
open PySem L2 Fx
variable [Tabz]
end Mm
namespace Mm
open PySem L2 Fx
variable [Tabz]
inductive Deed where
  | raw
  | made (qs : List Pr)
  | come (k d c u : Int)
  | go (k d c : Int)
  | sl (n : Int)
  | so (n : Int)
  | lay (k d : Int)
  | cb (n : Int)
end Mm
namespace Mm
open PySem L2 Fx
variable [Tabz]
structure Bk where
  ps : List (List Pr)
  hs : List (List Pr)
  ls : List LotR
  os : List OutR
  cs : List ClR
def Bk.st (b : Bk) : PyData := stR (b.ps.map encPs) (b.hs.map encPs) (b.ls.map encLR) (b.os.map encOR) (b.cs.map encCR)
def Bk.tr (t l s : Int) (b : Bk) (pa fu : List PyData) : Tr := hR t l s (b.ps.map encPs) (b.hs.map encPs) (b.ls.map encLR) (b.os.map encOR) (b.cs.map encCR) pa fu
def Deed.small : Deed → Prop
  | .made qs => qs.length ≤ 70
  | _ => True
end Mm
namespace Mm
open PySem L2 Fx
variable [Tabz]
def mK : List Key := [.inr "terms", .inr "held", .inr "raws", .inr "lots", .inr "outs", .inr "claims", .inr "deeds"]
theorem pk1 : posK (.inr "held") mK = some 1 := by decide +kernel
end Mm
namespace Mm
open PySem L2 Fx
variable [Tabz]
def Bk.rw (b : Bk) : List PyData := b.ps.map fun q => .bool (decide (q = []))
end Mm
namespace Mm
open PySem L2 Fx
variable [Tabz]
end Mm
namespace Mm
open PySem L2 Fx
variable [Tabz]
end Mm
namespace Mm
open PySem L2 Fx
variable [Tabz]
end Mm
namespace Mm
open PySem L2 Fx
variable [Tabz]
theorem BkOk.more {hs hs' : List (List Pr)} {ls : List LotR} {os : List OutR} {cs : List ClR} (B : BkOk hs ls os cs) (H : HdOk hs') (h : hs.length ≤ hs'.length) : BkOk hs' ls os cs :=
  ⟨H, B.nl, B.no, B.nc, B.ct, fun r hr => by have := B.ok r hr; omega, fun r hr => by have := B.lk r hr; omega, B.cp⟩
theorem getD_app {α : Type} (xs ys : List α) (d : α) {i : Nat} (h : i < xs.length) : (xs ++ ys).getD i d = xs.getD i d := by
  rw [List.getD_eq_getElem?_getD, List.getD_eq_getElem?_getD, List.getElem?_append_left h]
theorem BkOk.lot {hs : List (List Pr)} {ls : List LotR} {os : List OutR} {cs : List ClR} (B : BkOk hs ls os cs) {r : LotR} (hn : ls.length < 30) (h : 1 ≤ r.k ∧ r.k ≤ (hs.length : Int) ∧ 1 ≤ r.d ∧ r.d ≤ 999 ∧ 1 ≤ r.c ∧ r.c ≤ 1000000 ∧ 1 ≤ r.u ∧ r.u ≤ 1000000) : BkOk hs (ls ++ [r]) os cs :=
  ⟨B.hd, by simp; omega, B.no, B.nc, B.ct, B.ok, fun x hx => (List.mem_append.mp hx).elim (B.lk x) fun z => by rw [List.mem_singleton] at z; rw [z]; exact h, fun c hc x hx => by
    obtain ⟨a1, a2, a3, a4⟩ := B.cp c hc x hx
    refine ⟨a1, a2, by simp; omega, ?_⟩
    rw [getD_app _ _ _ (by omega)]
    exact a4⟩
theorem BkOk.out {hs : List (List Pr)} {ls : List LotR} {os : List OutR} {cs : List ClR} (B : BkOk hs ls os cs) {r : OutR} (hn : os.length < 30) (h : 1 ≤ r.k ∧ r.k ≤ (hs.length : Int) ∧ 1 ≤ r.d ∧ r.d ≤ 999 ∧ 1 ≤ r.c ∧ r.c ≤ 1000000) : BkOk hs ls (os ++ [r]) cs :=
  ⟨B.hd, B.nl, by simp; omega, B.nc, B.ct, fun x hx => (List.mem_append.mp hx).elim (B.ok x) fun z => by rw [List.mem_singleton] at z; rw [z]; exact h, B.lk, B.cp⟩
end Mm
namespace Mm
open PySem L2 Fx
variable [Tabz]
section
variable {t l s : Int} {de pa fu : List PyData}
def Fu (s : Sl) : Prop := s = .un ∨ ∃ d, s = .fz d
theorem Fu.pn {s : Sl} (h : Fu s) : Pn s := by
  rcases h with rfl | ⟨d, rfl⟩
  · exact pn_un
  · exact pn_fz
theorem Fu.kp {s : Sl} (h : Fu s) : keepFz (some s) = s := by
  rcases h with rfl | ⟨d, rfl⟩ <;> rfl
theorem Fu.fz {d : PyData} : Fu (.fz d) := .inr ⟨d, rfl⟩
end
end Mm
namespace K16
open PySem L2 Fx Mm
variable [Tabz]
def encPT (p : Pap) : Tr := .nd .tup [.fz (.int p.1), .fz (.int p.2.1), .ow (p.2.2.map encP)]
section
variable {ls : List Lot} {os : List Ot} {t : Int}
theorem pap_turnT (n1 : ls.length < 64) (n2 : os.length ≤ 1000) (u : Int) (acc : List Pap) (ha : acc.length < 1000) (s6 s7 s9 s10 : Sl) :
    ∃ s7' s9' s10', b_papers_of_vT_1 [.fz (.list (ls.map encL)), .fz (.list (os.map encO)), .fz (.int t), .fz (.list (dI (best ls os t))), .tr (.nd .lst (acc.map encPT)), .fz (.int u), .un, s7, .un, s9, s10] = .nx [.fz (.list (ls.map encL)), .fz (.list (os.map encO)), .fz (.int t), .fz (.list (dI (best ls os t))), .tr (.nd .lst ((acc ++ [papU ls os t u]).map encPT)), .fz (.int u), .un, s7', .un, s9', s10'] := by
  have bl := best_len ls os t
  have pl := plU_len ls u
  have q2 : q_papers_of_vT_2 [.fz (.list (ls.map encL)), .fz (.list (os.map encO)), .fz (.int t), .fz (.list (dI (best ls os t))), .tr (.nd .lst (acc.map encPT)), .fz (.int u), .un, s7, .un, s9, s10] = .ok (dN (plU ls u), [.fz (.list (ls.map encL)), .fz (.list (os.map encO)), .fz (.int t), .fz (.list (dI (best ls os t))), .tr (.nd .lst (acc.map encPT)), .fz (.int u), .un, s7, .un, s9, s10]) := by
    unfold q_papers_of_vT_2
    rw [lc_if (List.range ls.length) (fun i => PyData.int (i : Nat)) (fun i => decide (u ≤ (ls.getD i (0, 0, 0)).2.2)) (fun i => PyData.int (i : Nat)) (ρ := [.fz (.list (ls.map encL)), .fz (.list (os.map encO)), .fz (.int t), .fz (.list (dI (best ls os t))), .tr (.nd .lst (acc.map encPT)), .fz (.int u), .un, s7, .un, s9, s10]) (by
      simp [oRng1_of (j := (ls.length : Int)) (by omega) (by omega), rng]) (by rw [List.length_range]; omega) fun i hi => ⟨[.fz (.list (ls.map encL)), .fz (.list (os.map encO)), .fz (.int t), .fz (.list (dI (best ls os t))), .tr (.nd .lst (acc.map encPT)), .fz (.int u), .un, s7, .fz (.int (i : Int)), s9, s10], rfl, [.fz (.list (ls.map encL)), .fz (.list (os.map encO)), .fz (.int t), .fz (.list (dI (best ls os t))), .tr (.nd .lst (acc.map encPT)), .fz (.int u), .un, s7, .fz (.int (i : Int)), s9, s10], by
        rw [List.mem_range] at hi
        have a1 := at_lot (ls := ls) hi
        generalize ls.map encL = ld at *
        simp [a1, encL, encL_ix2], fun _ => ⟨[.fz (.list (ls.map encL)), .fz (.list (os.map encO)), .fz (.int t), .fz (.list (dI (best ls os t))), .tr (.nd .lst (acc.map encPT)), .fz (.int u), .un, s7, .fz (.int (i : Int)), s9, s10], rfl, rfl⟩, fun _ => rfl⟩]
    rfl
  have q3 : q_papers_of_vT_3 [.fz (.list (ls.map encL)), .fz (.list (os.map encO)), .fz (.int t), .fz (.list (dI (best ls os t))), .tr (.nd .lst (acc.map encPT)), .fz (.int u), .un, .ow (dN (plU ls u)), .un, s9, s10] = .ok ((dearU ls u).map encL, [.fz (.list (ls.map encL)), .fz (.list (os.map encO)), .fz (.int t), .fz (.list (dI (best ls os t))), .tr (.nd .lst (acc.map encPT)), .fz (.int u), .un, .fz (.list (dN (plU ls u))), .un, s9, s10]) := by
    unfold q_papers_of_vT_3
    rw [lc_all (plU ls u) (fun i => PyData.int (i : Nat)) (fun i => encL (ls.getD i (0, 0, 0))) (ρ := [.fz (.list (ls.map encL)), .fz (.list (os.map encO)), .fz (.int t), .fz (.list (dI (best ls os t))), .tr (.nd .lst (acc.map encPT)), .fz (.int u), .un, .fz (.list (dN (plU ls u))), .un, s9, s10]) (by simp) (by omega) fun i hi => ⟨[.fz (.list (ls.map encL)), .fz (.list (os.map encO)), .fz (.int t), .fz (.list (dI (best ls os t))), .tr (.nd .lst (acc.map encPT)), .fz (.int u), .un, .fz (.list (dN (plU ls u))), .fz (.int (i : Int)), s9, s10], rfl, [.fz (.list (ls.map encL)), .fz (.list (os.map encO)), .fz (.int t), .fz (.list (dI (best ls os t))), .tr (.nd .lst (acc.map encPT)), .fz (.int u), .un, .fz (.list (dN (plU ls u))), .fz (.int (i : Int)), s9, s10], by
        have a1 := at_lot (ls := ls) (plU_mem.mp hi).1
        generalize ls.map encL = ld at *
        generalize encL (ls.getD i (0, 0, 0)) = e at *
        simp [a1], rfl⟩]
    unfold dearU
    rw [List.map_map]; rfl
  have q4 : q_papers_of_vT_4 [.fz (.list (ls.map encL)), .fz (.list (os.map encO)), .fz (.int t), .fz (.list (dI (best ls os t))), .tr (.nd .lst (acc.map encPT)), .fz (.int u), .un, .fz (.list (dN (plU ls u))), .un, .ow ((dearU ls u).map encL), s10] = .ok (dI (someU ls (best ls os t) u), [.fz (.list (ls.map encL)), .fz (.list (os.map encO)), .fz (.int t), .fz (.list (dI (best ls os t))), .tr (.nd .lst (acc.map encPT)), .fz (.int u), .un, .fz (.list (dN (plU ls u))), .un, .ow ((dearU ls u).map encL), s10]) := by
    unfold q_papers_of_vT_4
    rw [lc_all (plU ls u) (fun i => PyData.int (i : Nat)) (fun i => PyData.int (at0 (best ls os t) i)) (ρ := [.fz (.list (ls.map encL)), .fz (.list (os.map encO)), .fz (.int t), .fz (.list (dI (best ls os t))), .tr (.nd .lst (acc.map encPT)), .fz (.int u), .un, .fz (.list (dN (plU ls u))), .un, .ow ((dearU ls u).map encL), s10]) (by simp) (by omega) fun i hi => ⟨[.fz (.list (ls.map encL)), .fz (.list (os.map encO)), .fz (.int t), .fz (.list (dI (best ls os t))), .tr (.nd .lst (acc.map encPT)), .fz (.int u), .un, .fz (.list (dN (plU ls u))), .fz (.int (i : Int)), .ow ((dearU ls u).map encL), s10], rfl, [.fz (.list (ls.map encL)), .fz (.list (os.map encO)), .fz (.int t), .fz (.list (dI (best ls os t))), .tr (.nd .lst (acc.map encPT)), .fz (.int u), .un, .fz (.list (dN (plU ls u))), .fz (.int (i : Int)), .ow ((dearU ls u).map encL), s10], by
        have a1 := at_int (xs := best ls os t) (i := i) (by rw [bl]; exact (plU_mem.mp hi).1)
        generalize dI (best ls os t) = bd at *
        generalize at0 (best ls os t) i = x at *
        simp [a1], rfl⟩]
    unfold someU dI
    rw [List.map_map]; rfl
  have dl : (dearU ls u).length = (plU ls u).length := by simp [dearU]
  have sl : (someU ls (best ls os t) u).length = (plU ls u).length := by simp [someU]
  have f := F_barring_eq (dearU ls u) os t (someU ls (best ls os t) u) (by omega) (by omega) n2
  have es : oSum [.list (dI (someU ls (best ls os t) u))] = some (.int (someU ls (best ls os t) u).sum) := by simp only [oSum, asInts_map, Option.map_some]
  have ka : (acc.map encPT).length < 1000 := by rw [List.length_map]; omega
  have ea : (acc ++ [papU ls os t u]).map encPT = acc.map encPT ++ [encPT (papU ls os t u)] := by rw [List.map_append]; rfl
  have ep : Tr.nd .tup [.fz (.int u), .fz (.int (someU ls (best ls os t) u).sum), .ow ((barS' (dearU ls u) os t (someU ls (best ls os t) u)).map encP)] = encPT (papU ls os t u) := rfl
  have h3s : small 3 = true := rfl
  refine ⟨.fz (.list (dN (plU ls u))), .fz (.list ((dearU ls u).map encL)), .fz (.list (dI (someU ls (best ls os t) u))), ?_⟩
  rw [ea]
  unfold b_papers_of_vT_1
  generalize encPT (papU ls os t u) = pe at *
  generalize (barS' (dearU ls u) os t (someU ls (best ls os t) u)).map encP = bs at *
  generalize (someU ls (best ls os t) u).sum = sm at *
  generalize dI (someU ls (best ls os t) u) = sd at *
  generalize (dearU ls u).map encL = dd at *
  generalize dN (plU ls u) = pd at *
  generalize dI (best ls os t) = bd at *
  generalize ls.map encL = ld at *
  generalize os.map encO = od at *
  generalize acc.map encPT = ad at *
  simp [q2, q3, q4, es, f, mkT, h3s, ep, ka, sMut, mutO, -oSum, small]
theorem pap_loopT (n1 : ls.length < 64) (n2 : os.length ≤ 1000) : ∀ (us : List Int) (acc : List Pap) (s5 s7 s9 s10 : Sl), acc.length + us.length ≤ 1000 → ∃ s5' s7' s9' s10', forE (gSet 5) b_papers_of_vT_1 (dI us) [.fz (.list (ls.map encL)), .fz (.list (os.map encO)), .fz (.int t), .fz (.list (dI (best ls os t))), .tr (.nd .lst (acc.map encPT)), s5, .un, s7, .un, s9, s10] = .nx [.fz (.list (ls.map encL)), .fz (.list (os.map encO)), .fz (.int t), .fz (.list (dI (best ls os t))), .tr (.nd .lst ((acc ++ us.map (papU ls os t)).map encPT)), s5', .un, s7', .un, s9', s10']
  | [], acc, s5, s7, s9, s10, _ => ⟨s5, s7, s9, s10, by rw [List.map_nil, List.append_nil]; rfl⟩
  | u :: us, acc, s5, s7, s9, s10, h => by
    rw [List.length_cons] at h
    obtain ⟨s7', s9', s10', tn⟩ := pap_turnT (t := t) n1 n2 u acc (by omega) .un s7 s9 s10
    obtain ⟨s5'', s7'', s9'', s10'', ih⟩ := pap_loopT n1 n2 us (acc ++ [papU ls os t u]) (.fz (.int u)) s7' s9' s10' (by simp; omega)
    refine ⟨s5'', s7'', s9'', s10'', ?_⟩
    unfold dI
    rw [List.map_cons]
    unfold forE
    have e0 : gSet 5 (.int u) [.fz (.list (ls.map encL)), .fz (.list (os.map encO)), .fz (.int t), .fz (.list (dI (best ls os t))), .tr (.nd .lst (acc.map encPT)), s5, .un, s7, .un, s9, s10] = some [.fz (.list (ls.map encL)), .fz (.list (os.map encO)), .fz (.int t), .fz (.list (dI (best ls os t))), .tr (.nd .lst (acc.map encPT)), .fz (.int u), .un, s7, .un, s9, s10] := rfl
    simp only [e0, tn]
    rw [List.map_cons, show acc ++ papU ls os t u :: us.map (papU ls os t) = (acc ++ [papU ls os t u]) ++ us.map (papU ls os t) by simp]
    exact ih
theorem F_papers_of_vT_eq (n1 : ls.length < 64) (n2 : os.length ≤ 1000) : F_papers_of_vT [.d (.list (ls.map encL)), .d (.list (os.map encO)), .d (.int t)] = .ok (.tr (.nd .lst ((papL ls os t).map encPT))) [.d (.list (ls.map encL)), .d (.list (os.map encO)), .d (.int t)] := by
  have f1 := F_best_counts_eq (t := t) n1 n2
  have q1 : q_papers_of_vT_1 [.fz (.list (ls.map encL)), .fz (.list (os.map encO)), .fz (.int t), .fz (.list (dI (best ls os t))), .tr (.nd .lst []), .un, .un, .un, .un, .un, .un] = .ok (dI (ls.map (·.2.2)), [.fz (.list (ls.map encL)), .fz (.list (os.map encO)), .fz (.int t), .fz (.list (dI (best ls os t))), .tr (.nd .lst []), .un, .un, .un, .un, .un, .un]) := by
    unfold q_papers_of_vT_1
    rw [lc_all ls encL (fun l => PyData.int l.2.2) (ρ := [.fz (.list (ls.map encL)), .fz (.list (os.map encO)), .fz (.int t), .fz (.list (dI (best ls os t))), .tr (.nd .lst []), .un, .un, .un, .un, .un, .un]) (by simp) (by omega) fun l _ => ⟨[.fz (.list (ls.map encL)), .fz (.list (os.map encO)), .fz (.int t), .fz (.list (dI (best ls os t))), .tr (.nd .lst []), .un, .fz (encL l), .un, .un, .un, .un], rfl, [.fz (.list (ls.map encL)), .fz (.list (os.map encO)), .fz (.int t), .fz (.list (dI (best ls os t))), .tr (.nd .lst []), .un, .fz (encL l), .un, .un, .un, .un], by simp [encL, encL_ix2], rfl⟩]
    unfold dI
    rw [List.map_map]; rfl
  have sl := sortU_len (ls.map (·.2.2))
  rw [List.length_map] at sl
  obtain ⟨s5, s7, s9, s10, q⟩ := pap_loopT (ls := ls) (os := os) (t := t) n1 n2 (sortU (ls.map (·.2.2))).reverse [] .un .un .un .un (by simp; omega)
  rw [List.nil_append, List.map_nil] at q
  have er : (dI (sortU (ls.map (·.2.2)))).reverse = dI (sortU (ls.map (·.2.2))).reverse := by unfold dI; rw [List.map_reverse]
  have h0s : small 0 = true := rfl
  have hl : (ls.map (fun l : Lot => l.2.2)).length < 64 := by simpa using n1
  have so : oSortU (.list (dI (ls.map (·.2.2)))) = some (dI (sortU (ls.map (·.2.2)))) := by
    generalize ls.map (fun l : Lot => l.2.2) = xs at hl ⊢
    have := asInts_map xs
    simp [oSortU, this, hl]
  have r : g_papers_of_vT [.fz (.list (ls.map encL)), .fz (.list (os.map encO)), .fz (.int t), .un, .un, .un, .un, .un, .un, .un, .un] = .ret (.tr (.nd .lst ((papL ls os t).map encPT))) [.fz (.list (ls.map encL)), .fz (.list (os.map encO)), .fz (.int t), .fz (.list (dI (best ls os t))), .un, s5, .un, s7, .un, s9, s10] := by
    unfold g_papers_of_vT papL
    generalize ((sortU (ls.map (·.2.2))).reverse.map (papU ls os t)).map encPT = pd at *
    generalize dI (sortU (ls.map (·.2.2))).reverse = rd at *
    generalize dI (sortU (ls.map (·.2.2))) = sd at *
    generalize dI (ls.map (·.2.2)) = ud at *
    generalize dI (best ls os t) = bd at *
    generalize ls.map encL = ld at *
    generalize os.map encO = od at *
    simp [f1, mkL, h0s, q1, so, er, sFor, q, -oSortU]
  generalize (papL ls os t).map encPT = pd at *
  generalize ls.map encL = ld at *
  generalize os.map encO = od at *
  simp [F_papers_of_vT, stT, List.filterMap_cons, List.filterMap_nil, Fx.sc, r]
theorem F_papers_vT_eq (he : err3 ls os t = none) : F_papers_vT [.d (.list (ls.map encL)), .d (.list (os.map encO)), .d (.int t)] = .ok (.tr (.nd .lst ((papL ls os t).map encPT))) [.d (.list (ls.map encL)), .d (.list (os.map encO)), .d (.int t)] := by
  rcases heads (ls := ls) (os := os) (t := t) with ⟨c, e, h⟩ | ⟨e, f1, f2, f3⟩
  · rw [he] at e; cases e
  · obtain ⟨e1, e2, e3⟩ := err3_none e
    have f4 := F_papers_of_vT_eq (ls := ls) (os := os) (t := t) (by have := errLs_len e1; omega) (by have := errOs_len e2; omega)
    generalize (papL ls os t).map encPT = pd at *
    generalize ls.map encL = ld at *
    generalize os.map encO = od at *
    simp [F_papers_vT, g_papers_vT, stT, List.filterMap_cons, List.filterMap_nil, Fx.sc, f1, f2, f3, f4]
theorem ord_cons {a : Int} {s : Pr} {r : List Pr} : inOrd a (s :: r) = true ↔ (a < s.1 ∧ s.1 ≤ s.2 ∧ s.2 ≤ 999) ∧ inOrd s.2 r = true := by
  show (decide (a < s.1 ∧ s.1 ≤ s.2 ∧ s.2 ≤ 999) && inOrd s.2 r) = true ↔ _
  rw [Bool.and_eq_true, decide_eq_true_eq]
theorem filt_any (ss : List Pr) (d : Int) : ((ss.filter fun s => decide (s.1 ≤ d ∧ d ≤ s.2)).map encP).isEmpty = !inAny ss d := by
  unfold inAny
  induction ss with
  | nil => rfl
  | cons s ss ih =>
    rw [List.any_cons]
    by_cases h : s.1 ≤ d ∧ d ≤ s.2
    · rw [List.filter_cons_of_pos (by simpa using h)]
      simp only [h, and_self, decide_true, Bool.true_or, Bool.not_true, List.map_cons, List.isEmpty_cons]
    · rw [List.filter_cons_of_neg (by simpa using h), ih]
      simp only [h, decide_false, Bool.false_or]
def fS (ld od : List PyData) (t : Int) (pd : PyData) (u n : Int) (sd : List PyData) (f a : Int) (s9 s10 s11 s12 s13 s14 : Sl) : Rho := [.fz (.list ld), .fz (.list od), .fz (.int t), .fz pd, .fz (.int u), .fz (.int n), .fz (.list sd), .fz (.int f), .fz (.int a), s9, s10, s11, s12, s13, s14, .un]
theorem so1 (ld : List PyData) (os : List Ot) (t u n : Int) (pd : PyData) (sd : List PyData) (ho : os.length ≤ 1000) : ∀ (ss : List Pr) (f a : Int) (s9 s10 : Sl), inOrd a ss = true → ∃ a' s9' s10', forE (gTp (gsCons (gSet 9) (gsCons (gSet 10) gsNil))) b_l_paper_so_1 (ss.map encP) (fS ld (os.map encO) t pd u n sd f a s9 s10 .un .un .un .un) = .nx (fS ld (os.map encO) t pd u n sd (f + barS os t ss) a' s9' s10' .un .un .un .un)
  | [], f, a, s9, s10, _ => ⟨a, s9, s10, by simp [forE, barS]⟩
  | s :: ss, f, a, s9, s10, h => by
    obtain ⟨⟨h1, h2, h3⟩, hr⟩ := ord_cons.mp h
    rw [List.map_cons]
    unfold forE
    have e : gTp (gsCons (gSet 9) (gsCons (gSet 10) gsNil)) (encP s) (fS ld (os.map encO) t pd u n sd f a s9 s10 .un .un .un .un) = some (fS ld (os.map encO) t pd u n sd f a (.fz (.int s.1)) (.fz (.int s.2)) .un .un .un .un) := rfl
    have q : q_l_paper_so_1 (fS ld (os.map encO) t pd u n sd f a (.fz (.int s.1)) (.fz (.int s.2)) .un .un .un .un) = .ok (dI (outAgL os t s.1 s.2), fS ld (os.map encO) t pd u n sd f a (.fz (.int s.1)) (.fz (.int s.2)) .un .un .un .un) := by
      unfold q_l_paper_so_1 outAgL
      rw [lc_if os encO (fun o => decide (s.1 ≤ o.1 ∧ o.1 ≤ s.2 + t)) (fun o => PyData.int o.2) (ρ := fS ld (os.map encO) t pd u n sd f a (.fz (.int s.1)) (.fz (.int s.2)) .un .un .un .un) (by unfold fS; simp) (by omega) fun o _ => ⟨fS ld (os.map encO) t pd u n sd f a (.fz (.int s.1)) (.fz (.int s.2)) (.fz (.int o.1)) (.fz (.int o.2)) .un .un, rfl, fS ld (os.map encO) t pd u n sd f a (.fz (.int s.1)) (.fz (.int s.2)) (.fz (.int o.1)) (.fz (.int o.2)) .un .un, by
        unfold fS
        generalize os.map encO = od at *
        by_cases h1 : s.1 ≤ o.1 <;> by_cases h2 : o.1 ≤ s.2 + t <;> simp [h1, h2], fun _ => ⟨fS ld (os.map encO) t pd u n sd f a (.fz (.int s.1)) (.fz (.int s.2)) (.fz (.int o.1)) (.fz (.int o.2)) .un .un, rfl, rfl⟩, fun _ => rfl⟩]
      unfold dI
      rw [List.map_map]
      rfl
    have tn : b_l_paper_so_1 (fS ld (os.map encO) t pd u n sd f a (.fz (.int s.1)) (.fz (.int s.2)) .un .un .un .un) = .nx (fS ld (os.map encO) t pd u n sd (f + outAg os t s.1 s.2) s.2 (.fz (.int s.1)) (.fz (.int s.2)) .un .un .un .un) := by
      have hs := asInts_map (outAgL os t s.1 s.2)
      unfold outAg
      unfold fS at q ⊢
      generalize outAgL os t s.1 s.2 = zs at *
      generalize os.map encO = od at *
      have h3' : ¬ 999 < s.2 := by omega
      simp [b_l_paper_so_1, q, hs, h1, h2, h3']
    simp only [e, tn]
    obtain ⟨a', s9', s10', q2⟩ := so1 ld os t u n pd sd ho ss (f + outAg os t s.1 s.2) s.2 (.fz (.int s.1)) (.fz (.int s.2)) hr
    refine ⟨a', s9', s10', q2.trans ?_⟩
    have eb : barS os t (s :: ss) = outAg os t s.1 s.2 + barS os t ss := by simp [barS]
    rw [eb, Int.add_assoc]
theorem so2 (ld od : List PyData) (t u n a : Int) (pd : PyData) (ss : List Pr) (hs : ss.length ≤ 1000) (s9 s10 : Sl) : ∀ (ls : List Lot) (f : Int) (c d e g : Sl), ∃ c' d' e' g', forE (gTp (gsCons (gSet 11) (gsCons (gSet 12) (gsCons (gSet 13) gsNil)))) b_l_paper_so_2 (ls.map encL) (fS ld od t pd u n (ss.map encP) f a s9 s10 c d e g) = .nx (fS ld od t pd u n (ss.map encP) (f + outS u ss ls) a s9 s10 c' d' e' g')
  | [], f, c, d, e, g => ⟨c, d, e, g, by simp [forE, outS]⟩
  | l :: ls, f, c, d, e, g => by
    rw [List.map_cons]
    unfold forE
    have e0 : gTp (gsCons (gSet 11) (gsCons (gSet 12) (gsCons (gSet 13) gsNil))) (encL l) (fS ld od t pd u n (ss.map encP) f a s9 s10 c d e g) = some (fS ld od t pd u n (ss.map encP) f a s9 s10 (.fz (.int l.1)) (.fz (.int l.2.1)) (.fz (.int l.2.2)) g) := rfl
    have q : q_l_paper_so_2 (fS ld od t pd u n (ss.map encP) f a s9 s10 (.fz (.int l.1)) (.fz (.int l.2.1)) (.fz (.int l.2.2)) g) = .ok ((ss.filter fun s => decide (s.1 ≤ l.1 ∧ l.1 ≤ s.2)).map encP, fS ld od t pd u n (ss.map encP) f a s9 s10 (.fz (.int l.1)) (.fz (.int l.2.1)) (.fz (.int l.2.2)) g) := by
      unfold q_l_paper_so_2
      rw [lc_if ss encP (fun s => decide (s.1 ≤ l.1 ∧ l.1 ≤ s.2)) encP (ρ := fS ld od t pd u n (ss.map encP) f a s9 s10 (.fz (.int l.1)) (.fz (.int l.2.1)) (.fz (.int l.2.2)) g) (by unfold fS; simp) (by omega) fun s _ => ⟨[.fz (.list ld), .fz (.list od), .fz (.int t), .fz pd, .fz (.int u), .fz (.int n), .fz (.list (ss.map encP)), .fz (.int f), .fz (.int a), s9, s10, .fz (.int l.1), .fz (.int l.2.1), .fz (.int l.2.2), g, .fz (encP s)], rfl, [.fz (.list ld), .fz (.list od), .fz (.int t), .fz pd, .fz (.int u), .fz (.int n), .fz (.list (ss.map encP)), .fz (.int f), .fz (.int a), s9, s10, .fz (.int l.1), .fz (.int l.2.1), .fz (.int l.2.2), g, .fz (encP s)], by
        generalize ss.map encP = sd at *
        by_cases h1 : s.1 ≤ l.1 <;> by_cases h2 : l.1 ≤ s.2 <;> simp [encP, two_ix0, two_ix1, h1, h2], fun _ => ⟨[.fz (.list ld), .fz (.list od), .fz (.int t), .fz pd, .fz (.int u), .fz (.int n), .fz (.list (ss.map encP)), .fz (.int f), .fz (.int a), s9, s10, .fz (.int l.1), .fz (.int l.2.1), .fz (.int l.2.2), g, .fz (encP s)], rfl, rfl⟩, fun _ => rfl⟩]
      rfl
    have hem := filt_any ss l.1
    have gn : gi 4 (.list ((ss.filter fun s => decide (s.1 ≤ l.1 ∧ l.1 ≤ s.2)).map encP)) = true := by
      show ((ss.filter fun s => decide (s.1 ≤ l.1 ∧ l.1 ≤ s.2)).map encP).all (gi 3) = true
      rw [List.all_map]
      exact List.all_eq_true.mpr fun _ _ => rfl
    have en := oEQ_nil (n := 4) (by decide) gn
    rw [hem] at en
    have tn : ∃ g', b_l_paper_so_2 (fS ld od t pd u n (ss.map encP) f a s9 s10 (.fz (.int l.1)) (.fz (.int l.2.1)) (.fz (.int l.2.2)) g) = .nx (fS ld od t pd u n (ss.map encP) (f + if u ≤ l.2.2 ∧ inAny ss l.1 = false then l.2.1 else 0) a s9 s10 (.fz (.int l.1)) (.fz (.int l.2.1)) (.fz (.int l.2.2)) g') := by
      refine ⟨.ow ((ss.filter fun s => decide (s.1 ≤ l.1 ∧ l.1 ≤ s.2)).map encP), ?_⟩
      unfold fS at q ⊢
      generalize (ss.filter fun s => decide (s.1 ≤ l.1 ∧ l.1 ≤ s.2)).map encP = fd at *
      generalize ss.map encP = sd at *
      have c0 : cMul l.2.1 0 = true := decide_eq_true (.inr (by decide))
      have c1 : cMul l.2.1 1 = true := decide_eq_true (.inr (by decide))
      by_cases h1 : u ≤ l.2.2
      · cases h2 : inAny ss l.1 with
        | true => rw [h2] at en; simp only [Bool.not_true] at en; simp [b_l_paper_so_2, q, h1, mkL, small, en, c0]
        | false => rw [h2] at en; simp only [Bool.not_false] at en; simp [b_l_paper_so_2, q, h1, mkL, small, en, c1]
      · simp [b_l_paper_so_2, q, h1, c0]
    obtain ⟨g1, tn⟩ := tn
    simp only [e0, tn]
    obtain ⟨c', d', e', g', q2⟩ := so2 ld od t u n a pd ss hs s9 s10 ls (f + if u ≤ l.2.2 ∧ inAny ss l.1 = false then l.2.1 else 0) (.fz (.int l.1)) (.fz (.int l.2.1)) (.fz (.int l.2.2)) g1
    refine ⟨c', d', e', g', q2.trans ?_⟩
    rw [outS, Int.add_assoc]
theorem paper_so {p : Pap} (ho : os.length ≤ 1000) (hs : p.2.2.length ≤ 1000) (h1 : inOrd 0 p.2.2 = true) (h2 : outS p.1 p.2.2 ls + barS os t p.2.2 = p.2.1) : F_l_paper_so [.list (ls.map encL), .list (os.map encO), .int t, encPa p] = .ok (.fz (.bool true)) := by
  show toOut (g_l_paper_so [.fz (.list (ls.map encL)), .fz (.list (os.map encO)), .fz (.int t), .fz (encPa p), .un, .un, .un, .un, .un, .un, .un, .un, .un, .un, .un, .un]) = _
  obtain ⟨a, s9, s10, q1⟩ := so1 (ls.map encL) os t p.1 p.2.1 (encPa p) (p.2.2.map encP) ho p.2.2 0 0 .un .un h1
  rw [Int.zero_add] at q1
  obtain ⟨c, d, e, g, q2⟩ := so2 (ls.map encL) (os.map encO) t p.1 p.2.1 a (encPa p) p.2.2 hs s9 s10 ls (barS os t p.2.2) .un .un .un .un
  rw [Int.add_comm, h2] at q2
  have hp : encPa p = .tuple [.int p.1, .int p.2.1, .list (p.2.2.map encP)] := rfl
  unfold fS at q1 q2
  generalize p.2.2.map encP = sd at *
  generalize ls.map encL = ld at *
  generalize os.map encO = od at *
  generalize encPa p = pd at *
  subst hp
  simp [g_l_paper_so, sFor, q1, q2, oEQ]
end
theorem join_len (ps : List Pr) : (joinS ps).length ≤ ps.length := by
  cases ps with
  | nil => exact Nat.le_refl _
  | cons c r =>
    have := joinR_len r c
    rw [List.length_cons]
    exact this
theorem pap_len {ls : List Lot} {os : List Ot} {t u : Int} (h : ls.length ≤ 30) : (papU ls os t u).2.2.length ≤ 900 := by
  show (joinS (sortP (barL (dearU ls u) os t (someU ls (best ls os t) u)))).length ≤ 900
  have h1 := join_len (sortP (barL (dearU ls u) os t (someU ls (best ls os t) u)))
  rw [(sortP_perm _).length_eq] at h1
  have h2 : (barL (dearU ls u) os t (someU ls (best ls os t) u)).length ≤ (strL (dearU ls u)).length := List.length_filter_le _ _
  have h3 := prs_len (sortU ((dearU ls u).map (·.1)))
  have h4 := sortU_len ((dearU ls u).map (·.1))
  have h5 : (dearU ls u).length ≤ 30 := by
    have := plU_len ls u
    simp [dearU]; omega
  rw [List.length_map] at h4
  have h6 : (sortU ((dearU ls u).map (·.1))).length * (sortU ((dearU ls u).map (·.1))).length ≤ 30 * 30 := Nat.mul_le_mul (by omega) (by omega)
  unfold strL at h2
  omega
def duP (r : List Lot) (bs : List Int) (u : Int) : PyData := .tuple [.int u, .int (someU r bs u).sum]
def fD (io : List PyData) (ls : List Lot) (od : PyData) (t : Int) (bs : List Int) (kd s5 s8 s11 : Sl) : Rho := [.un, .ow io, .fz (.list (ls.map encL)), .fz od, .fz (.int t), s5, .un, .un, s8, kd, .fz (.list (dI bs)), s11, .un, .un, .un, .un, .un, .un]
theorem due_i (io : List PyData) (ls : List Lot) (od : PyData) (t : Int) (bs : List Int) (kd s5 s11 : Sl) (u : Int) (hb : bs.length = ls.length) (hl : ls.length ≤ 30) : q_law_3 (fD io ls od t bs kd s5 (.fz (.int u)) s11) = .ok (dI (someU ls bs u), fD io ls od t bs kd s5 (.fz (.int u)) s11) := by
  unfold q_law_3
  rw [lc_if (List.range ls.length) (fun i => PyData.int (i : Nat)) (fun i => decide (u ≤ (ls.getD i (0, 0, 0)).2.2)) (fun i => PyData.int (at0 bs i)) (ρ := fD io ls od t bs kd s5 (.fz (.int u)) s11) (by
      unfold fD
      simp [oRng1_of (j := (ls.length : Int)) (by omega) (by omega), rng]) (by rw [List.length_range]; omega) fun i hi => ⟨[.un, .ow io, .fz (.list (ls.map encL)), .fz od, .fz (.int t), s5, .un, .un, .fz (.int u), kd, .fz (.list (dI bs)), s11, .un, .fz (.int (i : Int)), .un, .un, .un, .un], rfl, [.un, .ow io, .fz (.list (ls.map encL)), .fz od, .fz (.int t), s5, .un, .un, .fz (.int u), kd, .fz (.list (dI bs)), s11, .un, .fz (.int (i : Int)), .un, .un, .un, .un], by
        rw [List.mem_range] at hi
        have a1 := at_lot (ls := ls) hi
        generalize ls.map encL = ld at *
        simp [a1, encL, encL_ix2], fun _ => ⟨[.un, .ow io, .fz (.list (ls.map encL)), .fz od, .fz (.int t), s5, .un, .un, .fz (.int u), kd, .fz (.list (dI bs)), s11, .un, .fz (.int (i : Int)), .un, .un, .un, .un], by
          rw [List.mem_range] at hi
          have a1 := at_int (xs := bs) (i := i) (by rw [hb]; exact hi)
          generalize dI bs = bd at *
          generalize at0 bs i = x at *
          simp [a1], rfl⟩, fun _ => rfl⟩]
  unfold someU plU dI
  rw [List.map_map]
  rfl
theorem due_loop (io : List PyData) (ls : List Lot) (od : PyData) (t : Int) (bs : List Int) (kd s5 : Sl) (hb : bs.length = ls.length) (hl : ls.length ≤ 30) : ∀ (us acc : List Int) (s8 : Sl), acc.length + us.length ≤ 1000 → Fu s8 → ∃ s8', Fu s8' ∧ forE (gSet 8) b_law_1 (dI us) (fD io ls od t bs kd s5 s8 (.ow (acc.map (duP ls bs)))) = .nx (fD io ls od t bs kd s5 s8' (.ow ((acc ++ us).map (duP ls bs))))
  | [], acc, s8, _, h8 => ⟨s8, h8, by rw [List.append_nil]; rfl⟩
  | u :: us, acc, s8, ha, h8 => by
    unfold dI
    rw [List.map_cons, List.length_cons] at *
    unfold forE
    have e : gSet 8 (.int u) (fD io ls od t bs kd s5 s8 (.ow (acc.map (duP ls bs)))) = some (fD io ls od t bs kd s5 (.fz (.int u)) (.ow (acc.map (duP ls bs)))) := rfl
    have tn : b_law_1 (fD io ls od t bs kd s5 (.fz (.int u)) (.ow (acc.map (duP ls bs)))) = .nx (fD io ls od t bs kd s5 (.fz (.int u)) (.ow ((acc ++ [u]).map (duP ls bs)))) := by
      have q4 := due_i io ls od t bs kd s5 (.ow (acc.map (duP ls bs))) u hb hl
      have os := oSum_ints (someU ls bs u)
      have ka := kAppend_of (d := duP ls bs u) (ds := acc.map (duP ls bs)) (by simp; omega)
      rw [List.map_append, List.map_cons, List.map_nil]
      generalize hx : duP ls bs u = dx at *
      unfold duP at hx
      unfold fD at q4 ⊢
      generalize someU ls bs u = su at *
      generalize acc.map (duP ls bs) = al at *
      generalize ls.map encL = ld at *
      simp [b_law_1, q4, os, hx, ka, sMut, mutO, mkT, small, Fx.sc]
    simp only [e]
    rw [tn]
    obtain ⟨s', h', ih⟩ := due_loop io ls od t bs kd s5 hb hl us (acc ++ [u]) (.fz (.int u)) (by simp; omega) Fu.fz
    refine ⟨s', h', ?_⟩
    rw [show acc ++ u :: us = (acc ++ [u]) ++ us by simp]
    exact ih
def two (p : Pap) : PyData := .tuple [.int p.1, .int p.2.1]
def clrT (p : Pap) : Tr := .nd .tup [.fz (.int p.1), .fz (.int p.2.1), .ow []]
def fB (io : List PyData) (ld od : List PyData) (t : Int) (bd : List PyData) (kd : PyData) (du : List PyData) (s5 s8 s14 s15 s16 : Sl) : Rho := [.un, .ow io, .fz (.list ld), .fz (.list od), .fz (.int t), s5, .un, .un, s8, .fz kd, .fz (.list bd), .ow du, .un, .un, s14, s15, s16, .un]
section
variable {io ld od : List PyData} {t : Int} {bd : List PyData} {kd : PyData} {du : List PyData} {s5 s8 s14 : Sl}
theorem cut_two (a b c : Tr) : cut [a, b, c] none (some 2) = [a, b] := rfl
theorem lc4 (h5 : Fu s5) (h8 : Fu s8) (h14 : Fu s14) (ps : List Pap) : ∀ (m i f : Nat) (s16 : Sl), i + m = ps.length → m < f → ∃ s16', lcC (len1 15) (bnd1 16 15) (fSlN (plN 16) fNoP (fP (Fx.ret (.int 2)))) [16] f i (fB io ld od t bd kd du s5 s8 s14 (.tr (.nd .lst (ps.map encPT))) s16) = .ok ((ps.drop i).map two, fB io ld od t bd kd du s5 s8 s14 (.tr (.nd .lst (ps.map encPT))) s16')
  | 0, i, f, s16, hi, hf => by
    obtain ⟨f, rfl⟩ : ∃ k, f = k + 1 := ⟨f - 1, by omega⟩
    refine ⟨s16, ?_⟩
    have hc : len1 15 (wipeR (fB io ld od t bd kd du s5 s8 s14 (.tr (.nd .lst (ps.map encPT))) s16) [16]) = some ps.length := by
      show some (ps.map encPT).length = _
      rw [List.length_map]
    unfold lcC
    rw [hc]
    dsimp only
    rw [if_neg (by omega), List.drop_of_length_le (by omega)]
    rfl
  | m + 1, i, f, s16, hi, hf => by
    obtain ⟨f, rfl⟩ : ∃ k, f = k + 1 := ⟨f - 1, by omega⟩
    have hlt : i < ps.length := by omega
    obtain ⟨s16', e⟩ := lc4 h5 h8 h14 ps m (i + 1) f (.pa 15 [i]) (by omega) (by omega)
    refine ⟨s16', ?_⟩
    have hc : len1 15 (wipeR (fB io ld od t bd kd du s5 s8 s14 (.tr (.nd .lst (ps.map encPT))) s16) [16]) = some ps.length := by
      show some (ps.map encPT).length = _
      rw [List.length_map]
    have hb : bnd1 16 15 i (wipeR (fB io ld od t bd kd du s5 s8 s14 (.tr (.nd .lst (ps.map encPT))) s16) [16]) = some (fB io ld od t bd kd du s5 s8 s14 (.tr (.nd .lst (ps.map encPT))) (.pa 15 [i])) := by
      unfold fB
      simp [bnd1, wipeR, h5.pn _ _, h8.pn _ _, h14.pn _ _]
    have t1 : (ps.map encPT)[i]? = some (.nd .tup [.fz (.int (ps[i]'hlt).1), .fz (.int (ps[i]'hlt).2.1), .ow ((ps[i]'hlt).2.2.map encP)]) := by
      rw [List.getElem?_map, List.getElem?_eq_getElem hlt]; rfl
    have hf1 : fSlN (plN 16) fNoP (fP (Fx.ret (.int 2))) (fB io ld od t bd kd du s5 s8 s14 (.tr (.nd .lst (ps.map encPT))) (.pa 15 [i])) = .ok (two (ps[i]'hlt), fB io ld od t bd kd du s5 s8 s14 (.tr (.nd .lst (ps.map encPT))) (.pa 15 [i])) := by
      unfold fB two
      have sx : HT.sIx 3 3 (some 2) = 2 := rfl
      generalize ps.map encPT = ts at *
      simp [stT, t_at0, t_at1, t1, sx, cut_two]
    have hd : (ps.drop i).map two = two (ps[i]'hlt) :: (ps.drop (i + 1)).map two := by rw [List.drop_eq_getElem_cons hlt, List.map_cons]
    unfold lcC
    rw [hc]
    dsimp only
    rw [if_pos hlt, hb]
    dsimp only
    rw [hf1]
    dsimp only
    rw [e, hd]
def GoodP (ld od : List PyData) (t : Int) (p : Pap) : Prop := F_l_paper_so [.list ld, .list od, .int t, encPa p] = .ok (.fz (.bool true)) ∧ p.2.2.length ≤ 1000
theorem frz_pap (p : Pap) : frzT (encPT p) = some (encPa p) := rfl
theorem turn2 (h5 : Fu s5) (h8 : Fu s8) (h14 : Fu s14) {ts : List Tr} {p : Pap} {i : Nat} (hi : ts[i]? = some (encPT p)) (hp : GoodP ld od t p) : b_law_2 (fB io ld od t bd kd du s5 s8 s14 (.tr (.nd .lst ts)) (.pa 15 [i])) = .nx (fB io ld od t bd kd du s5 s8 s14 (.tr (.nd .lst (ts.set i (clrT p)))) (.pa 15 [i])) := by
  obtain ⟨h1, h2⟩ := hp
  have fz := frz_pap p
  have x2 : ixN 3 2 = some 2 := rfl
  have q5 : fBrw 15 q_law_5 (fB io ld od t bd kd du s5 s8 s14 (.tr (.nd .lst ts)) (.pa 15 [i])) = .ok (p.2.2.map fun _ => PyData.bool true, fB io ld od t bd kd du s5 s8 s14 (.tr (.nd .lst ts)) (.pa 15 [i])) := by
    refine fBrw_ok (t := .nd .lst ts) rfl ?_
    show q_law_5 (fB io ld od t bd kd du s5 s8 s14 (.lk (.nd .lst ts)) (.pa 15 [i])) = .ok (_, fB io ld od t bd kd du s5 s8 s14 (.lk (.nd .lst ts)) (.pa 15 [i]))
    unfold q_law_5
    rw [lc_all p.2.2 encP (fun _ => PyData.bool true) (ρ := fB io ld od t bd kd du s5 s8 s14 (.lk (.nd .lst ts)) (.pa 15 [i])) (by
      unfold encPT at hi
      unfold fB
      simp [stT, t_at0, t_at1, hi, x2]) (by omega) fun s _ => ⟨[.un, .ow io, .fz (.list ld), .fz (.list od), .fz (.int t), s5, .un, .un, s8, .fz kd, .fz (.list bd), .ow du, .un, .un, s14, .lk (.nd .lst ts), .pa 15 [i], .fz (encP s)], rfl, [.un, .ow io, .fz (.list ld), .fz (.list od), .fz (.int t), s5, .un, .un, s8, .fz kd, .fz (.list bd), .ow du, .un, .un, s14, .lk (.nd .lst ts), .pa 15 [i], .fz (encP s)], rfl, rfl⟩]
    rfl
  have ab : asBools (p.2.2.map fun _ => PyData.bool true) = some (p.2.2.map fun _ => true) := by
    have e : p.2.2.map (fun _ => PyData.bool true) = (p.2.2.map fun _ => true).map PyData.bool := by rw [List.map_map]; rfl
    rw [e, asBools_map]
  have al : (p.2.2.map fun _ => true).all id = true := List.all_eq_true.mpr fun b hb => by
    obtain ⟨_, _, rfl⟩ := List.mem_map.mp hb
    rfl
  generalize p.2.2.map (fun _ => true) = bo at *
  unfold encPT at hi
  generalize p.2.2.map (fun _ => PyData.bool true) = bl at *
  have hset : (Tr.nd .lst ts).put [i, 2] (.ow []) = .nd .lst (ts.set i (clrT p)) := by
    unfold Tr.put
    rw [hi]
    rfl
  have ty1 : isTy (.tuple []) "tuple" = true := by decide +kernel
  have ty2 : ∀ ds, isTy (.list ds) "list" = true := fun _ => by
    show isTyN "list" "list" = true
    decide +kernel
  have at1 : (Tr.nd .lst ts).at [i] = some (.nd .tup [.fz (.int p.1), .fz (.int p.2.1), .ow (p.2.2.map encP)]) := by unfold Tr.at; rw [hi]; rfl
  have at2 : (Tr.nd .lst ts).at [i, 2] = some (.ow (p.2.2.map encP)) := by unfold Tr.at; rw [hi]; rfl
  unfold encPT at fz
  unfold fB at q5 ⊢
  generalize clrT p = cp at *
  generalize encPa p = pd at *
  generalize p.2.2.map encP = sd at *
  simp [b_law_2, stT, Fx.sc, q5, ab, al, x2, fz, h1, hset, ty1, ty2, at1, at2, h5.pn _ _, h8.pn _ _, h14.pn _ _, F_l_paper_so]
theorem walk3 (h5 : Fu s5) (h8 : Fu s8) (h14 : Fu s14) (ps : List Pap) (hg : ∀ p ∈ ps, GoodP ld od t p) : ∀ (m i f : Nat) (ts : List Tr) (s16 : Sl), (∀ j p, i ≤ j → ps[j]? = some p → ts[j]? = some (encPT p)) → ts.length = ps.length → i + m = ps.length → m < f → (s16 = .un ∨ ∃ k, s16 = .pa 15 [k]) → ∃ ts' s16', (s16' = .un ∨ ∃ k, s16' = .pa 15 [k]) ∧ forC (len1 15) (bnd1 16 15) b_law_2 f i (fB io ld od t bd kd du s5 s8 s14 (.tr (.nd .lst ts)) s16) = .nx (fB io ld od t bd kd du s5 s8 s14 (.tr (.nd .lst ts')) s16')
  | 0, i, f, ts, s16, ht, hl, hi, hf, h16 => by
    obtain ⟨f, rfl⟩ : ∃ k, f = k + 1 := ⟨f - 1, by omega⟩
    refine ⟨ts, s16, h16, ?_⟩
    have hc : len1 15 (fB io ld od t bd kd du s5 s8 s14 (.tr (.nd .lst ts)) s16) = some ts.length := rfl
    unfold forC
    rw [hc]
    dsimp only
    rw [if_neg (by omega)]
  | m + 1, i, f, ts, s16, ht, hl, hi, hf, h16 => by
    obtain ⟨f, rfl⟩ : ∃ k, f = k + 1 := ⟨f - 1, by omega⟩
    have hlt : i < ps.length := by omega
    have hS := ht i (ps[i]'hlt) (Nat.le_refl _) (List.getElem?_eq_getElem hlt)
    obtain ⟨ts', s16', h16', e⟩ := walk3 h5 h8 h14 ps hg m (i + 1) f (ts.set i (clrT (ps[i]'hlt))) (.pa 15 [i]) (fun j p hj hp => by
      rw [List.getElem?_set, if_neg (by omega)]
      exact ht j p (by omega) hp) (by rw [List.length_set]; exact hl) (by omega) (by omega) (.inr ⟨i, rfl⟩)
    refine ⟨ts', s16', h16', ?_⟩
    have hc : len1 15 (fB io ld od t bd kd du s5 s8 s14 (.tr (.nd .lst ts)) s16) = some ts.length := rfl
    have hb : bnd1 16 15 i (fB io ld od t bd kd du s5 s8 s14 (.tr (.nd .lst ts)) s16) = some (fB io ld od t bd kd du s5 s8 s14 (.tr (.nd .lst ts)) (.pa 15 [i])) := by
      unfold fB
      simp [bnd1, h5.pn _ _, h8.pn _ _, h14.pn _ _]
    have tn := turn2 (io := io) (bd := bd) (kd := kd) (du := du) h5 h8 h14 hS (hg _ (List.getElem_mem hlt))
    unfold forC
    rw [hc]
    dsimp only
    rw [if_pos (by omega), hb]
    dsimp only
    rw [tn]
    exact e
theorem turn3 (h5 : Fu s5) (h8 : Fu s8) (h14 : Fu s14) (ps : List Pap) (hn : ps.length ≤ 900) (hg : ∀ p ∈ ps, GoodP ld od t p) (hp : F_papers_vT [.d (.list ld), .d (.list od), .d (.int t)] = .ok (.tr (.nd .lst (ps.map encPT))) [.d (.list ld), .d (.list od), .d (.int t)]) {s15 : Sl} (h15 : s15 = .un ∨ s15 = .tr (.nd .lst [])) (hd : du = ps.map two) : b_law_3 (fB io ld od t bd kd du s5 s8 s14 s15 .un) = .nx (fB io ld od t bd kd du s5 s8 s14 (.tr (.nd .lst [])) .un) := by
  obtain ⟨s16, e4⟩ := lc4 (io := io) (ld := ld) (od := od) (t := t) (bd := bd) (kd := kd) (du := du) h5 h8 h14 ps ps.length 0 1000 .un (by omega) (by omega)
  have hq : q_law_4 (fB io ld od t bd kd du s5 s8 s14 (.tr (.nd .lst (ps.map encPT))) .un) = .ok (ps.map two, fB io ld od t bd kd du s5 s8 s14 (.tr (.nd .lst (ps.map encPT))) .un) := by
    unfold q_law_4 fLcC
    have hc : (len1 15 (fB io ld od t bd kd du s5 s8 s14 (.tr (.nd .lst (ps.map encPT))) .un)).isSome = true := rfl
    rw [if_pos hc, e4, List.drop_zero]
    rfl
  obtain ⟨ts', s16', h16', e2⟩ := walk3 (io := io) (bd := bd) (kd := kd) (du := du) h5 h8 h14 ps hg ps.length 0 1000 (ps.map encPT) .un (fun j p _ h => by rw [List.getElem?_map, h]; rfl) (by rw [List.length_map]) (by omega) (by omega) (.inl rfl)
  have sm : F_l_same [.list (ps.map two), .list (ps.map two)] = .ok (.fz (.bool true)) := F_same_refl (by
    show (small (ps.map two).length && (ps.map two).all (gd 7)) = true
    rw [List.length_map, small_of (by omega), List.all_map]
    exact List.all_eq_true.mpr fun p _ => rfl)
  have ty : isTy (.list []) "list" = true := by decide +kernel
  unfold b_law_3
  rw [seq_nx (ρ1 := fB io ld od t bd kd du s5 s8 s14 (.tr (.nd .lst (ps.map encPT))) .un) (by
    unfold fB
    generalize ps.map encPT = ts at *
    rcases h15 with rfl | rfl <;> simp [stT, List.filterMap_cons, List.filterMap_nil, Fx.sc, hp, h5.pn _ _, h8.pn _ _, h14.pn _ _])]
  rw [seq_nx (ρ1 := fB io ld od t bd kd du s5 s8 s14 (.tr (.nd .lst (ps.map encPT))) .un) (by
    rw [← hd] at hq sm
    clear e4 e2
    unfold fB at hq ⊢
    generalize ps.map encPT = ts at *
    simp [stT, Fx.sc, t_at0, hq, sm, ty])]
  rw [seq_nx e2]
  unfold fB
  rcases h16' with rfl | ⟨k, rfl⟩ <;> simp [h5.pn _ _, h8.pn _ _, h14.pn _ _]
end
theorem law_math (ns : List Int) (_ : ns.length ≤ 63) : ∃ ρ', g_law (stLaw 18 ns) = .ret (.fz (.bool true)) ρ' := by
  rw [show (stLaw 18 ns : Rho) = [.un, .ow (cells ns), .un, .un, .un, .un, .un, .un, .un, .un, .un, .un, .un, .un, .un, .un, .un, .un] from rfl]
  unfold g_law
  obtain ⟨ls, os, t, io1, e1, d1, l1, l2, g1, g2, t0, t1⟩ := case_ok (most := 10) (dw_cells ns) (by decide) (by decide)
  refine ex_seq (Q := fun f => ∃ ρ', f = .ret (.fz (.bool true)) ρ') ⟨[.un, .ow io1, .fz (.list (ls.map encL)), .fz (.list (os.map encO)), .fz (.int t), .un, .un, .un, .un, .un, .un, .un, .un, .un, .un, .un, .un, .un], by simp [e1], ?_⟩
  refine ex_mid (Q := fun f => ∃ ρ', f = .ret (.fz (.bool true)) ρ') (fun ρ => ∃ io ls os t s2 s5, Dw io ∧ err3 ls os t = none ∧ ls.length ≤ 30 ∧ os.length ≤ 30 ∧ (s2 = .fz (.list (ls.map encL)) ∨ s2 = .ow (ls.map encL)) ∧ Fu s5 ∧ ρ = [.un, .ow io, s2, .fz (.list (os.map encO)), .fz (.int t), s5, .un, .un, .un, .un, .un, .un, .un, .un, .un, .un, .un, .un]) ?_ ?_
  · obtain ⟨way, io3, p3, d3, w1, w2⟩ := pick_ok (m := 6) d1 (by decide) (by decide)
    by_cases hw : way = 1
    · obtain ⟨ls2, os2, t2, io4, e4, d4, m1, m2, k1, k2, _, _⟩ := case_ok (most := 30) d3 (by decide) (by decide)
      have j0 : atI [PyData.list (ls2.map encL), .list (os2.map encO), .int t2] 0 = some (.list (ls2.map encL)) := rfl
      have j1 : atI [PyData.list (ls2.map encL), .list (os2.map encO), .int t2] 1 = some (.list (os2.map encO)) := rfl
      have s1 : small ((ls.map encL).length + (ls2.map encL).length) = true := small_of (by simp; omega)
      have s2 : small ((os.map encO).length + (os2.map encO).length) = true := small_of (by simp; omega)
      have at30 : ∀ (xs : List PyData), cut xs none (some 30) = xs.take 30 := fun xs => cut_take xs 30
      have hl1 : (ls.map encL ++ ls2.map encL).take 30 = ((ls ++ ls2).take 30).map encL := by rw [← List.map_append, List.map_take]
      have hl2 : (os.map encO ++ os2.map encO).take 30 = ((os ++ os2).take 30).map encO := by rw [← List.map_append, List.map_take]
      have q1 : q_law_1 [.un, .ow io4, .fz (.list (ls.map encL)), .fz (.list (os.map encO)), .fz (.int t), .fz (.tuple [.list (ls2.map encL), .list (os2.map encO), .int t2]), .un, .un, .un, .un, .un, .un, .un, .un, .un, .un, .un, .un] = .ok ((((ls ++ ls2).take 30).map fun l => (l.1, l.2.1, 1 + l.2.2 % 3)).map encL, [.un, .ow io4, .fz (.list (ls.map encL)), .fz (.list (os.map encO)), .fz (.int t), .fz (.tuple [.list (ls2.map encL), .list (os2.map encO), .int t2]), .un, .un, .un, .un, .un, .un, .un, .un, .un, .un, .un, .un]) := by
        unfold q_law_1
        rw [lc_all ((ls ++ ls2).take 30) encL (fun l => encL (l.1, l.2.1, 1 + l.2.2 % 3)) (ρ := [.un, .ow io4, .fz (.list (ls.map encL)), .fz (.list (os.map encO)), .fz (.int t), .fz (.tuple [.list (ls2.map encL), .list (os2.map encO), .int t2]), .un, .un, .un, .un, .un, .un, .un, .un, .un, .un, .un, .un]) (by
          rw [← hl1]
          generalize ls.map encL = z1 at *
          generalize os.map encO = z2 at *
          generalize ls2.map encL = z3 at *
          generalize os2.map encO = z4 at *
          simp [j0, s1, at30]) (by rw [List.length_take]; omega) fun l _ => ⟨[.un, .ow io4, .fz (.list (ls.map encL)), .fz (.list (os.map encO)), .fz (.int t), .fz (.tuple [.list (ls2.map encL), .list (os2.map encO), .int t2]), .fz (.int l.1), .fz (.int l.2.1), .fz (.int l.2.2), .un, .un, .un, .un, .un, .un, .un, .un, .un], rfl, [.un, .ow io4, .fz (.list (ls.map encL)), .fz (.list (os.map encO)), .fz (.int t), .fz (.tuple [.list (ls2.map encL), .list (os2.map encO), .int t2]), .fz (.int l.1), .fz (.int l.2.1), .fz (.int l.2.2), .un, .un, .un, .un, .un, .un, .un, .un, .un], by
            generalize ls.map encL = z1 at *
            generalize os.map encO = z2 at *
            generalize ls2.map encL = z3 at *
            generalize os2.map encO = z4 at *
            have cm : cMod l.2.2 3 = true := decide_eq_true (by decide)
            simp [encL, mkT, small, cm], rfl⟩]
        rw [List.map_map]
        rfl
      have hg : ∀ l ∈ (ls ++ ls2).take 30, GoodL l := fun l hl => (List.mem_append.mp (List.mem_of_mem_take hl)).elim (g1 l) (k1 l)
      have ho : ∀ o ∈ (os ++ os2).take 30, GoodO o := fun o ho => (List.mem_append.mp (List.mem_of_mem_take ho)).elim (g2 o) (k2 o)
      have n1 : (((ls ++ ls2).take 30).map fun l : Lot => ((l.1, l.2.1, 1 + l.2.2 % 3) : Lot)).length ≤ 30 := by rw [List.length_map, List.length_take]; omega
      have n2 : ((os ++ os2).take 30).length ≤ 30 := by rw [List.length_take]; omega
      refine ⟨[.un, .ow io4, .ow ((((ls ++ ls2).take 30).map fun l => (l.1, l.2.1, 1 + l.2.2 % 3)).map encL), .fz (.list (((os ++ os2).take 30).map encO)), .fz (.int t), .fz (.tuple [.list (ls2.map encL), .list (os2.map encO), .int t2]), .un, .un, .un, .un, .un, .un, .un, .un, .un, .un, .un, .un], ?_, io4, ((ls ++ ls2).take 30).map fun l => (l.1, l.2.1, 1 + l.2.2 % 3), (os ++ os2).take 30, t, _, _, d4, err3_good n1 n2 (fun l hl => ?_) ho t0 t1, n1, n2, .inr rfl, Fu.fz, rfl⟩
      · rw [← hl2]
        generalize (((ls ++ ls2).take 30).map fun l => (l.1, l.2.1, 1 + l.2.2 % 3)).map encL = zz at *
        generalize ls.map encL = z1 at *
        generalize os.map encO = z2 at *
        generalize ls2.map encL = z3 at *
        generalize os2.map encO = z4 at *
        simp [p3, hw, oEQ, e4, q1, j1, s2, at30]
      · obtain ⟨l0, h0, rfl⟩ := List.mem_map.mp hl
        obtain ⟨a1, a2, a3, a4, a5, a6⟩ := hg l0 h0
        exact ⟨a1, a2, a3, a4, by dsimp only; omega, by dsimp only; omega⟩
    · exact ⟨[.un, .ow io3, .fz (.list (ls.map encL)), .fz (.list (os.map encO)), .fz (.int t), .un, .un, .un, .un, .un, .un, .un, .un, .un, .un, .un, .un, .un], by simp [p3, hw, oEQ], io3, ls, os, t, _, _, d3, err3_good (by omega) (by omega) g1 g2 t0 t1, by omega, by omega, .inl rfl, .inl rfl, rfl⟩
  clear e1 d1 l1 l2 g1 g2 t0 t1 t os ls io1
  rintro ρ ⟨io, ls, os, t, s2, s5, dw, he, n1, n2, h2, h5, rfl⟩
  obtain ⟨q1, q2, q3⟩ := err3_none he
  have O := okk_of q1 q2 q3
  have gl := good_errLs q1
  have fb := F_l_best_eq O gl
  have bl := best_len ls os t
  have fp := F_papers_vT_eq he
  have sl := sortU_len (ls.map fun l : Lot => l.2.2)
  rw [List.length_map] at sl
  have hk := gi_two ls os
  have eS : oEQ (.tuple [.list (ls.map encL), .list (os.map encO)]) (.tuple [.list (ls.map encL), .list (os.map encO)]) = some (.bool true) := oEQ_self (n := 5) (by decide) hk
  obtain ⟨s8, h8, edue⟩ := due_loop io ls (.list (os.map encO)) t (best ls os t) (.fz (.tuple [.list (ls.map encL), .list (os.map encO)])) s5 bl n1 (sortU (ls.map fun l : Lot => l.2.2)).reverse [] .un (by simp; omega) (.inl rfl)
  have hgp : ∀ p ∈ papL ls os t, GoodP (ls.map encL) (os.map encO) t p := fun p hp => by
    obtain ⟨u, _, rfl⟩ := List.mem_map.mp hp
    have pg := pap_good O gl u
    have pl := pap_len (ls := ls) (os := os) (t := t) (u := u) n1
    exact ⟨paper_so (by omega) (by omega) pg.1 pg.2, by omega⟩
  have pn : (papL ls os t).length ≤ 900 := by
    unfold papL
    rw [List.length_map, List.length_reverse]
    omega
  have dd : ([] ++ (sortU (ls.map fun l : Lot => l.2.2)).reverse).map (duP ls (best ls os t)) = (papL ls os t).map two := by
    unfold papL
    rw [List.nil_append, List.map_map]
    rfl
  rw [dd] at edue
  have lq : q_law_2 (fD io ls (.list (os.map encO)) t (best ls os t) (.fz (.tuple [.list (ls.map encL), .list (os.map encO)])) s5 .un (.ow [])) = .ok (dI (ls.map fun l : Lot => l.2.2), fD io ls (.list (os.map encO)) t (best ls os t) (.fz (.tuple [.list (ls.map encL), .list (os.map encO)])) s5 .un (.ow [])) := by
    unfold q_law_2
    rw [lc_all ls encL (fun l => PyData.int l.2.2) (ρ := fD io ls (.list (os.map encO)) t (best ls os t) (.fz (.tuple [.list (ls.map encL), .list (os.map encO)])) s5 .un (.ow [])) (by unfold fD; simp) (by omega) fun l _ => ⟨[.un, .ow io, .fz (.list (ls.map encL)), .fz (.list (os.map encO)), .fz (.int t), s5, .un, .un, .un, .fz (.tuple [.list (ls.map encL), .list (os.map encO)]), .fz (.list (dI (best ls os t))), .ow [], .fz (encL l), .un, .un, .un, .un, .un], rfl, [.un, .ow io, .fz (.list (ls.map encL)), .fz (.list (os.map encO)), .fz (.int t), s5, .un, .un, .un, .fz (.tuple [.list (ls.map encL), .list (os.map encO)]), .fz (.list (dI (best ls os t))), .ow [], .fz (encL l), .un, .un, .un, .un, .un], by
      generalize ls.map encL = z1 at *
      simp [encL, encL_ix2], rfl⟩]
    unfold dI
    rw [List.map_map]; rfl
  have er : (dI (sortU (ls.map fun l : Lot => l.2.2))).reverse = dI (sortU (ls.map fun l : Lot => l.2.2)).reverse := by unfold dI; rw [List.map_reverse]
  have so : oSortU (.list (dI (ls.map fun l : Lot => l.2.2))) = some (dI (sortU (ls.map fun l : Lot => l.2.2))) := by
    have hl : (ls.map (fun l : Lot => l.2.2)).length < 64 := by rw [List.length_map]; omega
    generalize ls.map (fun l : Lot => l.2.2) = xs at hl ⊢
    have := asInts_map xs
    simp [oSortU, this, hl]
  have r2 : oRng1 [.int 2] = some [.int 0, .int 1] := rfl
  refine ex_seq (Q := fun f => ∃ ρ', f = .ret (.fz (.bool true)) ρ') ⟨[.un, .ow io, s2, .fz (.list (os.map encO)), .fz (.int t), s5, .un, .un, .un, .fz (.tuple [.list (ls.map encL), .list (os.map encO)]), .un, .un, .un, .un, .un, .un, .un, .un], ?_, ?_⟩
  · generalize ls.map encL = z1 at *
    generalize os.map encO = z2 at *
    rcases h2 with rfl | rfl <;> simp [mkT, small]
  refine ex_seq (Q := fun f => ∃ ρ', f = .ret (.fz (.bool true)) ρ') ⟨fD io ls (.list (os.map encO)) t (best ls os t) (.fz (.tuple [.list (ls.map encL), .list (os.map encO)])) s5 .un .un, ?_, ?_⟩
  · unfold fD
    generalize ls.map encL = z1 at *
    generalize os.map encO = z2 at *
    generalize dI (best ls os t) = bd at *
    rcases h2 with rfl | rfl <;> simp [fb]
  refine ex_seq (Q := fun f => ∃ ρ', f = .ret (.fz (.bool true)) ρ') ⟨fD io ls (.list (os.map encO)) t (best ls os t) (.fz (.tuple [.list (ls.map encL), .list (os.map encO)])) s5 .un (.ow []), by unfold fD; simp [mkL, small], ?_⟩
  refine ex_seq (Q := fun f => ∃ ρ', f = .ret (.fz (.bool true)) ρ') ⟨fD io ls (.list (os.map encO)) t (best ls os t) (.fz (.tuple [.list (ls.map encL), .list (os.map encO)])) s5 s8 (.ow ((papL ls os t).map two)), ?_, ?_⟩
  · rw [sFor_eq (ds := dI (sortU (ls.map fun l : Lot => l.2.2)).reverse) (ρ1 := fD io ls (.list (os.map encO)) t (best ls os t) (.fz (.tuple [.list (ls.map encL), .list (os.map encO)])) s5 .un (.ow [])) (by
      generalize fD io ls (.list (os.map encO)) t (best ls os t) (.fz (.tuple [.list (ls.map encL), .list (os.map encO)])) s5 .un (.ow []) = ρ at *
      clear edue
      generalize dI (sortU (ls.map fun l : Lot => l.2.2)).reverse = rd at *
      generalize dI (sortU (ls.map fun l : Lot => l.2.2)) = sd at *
      generalize dI (ls.map fun l : Lot => l.2.2) = ud at *
      clear hgp pn dd
      simp [lq, so, er, -oSortU])]
    exact edue
  have tA : ∀ s15, (s15 = .un ∨ s15 = .tr (.nd .lst [])) → ∀ k : Int, b_law_3 (fB io (ls.map encL) (os.map encO) t (dI (best ls os t)) (.tuple [.list (ls.map encL), .list (os.map encO)]) ((papL ls os t).map two) s5 s8 (.fz (.int k)) s15 .un) = .nx (fB io (ls.map encL) (os.map encO) t (dI (best ls os t)) (.tuple [.list (ls.map encL), .list (os.map encO)]) ((papL ls os t).map two) s5 s8 (.fz (.int k)) (.tr (.nd .lst [])) .un) := fun s15 h15 k => turn3 h5 h8 Fu.fz (papL ls os t) pn hgp fp h15 rfl
  have b0 := tA .un (.inl rfl) 0
  have b1 := tA (.tr (.nd .lst [])) (.inr rfl) 1
  refine ex_seq (Q := fun f => ∃ ρ', f = .ret (.fz (.bool true)) ρ') ⟨fB io (ls.map encL) (os.map encO) t (dI (best ls os t)) (.tuple [.list (ls.map encL), .list (os.map encO)]) ((papL ls os t).map two) s5 s8 (.fz (.int 1)) (.tr (.nd .lst [])) .un, ?_, ?_⟩
  · rw [sFor_eq (ds := [.int 0, .int 1]) (ρ1 := fD io ls (.list (os.map encO)) t (best ls os t) (.fz (.tuple [.list (ls.map encL), .list (os.map encO)])) s5 s8 (.ow ((papL ls os t).map two))) (by
      unfold fD
      simp [r2])]
    unfold Fx.forE
    rw [show gSet 14 (PyData.int 0) (fD io ls (.list (os.map encO)) t (best ls os t) (.fz (.tuple [.list (ls.map encL), .list (os.map encO)])) s5 s8 (.ow ((papL ls os t).map two))) = some (fB io (ls.map encL) (os.map encO) t (dI (best ls os t)) (.tuple [.list (ls.map encL), .list (os.map encO)]) ((papL ls os t).map two) s5 s8 (.fz (.int 0)) .un .un) from rfl]
    dsimp only
    rw [b0]
    dsimp only
    unfold Fx.forE
    rw [show gSet 14 (PyData.int 1) (fB io (ls.map encL) (os.map encO) t (dI (best ls os t)) (.tuple [.list (ls.map encL), .list (os.map encO)]) ((papL ls os t).map two) s5 s8 (.fz (.int 0)) (.tr (.nd .lst [])) .un) = some (fB io (ls.map encL) (os.map encO) t (dI (best ls os t)) (.tuple [.list (ls.map encL), .list (os.map encO)]) ((papL ls os t).map two) s5 s8 (.fz (.int 1)) (.tr (.nd .lst [])) .un) from rfl]
    dsimp only
    rw [b1]
    rfl
  refine ⟨fB io (ls.map encL) (os.map encO) t (dI (best ls os t)) (.tuple [.list (ls.map encL), .list (os.map encO)]) ((papL ls os t).map two) s5 s8 (.fz (.int 1)) (.tr (.nd .lst [])) .un, ?_⟩
  unfold fB
  generalize ls.map encL = z1 at *
  generalize os.map encO = z2 at *
  simp [mkT, small, eS]
end K16
namespace K16
open PySem L2 Fx Mm
abbrev R : PySem.W.OpenRow := PySem.W.OpenLaw.row PySem.Challenge.rw_drawback_k16_papers_that_are_told
abbrev hk : PySem.W.Hook := hookQ 5 fa fn tf
def ob (s : PySem.W.SharedT) : He.Al × Bool := obsQG 5 fa fn tf (HandSHeadRun.getT s)
theorem ob_eq (s : PySem.W.SharedT) : ob s = hk.obs s.abs := obsQG_eq (HandSHeadRun.getT_eq s)
def loose : List Str := ([("CustomsError" : Str), ("BadDay" : Str), ("BadTerm" : Str), ("BadCount" : Str), ("BadDuty" : Str), ("BadRows" : Str), ("LAST_DAY" : Str), ("LONGEST" : Str), ("need_day" : Str), ("need_term" : Str), ("goes_against" : Str), ("MOST_ROWS" : Str), ("MOST_UNITS" : Str), ("MOST_DUTY" : Str), ("need_count" : Str), ("need_duty" : Str), ("checked_lots" : Str), ("checked_outs" : Str), ("by_duty" : Str), ("out_against" : Str), ("days_of" : Str), ("all_stretches" : Str), ("in_stretch" : Str), ("spare" : Str), ("room_at" : Str), ("best_counts" : Str), ("joined" : Str), ("holds_day" : Str), ("shut_days" : Str), ("barring" : Str)] : List Str) ++ ([("papers_of" : Str), ("papers" : Str), ("_law_begin" : Str), ("_law_pick" : Str), ("_law_span" : Str), ("_law_some_term" : Str), ("_law_some_lots" : Str), ("_law_some_outs" : Str), ("_law_case" : Str), ("_law_dearest" : Str), ("_law_eldest" : Str), ("_law_deal" : Str), ("_law_most" : Str), ("_law_best" : Str), ("_law_same" : Str), ("_law_paper_so" : Str)] : List Str)
theorem run (w : World) : HandSHeadRun.RunEq R (PySem.W.view R.prog [53]) hk ob 4000 loose w := by
  intro os
  kernel_rfl
end K16
open PySem PySem.W PySem.Calls PyProof.Rows
set_option maxHeartbeats 0 in
theorem PySem.Challenge.cw_drawback_k16_papers_that_are_told_holds : PySem.Challenge.rw_drawback_k16_papers_that_are_told.Holds := by
  w_on; o_law
  refine HandSHeadRun.head_any (r := OpenLaw.row PySem.Challenge.rw_drawback_k16_papers_that_are_told) (q := view (OpenLaw.row PySem.Challenge.rw_drawback_k16_papers_that_are_told).prog [53]) (H := K16.hk) (ob := K16.ob) (M := 4000) (loose := K16.loose) (d := HandSHeadRun.topDef (OpenLaw.row PySem.Challenge.rw_drawback_k16_papers_that_are_told).prog 53) (kwd := []) K16.ob_eq
    (by kernel_rfl) (fun s => by kernel_rfl) K16.run (by kernel_rfl) (by kernel_rfl) (by kernel_rfl) (by rfl) (by first | assumption | decide +kernel) (by decide +kernel) ⟨rfl, rfl, rfl, rfl, rfl, by decide +kernel⟩ ?hw ?hc
  case hw => w_witness2
  case hc =>
    refine LamX.walk_ofTsE (l := PySem.Challenge.rw_drawback_k16_papers_that_are_told) (n := 63) (k := 10) (x := "_law_script") (CX := fun _ => L2.CX0) rfl (by decide) (by kernel_rfl) ⟨rfl, by decide, by decide⟩ ?F (fun _ _ _ _ _ z => z)
    intro w mg fa h Y G hmg0
    obtain ⟨K, KX, c, t⟩ := Y
    have hmg : mg ("law" : PySem.Str) = some (.ref fa) := by
      have e : (HandSHeadRun.topDef (OpenLaw.row PySem.Challenge.rw_drawback_k16_papers_that_are_told).prog 53).name = ("law" : PySem.Str) := by kernel_rfl
      rw [← e]
      exact hmg0
    have T : Fx.Top K16.fa K16.fn K mg := ⟨c, h, KX, G⟩
    have e := hmg.symm.trans (T.glo 67 (x := "law"))
    cases e
    exact ⟨K, KX, Fx.law_at c t KX G (T.def_ (x := "law") (st := K16.s_law) 35) (fun _ _ _ _ _ _ _ _ => BindsTo.of_eq rfl) (fun base T => @K16.c_law (Fx.tzOf K16.tf K) _ _ _ _ _ T) (fun ns hl => @K16.law_math ⟨[], fun _ => 0⟩ ns hl)⟩
